/- What the functions compute, as plain functions. -/
import Derived.Test.YtdacecahpdgooaaGreatDoorPv4
namespace Go.Pv.R
set_option linter.unusedVariables false
set_option linter.unusedSimpArgs false
abbrev b5:Ty:=(.pair (.int .i64) (.pair (.int .i64) (.sl (.int .i64))))
abbrev bn:Type:=(Int×(Int×(List Int)))
def ar:bn:=((0:Int),((0:Int),([]:(List Int))))
abbrev aq:Ty:=(.pair (.int .i64) (.pair (.int .i64) (.pair (.int .i64) (.pair (.int .i64) (.pair (.int .i64) (.sl (.int .i64)))))))
abbrev ah:Type:=(Int×(Int×(Int×(Int×(Int×(List Int))))))
def ab:ah:=((0:Int),((0:Int),((0:Int),((0:Int),((0:Int),([]:(List Int)))))))
abbrev fh:Ty:=(.pair (.int .i64) (.int .i64))
abbrev cz:Type:=(Int×Int)
def gU:cz:=((0:Int),(0:Int))
abbrev bg:Ty:=(.pair (.sl (.int .u8)) (.pair (.int .i64) (.int .i64)))
abbrev ak:Type:=((List Int)×(Int×Int))
abbrev bI:Ty:=(.pair (.int .i64) (.pair (.int .i64) (.int .i64)))
abbrev a7:Type:=(Int×(Int×Int))
def aT:a7:=((0:Int),((0:Int),(0:Int)))
abbrev fc:Ty:=(.pair (.int .i64) (.pair (.int .i64) (.pair (.int .i64) (.int .i64))))
abbrev br:Type:=(Int×(Int×(Int×Int)))
def dT:br:=((0:Int),((0:Int),((0:Int),(0:Int))))
abbrev ae:Ty:=(.pair (.sl aq) (.pair (.sl b5) (.pair (.sl fh) (.pair (.sl (.int .i64)) (.pair (.sl bI) (.pair (.sl fc) (.int .i64)))))))
abbrev aa:Type:=((List ah)×((List bn)×((List cz)×((List Int)×((List a7)×((List br)×Int))))))
noncomputable def RE:ByteArray:=⟨#[]⟩
noncomputable def dU:ByteArray:=⟨#[58]⟩
noncomputable def jW:ByteArray:=⟨#[47]⟩
noncomputable def oY:ByteArray:=⟨#[61]⟩
noncomputable def cY:ByteArray:=⟨#[45]⟩
noncomputable def ju:ByteArray:=⟨#[32]⟩
noncomputable def jX:ByteArray:=⟨#[63]⟩
noncomputable def jY:ByteArray:=⟨#[64]⟩
noncomputable def dt:ByteArray:=⟨#[63,43,45,33,46]⟩
noncomputable def L4 (N:Nat) (a0:(List Int)) (kf:Bool→Option af):Option af:=
 kf (decide ((List.length a0:Int)>(1048576:Int)))
noncomputable def vc (aj:(List Int)):Nat→(Int→Option af)→Int→Int→Option af
 |0,_,_,_=>none
 |tT+1,fL,ay,bL=>
  bif (decide (bL<(List.length aj:Int))) then
   bif (decide (bL<(4000:Int))) then
    bif (bw bL (List.length aj)) then
     (vc aj tT fL) (IntKind.wrap .i64 (BitVec.toNat (BitVec.ofInt (IntKind.bits .i64) (IntKind.wrap .i64 ((IntKind.wrap .i64 ((IntKind.wrap .i64 (ay*(137:Int)))+(IntKind.wrap .i64 (List.getD aj (Int.toNat bL) (0:Int)))))+(11:Int)))&&&BitVec.ofInt (IntKind.bits .i64) (1073741823:Int)))) (IntKind.wrap .i64 (bL+(1:Int)))
    else none
   else
    fL ay
  else
   fL ay
noncomputable def S17 (N:Nat) (a0:(List Int)) (kf:ak→Option af):Option af:=
 vc a0 N (fun(aju:Int)=>
  kf (a0,((0:Int),aju))) (IntKind.wrap .i64 ((193017:Int)+(List.length a0:Int))) (0:Int)
noncomputable def S44 (N:Nat) (a0:ak) (kf:Int→ak→Option af):Option af:=
 share (IntKind.wrap .i64 ((IntKind.wrap .i64 (a0.2.2*(6364136223846793005:Int)))+(1442695040888963407:Int))) (fun(Ps:Int)=>
  bif (decide (0≤(33:Int))) then
   bif (decide (0≤(47:Int))) then
    bif (decide (a0.2.1<(List.length a0.1:Int))) then
     bif (bw a0.2.1 (List.length a0.1)) then
      kf (IntKind.wrap .i64 (BitVec.toNat (BitVec.ofInt (IntKind.bits .i64) (IntKind.wrap .i64 ((IntKind.wrap .i64 (BitVec.toNat (BitVec.ofInt (IntKind.bits .i64) (IntKind.wrap .i64 (BitVec.toNat (BitVec.ofInt (IntKind.bits .i64) (Int.fdiv Ps (2^(min (Int.toNat (33:Int)) (IntKind.bits .i64))))^^^BitVec.ofInt (IntKind.bits .i64) (Int.fdiv Ps (2^(min (Int.toNat (47:Int)) (IntKind.bits .i64)))))))&&&BitVec.ofInt (IntKind.bits .i64) (255:Int))))+(IntKind.wrap .i64 (List.getD a0.1 (Int.toNat a0.2.1) (0:Int)))))&&&BitVec.ofInt (IntKind.bits .i64) (255:Int)))) (a0.1,((IntKind.wrap .i64 (a0.2.1+(1:Int))),Ps))
     else none
    else
     kf (IntKind.wrap .i64 (BitVec.toNat (BitVec.ofInt (IntKind.bits .i64) (IntKind.wrap .i64 (BitVec.toNat (BitVec.ofInt (IntKind.bits .i64) (Int.fdiv Ps (2^(min (Int.toNat (33:Int)) (IntKind.bits .i64))))^^^BitVec.ofInt (IntKind.bits .i64) (Int.fdiv Ps (2^(min (Int.toNat (47:Int)) (IntKind.bits .i64)))))))&&&BitVec.ofInt (IntKind.bits .i64) (255:Int)))) (a0.1,(a0.2.1,Ps))
   else none
  else none)
noncomputable def mg (N:Nat) (a0:ak) (a1:Int) (kf:Int→ak→Option af):Option af:=
 bif (decide (a1≤(0:Int))) then
  kf (0:Int) a0
 else
  bif (decide (a1≤(256:Int))) then
   S44 N a0 (fun(jZ:Int) (o8:ak)=>
    bif (!decide (a1=0)) then
     kf (Int.tmod jZ a1) o8
    else none)
  else
   S44 N a0 (fun(ag0:Int) (zt:ak)=>
    S44 N zt (fun(ag3:Int) (ki:ak)=>
     S44 N ki (fun(Hd:Int) (o9:ak)=>
      bif (!decide (a1=0)) then
       kf (Int.tmod (IntKind.wrap .i64 ((IntKind.wrap .i64 ((IntKind.wrap .i64 (ag0*(65536:Int)))+(IntKind.wrap .i64 (ag3*(256:Int)))))+Hd)) a1) o9
      else none)))
noncomputable def sv (aj:(List ah)):Nat→((List ah)→Option af)→(List ah)→Int→Option af
 |0,_,_,_=>none
 |tT+1,fL,ay,bL=>
  bif (decide (bL<(List.length aj:Int))) then
   bif (bw bL (List.length aj)) then
    bif (decide ((List.length ([]:(List Int))+List.length (List.getD aj (Int.toNat bL) ab).2.2.2.2.2)*1≤4398046511104)) then
     bif (decide ((List.length ay+List.length [((List.getD aj (Int.toNat bL) ab).1,((List.getD aj (Int.toNat bL) ab).2.1,((List.getD aj (Int.toNat bL) ab).2.2.1,((List.getD aj (Int.toNat bL) ab).2.2.2.1,((List.getD aj (Int.toNat bL) ab).2.2.2.2.1,(([]:(List Int))++(List.getD aj (Int.toNat bL) ab).2.2.2.2.2))))))])*6≤4398046511104)) then
      (sv aj tT fL) (ay++[((List.getD aj (Int.toNat bL) ab).1,((List.getD aj (Int.toNat bL) ab).2.1,((List.getD aj (Int.toNat bL) ab).2.2.1,((List.getD aj (Int.toNat bL) ab).2.2.2.1,((List.getD aj (Int.toNat bL) ab).2.2.2.2.1,(([]:(List Int))++(List.getD aj (Int.toNat bL) ab).2.2.2.2.2))))))]) (IntKind.wrap .i64 (bL+(1:Int)))
     else none
    else none
   else none
  else
   fL ay
noncomputable def Xb (N:Nat) (a0:(List ah)) (kf:(List ah)→Option af):Option af:=
 sv a0 N kf ([]:(List ah)) (0:Int)
noncomputable def sw (aj:(List ah)) (aV:Int):Nat→(Option af)→(Int→Option af)→Int→Option af
 |0,_,_,_=>none
 |tT+1,bT,cH,bD=>
  bif (decide (bD<(List.length aj:Int))) then
   bif (bw bD (List.length aj)) then
    bif ((List.getD aj (Int.toNat bD) ab).1==aV) then
     cH bD
    else
     (sw aj aV tT bT cH) (IntKind.wrap .i64 (bD+(1:Int)))
   else none
  else
   bT
noncomputable def MN (N:Nat) (a0:(List ah)) (a1:Int) (kf:Int→Option af):Option af:=
 sw a0 a1 N (kf (-1:Int)) kf (0:Int)
noncomputable def mC (N:Nat) (a0:Int) (a1:Int) (a2:Int) (kf:Bool→Option af):Option af:=
 bif (decide (a0≥a1)) then
  kf (decide (a0≤a2))
 else
  kf false
noncomputable def pP (aj:(List Int)) (aV:Int):Nat→(Int→Option af)→Int→Int→Option af
 |0,_,_,_=>none
 |v8+1,dE,bD,ft=>
  bif (decide (ft<(List.length aj:Int))) then
   bif (bw ft (List.length aj)) then
    bif ((List.getD aj (Int.toNat ft) (0:Int))==aV) then
     (pP aj aV v8 dE) (IntKind.wrap .i64 (bD+(1:Int))) (IntKind.wrap .i64 (ft+(1:Int)))
    else
     (pP aj aV v8 dE) bD (IntKind.wrap .i64 (ft+(1:Int)))
   else none
  else
   dE bD
noncomputable def S91 (N:Nat) (a0:(List Int)) (a1:Int) (kf:Int→Option af):Option af:=
 pP a0 a1 N kf (0:Int) (0:Int)
noncomputable def lV (N:Nat) (tU:(List ah)) (CT:Int) (jv:ah):Nat→(Option af)→(Bool→Option af)→Int→Option af
 |0,_,_,_=>none
 |ajv+1,qO,jd,MO=>
  bif (decide (MO<(List.length jv.2.2.2.2.2:Int))) then
   bif (bw MO (List.length jv.2.2.2.2.2)) then
    MN N tU (List.getD jv.2.2.2.2.2 (Int.toNat MO) (0:Int)) (fun(iQ:Int)=>
     bif (decide (iQ<(0:Int))) then
      jd false
     else
      bif (iQ==CT) then
       jd false
      else
       bif (bw iQ (List.length tU)) then
        bif (bw iQ (List.length tU)) then
         S91 N (List.getD tU (Int.toNat iQ) ab).2.2.2.2.2 jv.1 (fun(DS:Int)=>
          S91 N jv.2.2.2.2.2 (List.getD tU (Int.toNat iQ) ab).1 (fun(DT:Int)=>
           bif (DS != DT) then
            jd false
           else
            (lV N tU CT jv ajv qO jd) (IntKind.wrap .i64 (MO+(1:Int)))))
        else none
       else none)
   else none
  else
   qO
noncomputable def pQ (N:Nat) (aj:(List ah)):Nat→(Option af)→(Bool→Option af)→Int→Option af
 |0,_,_,_=>none
 |RF+1,og,cR,ay=>
  bif (decide (ay<(List.length aj:Int))) then
   bif (bw ay (List.length aj)) then
    mC N (List.getD aj (Int.toNat ay) ab).1 (1:Int) (99:Int) (fun(zu:Bool)=>
     bif (!zu) then
      cR false
     else
      mC N (List.getD aj (Int.toNat ay) ab).2.1 (1:Int) (99:Int) (fun(zw:Bool)=>
       bif (!zw) then
        cR false
       else
        mC N (List.getD aj (Int.toNat ay) ab).2.2.1 (0:Int) (List.length (List.getD aj (Int.toNat ay) ab).2.2.2.2.2:Int) (fun(RG:Bool)=>
         bif (!RG) then
          cR false
         else
          mC N (List.getD aj (Int.toNat ay) ab).2.2.2.2.1 (0:Int) (List.length (List.getD aj (Int.toNat ay) ab).2.2.2.2.2:Int) (fun(RH:Bool)=>
           bif (!RH) then
            cR false
           else
            mC N (List.getD aj (Int.toNat ay) ab).2.2.2.1 (0:Int) (100000:Int) (fun(RI:Bool)=>
             bif (!RI) then
              cR false
             else
              bif (decide ((List.length (List.getD aj (Int.toNat ay) ab).2.2.2.2.2:Int)>(20:Int))) then
               cR false
              else
               bif (decide (ay>(0:Int))) then
                bif (bw (IntKind.wrap .i64 (ay - (1:Int))) (List.length aj)) then
                 bif (decide ((List.getD aj (Int.toNat (IntKind.wrap .i64 (ay - (1:Int)))) ab).1≥(List.getD aj (Int.toNat ay) ab).1)) then
                  cR false
                 else
                  lV N aj ay (List.getD aj (Int.toNat ay) ab) N ((pQ N aj RF og cR) (IntKind.wrap .i64 (ay+(1:Int)))) cR (0:Int)
                else none
               else
                lV N aj ay (List.getD aj (Int.toNat ay) ab) N ((pQ N aj RF og cR) (IntKind.wrap .i64 (ay+(1:Int)))) cR (0:Int))))))
   else none
  else
   og
noncomputable def JT (N:Nat) (a0:(List ah)) (kf:Bool→Option af):Option af:=
 pQ N a0 N (kf (decide ((List.length a0:Int)≤(10:Int)))) kf (0:Int)
noncomputable def DU (N:Nat) (a0:(List ah)) (kf:(List ah)→Bool→Option af) (RJ:(List ah)):Option af:=
 JT N RJ (fun(Xc:Bool)=>
  bif (!Xc) then
   Xb N a0 (fun(Xd:(List ah))=>
    kf Xd false)
  else
   kf RJ true)
noncomputable def Yw (N:Nat) (a0:(List ah)) (a1:Int) (a2:Int) (a3:Int) (a4:Int) (a5:Int) (kf:(List ah)→Bool→Option af):Option af:=
 Xb N a0 (fun(bp:(List ah))=>
  MN N a0 a1 (fun(aw:Int)=>
   MN N a0 a2 (fun(aQ:Int)=>
    JT N a0 (fun(ag4:Bool)=>
     bif (!ag4) then
      kf bp false
     else
      bif (decide (aw<(0:Int))) then
       kf bp false
      else
       bif (decide (aQ<(0:Int))) then
        kf bp false
       else
        bif (aw==aQ) then
         kf bp false
        else
         mC N a3 (1:Int) (2:Int) (fun(ag5:Bool)=>
          bif (!ag5) then
           kf bp false
          else
           mC N a4 (0:Int) (1000:Int) (fun(ag6:Bool)=>
            bif (!ag6) then
             kf bp false
            else
             mC N a5 (0:Int) (1000:Int) (fun(ag7:Bool)=>
              bif (!ag7) then
               kf bp false
              else
               bif (bw aw (List.length bp)) then
                bif (decide ((List.length (List.getD bp (Int.toNat aw) ab).2.2.2.2.2+List.length [a2])*1≤4398046511104)) then
                 bif (bw aw (List.length bp)) then
                  bif (Nat.beq (Int.toNat aw) (Int.toNat aw)) then
                   bif (bw aQ (List.length (List.set bp (Int.toNat aw) ((List.getD bp (Int.toNat aw) ab).1,((List.getD bp (Int.toNat aw) ab).2.1,((List.getD bp (Int.toNat aw) ab).2.2.1,((List.getD bp (Int.toNat aw) ab).2.2.2.1,((List.getD bp (Int.toNat aw) ab).2.2.2.2.1,((List.getD bp (Int.toNat aw) ab).2.2.2.2.2++[a2]))))))))) then
                    bif (decide ((List.length (List.getD (List.set bp (Int.toNat aw) ((List.getD bp (Int.toNat aw) ab).1,((List.getD bp (Int.toNat aw) ab).2.1,((List.getD bp (Int.toNat aw) ab).2.2.1,((List.getD bp (Int.toNat aw) ab).2.2.2.1,((List.getD bp (Int.toNat aw) ab).2.2.2.2.1,((List.getD bp (Int.toNat aw) ab).2.2.2.2.2++[a2]))))))) (Int.toNat aQ) ab).2.2.2.2.2+List.length [a1])*1≤4398046511104)) then
                     bif (bw aQ (List.length (List.set bp (Int.toNat aw) ((List.getD bp (Int.toNat aw) ab).1,((List.getD bp (Int.toNat aw) ab).2.1,((List.getD bp (Int.toNat aw) ab).2.2.1,((List.getD bp (Int.toNat aw) ab).2.2.2.1,((List.getD bp (Int.toNat aw) ab).2.2.2.2.1,((List.getD bp (Int.toNat aw) ab).2.2.2.2.2++[a2]))))))))) then
                      bif (Nat.beq (Int.toNat aQ) (Int.toNat aQ)) then
                       share (List.set (List.set bp (Int.toNat aw) ((List.getD bp (Int.toNat aw) ab).1,((List.getD bp (Int.toNat aw) ab).2.1,((List.getD bp (Int.toNat aw) ab).2.2.1,((List.getD bp (Int.toNat aw) ab).2.2.2.1,((List.getD bp (Int.toNat aw) ab).2.2.2.2.1,((List.getD bp (Int.toNat aw) ab).2.2.2.2.2++[a2]))))))) (Int.toNat aQ) ((List.getD (List.set bp (Int.toNat aw) ((List.getD bp (Int.toNat aw) ab).1,((List.getD bp (Int.toNat aw) ab).2.1,((List.getD bp (Int.toNat aw) ab).2.2.1,((List.getD bp (Int.toNat aw) ab).2.2.2.1,((List.getD bp (Int.toNat aw) ab).2.2.2.2.1,((List.getD bp (Int.toNat aw) ab).2.2.2.2.2++[a2]))))))) (Int.toNat aQ) ab).1,((List.getD (List.set bp (Int.toNat aw) ((List.getD bp (Int.toNat aw) ab).1,((List.getD bp (Int.toNat aw) ab).2.1,((List.getD bp (Int.toNat aw) ab).2.2.1,((List.getD bp (Int.toNat aw) ab).2.2.2.1,((List.getD bp (Int.toNat aw) ab).2.2.2.2.1,((List.getD bp (Int.toNat aw) ab).2.2.2.2.2++[a2]))))))) (Int.toNat aQ) ab).2.1,((List.getD (List.set bp (Int.toNat aw) ((List.getD bp (Int.toNat aw) ab).1,((List.getD bp (Int.toNat aw) ab).2.1,((List.getD bp (Int.toNat aw) ab).2.2.1,((List.getD bp (Int.toNat aw) ab).2.2.2.1,((List.getD bp (Int.toNat aw) ab).2.2.2.2.1,((List.getD bp (Int.toNat aw) ab).2.2.2.2.2++[a2]))))))) (Int.toNat aQ) ab).2.2.1,((List.getD (List.set bp (Int.toNat aw) ((List.getD bp (Int.toNat aw) ab).1,((List.getD bp (Int.toNat aw) ab).2.1,((List.getD bp (Int.toNat aw) ab).2.2.1,((List.getD bp (Int.toNat aw) ab).2.2.2.1,((List.getD bp (Int.toNat aw) ab).2.2.2.2.1,((List.getD bp (Int.toNat aw) ab).2.2.2.2.2++[a2]))))))) (Int.toNat aQ) ab).2.2.2.1,((List.getD (List.set bp (Int.toNat aw) ((List.getD bp (Int.toNat aw) ab).1,((List.getD bp (Int.toNat aw) ab).2.1,((List.getD bp (Int.toNat aw) ab).2.2.1,((List.getD bp (Int.toNat aw) ab).2.2.2.1,((List.getD bp (Int.toNat aw) ab).2.2.2.2.1,((List.getD bp (Int.toNat aw) ab).2.2.2.2.2++[a2]))))))) (Int.toNat aQ) ab).2.2.2.2.1,((List.getD (List.set bp (Int.toNat aw) ((List.getD bp (Int.toNat aw) ab).1,((List.getD bp (Int.toNat aw) ab).2.1,((List.getD bp (Int.toNat aw) ab).2.2.1,((List.getD bp (Int.toNat aw) ab).2.2.2.1,((List.getD bp (Int.toNat aw) ab).2.2.2.2.1,((List.getD bp (Int.toNat aw) ab).2.2.2.2.2++[a2]))))))) (Int.toNat aQ) ab).2.2.2.2.2++[a1]))))))) (fun(bG:(List ah))=>
                        bif (bw aw (List.length bG)) then
                         bif (bw aw (List.length bG)) then
                          bif (bw aw (List.length (List.set bG (Int.toNat aw) ((List.getD bG (Int.toNat aw) ab).1,((List.getD bG (Int.toNat aw) ab).2.1,((List.getD bG (Int.toNat aw) ab).2.2.1,((List.getD bG (Int.toNat aw) ab).2.2.2.1,((IntKind.wrap .i64 ((List.getD bG (Int.toNat aw) ab).2.2.2.2.1+(1:Int))),(List.getD bG (Int.toNat aw) ab).2.2.2.2.2)))))))) then
                           bif (bw aw (List.length (List.set bG (Int.toNat aw) ((List.getD bG (Int.toNat aw) ab).1,((List.getD bG (Int.toNat aw) ab).2.1,((List.getD bG (Int.toNat aw) ab).2.2.1,((List.getD bG (Int.toNat aw) ab).2.2.2.1,((IntKind.wrap .i64 ((List.getD bG (Int.toNat aw) ab).2.2.2.2.1+(1:Int))),(List.getD bG (Int.toNat aw) ab).2.2.2.2.2)))))))) then
                            share (List.set (List.set bG (Int.toNat aw) ((List.getD bG (Int.toNat aw) ab).1,((List.getD bG (Int.toNat aw) ab).2.1,((List.getD bG (Int.toNat aw) ab).2.2.1,((List.getD bG (Int.toNat aw) ab).2.2.2.1,((IntKind.wrap .i64 ((List.getD bG (Int.toNat aw) ab).2.2.2.2.1+(1:Int))),(List.getD bG (Int.toNat aw) ab).2.2.2.2.2)))))) (Int.toNat aw) ((List.getD (List.set bG (Int.toNat aw) ((List.getD bG (Int.toNat aw) ab).1,((List.getD bG (Int.toNat aw) ab).2.1,((List.getD bG (Int.toNat aw) ab).2.2.1,((List.getD bG (Int.toNat aw) ab).2.2.2.1,((IntKind.wrap .i64 ((List.getD bG (Int.toNat aw) ab).2.2.2.2.1+(1:Int))),(List.getD bG (Int.toNat aw) ab).2.2.2.2.2)))))) (Int.toNat aw) ab).1,((List.getD (List.set bG (Int.toNat aw) ((List.getD bG (Int.toNat aw) ab).1,((List.getD bG (Int.toNat aw) ab).2.1,((List.getD bG (Int.toNat aw) ab).2.2.1,((List.getD bG (Int.toNat aw) ab).2.2.2.1,((IntKind.wrap .i64 ((List.getD bG (Int.toNat aw) ab).2.2.2.2.1+(1:Int))),(List.getD bG (Int.toNat aw) ab).2.2.2.2.2)))))) (Int.toNat aw) ab).2.1,((List.getD (List.set bG (Int.toNat aw) ((List.getD bG (Int.toNat aw) ab).1,((List.getD bG (Int.toNat aw) ab).2.1,((List.getD bG (Int.toNat aw) ab).2.2.1,((List.getD bG (Int.toNat aw) ab).2.2.2.1,((IntKind.wrap .i64 ((List.getD bG (Int.toNat aw) ab).2.2.2.2.1+(1:Int))),(List.getD bG (Int.toNat aw) ab).2.2.2.2.2)))))) (Int.toNat aw) ab).2.2.1,((IntKind.wrap .i64 ((List.getD (List.set bG (Int.toNat aw) ((List.getD bG (Int.toNat aw) ab).1,((List.getD bG (Int.toNat aw) ab).2.1,((List.getD bG (Int.toNat aw) ab).2.2.1,((List.getD bG (Int.toNat aw) ab).2.2.2.1,((IntKind.wrap .i64 ((List.getD bG (Int.toNat aw) ab).2.2.2.2.1+(1:Int))),(List.getD bG (Int.toNat aw) ab).2.2.2.2.2)))))) (Int.toNat aw) ab).2.2.2.1+a4)),(List.getD (List.set bG (Int.toNat aw) ((List.getD bG (Int.toNat aw) ab).1,((List.getD bG (Int.toNat aw) ab).2.1,((List.getD bG (Int.toNat aw) ab).2.2.1,((List.getD bG (Int.toNat aw) ab).2.2.2.1,((IntKind.wrap .i64 ((List.getD bG (Int.toNat aw) ab).2.2.2.2.1+(1:Int))),(List.getD bG (Int.toNat aw) ab).2.2.2.2.2)))))) (Int.toNat aw) ab).2.2.2.2))))) (fun(bj:(List ah))=>
                             bif (bw aQ (List.length bj)) then
                              bif (bw aQ (List.length bj)) then
                               bif (a3==(1:Int)) then
                                bif (bw aw (List.length (List.set bj (Int.toNat aQ) ((List.getD bj (Int.toNat aQ) ab).1,((List.getD bj (Int.toNat aQ) ab).2.1,((List.getD bj (Int.toNat aQ) ab).2.2.1,((IntKind.wrap .i64 ((List.getD bj (Int.toNat aQ) ab).2.2.2.1+a5)),(List.getD bj (Int.toNat aQ) ab).2.2.2.2))))))) then
                                 bif (bw aw (List.length (List.set bj (Int.toNat aQ) ((List.getD bj (Int.toNat aQ) ab).1,((List.getD bj (Int.toNat aQ) ab).2.1,((List.getD bj (Int.toNat aQ) ab).2.2.1,((IntKind.wrap .i64 ((List.getD bj (Int.toNat aQ) ab).2.2.2.1+a5)),(List.getD bj (Int.toNat aQ) ab).2.2.2.2))))))) then
                                  share (List.set (List.set bj (Int.toNat aQ) ((List.getD bj (Int.toNat aQ) ab).1,((List.getD bj (Int.toNat aQ) ab).2.1,((List.getD bj (Int.toNat aQ) ab).2.2.1,((IntKind.wrap .i64 ((List.getD bj (Int.toNat aQ) ab).2.2.2.1+a5)),(List.getD bj (Int.toNat aQ) ab).2.2.2.2))))) (Int.toNat aw) ((List.getD (List.set bj (Int.toNat aQ) ((List.getD bj (Int.toNat aQ) ab).1,((List.getD bj (Int.toNat aQ) ab).2.1,((List.getD bj (Int.toNat aQ) ab).2.2.1,((IntKind.wrap .i64 ((List.getD bj (Int.toNat aQ) ab).2.2.2.1+a5)),(List.getD bj (Int.toNat aQ) ab).2.2.2.2))))) (Int.toNat aw) ab).1,((List.getD (List.set bj (Int.toNat aQ) ((List.getD bj (Int.toNat aQ) ab).1,((List.getD bj (Int.toNat aQ) ab).2.1,((List.getD bj (Int.toNat aQ) ab).2.2.1,((IntKind.wrap .i64 ((List.getD bj (Int.toNat aQ) ab).2.2.2.1+a5)),(List.getD bj (Int.toNat aQ) ab).2.2.2.2))))) (Int.toNat aw) ab).2.1,((IntKind.wrap .i64 ((List.getD (List.set bj (Int.toNat aQ) ((List.getD bj (Int.toNat aQ) ab).1,((List.getD bj (Int.toNat aQ) ab).2.1,((List.getD bj (Int.toNat aQ) ab).2.2.1,((IntKind.wrap .i64 ((List.getD bj (Int.toNat aQ) ab).2.2.2.1+a5)),(List.getD bj (Int.toNat aQ) ab).2.2.2.2))))) (Int.toNat aw) ab).2.2.1+(1:Int))),(List.getD (List.set bj (Int.toNat aQ) ((List.getD bj (Int.toNat aQ) ab).1,((List.getD bj (Int.toNat aQ) ab).2.1,((List.getD bj (Int.toNat aQ) ab).2.2.1,((IntKind.wrap .i64 ((List.getD bj (Int.toNat aQ) ab).2.2.2.1+a5)),(List.getD bj (Int.toNat aQ) ab).2.2.2.2))))) (Int.toNat aw) ab).2.2.2)))) (fun(abw:(List ah))=>
                                   DU N a0 kf abw)
                                 else none
                                else none
                               else
                                bif (bw aQ (List.length (List.set bj (Int.toNat aQ) ((List.getD bj (Int.toNat aQ) ab).1,((List.getD bj (Int.toNat aQ) ab).2.1,((List.getD bj (Int.toNat aQ) ab).2.2.1,((IntKind.wrap .i64 ((List.getD bj (Int.toNat aQ) ab).2.2.2.1+a5)),(List.getD bj (Int.toNat aQ) ab).2.2.2.2))))))) then
                                 bif (bw aQ (List.length (List.set bj (Int.toNat aQ) ((List.getD bj (Int.toNat aQ) ab).1,((List.getD bj (Int.toNat aQ) ab).2.1,((List.getD bj (Int.toNat aQ) ab).2.2.1,((IntKind.wrap .i64 ((List.getD bj (Int.toNat aQ) ab).2.2.2.1+a5)),(List.getD bj (Int.toNat aQ) ab).2.2.2.2))))))) then
                                  share (List.set (List.set bj (Int.toNat aQ) ((List.getD bj (Int.toNat aQ) ab).1,((List.getD bj (Int.toNat aQ) ab).2.1,((List.getD bj (Int.toNat aQ) ab).2.2.1,((IntKind.wrap .i64 ((List.getD bj (Int.toNat aQ) ab).2.2.2.1+a5)),(List.getD bj (Int.toNat aQ) ab).2.2.2.2))))) (Int.toNat aQ) ((List.getD (List.set bj (Int.toNat aQ) ((List.getD bj (Int.toNat aQ) ab).1,((List.getD bj (Int.toNat aQ) ab).2.1,((List.getD bj (Int.toNat aQ) ab).2.2.1,((IntKind.wrap .i64 ((List.getD bj (Int.toNat aQ) ab).2.2.2.1+a5)),(List.getD bj (Int.toNat aQ) ab).2.2.2.2))))) (Int.toNat aQ) ab).1,((List.getD (List.set bj (Int.toNat aQ) ((List.getD bj (Int.toNat aQ) ab).1,((List.getD bj (Int.toNat aQ) ab).2.1,((List.getD bj (Int.toNat aQ) ab).2.2.1,((IntKind.wrap .i64 ((List.getD bj (Int.toNat aQ) ab).2.2.2.1+a5)),(List.getD bj (Int.toNat aQ) ab).2.2.2.2))))) (Int.toNat aQ) ab).2.1,((IntKind.wrap .i64 ((List.getD (List.set bj (Int.toNat aQ) ((List.getD bj (Int.toNat aQ) ab).1,((List.getD bj (Int.toNat aQ) ab).2.1,((List.getD bj (Int.toNat aQ) ab).2.2.1,((IntKind.wrap .i64 ((List.getD bj (Int.toNat aQ) ab).2.2.2.1+a5)),(List.getD bj (Int.toNat aQ) ab).2.2.2.2))))) (Int.toNat aQ) ab).2.2.1+(1:Int))),(List.getD (List.set bj (Int.toNat aQ) ((List.getD bj (Int.toNat aQ) ab).1,((List.getD bj (Int.toNat aQ) ab).2.1,((List.getD bj (Int.toNat aQ) ab).2.2.1,((IntKind.wrap .i64 ((List.getD bj (Int.toNat aQ) ab).2.2.2.1+a5)),(List.getD bj (Int.toNat aQ) ab).2.2.2.2))))) (Int.toNat aQ) ab).2.2.2)))) (fun(abx:(List ah))=>
                                   DU N a0 kf abx)
                                 else none
                                else none
                              else none
                             else none)
                           else none
                          else none
                         else none
                        else none)
                      else none
                     else none
                    else none
                   else none
                  else none
                 else none
                else none
               else none)))))))
noncomputable def sx (N:Nat):Nat→(ak→(List ah)→Option af)→ak→(List ah)→Int→Option af
 |0,_,_,_,_=>none
 |tT+1,bU,aj,ay,bL=>
  mg N aj (5:Int) (fun(aby:Int) (ki:ak)=>
   bif (decide (bL≤(IntKind.wrap .i64 ((2:Int)+aby)))) then
    mg N ki (3:Int) (fun(Yx:Int) (o9:ak)=>
     bif (decide ((List.length ay+List.length [((IntKind.wrap .i64 ((2:Int)*bL)),((IntKind.wrap .i64 ((1:Int)+Yx)),((0:Int),((0:Int),((0:Int),([]:(List Int)))))))])*6≤4398046511104)) then
      (sx N tT bU) o9 (ay++[((IntKind.wrap .i64 ((2:Int)*bL)),((IntKind.wrap .i64 ((1:Int)+Yx)),((0:Int),((0:Int),((0:Int),([]:(List Int)))))))]) (IntKind.wrap .i64 (bL+(1:Int)))
     else none)
   else
    bU ki ay)
noncomputable def vd (N:Nat):Nat→(ak→(List ah)→Option af)→ak→(List ah)→Int→Option af
 |0,_,_,_,_=>none
 |ajw+1,MP,MQ,Yy,Yz=>
  bif (decide (Yz>(0:Int))) then
   mg N MQ (6:Int) (fun(abz:Int) (mD:ak)=>
    mg N mD (6:Int) (fun(abA:Int) (He:ak)=>
     mg N He (2:Int) (fun(abB:Int) (RL:ak)=>
      mg N RL (20:Int) (fun(abC:Int) (RM:ak)=>
       mg N RM (20:Int) (fun(abD:Int) (RN:ak)=>
        Yw N Yy (IntKind.wrap .i64 ((2:Int)*(IntKind.wrap .i64 ((1:Int)+abz)))) (IntKind.wrap .i64 ((2:Int)*(IntKind.wrap .i64 ((1:Int)+abA)))) (IntKind.wrap .i64 ((1:Int)+abB)) (IntKind.wrap .i64 ((60:Int)+abC)) (IntKind.wrap .i64 ((60:Int)+abD)) (fun(abE:(List ah)) (ajx:Bool)=>
         (vd N ajw MP) RN abE (IntKind.wrap .i64 (Yz - (1:Int)))))))))
  else
   MP MQ Yy
noncomputable def S39 (N:Nat) (a0:ak) (kf:(List ah)→ak→Option af):Option af:=
 sx N N (fun(pR:ak) (RO:(List ah))=>
  mg N pR (7:Int) (fun(abF:Int) (zx:ak)=>
   vd N N (fun(ag8:ak) (ag9:(List ah))=>
    kf ag9 ag8) zx RO abF)) a0 ([]:(List ah)) (1:Int)
noncomputable def JU (N:Nat) (a0:ak) (a1:(List Int)) (kf:Int→ak→Option af):Option af:=
 mg N a0 (List.length a1:Int) (fun(jK:Int) (o8:ak)=>
  bif (bw jK (List.length a1)) then
   kf (List.getD a1 (Int.toNat jK) (0:Int)) o8
  else none)
noncomputable def S24 (N:Nat) (a0:ak) (kf:(List ah)→ak→Option af):Option af:=
 S39 N a0 (fun(cF:(List ah)) (o8:ak)=>
  mg N o8 (List.length cF:Int) (fun(cA:Int) (zt:ak)=>
   mg N zt (14:Int) (fun(tV:Int) (ki:ak)=>
    bif (tV==(0:Int)) then
     JU N ki [(0:Int),(2:Int),(99:Int),(100:Int)] (fun(RP:Int) (o9:ak)=>
      bif (bw cA (List.length cF)) then
       share (List.set cF (Int.toNat cA) (RP,(List.getD cF (Int.toNat cA) ab).2)) (fun(RQ:(List ah))=>
        kf RQ o9)
      else none)
    else
     bif (tV==(1:Int)) then
      JU N ki [(-1:Int),(9:Int)] (fun(KO:Int) (pR:ak)=>
       bif (bw cA (List.length cF)) then
        share (List.set cF (Int.toNat cA) ((List.getD cF (Int.toNat cA) ab).1,((List.getD cF (Int.toNat cA) ab).2.1,(KO,(List.getD cF (Int.toNat cA) ab).2.2.2)))) (fun(Hf:(List ah))=>
         kf Hf pR)
       else none)
     else
      bif (tV==(2:Int)) then
       JU N ki [(-1:Int),(100000:Int),(100001:Int)] (fun(abG:Int) (zx:ak)=>
        bif (bw cA (List.length cF)) then
         share (List.set cF (Int.toNat cA) ((List.getD cF (Int.toNat cA) ab).1,((List.getD cF (Int.toNat cA) ab).2.1,((List.getD cF (Int.toNat cA) ab).2.2.1,(abG,(List.getD cF (Int.toNat cA) ab).2.2.2.2))))) (fun(RR:(List ah))=>
          kf RR zx)
        else none)
      else
       bif (tV==(3:Int)) then
        bif (bw cA (List.length cF)) then
         bif (decide ((List.length (List.getD cF (Int.toNat cA) ab).2.2.2.2.2+List.length [(2:Int)])*1≤4398046511104)) then
          bif (bw cA (List.length cF)) then
           bif (Nat.beq (Int.toNat cA) (Int.toNat cA)) then
            share (List.set cF (Int.toNat cA) ((List.getD cF (Int.toNat cA) ab).1,((List.getD cF (Int.toNat cA) ab).2.1,((List.getD cF (Int.toNat cA) ab).2.2.1,((List.getD cF (Int.toNat cA) ab).2.2.2.1,((List.getD cF (Int.toNat cA) ab).2.2.2.2.1,((List.getD cF (Int.toNat cA) ab).2.2.2.2.2++[(2:Int)]))))))) (fun(ag':(List ah))=>
             kf ag' ki)
           else none
          else none
         else none
        else none
       else
        bif (tV==(4:Int)) then
         JU N ki [(0:Int),(99:Int),(100:Int)] (fun(abH:Int) (zy:ak)=>
          bif (bw cA (List.length cF)) then
           share (List.set cF (Int.toNat cA) ((List.getD cF (Int.toNat cA) ab).1,(abH,(List.getD cF (Int.toNat cA) ab).2.2))) (fun(aha:(List ah))=>
            kf aha zy)
          else none)
        else
         kf cF ki)))
noncomputable def S14 (N:Nat) (a0:(List Int)) (kf:(List ah)→Option af):Option af:=
 S17 N a0 (fun(ve:ak)=>
  S24 N ve (fun(RS:(List ah)) (ahb:ak)=>
   kf RS))
noncomputable def S5 (N:Nat) (a0:(List Int)) (kf:(List ah)→Option af):Option af:=
 S14 N a0 kf
noncomputable def S25 (N:Nat) (a0:Int) (kf:ByteArray→Option af):Option af:=
 bif (decide ((-9223372036854775808:Int)≤a0)&&decide (a0≤(9223372036854775807:Int))) then
  kf (dd a0)
 else none
noncomputable def zz (N:Nat) (a0:Int) (kf:ByteArray→Option af):Option af:=
 S25 N a0 kf
noncomputable def S26 (N:Nat) (a0:(List ByteArray)) (a1:ByteArray) (kf:ByteArray→Option af):Option af:=
 bif (Nat.ble (List.length a0) 140737488355328&&Nat.ble (ByteArray.size (jU a0 a1)) 140737488355328) then
  kf (jU a0 a1)
 else none
noncomputable def Wh (N:Nat) (a0:(List ByteArray)) (kf:ByteArray→Option af):Option af:=
 bif ((List.length a0:Int)==(0:Int)) then
  kf cY
 else
  S26 N a0 ju kf
noncomputable def zA (N:Nat) (gw:(List ah)) (RT:Int):Nat→((List ByteArray)→Option af)→(List ByteArray)→Int→Option af
 |0,_,_,_=>none
 |v8+1,qP,bW,xB=>
  bif (decide (xB<RT)) then
   bif (bw xB (List.length gw)) then
    zz N (List.getD gw (Int.toNat xB) ab).1 (fun(jw:ByteArray)=>
     bif (decide (ByteArray.size jw+ByteArray.size dU≤9223372036854775807)) then
      zz N (List.getD gw (Int.toNat xB) ab).2.2.1 (fun(jx:ByteArray)=>
       bif (decide (ByteArray.size (jw++dU)+ByteArray.size jx≤9223372036854775807)) then
        bif (decide (ByteArray.size ((jw++dU)++jx)+ByteArray.size jW≤9223372036854775807)) then
         zz N (List.length (List.getD gw (Int.toNat xB) ab).2.2.2.2.2:Int) (fun(pS:ByteArray)=>
          bif (decide (ByteArray.size (((jw++dU)++jx)++jW)+ByteArray.size pS≤9223372036854775807)) then
           bif (decide (ByteArray.size ((((jw++dU)++jx)++jW)++pS)+ByteArray.size oY≤9223372036854775807)) then
            zz N (List.getD gw (Int.toNat xB) ab).2.2.2.1 (fun(zB:ByteArray)=>
             bif (decide (ByteArray.size (((((jw++dU)++jx)++jW)++pS)++oY)+ByteArray.size zB≤9223372036854775807)) then
              bif (decide ((List.length bW+List.length [((((((jw++dU)++jx)++jW)++pS)++oY)++zB)])*1≤4398046511104)) then
               (zA N gw RT v8 qP) (bW++[((((((jw++dU)++jx)++jW)++pS)++oY)++zB)]) (IntKind.wrap .i64 (xB+(1:Int)))
              else none
             else none)
           else none
          else none)
        else none
       else none)
     else none)
   else none
  else
   qP bW
noncomputable def I6 (N:Nat) (a0:(List ah)) (kf:ByteArray→Option af):Option af:=
 zA N a0 (List.length a0:Int) N (fun(RO:(List ByteArray))=>
  Wh N RO kf) ([]:(List ByteArray)) (0:Int)
noncomputable def S27 (N:Nat) (kf:aa→Option af):Option af:=
 kf (([]:(List ah)),(([]:(List bn)),(([]:(List cz)),(([]:(List Int)),(([]:(List a7)),(([]:(List br)),(0:Int)))))))
noncomputable def sy (aj:(List bn)):Nat→((List bn)→Option af)→(List bn)→Int→Option af
 |0,_,_,_=>none
 |tT+1,fL,ay,bL=>
  bif (decide (bL<(List.length aj:Int))) then
   bif (bw bL (List.length aj)) then
    bif (decide ((List.length ([]:(List Int))+List.length (List.getD aj (Int.toNat bL) ar).2.2)*1≤4398046511104)) then
     bif (decide ((List.length ay+List.length [((List.getD aj (Int.toNat bL) ar).1,((List.getD aj (Int.toNat bL) ar).2.1,(([]:(List Int))++(List.getD aj (Int.toNat bL) ar).2.2)))])*3≤4398046511104)) then
      (sy aj tT fL) (ay++[((List.getD aj (Int.toNat bL) ar).1,((List.getD aj (Int.toNat bL) ar).2.1,(([]:(List Int))++(List.getD aj (Int.toNat bL) ar).2.2)))]) (IntKind.wrap .i64 (bL+(1:Int)))
     else none
    else none
   else none
  else
   fL ay
noncomputable def S49 (N:Nat) (a0:(List bn)) (kf:(List bn)→Option af):Option af:=
 sy a0 N kf ([]:(List bn)) (0:Int)
noncomputable def P3 (N:Nat) (a0:aa) (kf:aa→Option af):Option af:=
 Xb N a0.1 (fun(ve:(List ah))=>
  S49 N a0.2.1 (fun(ajy:(List bn))=>
   bif (decide ((List.length ([]:(List cz))+List.length a0.2.2.1)*2≤4398046511104)) then
    bif (decide ((List.length ([]:(List Int))+List.length a0.2.2.2.1)*1≤4398046511104)) then
     bif (decide ((List.length ([]:(List a7))+List.length a0.2.2.2.2.1)*3≤4398046511104)) then
      bif (decide ((List.length ([]:(List br))+List.length a0.2.2.2.2.2.1)*4≤4398046511104)) then
       kf (ve,(ajy,((([]:(List cz))++a0.2.2.1),((([]:(List Int))++a0.2.2.2.1),((([]:(List a7))++a0.2.2.2.2.1),((([]:(List br))++a0.2.2.2.2.2.1),a0.2.2.2.2.2.2))))))
      else none
     else none
    else none
   else none))
noncomputable def S48 (N:Nat) (a0:aa) (kf:Bool→Option af):Option af:=
 kf (decide ((List.length a0.2.2.1:Int)>(0:Int)))
noncomputable def S90 (N:Nat) (a0:(List br)) (kf:Int→Option af):Option af:=
 bif ((List.length a0:Int)==(0:Int)) then
  kf (0:Int)
 else
  bif (bw (IntKind.wrap .i64 ((List.length a0:Int) - (1:Int))) (List.length a0)) then
   kf (List.getD a0 (Int.toNat (IntKind.wrap .i64 ((List.length a0:Int) - (1:Int)))) dT).2.2.2
  else none
noncomputable def RU (N:Nat) (a0:Int) (a1:Int) (kf:Int→Option af):Option af:=
 mC N a1 (1:Int) (1000000000000:Int) (fun(cF:Bool)=>
  bif (!cF) then
   kf (0:Int)
  else
   bif (!decide (a1=0)) then
    bif (!decide (a1=0)) then
     kf (Int.tmod (IntKind.wrap .i64 ((Int.tmod a0 a1)+a1)) a1)
    else none
   else none)
noncomputable def oh (N:Nat) (aj:(List Int)):Nat→(Int→Option af)→Int→Int→Option af
 |0,_,_,_=>none
 |tT+1,gN,ay,bL=>
  bif (decide (bL<(List.length aj:Int))) then
   bif (bw bL (List.length aj)) then
    RU N (List.getD aj (Int.toNat bL) (0:Int)) (2147483647:Int) (fun(RV:Int)=>
     (oh N aj tT gN) (Int.tmod (IntKind.wrap .i64 ((IntKind.wrap .i64 ((IntKind.wrap .i64 (ay*(1000003:Int)))+RV))+(13:Int))) (2147483647:Int)) (IntKind.wrap .i64 (bL+(1:Int))))
   else none
  else
   gN ay
noncomputable def Xe (N:Nat) (a0:(List Int)) (kf:Int→Option af):Option af:=
 oh N a0 N kf (11:Int) (0:Int)
noncomputable def S89 (N:Nat) (a0:Int) (a1:br) (kf:Int→Option af):Option af:=
 Xe N [a0,a1.1,a1.2.1,a1.2.2.1] kf
noncomputable def sz (N:Nat) (aj:(List br)):Nat→(Option af)→(Bool→Option af)→Int→Int→Option af
 |0,_,_,_,_=>none
 |tT+1,dF,jL,ay,bL=>
  bif (decide (bL<(List.length aj:Int))) then
   bif (decide ((List.length aj:Int)≤(200:Int))) then
    bif (bw bL (List.length aj)) then
     S89 N ay (List.getD aj (Int.toNat bL) dT) (fun(mE:Int)=>
      bif ((List.getD aj (Int.toNat bL) dT).1 != (IntKind.wrap .i64 (bL+(1:Int)))) then
       jL false
      else
       mC N (List.getD aj (Int.toNat bL) dT).2.1 (1:Int) (9:Int) (fun(tW:Bool)=>
        bif (!tW) then
         jL false
        else
         mC N (List.getD aj (Int.toNat bL) dT).2.2.1 (0:Int) (99:Int) (fun(Hg:Bool)=>
          bif (!Hg) then
           jL false
          else
           bif ((List.getD aj (Int.toNat bL) dT).2.2.2 != mE) then
            jL false
           else
            (sz N aj tT dF jL) mE (IntKind.wrap .i64 (bL+(1:Int))))))
    else none
   else
    dF
  else
   dF
noncomputable def S73 (N:Nat) (a0:(List br)) (kf:Bool→Option af):Option af:=
 sz N a0 N (kf (decide ((List.length a0:Int)≤(200:Int)))) kf (0:Int) (0:Int)
noncomputable def S67 (N:Nat) (a0:(List br)) (a1:Int) (a2:Int) (kf:(List br)→Bool→Option af):Option af:=
 S90 N a0 (fun(RW:Int)=>
  S89 N RW ((IntKind.wrap .i64 ((List.length a0:Int)+(1:Int))),(a1,(a2,(0:Int)))) (fun(pT:Int)=>
   bif (decide ((List.length ([]:(List br))+List.length a0)*4≤4398046511104)) then
    bif (decide ((List.length (([]:(List br))++a0)+List.length [((IntKind.wrap .i64 ((List.length a0:Int)+(1:Int))),(a1,(a2,pT)))])*4≤4398046511104)) then
     S73 N ((([]:(List br))++a0)++[((IntKind.wrap .i64 ((List.length a0:Int)+(1:Int))),(a1,(a2,pT)))]) (fun(ahc:Bool)=>
      bif (!ahc) then
       bif (decide ((List.length ([]:(List br))+List.length a0)*4≤4398046511104)) then
        kf (([]:(List br))++a0) false
       else none
      else
       kf ((([]:(List br))++a0)++[((IntKind.wrap .i64 ((List.length a0:Int)+(1:Int))),(a1,(a2,pT)))]) true)
    else none
   else none))
noncomputable def jM (N:Nat) (ig:(List bn)) (ij:Int):Nat→(Option af)→(Bool→Option af)→Int→Option af
 |0,_,_,_=>none
 |n_9+1,ik,kj,tX=>
  bif (bw ij (List.length ig)) then
   bif (decide (tX<(List.length (List.getD ig (Int.toNat ij) ar).2.2:Int))) then
    bif (bw ij (List.length ig)) then
     bif (bw tX (List.length (List.getD ig (Int.toNat ij) ar).2.2)) then
      mC N (List.getD (List.getD ig (Int.toNat ij) ar).2.2 (Int.toNat tX) (0:Int)) (1:Int) (99:Int) (fun(KP:Bool)=>
       bif (!KP) then
        kj false
       else
        bif (decide (tX>(0:Int))) then
         bif (bw ij (List.length ig)) then
          bif (bw (IntKind.wrap .i64 (tX - (1:Int))) (List.length (List.getD ig (Int.toNat ij) ar).2.2)) then
           bif (bw ij (List.length ig)) then
            bif (bw tX (List.length (List.getD ig (Int.toNat ij) ar).2.2)) then
             bif (decide ((List.getD (List.getD ig (Int.toNat ij) ar).2.2 (Int.toNat (IntKind.wrap .i64 (tX - (1:Int)))) (0:Int))≥(List.getD (List.getD ig (Int.toNat ij) ar).2.2 (Int.toNat tX) (0:Int)))) then
              kj false
             else
              (jM N ig ij n_9 ik kj) (IntKind.wrap .i64 (tX+(1:Int)))
            else none
           else none
          else none
         else none
        else
         (jM N ig ij n_9 ik kj) (IntKind.wrap .i64 (tX+(1:Int))))
     else none
    else none
   else
    ik
  else none
noncomputable def pU (N:Nat) (aj:(List bn)):Nat→(Option af)→(Bool→Option af)→Int→Option af
 |0,_,_,_=>none
 |RF+1,om,fe,ay=>
  bif (decide (ay<(List.length aj:Int))) then
   bif (bw ay (List.length aj)) then
    mC N (List.getD aj (Int.toNat ay) ar).1 (1:Int) (99:Int) (fun(RX:Bool)=>
     bif (!RX) then
      fe false
     else
      bif (bw ay (List.length aj)) then
       mC N (List.getD aj (Int.toNat ay) ar).2.1 (1:Int) (99:Int) (fun(zw:Bool)=>
        bif (!zw) then
         fe false
        else
         bif (decide (ay>(0:Int))) then
          bif (bw (IntKind.wrap .i64 (ay - (1:Int))) (List.length aj)) then
           bif (bw ay (List.length aj)) then
            bif (decide ((List.getD aj (Int.toNat (IntKind.wrap .i64 (ay - (1:Int)))) ar).1≥(List.getD aj (Int.toNat ay) ar).1)) then
             fe false
            else
             jM N aj ay N ((pU N aj RF om fe) (IntKind.wrap .i64 (ay+(1:Int)))) fe (0:Int)
           else none
          else none
         else
          jM N aj ay N ((pU N aj RF om fe) (IntKind.wrap .i64 (ay+(1:Int)))) fe (0:Int))
      else none)
   else none
  else
   om
noncomputable def S71 (N:Nat) (a0:(List bn)) (kf:Bool→Option af):Option af:=
 pU N a0 N (kf (decide ((List.length a0:Int)≤(10:Int)))) kf (0:Int)
noncomputable def sA (N:Nat) (aj:(List ah)):Nat→(Int→Option af)→Int→Int→Option af
 |0,_,_,_=>none
 |tT+1,gN,ay,bL=>
  bif (decide (bL<(List.length aj:Int))) then
   JT N aj (fun(RY:Bool)=>
    bif RY then
     bif (bw bL (List.length aj)) then
      (sA N aj tT gN) (IntKind.wrap .i64 (ay+(List.getD aj (Int.toNat bL) ab).2.2.1)) (IntKind.wrap .i64 (bL+(1:Int)))
     else none
    else
     gN ay)
  else
   gN ay
noncomputable def YA (N:Nat) (a0:(List ah)) (kf:Int→Option af):Option af:=
 sA N a0 N kf (0:Int) (0:Int)
noncomputable def sB (aj:(List Int)) (aV:Int):Nat→(Option af)→(Bool→Option af)→Int→Option af
 |0,_,_,_=>none
 |tT+1,bT,cH,bD=>
  bif (decide (bD<(List.length aj:Int))) then
   bif (bw bD (List.length aj)) then
    bif ((List.getD aj (Int.toNat bD) (0:Int))==aV) then
     cH true
    else
     (sB aj aV tT bT cH) (IntKind.wrap .i64 (bD+(1:Int)))
   else none
  else
   bT
noncomputable def KQ (N:Nat) (a0:(List Int)) (a1:Int) (kf:Bool→Option af):Option af:=
 sB a0 a1 N (kf false) kf (0:Int)
noncomputable def Xf (N:Nat) (a0:(List ah)) (a1:Int) (a2:Int) (kf:Bool→Option af):Option af:=
 MN N a0 a1 (fun(j0:Int)=>
  bif (decide (j0≥(0:Int))) then
   bif (bw j0 (List.length a0)) then
    KQ N (List.getD a0 (Int.toNat j0) ab).2.2.2.2.2 a2 kf
   else none
  else
   kf false)
noncomputable def S92 (N:Nat) (a0:(List ah)) (a1:Int) (a2:Int) (kf:Bool→Option af):Option af:=
 MN N a0 a1 (fun(gV:Int)=>
  MN N a0 a2 (fun(dV:Int)=>
   JT N a0 (fun(RZ:Bool)=>
    bif RZ then
     bif (decide (gV≥(0:Int))) then
      bif (decide (dV≥(0:Int))) then
       bif (gV != dV) then
        bif (bw gV (List.length a0)) then
         bif (bw dV (List.length a0)) then
          bif ((List.getD a0 (Int.toNat gV) ab).2.1 != (List.getD a0 (Int.toNat dV) ab).2.1) then
           Xf N a0 a1 a2 (fun(ahd:Bool)=>
            kf (!ahd))
          else
           kf false
         else none
        else none
       else
        kf false
      else
       kf false
     else
      kf false
    else
     kf false)))
noncomputable def sC (N:Nat) (aj:(List ah)) (aV:(List cz)):Nat→((List Int)→Option af)→(Bool→Option af)→(List Int)→Int→Option af
 |0,_,_,_,_=>none
 |v8+1,bU,je,bD,ft=>
  bif (decide (ft<(List.length aV:Int))) then
   bif (bw ft (List.length aV)) then
    bif (bw ft (List.length aV)) then
     S92 N aj (List.getD aV (Int.toNat ft) gU).1 (List.getD aV (Int.toNat ft) gU).2 (fun(Hi:Bool)=>
      bif (!Hi) then
       je false
      else
       bif (bw ft (List.length aV)) then
        KQ N bD (List.getD aV (Int.toNat ft) gU).1 (fun(Hj:Bool)=>
         bif Hj then
          je false
         else
          bif (bw ft (List.length aV)) then
           KQ N bD (List.getD aV (Int.toNat ft) gU).2 (fun(Hk:Bool)=>
            bif Hk then
             je false
            else
             bif (bw ft (List.length aV)) then
              bif (bw ft (List.length aV)) then
               bif (decide ((List.length bD+List.length [(List.getD aV (Int.toNat ft) gU).1,(List.getD aV (Int.toNat ft) gU).2])*1≤4398046511104)) then
                (sC N aj aV v8 bU je) (bD++[(List.getD aV (Int.toNat ft) gU).1,(List.getD aV (Int.toNat ft) gU).2]) (IntKind.wrap .i64 (ft+(1:Int)))
               else none
              else none
             else none)
          else none)
       else none)
    else none
   else none
  else
   bU bD
noncomputable def S74 (N:Nat) (a0:(List ah)) (a1:(List cz)) (kf:Bool→Option af):Option af:=
 sC N a0 a1 N (fun(ahe:(List Int))=>
  JT N a0 (fun(abI:Bool)=>
   bif abI then
    kf ((List.length ahe:Int)==(List.length a0:Int))
   else
    kf false)) kf ([]:(List Int)) (0:Int)
noncomputable def sD (aj:(List bn)) (aV:Int):Nat→(Option af)→(Int→Option af)→Int→Option af
 |0,_,_,_=>none
 |tT+1,bT,cH,bD=>
  bif (decide (bD<(List.length aj:Int))) then
   bif (bw bD (List.length aj)) then
    bif ((List.getD aj (Int.toNat bD) ar).1==aV) then
     cH bD
    else
     (sD aj aV tT bT cH) (IntKind.wrap .i64 (bD+(1:Int)))
   else none
  else
   bT
noncomputable def R0 (N:Nat) (a0:(List bn)) (a1:Int) (kf:Int→Option af):Option af:=
 sD a0 a1 N (kf (-1:Int)) kf (0:Int)
noncomputable def S96 (N:Nat) (a0:(List ah)) (a1:bn) (a2:cz) (kf:Bool→Option af):Option af:=
 MN N a0 a2.1 (fun(wa:Int)=>
  MN N a0 a2.2 (fun(zC:Int)=>
   bif (decide (wa≥(0:Int))) then
    bif (decide (zC≥(0:Int))) then
     bif (bw wa (List.length a0)) then
      bif ((List.getD a0 (Int.toNat wa) ab).2.1 != a1.2.1) then
       bif (bw zC (List.length a0)) then
        bif ((List.getD a0 (Int.toNat zC) ab).2.1 != a1.2.1) then
         KQ N a1.2.2 a2.1 (fun(ahf:Bool)=>
          bif (!ahf) then
           KQ N a1.2.2 a2.2 (fun(R1:Bool)=>
            kf (!R1))
          else
           kf false)
        else
         kf false
       else none
      else
       kf false
     else none
    else
     kf false
   else
    kf false))
noncomputable def sE (N:Nat) (Hl:(List ah)) (B0:(List bn)) (vf:(List cz)) (oo:(List Int)):Nat→(Option af)→(Bool→Option af)→Int→Option af
 |0,_,_,_=>none
 |YB+1,il,ff,zD=>
  bif (decide (zD<(List.length vf:Int))) then
   bif (bw zD (List.length oo)) then
    R0 N B0 (List.getD oo (Int.toNat zD) (0:Int)) (fun(zE:Int)=>
     bif (decide (zE<(0:Int))) then
      ff false
     else
      bif (decide ((0:Int)≤(0:Int))&&decide ((0:Int)≤zD)&&decide (zD≤(List.length oo:Int))) then
       bif (bw zD (List.length oo)) then
        KQ N (List.drop (Int.toNat (0:Int)) (List.take (Int.toNat zD) oo)) (List.getD oo (Int.toNat zD) (0:Int)) (fun(R2:Bool)=>
         bif R2 then
          ff false
         else
          bif (bw zE (List.length B0)) then
           bif (bw zD (List.length vf)) then
            S96 N Hl (List.getD B0 (Int.toNat zE) ar) (List.getD vf (Int.toNat zD) gU) (fun(KR:Bool)=>
             bif (!KR) then
              ff false
             else
              (sE N Hl B0 vf oo YB il ff) (IntKind.wrap .i64 (zD+(1:Int))))
           else none
          else none)
       else none
      else none)
   else none
  else
   il
noncomputable def S75 (N:Nat) (a0:(List ah)) (a1:(List bn)) (a2:(List cz)) (a3:(List Int)) (kf:Bool→Option af):Option af:=
 bif ((List.length a3:Int) != (List.length a2:Int)) then
  kf false
 else
  S71 N a1 (fun(bp:Bool)=>
   bif (!bp) then
    kf false
   else
    sE N a0 a1 a2 a3 N (kf true) kf (0:Int))
noncomputable def YC (N:Nat) (a0:a7) (kf:Bool→Option af):Option af:=
 mC N a0.1 (1:Int) (99:Int) (fun(ve:Bool)=>
  bif ve then
   mC N a0.2.1 (0:Int) (100:Int) (fun(R3:Bool)=>
    bif R3 then
     mC N a0.2.2 (0:Int) (100:Int) (fun(R4:Bool)=>
      bif R4 then
       kf (a0.2.1 != a0.2.2)
      else
       kf false)
    else
     kf false)
  else
   kf false)
noncomputable def pV (N:Nat) (km:aa) (zF:a7):Nat→(Option af)→(Bool→Option af)→Int→Option af
 |0,_,_,_=>none
 |ahg+1,oq,kn,nC=>
  bif (decide (nC<(List.length km.2.2.2.2.1:Int))) then
   bif (bw nC (List.length km.2.2.2.2.1)) then
    bif (!((decide (((List.getD km.2.2.2.2.1 (Int.toNat nC) aT).1:Int)=zF.1))&&((decide (((List.getD km.2.2.2.2.1 (Int.toNat nC) aT).2.1:Int)=zF.2.1))&&(decide (((List.getD km.2.2.2.2.1 (Int.toNat nC) aT).2.2:Int)=zF.2.2))))) then
     bif (bw nC (List.length km.2.2.2.2.1)) then
      YC N (List.getD km.2.2.2.2.1 (Int.toNat nC) aT) (fun(KT:Bool)=>
       bif (!KT) then
        kn false
       else
        bif (bw nC (List.length km.2.2.2.2.1)) then
         bif (bw nC (List.length km.2.2.2.1)) then
          bif ((List.getD km.2.2.2.2.1 (Int.toNat nC) aT).1 != (List.getD km.2.2.2.1 (Int.toNat nC) (0:Int))) then
           kn false
          else
           (pV N km zF ahg oq kn) (IntKind.wrap .i64 (nC+(1:Int)))
         else none
        else none)
     else none
    else
     (pV N km zF ahg oq kn) (IntKind.wrap .i64 (nC+(1:Int)))
   else none
  else
   oq
noncomputable def DV (N:Nat) (a0:aa) (kf:Bool→Option af):Option af:=
 pV N a0 ((0:Int),((0:Int),(0:Int))) N (kf true) kf (0:Int)
noncomputable def S52 (N:Nat) (a0:aa) (kf:Bool→Option af):Option af:=
 JT N a0.1 (fun(KU:Bool)=>
  bif (!KU) then
   kf false
  else
   S71 N a0.2.1 (fun(ahh:Bool)=>
    bif (!ahh) then
     kf false
    else
     S73 N a0.2.2.2.2.2.1 (fun(R5:Bool)=>
      bif (!R5) then
       kf false
      else
       bif ((List.length a0.2.2.2.1:Int) != (List.length a0.2.2.1:Int)) then
        kf false
       else
        bif ((List.length a0.2.2.2.2.1:Int) != (List.length a0.2.2.1:Int)) then
         kf false
        else
         mC N a0.2.2.2.2.2.2 (0:Int) (1000:Int) (fun(ahi:Bool)=>
          bif (!ahi) then
           kf false
          else
           YA N a0.1 (fun(ahj:Int)=>
            bif (ahj != a0.2.2.2.2.2.2) then
             kf false
            else
             bif (decide ((List.length a0.2.2.1:Int)>(0:Int))) then
              S74 N a0.1 a0.2.2.1 (fun(ahk:Bool)=>
               bif (!ahk) then
                kf false
               else
                S75 N a0.1 a0.2.1 a0.2.2.1 a0.2.2.2.1 (fun(ahl:Bool)=>
                 bif (!ahl) then
                  kf false
                 else
                  DV N a0 kf))
             else
              DV N a0 kf)))))
noncomputable def P4 (N:Nat) (a0:aa) (a1:aa) (a2:Bool) (a3:Int) (a4:Int) (kf:aa→Bool→Option af):Option af:=
 S67 N a0.2.2.2.2.2.1 a3 a4 (fun(YD:(List br)) (pT:Bool)=>
  bif (!a2) then
   P3 N a0 (fun(Hm:aa)=>
    kf Hm false)
  else
   bif (!pT) then
    P3 N a0 (fun(Hm:aa)=>
     kf Hm false)
   else
    S52 N a0 (fun(ahm:Bool)=>
     bif (!ahm) then
      P3 N a0 (fun(Hm:aa)=>
       kf Hm false)
     else
      S52 N (a1.1,(a1.2.1,(a1.2.2.1,(a1.2.2.2.1,(a1.2.2.2.2.1,(YD,a1.2.2.2.2.2.2)))))) (fun(ahn:Bool)=>
       bif (!ahn) then
        P3 N a0 (fun(aho:aa)=>
         kf aho false)
       else
        kf (a1.1,(a1.2.1,(a1.2.2.1,(a1.2.2.2.1,(a1.2.2.2.2.1,(YD,a1.2.2.2.2.2.2)))))) true)))
noncomputable def pW (aV:Int) (eK:Int) (ck:aa) (DW:aa) (DX:aa):Nat→(Int→Option af)→Int→Option af
 |0,_,_=>none
 |n_8+1,bU,vg=>
  bif (decide (vg<(List.length ck.1:Int))) then
   bif (bw vg (List.length ck.1)) then
    bif (decide ((List.getD ck.1 (Int.toNat vg) ab).1<aV)) then
     (pW aV eK ck DW DX n_8 bU) (IntKind.wrap .i64 (vg+(1:Int)))
    else
     bU vg
   else none
  else
   bU vg
noncomputable def S29 (N:Nat) (a0:aa) (a1:Int) (a2:Int) (kf:aa→Bool→Option af):Option af:=
 P3 N a0 (fun(gV:aa)=>
  pW a1 a2 a0 (([]:(List ah)),(([]:(List bn)),(([]:(List cz)),(([]:(List Int)),(([]:(List a7)),(([]:(List br)),(0:Int))))))) gV N (fun(nD:Int)=>
   bif (decide ((0:Int)≤(0:Int))&&decide ((0:Int)≤nD)&&decide (nD≤(List.length a0.1:Int))) then
    Xb N (List.drop (Int.toNat (0:Int)) (List.take (Int.toNat nD) a0.1)) (fun(sF:(List ah))=>
     bif (decide ((List.length sF+List.length [(a1,(a2,((0:Int),((0:Int),((0:Int),([]:(List Int)))))))])*6≤4398046511104)) then
      bif (decide ((0:Int)≤nD)&&decide (nD≤(List.length a0.1:Int))&&decide ((List.length a0.1:Int)≤(List.length a0.1:Int))) then
       Xb N (List.drop (Int.toNat nD) (List.take (Int.toNat (List.length a0.1:Int)) a0.1)) (fun(zG:(List ah))=>
        bif (decide ((List.length (sF++[(a1,(a2,((0:Int),((0:Int),((0:Int),([]:(List Int)))))))])+List.length zG)*6≤4398046511104)) then
         S48 N a0 (fun(abJ:Bool)=>
          P4 N a0 (((sF++[(a1,(a2,((0:Int),((0:Int),((0:Int),([]:(List Int)))))))])++zG),gV.2) (!abJ) (1:Int) a1 kf)
        else none)
      else none
     else none)
   else none) (0:Int))
noncomputable def pX (aV:Int) (eK:Int) (ck:aa) (DW:aa) (DX:aa):Nat→(Int→Option af)→Int→Option af
 |0,_,_=>none
 |n_8+1,bU,vg=>
  bif (decide (vg<(List.length ck.2.1:Int))) then
   bif (bw vg (List.length ck.2.1)) then
    bif (decide ((List.getD ck.2.1 (Int.toNat vg) ar).1<aV)) then
     (pX aV eK ck DW DX n_8 bU) (IntKind.wrap .i64 (vg+(1:Int)))
    else
     bU vg
   else none
  else
   bU vg
noncomputable def S30 (N:Nat) (a0:aa) (a1:Int) (a2:Int) (kf:aa→Bool→Option af):Option af:=
 P3 N a0 (fun(gV:aa)=>
  pX a1 a2 a0 (([]:(List ah)),(([]:(List bn)),(([]:(List cz)),(([]:(List Int)),(([]:(List a7)),(([]:(List br)),(0:Int))))))) gV N (fun(nD:Int)=>
   bif (decide ((0:Int)≤(0:Int))&&decide ((0:Int)≤nD)&&decide (nD≤(List.length a0.2.1:Int))) then
    S49 N (List.drop (Int.toNat (0:Int)) (List.take (Int.toNat nD) a0.2.1)) (fun(sF:(List bn))=>
     bif (decide ((List.length sF+List.length [(a1,(a2,([]:(List Int))))])*3≤4398046511104)) then
      bif (decide ((0:Int)≤nD)&&decide (nD≤(List.length a0.2.1:Int))&&decide ((List.length a0.2.1:Int)≤(List.length a0.2.1:Int))) then
       S49 N (List.drop (Int.toNat nD) (List.take (Int.toNat (List.length a0.2.1:Int)) a0.2.1)) (fun(zG:(List bn))=>
        bif (decide ((List.length (sF++[(a1,(a2,([]:(List Int))))])+List.length zG)*3≤4398046511104)) then
         P4 N a0 (gV.1,(((sF++[(a1,(a2,([]:(List Int))))])++zG),gV.2.2)) true (2:Int) a1 kf
        else none)
      else none
     else none)
   else none) (0:Int))
noncomputable def S94 (N:Nat) (a0:ah) (a1:ah) (kf:Bool→Option af):Option af:=
 bif (a0.2.2.1 != a1.2.2.1) then
  kf (decide (a0.2.2.1>a1.2.2.1))
 else
  bif (decide (a0.2.2.2.1>a1.2.2.2.1)) then
   kf true
  else
   bif (a0.2.2.2.1==a1.2.2.2.1) then
    kf (decide (a0.1<a1.1))
   else
    kf false
noncomputable def mF (jy:(List ah)):Nat→((List Int)→Option af)→(List Int)→Int→Option af
 |0,_,_,_=>none
 |ajz+1,nE,j8,wb=>
  bif (decide (wb<(List.length jy:Int))) then
   bif (bw wb (List.length jy)) then
    bif (decide ((List.length j8+List.length [(List.getD jy (Int.toNat wb) ab).1])*1≤4398046511104)) then
     (mF jy ajz nE) (j8++[(List.getD jy (Int.toNat wb) ab).1]) (IntKind.wrap .i64 (wb+(1:Int)))
    else none
   else none
  else
   nE j8
noncomputable def sG (N:Nat) (ig:(List ah)) (ij:(List ah)) (tX:Int):Nat→(Int→Option af)→Int→Option af
 |0,_,_=>none
 |Xg+1,DY,Pt=>
  bif (decide (Pt>(0:Int))) then
   bif (bw tX (List.length ig)) then
    bif (bw (IntKind.wrap .i64 (Pt - (1:Int))) (List.length ij)) then
     S94 N (List.getD ig (Int.toNat tX) ab) (List.getD ij (Int.toNat (IntKind.wrap .i64 (Pt - (1:Int)))) ab) (fun(abK:Bool)=>
      bif abK then
       (sG N ig ij tX Xg DY) (IntKind.wrap .i64 (Pt - (1:Int)))
      else
       DY Pt)
    else none
   else none
  else
   DY Pt
noncomputable def sH (N:Nat) (aj:(List ah)):Nat→((List ah)→Option af)→(List ah)→Int→Option af
 |0,_,_,_=>none
 |tT+1,mG,ay,bL=>
  bif (decide (bL<(List.length aj:Int))) then
   JT N aj (fun(ga:Bool)=>
    bif ga then
     sG N aj ay bL N (fun(gy:Int)=>
      bif (decide ((0:Int)≤(0:Int))&&decide ((0:Int)≤gy)&&decide (gy≤(List.length ay:Int))) then
       bif (bw bL (List.length aj)) then
        bif (decide ((0:Int)≤gy)&&decide (gy≤(List.length ay:Int))&&decide ((List.length ay:Int)≤(List.length ay:Int))) then
         bif (decide ((List.length ([]:(List ah))+List.length (List.drop 0 (List.take (Int.toNat gy) ay)))*6≤4398046511104)) then
          bif (decide ((List.length (([]:(List ah))++(List.drop 0 (List.take (Int.toNat gy) ay)))+List.length [(List.getD aj (Int.toNat bL) ab)])*6≤4398046511104)) then
           bif (decide ((List.length ((([]:(List ah))++(List.drop 0 (List.take (Int.toNat gy) ay)))++[(List.getD aj (Int.toNat bL) ab)])+List.length (List.drop (Int.toNat gy) (List.take (Int.toNat (List.length ay:Int)) ay)))*6≤4398046511104)) then
            (sH N aj tT mG) (((([]:(List ah))++(List.drop 0 (List.take (Int.toNat gy) ay)))++[(List.getD aj (Int.toNat bL) ab)])++(List.drop (Int.toNat gy) (List.take (Int.toNat (List.length ay:Int)) ay))) (IntKind.wrap .i64 (bL+(1:Int)))
           else none
          else none
         else none
        else none
       else none
      else none) (List.length ay:Int)
    else
     mG ay)
  else
   mG ay
noncomputable def S70 (N:Nat) (a0:(List ah)) (kf:(List Int)→Option af):Option af:=
 sH N a0 N (fun(ahp:(List ah))=>
  mF ahp N kf ([]:(List Int)) (0:Int)) ([]:(List ah)) (0:Int)
noncomputable def S93 (N:Nat) (a0:(List ah)) (a1:Int) (a2:Int) (kf:cz→Option af):Option af:=
 MN N a0 a1 (fun(gV:Int)=>
  MN N a0 a2 (fun(dV:Int)=>
   JT N a0 (fun(RZ:Bool)=>
    bif (!RZ) then
     kf ((0:Int),(0:Int))
    else
     bif (decide (gV<(0:Int))) then
      kf ((0:Int),(0:Int))
     else
      bif (decide (dV<(0:Int))) then
       kf ((0:Int),(0:Int))
      else
       bif (gV==dV) then
        kf ((0:Int),(0:Int))
       else
        bif (bw dV (List.length a0)) then
         bif (bw gV (List.length a0)) then
          bif (decide ((List.getD a0 (Int.toNat dV) ab).2.2.2.2.1<(List.getD a0 (Int.toNat gV) ab).2.2.2.2.1)) then
           kf (a2,a1)
          else
           bif (bw dV (List.length a0)) then
            bif (bw gV (List.length a0)) then
             bif ((List.getD a0 (Int.toNat dV) ab).2.2.2.2.1==(List.getD a0 (Int.toNat gV) ab).2.2.2.2.1) then
              bif (bw dV (List.length a0)) then
               bif (bw gV (List.length a0)) then
                S94 N (List.getD a0 (Int.toNat dV) ab) (List.getD a0 (Int.toNat gV) ab) (fun(ahq:Bool)=>
                 bif ahq then
                  kf (a2,a1)
                 else
                  kf (a1,a2))
               else none
              else none
             else
              kf (a1,a2)
            else none
           else none
         else none
        else none)))
noncomputable def sI (N:Nat) (self:(List ah)→(List Int)→((List cz)→Bool→Option af)→Option af) (aj:(List ah)) (aV:(List Int)):Nat→(Option af)→((List cz)→Bool→Option af)→Int→Option af
 |0,_,_,_=>none
 |tT+1,KV,DZ,rb=>
  bif (decide (rb<(List.length aV:Int))) then
   bif (bw (0:Int) (List.length aV)) then
    bif (bw rb (List.length aV)) then
     S92 N aj (List.getD aV (Int.toNat (0:Int)) (0:Int)) (List.getD aV (Int.toNat rb) (0:Int)) (fun(ahr:Bool)=>
      bif (!ahr) then
       (sI N self aj aV tT KV DZ) (IntKind.wrap .i64 (rb+(1:Int)))
      else
       bif (decide ((0:Int)≤(1:Int))&&decide ((1:Int)≤rb)&&decide (rb≤(List.length aV:Int))) then
        bif (decide ((0:Int)≤(IntKind.wrap .i64 (rb+(1:Int))))&&decide ((IntKind.wrap .i64 (rb+(1:Int)))≤(List.length aV:Int))&&decide ((List.length aV:Int)≤(List.length aV:Int))) then
         bif (decide ((List.length ([]:(List Int))+List.length (List.drop (Int.toNat (1:Int)) (List.take (Int.toNat rb) aV)))*1≤4398046511104)) then
          bif (decide ((List.length (([]:(List Int))++(List.drop (Int.toNat (1:Int)) (List.take (Int.toNat rb) aV)))+List.length (List.drop (Int.toNat (IntKind.wrap .i64 (rb+(1:Int)))) (List.take (Int.toNat (List.length aV:Int)) aV)))*1≤4398046511104)) then
           self aj ((([]:(List Int))++(List.drop (Int.toNat (1:Int)) (List.take (Int.toNat rb) aV)))++(List.drop (Int.toNat (IntKind.wrap .i64 (rb+(1:Int)))) (List.take (Int.toNat (List.length aV:Int)) aV))) (fun(YE:(List cz)) (ahs:Bool)=>
            bif ahs then
             bif (bw (0:Int) (List.length aV)) then
              bif (bw rb (List.length aV)) then
               S93 N aj (List.getD aV (Int.toNat (0:Int)) (0:Int)) (List.getD aV (Int.toNat rb) (0:Int)) (fun(YF:cz)=>
                bif (decide ((List.length [YF]+List.length YE)*2≤4398046511104)) then
                 DZ ([YF]++YE) true
                else none)
              else none
             else none
            else
             (sI N self aj aV tT KV DZ) (IntKind.wrap .i64 (rb+(1:Int))))
          else none
         else none
        else none
       else none)
    else none
   else none
  else
   KV
noncomputable def R6 (self:(List ah)→(List Int)→((List cz)→Bool→Option af)→Option af) (N:Nat) (a0:(List ah)) (a1:(List Int)) (kf:(List cz)→Bool→Option af):Option af:=
 bif ((List.length a1:Int)==(0:Int)) then
  kf ([]:(List cz)) true
 else
  sI N self a0 a1 N (kf ([]:(List cz)) false) kf (1:Int)
noncomputable def S69:Nat→(List ah)→(List Int)→((List cz)→Bool→Option af)→Option af
 |0,_,_,_=>none
 |N+1,a0,a1,kf=>R6 (S69 N) N a0 a1 kf
noncomputable def YG (N:Nat) (a0:(List ah)) (kf:(List cz)→Bool→Option af):Option af:=
 JT N a0 (fun(ve:Bool)=>
  bif (!ve) then
   kf ([]:(List cz)) false
  else
   bif ((Int.tmod (List.length a0:Int) (2:Int))==(1:Int)) then
    kf ([]:(List cz)) false
   else
    S70 N a0 (fun(zC:(List Int))=>
     S69 N a0 zC kf))
noncomputable def pY (N:Nat) (self:(List ah)→(List bn)→(List cz)→(List Int)→((List Int)→Bool→Option af)→Option af) (aj:(List ah)) (aV:(List bn)) (eK:(List cz)) (ck:(List Int)):Nat→(Option af)→((List Int)→Bool→Option af)→Int→Option af
 |0,_,_,_=>none
 |P5+1,il,ff,cv=>
  bif (decide (cv<(List.length aV:Int))) then
   bif (bw cv (List.length aV)) then
    KQ N ck (List.getD aV (Int.toNat cv) ar).1 (fun(aht:Bool)=>
     bif aht then
      (pY N self aj aV eK ck P5 il ff) (IntKind.wrap .i64 (cv+(1:Int)))
     else
      bif (bw cv (List.length aV)) then
       bif (bw (0:Int) (List.length eK)) then
        S96 N aj (List.getD aV (Int.toNat cv) ar) (List.getD eK (Int.toNat (0:Int)) gU) (fun(ahu:Bool)=>
         bif (!ahu) then
          (pY N self aj aV eK ck P5 il ff) (IntKind.wrap .i64 (cv+(1:Int)))
         else
          bif (decide ((0:Int)≤(1:Int))&&decide ((1:Int)≤(List.length eK:Int))&&decide ((List.length eK:Int)≤(List.length eK:Int))) then
           bif (bw cv (List.length aV)) then
            bif (decide ((List.length ([]:(List Int))+List.length ck)*1≤4398046511104)) then
             bif (decide ((List.length (([]:(List Int))++ck)+List.length [(List.getD aV (Int.toNat cv) ar).1])*1≤4398046511104)) then
              self aj aV (List.drop (Int.toNat (1:Int)) (List.take (Int.toNat (List.length eK:Int)) eK)) ((([]:(List Int))++ck)++[(List.getD aV (Int.toNat cv) ar).1]) (fun(YH:(List Int)) (abL:Bool)=>
               bif abL then
                bif (bw cv (List.length aV)) then
                 bif (decide ((List.length [(List.getD aV (Int.toNat cv) ar).1]+List.length YH)*1≤4398046511104)) then
                  ff ([(List.getD aV (Int.toNat cv) ar).1]++YH) true
                 else none
                else none
               else
                (pY N self aj aV eK ck P5 il ff) (IntKind.wrap .i64 (cv+(1:Int))))
             else none
            else none
           else none
          else none)
       else none
      else none)
   else none
  else
   il
noncomputable def R7 (self:(List ah)→(List bn)→(List cz)→(List Int)→((List Int)→Bool→Option af)→Option af) (N:Nat) (a0:(List ah)) (a1:(List bn)) (a2:(List cz)) (a3:(List Int)) (kf:(List Int)→Bool→Option af):Option af:=
 bif ((List.length a2:Int)==(0:Int)) then
  kf ([]:(List Int)) true
 else
  pY N self a0 a1 a2 a3 N (kf ([]:(List Int)) false) kf (0:Int)
noncomputable def S72:Nat→(List ah)→(List bn)→(List cz)→(List Int)→((List Int)→Bool→Option af)→Option af
 |0,_,_,_,_,_=>none
 |N+1,a0,a1,a2,a3,kf=>R7 (S72 N) N a0 a1 a2 a3 kf
noncomputable def Xh (N:Nat) (a0:(List ah)) (a1:(List bn)) (a2:(List cz)) (kf:(List Int)→Bool→Option af):Option af:=
 S71 N a1 (fun(jK:Bool)=>
  bif (!jK) then
   kf ([]:(List Int)) false
  else
   JT N a0 (fun(MR:Bool)=>
    bif (!MR) then
     kf ([]:(List Int)) false
    else
     S72 N a0 a1 a2 ([]:(List Int)) kf))
noncomputable def S31 (N:Nat) (a0:aa) (kf:aa→Bool→Option af):Option af:=
 P3 N a0 (fun(j0:aa)=>
  YG N a0.1 (fun(dV:(List cz)) (R4:Bool)=>
   Xh N a0.1 a0.2.1 dV (fun(CU:(List Int)) (mE:Bool)=>
    bif (decide ((List.length dV:Int)=(List.length dV:Int))&&decide ((0:Int)≤(List.length dV:Int))&&decide ((List.length dV:Int)≤1099511627776)) then
     bif R4 then
      bif mE then
       S48 N a0 (fun(ahv:Bool)=>
        bif (!ahv) then
         P4 N a0 (j0.1,(j0.2.1,(dV,(CU,((List.replicate (Int.toNat (List.length dV:Int)) ((0:Int),((0:Int),(0:Int)))),j0.2.2.2.2.2))))) (decide ((List.length a0.1:Int)>(0:Int))) (3:Int) (0:Int) kf
        else
         P4 N a0 (j0.1,(j0.2.1,(dV,(CU,((List.replicate (Int.toNat (List.length dV:Int)) ((0:Int),((0:Int),(0:Int)))),j0.2.2.2.2.2))))) false (3:Int) (0:Int) kf)
      else
       P4 N a0 (j0.1,(j0.2.1,(dV,(CU,((List.replicate (Int.toNat (List.length dV:Int)) ((0:Int),((0:Int),(0:Int)))),j0.2.2.2.2.2))))) false (3:Int) (0:Int) kf
     else
      P4 N a0 (j0.1,(j0.2.1,(dV,(CU,((List.replicate (Int.toNat (List.length dV:Int)) ((0:Int),((0:Int),(0:Int)))),j0.2.2.2.2.2))))) false (3:Int) (0:Int) kf
    else none)))
noncomputable def pZ (iy:aa) (bL:a7):Nat→((List Int)→Option af)→(List Int)→Int→Option af
 |0,_,_,_=>none
 |v8+1,sJ,ay,D0=>
  bif (decide (D0<(List.length iy.2.2.2.2.1:Int))) then
   bif (bw D0 (List.length iy.2.2.2.2.1)) then
    bif ((decide (((List.getD iy.2.2.2.2.1 (Int.toNat D0) aT).1:Int)=bL.1))&&((decide (((List.getD iy.2.2.2.2.1 (Int.toNat D0) aT).2.1:Int)=bL.2.1))&&(decide (((List.getD iy.2.2.2.2.1 (Int.toNat D0) aT).2.2:Int)=bL.2.2)))) then
     bif (decide ((List.length ay+List.length [D0])*1≤4398046511104)) then
      (pZ iy bL v8 sJ) (ay++[D0]) (IntKind.wrap .i64 (D0+(1:Int)))
     else none
    else
     (pZ iy bL v8 sJ) ay (IntKind.wrap .i64 (D0+(1:Int)))
   else none
  else
   sJ ay
noncomputable def S33 (N:Nat) (a0:aa) (kf:(List Int)→Option af):Option af:=
 pZ a0 ((0:Int),((0:Int),(0:Int))) N kf ([]:(List Int)) (0:Int)
noncomputable def p4 (N:Nat) (aj:(List a7)):Nat→(Option af)→(Bool→Option af)→Int→Option af
 |0,_,_,_=>none
 |RF+1,bT,cH,ay=>
  bif (decide (ay<(List.length aj:Int))) then
   bif (bw ay (List.length aj)) then
    YC N (List.getD aj (Int.toNat ay) aT) (fun(R8:Bool)=>
     bif (!R8) then
      cH false
     else
      bif (decide (ay>(0:Int))) then
       bif (bw (IntKind.wrap .i64 (ay - (1:Int))) (List.length aj)) then
        bif (bw ay (List.length aj)) then
         bif (decide ((List.getD aj (Int.toNat (IntKind.wrap .i64 (ay - (1:Int)))) aT).1≥(List.getD aj (Int.toNat ay) aT).1)) then
          cH false
         else
          (p4 N aj RF bT cH) (IntKind.wrap .i64 (ay+(1:Int)))
        else none
       else none
      else
       (p4 N aj RF bT cH) (IntKind.wrap .i64 (ay+(1:Int))))
   else none
  else
   bT
noncomputable def S77 (N:Nat) (a0:(List a7)) (kf:Bool→Option af):Option af:=
 p4 N a0 N (kf (decide ((List.length a0:Int)≤(9:Int)))) kf (0:Int)
noncomputable def S80 (N:Nat) (a0:a7) (kf:Int→Option af):Option af:=
 bif (decide (a0.2.1>a0.2.2)) then
  kf (1:Int)
 else
  kf (2:Int)
noncomputable def p5 (N:Nat) (aj:(List a7)) (aV:Int):Nat→(Int→Option af)→Int→Int→Option af
 |0,_,_,_=>none
 |v8+1,bU,bD,ft=>
  bif (decide (ft<(List.length aj:Int))) then
   S77 N aj (fun(Ho:Bool)=>
    bif Ho then
     bif (bw ft (List.length aj)) then
      S80 N (List.getD aj (Int.toNat ft) aT) (fun(Hd:Int)=>
       bif (Hd==aV) then
        (p5 N aj aV v8 bU) (IntKind.wrap .i64 (bD+(1:Int))) (IntKind.wrap .i64 (ft+(1:Int)))
       else
        (p5 N aj aV v8 bU) bD (IntKind.wrap .i64 (ft+(1:Int))))
     else none
    else
     bU bD)
  else
   bU bD
noncomputable def S78 (N:Nat) (a0:(List a7)) (a1:Int) (kf:Int→Option af):Option af:=
 p5 N a0 a1 N kf (0:Int) (0:Int)
noncomputable def zH (N:Nat) (aj:(List a7)) (aV:Int):Nat→(Int→Option af)→Int→Int→Option af
 |0,_,_,_=>none
 |v8+1,dF,bD,ft=>
  bif (decide (ft<(List.length aj:Int))) then
   S77 N aj (fun(Ho:Bool)=>
    bif Ho then
     bif (aV==(1:Int)) then
      bif (bw ft (List.length aj)) then
       (zH N aj aV v8 dF) (IntKind.wrap .i64 (bD+(List.getD aj (Int.toNat ft) aT).2.1)) (IntKind.wrap .i64 (ft+(1:Int)))
      else none
     else
      bif (aV==(2:Int)) then
       bif (bw ft (List.length aj)) then
        (zH N aj aV v8 dF) (IntKind.wrap .i64 (bD+(List.getD aj (Int.toNat ft) aT).2.2)) (IntKind.wrap .i64 (ft+(1:Int)))
       else none
      else
       (zH N aj aV v8 dF) bD (IntKind.wrap .i64 (ft+(1:Int)))
    else
     dF bD)
  else
   dF bD
noncomputable def S79 (N:Nat) (a0:(List a7)) (a1:Int) (kf:Int→Option af):Option af:=
 zH N a0 a1 N kf (0:Int) (0:Int)
noncomputable def R9 (N:Nat) (a0:(List a7)) (kf:Int→Option af) (ahw:Int):Option af:=
 bif (decide (ahw>(0:Int))) then
  kf (1:Int)
 else
  bif (decide (ahw<(0:Int))) then
   kf (2:Int)
  else
   bif (bw (0:Int) (List.length a0)) then
    S80 N (List.getD a0 (Int.toNat (0:Int)) aT) kf
   else none
noncomputable def S54 (N:Nat) (a0:(List a7)) (kf:Int→Option af):Option af:=
 bif ((List.length a0:Int)==(0:Int)) then
  kf (0:Int)
 else
  S77 N a0 (fun(jK:Bool)=>
   bif (!jK) then
    kf (0:Int)
   else
    S78 N a0 (1:Int) (fun(MR:Int)=>
     S78 N a0 (2:Int) (fun(zI:Int)=>
      bif ((IntKind.wrap .i64 (MR - zI))==(0:Int)) then
       S79 N a0 (1:Int) (fun(ahx:Int)=>
        S79 N a0 (2:Int) (fun(ahy:Int)=>
         R9 N a0 kf (IntKind.wrap .i64 (ahx - ahy))))
      else
       R9 N a0 kf (IntKind.wrap .i64 (MR - zI)))))
noncomputable def vh (a0:(List Int)) (a1:Int) (kf:(List Int)→Option af) (mh:Int):Option af:=
 bif (decide ((0:Int)≤(0:Int))&&decide ((0:Int)≤mh)&&decide (mh≤(List.length a0:Int))) then
  bif (decide ((0:Int)≤mh)&&decide (mh≤(List.length a0:Int))&&decide ((List.length a0:Int)≤(List.length a0:Int))) then
   bif (decide ((List.length ([]:(List Int))+List.length (List.drop (Int.toNat (0:Int)) (List.take (Int.toNat mh) a0)))*1≤4398046511104)) then
    bif (decide ((List.length (([]:(List Int))++(List.drop (Int.toNat (0:Int)) (List.take (Int.toNat mh) a0)))+List.length [a1])*1≤4398046511104)) then
     bif (decide ((List.length ((([]:(List Int))++(List.drop (Int.toNat (0:Int)) (List.take (Int.toNat mh) a0)))++[a1])+List.length (List.drop (Int.toNat mh) (List.take (Int.toNat (List.length a0:Int)) a0)))*1≤4398046511104)) then
      kf (((([]:(List Int))++(List.drop (Int.toNat (0:Int)) (List.take (Int.toNat mh) a0)))++[a1])++(List.drop (Int.toNat mh) (List.take (Int.toNat (List.length a0:Int)) a0)))
     else none
    else none
   else none
  else none
 else none
noncomputable def sK (aj:(List Int)) (aV:Int):Nat→(Int→Option af)→Int→Option af
 |0,_,_=>none
 |tT+1,bT,bD=>
  bif (decide (bD<(List.length aj:Int))) then
   bif (bw bD (List.length aj)) then
    bif (decide ((List.getD aj (Int.toNat bD) (0:Int))<aV)) then
     (sK aj aV tT bT) (IntKind.wrap .i64 (bD+(1:Int)))
    else
     bT bD
   else none
  else
   bT bD
noncomputable def KW (N:Nat) (a0:(List Int)) (a1:Int) (kf:(List Int)→Option af):Option af:=
 sK a0 a1 N (fun(mh:Int)=>
  bif (decide (mh<(List.length a0:Int))) then
   bif (bw mh (List.length a0)) then
    bif ((List.getD a0 (Int.toNat mh) (0:Int))==a1) then
     bif (decide ((List.length ([]:(List Int))+List.length a0)*1≤4398046511104)) then
      kf (([]:(List Int))++a0)
     else none
    else
     vh a0 a1 kf mh
   else none
  else
   vh a0 a1 kf mh) (0:Int)
noncomputable def p6 (N:Nat) (eT:aa) (Sa:aa):Nat→(aa→Bool→Option af)→aa→Bool→Int→Option af
 |0,_,_,_,_=>none
 |Xg+1,ot,dB,tY,lW=>
  bif (decide (lW<(List.length eT.2.2.1:Int))) then
   bif (bw lW (List.length eT.2.2.2.2.1)) then
    bif (bw lW (List.length eT.2.2.1)) then
     bif (bw lW (List.length eT.2.2.1)) then
      S54 N [(List.getD eT.2.2.2.2.1 (Int.toNat lW) aT)] (fun(zJ:Int)=>
       Yw N dB.1 (List.getD eT.2.2.1 (Int.toNat lW) gU).1 (List.getD eT.2.2.1 (Int.toNat lW) gU).2 zJ (List.getD eT.2.2.2.2.1 (Int.toNat lW) aT).2.1 (List.getD eT.2.2.2.2.1 (Int.toNat lW) aT).2.2 (fun(p7:(List ah)) (zK:Bool)=>
        bif tY then
         bif (bw lW (List.length eT.2.2.2.1)) then
          R0 N dB.2.1 (List.getD eT.2.2.2.1 (Int.toNat lW) (0:Int)) (fun(eL:Int)=>
           bif (bw eL (List.length dB.2.1)) then
            bif (bw lW (List.length eT.2.2.1)) then
             bif (bw lW (List.length eT.2.2.1)) then
              KW N (List.getD dB.2.1 (Int.toNat eL) ar).2.2 (List.getD eT.2.2.1 (Int.toNat lW) gU).1 (fun(zL:(List Int))=>
               KW N zL (List.getD eT.2.2.1 (Int.toNat lW) gU).2 (fun(tZ:(List Int))=>
                bif (bw eL (List.length dB.2.1)) then
                 (p6 N eT Sa Xg ot) (p7,((List.set dB.2.1 (Int.toNat eL) ((List.getD dB.2.1 (Int.toNat eL) ar).1,((List.getD dB.2.1 (Int.toNat eL) ar).2.1,tZ))),dB.2.2)) zK (IntKind.wrap .i64 (lW+(1:Int)))
                else none))
             else none
            else none
           else none)
         else none
        else
         bif (bw lW (List.length eT.2.2.2.1)) then
          R0 N dB.2.1 (List.getD eT.2.2.2.1 (Int.toNat lW) (0:Int)) (fun(eM:Int)=>
           bif (bw eM (List.length dB.2.1)) then
            bif (bw lW (List.length eT.2.2.1)) then
             bif (bw lW (List.length eT.2.2.1)) then
              KW N (List.getD dB.2.1 (Int.toNat eM) ar).2.2 (List.getD eT.2.2.1 (Int.toNat lW) gU).1 (fun(zM:(List Int))=>
               KW N zM (List.getD eT.2.2.1 (Int.toNat lW) gU).2 (fun(ua:(List Int))=>
                bif (bw eM (List.length dB.2.1)) then
                 (p6 N eT Sa Xg ot) (p7,((List.set dB.2.1 (Int.toNat eM) ((List.getD dB.2.1 (Int.toNat eM) ar).1,((List.getD dB.2.1 (Int.toNat eM) ar).2.1,ua))),dB.2.2)) false (IntKind.wrap .i64 (lW+(1:Int)))
                else none))
             else none
            else none
           else none)
         else none))
     else none
    else none
   else none
  else
   ot dB tY
noncomputable def S32 (N:Nat) (a0:aa) (kf:aa→Bool→Option af):Option af:=
 P3 N a0 (fun(wa:aa)=>
  S52 N a0 (fun(dV:Bool)=>
   bif (!dV) then
    kf wa false
   else
    S48 N a0 (fun(R5:Bool)=>
     bif (!R5) then
      kf wa false
     else
      S33 N a0 (fun(CU:(List Int))=>
       bif (decide ((List.length CU:Int)>(0:Int))) then
        kf wa false
       else
        p6 N a0 (([]:(List ah)),(([]:(List bn)),(([]:(List cz)),(([]:(List Int)),(([]:(List a7)),(([]:(List br)),(0:Int))))))) N (fun(Sb:aa) (ahz:Bool)=>
         P4 N a0 (Sb.1,(Sb.2.1,(([]:(List cz)),(([]:(List Int)),(([]:(List a7)),(Sb.2.2.2.2.2.1,(IntKind.wrap .i64 (a0.2.2.2.2.2.2+(List.length a0.2.2.1:Int))))))))) ahz (5:Int) (0:Int) kf) wa true (0:Int)))))
noncomputable def S34 (N:Nat) (a0:aa) (a1:Int) (a2:Int) (a3:Int) (kf:aa→Bool→Option af):Option af:=
 P3 N a0 (fun(jZ:aa)=>
  S52 N a0 (fun(zC:Bool)=>
   bif (!zC) then
    kf jZ false
   else
    mC N a1 (0:Int) (IntKind.wrap .i64 ((List.length a0.2.2.1:Int) - (1:Int))) (fun(aQ:Bool)=>
     bif (!aQ) then
      kf jZ false
     else
      bif (bw a1 (List.length a0.2.2.2.2.1)) then
       bif (!((decide (((List.getD a0.2.2.2.2.1 (Int.toNat a1) aT).1:Int)=(0:Int)))&&((decide (((List.getD a0.2.2.2.2.1 (Int.toNat a1) aT).2.1:Int)=(0:Int)))&&(decide (((List.getD a0.2.2.2.2.1 (Int.toNat a1) aT).2.2:Int)=(0:Int)))))) then
        kf jZ false
       else
        bif (bw a1 (List.length a0.2.2.2.1)) then
         bif (bw a1 (List.length jZ.2.2.2.2.1)) then
          bif (bw a1 (List.length (List.set jZ.2.2.2.2.1 (Int.toNat a1) ((List.getD a0.2.2.2.1 (Int.toNat a1) (0:Int)),(a2,a3))))) then
           bif (bw a1 (List.length a0.2.2.2.1)) then
            YC N (List.getD (List.set jZ.2.2.2.2.1 (Int.toNat a1) ((List.getD a0.2.2.2.1 (Int.toNat a1) (0:Int)),(a2,a3))) (Int.toNat a1) aT) (fun(R1:Bool)=>
             P4 N a0 (jZ.1,(jZ.2.1,(jZ.2.2.1,(jZ.2.2.2.1,((List.set jZ.2.2.2.2.1 (Int.toNat a1) ((List.getD a0.2.2.2.1 (Int.toNat a1) (0:Int)),(a2,a3))),jZ.2.2.2.2.2))))) R1 (4:Int) (List.getD a0.2.2.2.1 (Int.toNat a1) (0:Int)) kf)
           else none
          else none
         else none
        else none
      else none)))
noncomputable def fY (N:Nat) (MS:aa):Nat→(ak→aa→Option af)→ak→aa→Int→Option af
 |0,_,_,_,_=>none
 |Xi+1,p8,YI,CV,Hp=>
  bif (decide (Hp>(0:Int))) then
   mg N YI (4:Int) (fun(Sc:Int) (MT:ak)=>
    bif (Sc==(0:Int)) then
     S31 N CV (fun(abM:aa) (ajA:Bool)=>
      (fY N MS Xi p8) MT abM (IntKind.wrap .i64 (Hp - (1:Int))))
    else
     bif (Sc==(1:Int)) then
      S32 N CV (fun(abN:aa) (ajB:Bool)=>
       (fY N MS Xi p8) MT abN (IntKind.wrap .i64 (Hp - (1:Int))))
     else
      S33 N CV (fun(KX:(List Int))=>
       bif (decide ((List.length KX:Int)>(0:Int))) then
        mg N MT (20:Int) (fun(Sd:Int) (ahA:ak)=>
         bif (bw (0:Int) (List.length KX)) then
          JU N ahA [(-2:Int),(1:Int),(3:Int)] (fun(abO:Int) (ahB:ak)=>
           S34 N CV (List.getD KX (Int.toNat (0:Int)) (0:Int)) (IntKind.wrap .i64 ((60:Int)+Sd)) (IntKind.wrap .i64 ((IntKind.wrap .i64 ((60:Int)+Sd))+abO)) (fun(abP:aa) (ajC:Bool)=>
            (fY N MS Xi p8) ahB abP (IntKind.wrap .i64 (Hp - (1:Int)))))
         else none)
       else
        S31 N CV (fun(abQ:aa) (ajD:Bool)=>
         (fY N MS Xi p8) MT abQ (IntKind.wrap .i64 (Hp - (1:Int))))))
  else
   p8 YI CV
noncomputable def sL (N:Nat) (eK:aa):Nat→(ak→aa→Option af)→ak→aa→Int→Option af
 |0,_,_,_,_=>none
 |P5+1,jf,Hl,ck,B2=>
  mg N Hl (3:Int) (fun(ahC:Int) (o9:ak)=>
   bif (decide (B2≤(IntKind.wrap .i64 ((2:Int)*(IntKind.wrap .i64 ((1:Int)+ahC)))))) then
    S29 N ck (IntKind.wrap .i64 ((2:Int)*B2)) (IntKind.wrap .i64 ((1:Int)+(Int.tmod B2 (3:Int)))) (fun(ahD:aa) (ajE:Bool)=>
     (sL N eK P5 jf) o9 ahD (IntKind.wrap .i64 (B2+(1:Int))))
   else
    jf o9 ck)
noncomputable def sM (N:Nat) (ahE:aa):Nat→(ak→aa→Option af)→ak→aa→Int→Option af
 |0,_,_,_,_=>none
 |ajF+1,MU,MQ,YJ,Se=>
  mg N MQ (4:Int) (fun(abR:Int) (YK:ak)=>
   bif (decide (Se≤(IntKind.wrap .i64 ((2:Int)+abR)))) then
    mg N YK (2:Int) (fun(abS:Int) (Sf:ak)=>
     S30 N YJ (IntKind.wrap .i64 ((10:Int)+Se)) (IntKind.wrap .i64 ((4:Int)+abS)) (fun(abT:aa) (ajG:Bool)=>
      (sM N ahE ajF MU) Sf abT (IntKind.wrap .i64 (Se+(1:Int)))))
   else
    MU YK YJ)
noncomputable def S18 (N:Nat) (a0:ak) (kf:aa→ak→Option af):Option af:=
 S27 N (fun(jK:aa)=>
  sL N (([]:(List ah)),(([]:(List bn)),(([]:(List cz)),(([]:(List Int)),(([]:(List a7)),(([]:(List br)),(0:Int))))))) N (fun(MV:ak) (ahF:aa)=>
   sM N (([]:(List ah)),(([]:(List bn)),(([]:(List cz)),(([]:(List Int)),(([]:(List a7)),(([]:(List br)),(0:Int))))))) N (fun(RN:ak) (ahG:aa)=>
    mg N RN (9:Int) (fun(abU:Int) (ahH:ak)=>
     fY N (([]:(List ah)),(([]:(List bn)),(([]:(List cz)),(([]:(List Int)),(([]:(List a7)),(([]:(List br)),(0:Int))))))) N (fun(ahI:ak) (ahJ:aa)=>
      kf ahJ ahI) ahH ahG abU)) MV ahF (1:Int)) a0 jK (1:Int))
noncomputable def YL (N:Nat) (a0:ak) (a1:Int) (kf:Bool→ak→Option af):Option af:=
 mg N a0 a1 (fun(KU:Int) (o8:ak)=>
  kf (KU==(0:Int)) o8)
noncomputable def S7 (N:Nat) (a0:(List Int)) (kf:(List cz)→(List Int)→Option af):Option af:=
 S17 N a0 (fun(KU:ak)=>
  S18 N KU (fun(R3:aa) (ajH:ak)=>
   YL N ajH (3:Int) (fun(ahK:Bool) (aj0:ak)=>
    bif ahK then
     kf R3.2.2.1 ([]:(List Int))
    else
     kf R3.2.2.1 R3.2.2.2.1)))
noncomputable def MW (N:Nat) (abV:(List ByteArray)→Int→Option af) (im:(List cz)) (p9:Int) (mS:(List ByteArray)) (abW:ByteArray):Option af:=
 zz N (List.getD im (Int.toNat p9) gU).1 (fun(gb:ByteArray)=>
  bif (decide (ByteArray.size gb+ByteArray.size cY≤9223372036854775807)) then
   zz N (List.getD im (Int.toNat p9) gU).2 (fun(fM:ByteArray)=>
    bif (decide (ByteArray.size (gb++cY)+ByteArray.size fM≤9223372036854775807)) then
     bif (decide (ByteArray.size ((gb++cY)++fM)+ByteArray.size jY≤9223372036854775807)) then
      bif (decide (ByteArray.size (((gb++cY)++fM)++jY)+ByteArray.size abW≤9223372036854775807)) then
       bif (decide ((List.length mS+List.length [((((gb++cY)++fM)++jY)++abW)])*1≤4398046511104)) then
        abV (mS++[((((gb++cY)++fM)++jY)++abW)]) (IntKind.wrap .i64 (p9+(1:Int)))
       else none
      else none
     else none
    else none)
  else none)
noncomputable def wc (N:Nat) (iy:(List Int)) (im:(List cz)) (Sg:Int):Nat→((List ByteArray)→Option af)→(List ByteArray)→Int→Option af
 |0,_,_,_=>none
 |P5+1,jf,mS,p9=>
  bif (decide (p9<Sg)) then
   bif (bw p9 (List.length im)) then
    bif (decide (p9<(List.length iy:Int))) then
     bif (bw p9 (List.length iy)) then
      zz N (List.getD iy (Int.toNat p9) (0:Int)) (fun(Hq:ByteArray)=>
       MW N (wc N iy im Sg P5 jf) im p9 mS Hq)
     else none
    else
     MW N (wc N iy im Sg P5 jf) im p9 mS jX
   else none
  else
   jf mS
noncomputable def I8 (N:Nat) (a0:(List cz)) (a1:(List Int)) (kf:ByteArray→Option af):Option af:=
 wc N a1 a0 (List.length a0:Int) N (fun(Hr:(List ByteArray))=>
  Wh N Hr kf) ([]:(List ByteArray)) (0:Int)
noncomputable def D1 (Hs:Int) (abX:ak→(List bn)→Int→Option af) (ay:(List bn)) (bL:Int) (ahL:ak) (YM:(List Int)):Option af:=
 bif (decide ((List.length ay+List.length [((IntKind.wrap .i64 ((10:Int)+bL)),((IntKind.wrap .i64 ((1:Int)+Hs)),YM))])*3≤4398046511104)) then
  abX ahL (ay++[((IntKind.wrap .i64 ((10:Int)+bL)),((IntKind.wrap .i64 ((1:Int)+Hs)),YM))]) (IntKind.wrap .i64 (bL+(1:Int)))
 else none
noncomputable def mT (N:Nat):Nat→(ak→(List bn)→Option af)→ak→(List bn)→Int→Option af
 |0,_,_,_,_=>none
 |tT+1,D2,aj,ay,bL=>
  mg N aj (5:Int) (fun(aby:Int) (ki:ak)=>
   bif (decide (bL≤(IntKind.wrap .i64 ((1:Int)+aby)))) then
    mg N ki (5:Int) (fun(Hs:Int) (o9:ak)=>
     YL N o9 (3:Int) (fun(ahM:Bool) (CW:ak)=>
      bif ahM then
       mg N CW (6:Int) (fun(abY:Int) (ahN:ak)=>
        share [(IntKind.wrap .i64 ((2:Int)*(IntKind.wrap .i64 ((1:Int)+abY))))] (fun(ahO:(List Int))=>
         D1 Hs (mT N tT D2) ay bL ahN ahO))
      else
       D1 Hs (mT N tT D2) ay bL CW ([]:(List Int))))
   else
    D2 ki ay)
noncomputable def S59 (N:Nat) (a0:ak) (kf:(List bn)→ak→Option af):Option af:=
 mT N N (fun(zy:ak) (ahP:(List bn))=>
  kf ahP zy) a0 ([]:(List bn)) (1:Int)
noncomputable def S61 (N:Nat) (a0:ak) (kf:(List bn)→ak→Option af):Option af:=
 S59 N a0 (fun(cF:(List bn)) (o8:ak)=>
  mg N o8 (List.length cF:Int) (fun(cA:Int) (zt:ak)=>
   mg N zt (12:Int) (fun(tV:Int) (ki:ak)=>
    bif (tV==(0:Int)) then
     JU N ki [(0:Int),(11:Int),(99:Int),(100:Int)] (fun(RP:Int) (o9:ak)=>
      bif (bw cA (List.length cF)) then
       share (List.set cF (Int.toNat cA) (RP,(List.getD cF (Int.toNat cA) ar).2)) (fun(RQ:(List bn))=>
        kf RQ o9)
      else none)
    else
     bif (tV==(1:Int)) then
      JU N ki [(0:Int),(99:Int),(100:Int)] (fun(KO:Int) (pR:ak)=>
       bif (bw cA (List.length cF)) then
        share (List.set cF (Int.toNat cA) ((List.getD cF (Int.toNat cA) ar).1,(KO,(List.getD cF (Int.toNat cA) ar).2.2))) (fun(Hf:(List bn))=>
         kf Hf pR)
       else none)
     else
      bif (tV==(2:Int)) then
       bif (bw cA (List.length cF)) then
        share (List.set cF (Int.toNat cA) ((List.getD cF (Int.toNat cA) ar).1,((List.getD cF (Int.toNat cA) ar).2.1,[(4:Int),(4:Int)]))) (fun(ahQ:(List bn))=>
         kf ahQ ki)
       else none
      else
       kf cF ki)))
noncomputable def vi (N:Nat):Nat→(ak→(List br)→Option af)→ak→(List br)→Int→Option af
 |0,_,_,_,_=>none
 |P5+1,gF,Sh,ck,B2=>
  bif (decide (B2>(0:Int))) then
   mg N Sh (9:Int) (fun(ahR:Int) (o9:ak)=>
    mg N o9 (5:Int) (fun(ahS:Int) (CW:ak)=>
     S67 N ck (IntKind.wrap .i64 ((1:Int)+ahR)) ahS (fun(KY:(List br)) (abZ:Bool)=>
      (vi N P5 gF) CW KY (IntKind.wrap .i64 (B2 - (1:Int))))))
  else
   gF Sh ck
noncomputable def S62 (N:Nat) (a0:ak) (kf:(List br)→ak→Option af):Option af:=
 mg N a0 (9:Int) (fun(ajI:Int) (o8:ak)=>
  vi N N (fun(YN:ak) (gz:(List br))=>
   bif (decide ((List.length gz:Int)>(0:Int))) then
    mg N YN (List.length gz:Int) (fun(fN:Int) (zy:ak)=>
     mg N zy (10:Int) (fun(KZ:Int) (mD:ak)=>
      bif (KZ==(0:Int)) then
       JU N mD [(-1:Int),(99:Int),(100:Int)] (fun(ab0:Int) (He:ak)=>
        bif (bw fN (List.length gz)) then
         share (List.set gz (Int.toNat fN) ((List.getD gz (Int.toNat fN) dT).1,((List.getD gz (Int.toNat fN) dT).2.1,(ab0,(List.getD gz (Int.toNat fN) dT).2.2.2)))) (fun(ahT:(List br))=>
          kf ahT He)
        else none)
      else
       bif (KZ==(1:Int)) then
        bif (bw fN (List.length gz)) then
         bif (bw fN (List.length gz)) then
          share (List.set gz (Int.toNat fN) ((List.getD gz (Int.toNat fN) dT).1,((List.getD gz (Int.toNat fN) dT).2.1,((List.getD gz (Int.toNat fN) dT).2.2.1,(IntKind.wrap .i64 ((List.getD gz (Int.toNat fN) dT).2.2.2+(1:Int))))))) (fun(ahU:(List br))=>
           kf ahU mD)
         else none
        else none
       else
        bif (KZ==(2:Int)) then
         bif (bw fN (List.length gz)) then
          bif (bw fN (List.length gz)) then
           share (List.set gz (Int.toNat fN) ((IntKind.wrap .i64 ((List.getD gz (Int.toNat fN) dT).1+(1:Int))),(List.getD gz (Int.toNat fN) dT).2)) (fun(ahV:(List br))=>
            kf ahV mD)
          else none
         else none
        else
         kf gz mD))
   else
    kf gz YN) o8 ([]:(List br)) ajI)
abbrev mH:Type:=Nat→ak→((List ah)→ak→Option af)→Option af
abbrev mI:Type:=Nat→ak→((List bn)→ak→Option af)→Option af
abbrev xO:Type:=Nat→(List ah)→(Int→Option af)→Option af
abbrev xP:Type:=Nat→(List ah)→((List cz)→Bool→Option af)→Option af
abbrev xQ:Type:=Nat→(List ah)→(List bn)→(List cz)→((List Int)→Bool→Option af)→Option af
abbrev xR:Type:=Nat→ak→Int→(Bool→ak→Option af)→Option af
abbrev xS:Type:=Nat→ak→Int→(Int→ak→Option af)→Option af
abbrev xT:Type:=Nat→ak→((List br)→ak→Option af)→Option af
noncomputable def jz (g0:mH) (g1:mI) (g2:xO) (g3:xP) (g4:xQ) (g5:xR) (g6:xS) (g7:mH) (g8:mI) (g9:xT) (kf:aa→ak→Option af) (ub:(List cz)) (ahW:ak) (ahX:(List ah)) (ahY:(List bn)) (ahZ:(List Int)) (ah0:(List a7)) (ah1:(List br)) (ah2:Int):Option af:=
 kf (ahX,(ahY,(ub,(ahZ,(ah0,(ah1,ah2)))))) ahW
noncomputable def jA (g0:mH) (g1:mI) (g2:xO) (g3:xP) (g4:xQ) (g5:xR) (g6:xS) (g7:mH) (g8:mI) (g9:xT) (N:Nat) (kf:aa→ak→Option af) (mJ:(List bn)) (ga:Int) (jK:(List ah)) (ah3:ak) (ub:(List cz)) (we:(List Int)) (wg:(List a7)):Option af:=
 g6 N ah3 (12:Int) (fun(vj:Int) (mD:ak)=>
  bif (vj==(0:Int)) then
   g7 N mD (fun(ab1:(List ah)) (He:ak)=>
    jz g0 g1 g2 g3 g4 g5 g6 g7 g8 g9 kf ub He ab1 mJ we wg ([]:(List br)) ga)
  else
   bif (vj==(1:Int)) then
    g8 N mD (fun(ab2:(List bn)) (RL:ak)=>
     jz g0 g1 g2 g3 g4 g5 g6 g7 g8 g9 kf ub RL jK ab2 we wg ([]:(List br)) ga)
   else
    bif (vj==(2:Int)) then
     jz g0 g1 g2 g3 g4 g5 g6 g7 g8 g9 kf ub mD jK mJ we wg ([]:(List br)) (IntKind.wrap .i64 (ga+(1:Int)))
    else
     bif (vj==(3:Int)) then
      g9 N mD (fun(ab3:(List br)) (RM:ak)=>
       jz g0 g1 g2 g3 g4 g5 g6 g7 g8 g9 kf ub RM jK mJ we wg ab3 ga)
     else
      bif (vj==(4:Int)) then
       bif (decide ((List.length we+List.length [(11:Int)])*1≤4398046511104)) then
        jz g0 g1 g2 g3 g4 g5 g6 g7 g8 g9 kf ub mD jK mJ (we++[(11:Int)]) wg ([]:(List br)) ga
       else none
      else
       bif (vj==(5:Int)) then
        bif (decide ((List.length wg+List.length [((0:Int),((0:Int),(0:Int)))])*3≤4398046511104)) then
         jz g0 g1 g2 g3 g4 g5 g6 g7 g8 g9 kf ub mD jK mJ we (wg++[((0:Int),((0:Int),(0:Int)))]) ([]:(List br)) ga
        else none
       else
        jz g0 g1 g2 g3 g4 g5 g6 g7 g8 g9 kf ub mD jK mJ we wg ([]:(List br)) ga)
noncomputable def Si (g0:mH) (g1:mI) (g2:xO) (g3:xP) (g4:xQ) (g5:xR) (g6:xS) (g7:mH) (g8:mI) (g9:xT) (N:Nat) (a0:ak) (kf:aa→ak→Option af):Option af:=
 g0 N a0 (fun(jK:(List ah)) (o8:ak)=>
  g1 N o8 (fun(mJ:(List bn)) (zt:ak)=>
   g2 N jK (fun(ga:Int)=>
    g3 N jK (fun(nF:(List cz)) (jx:Bool)=>
     g4 N jK mJ nF (fun(Ht:(List Int)) (gb:Bool)=>
      bif jx then
       bif gb then
        g5 N zt (3:Int) (fun(ab4:Bool) (pR:ak)=>
         bif (!ab4) then
          bif (decide ((List.length nF:Int)=(List.length nF:Int))&&decide ((0:Int)≤(List.length nF:Int))&&decide ((List.length nF:Int)≤1099511627776)) then
           bif (decide ((List.length nF:Int)>(0:Int))) then
            g5 N pR (2:Int) (fun(ab5:Bool) (MV:ak)=>
             bif ab5 then
              bif (bw (0:Int) (List.length Ht)) then
               bif (bw (0:Int) (List.length (List.replicate (Int.toNat (List.length nF:Int)) ((0:Int),((0:Int),(0:Int)))))) then
                share (List.set (List.replicate (Int.toNat (List.length nF:Int)) ((0:Int),((0:Int),(0:Int)))) (Int.toNat (0:Int)) ((List.getD Ht (Int.toNat (0:Int)) (0:Int)),((70:Int),(60:Int)))) (fun(ah4:(List a7))=>
                 jA g0 g1 g2 g3 g4 g5 g6 g7 g8 g9 N kf mJ ga jK MV nF Ht ah4)
               else none
              else none
             else
              jA g0 g1 g2 g3 g4 g5 g6 g7 g8 g9 N kf mJ ga jK MV nF Ht (List.replicate (Int.toNat (List.length nF:Int)) ((0:Int),((0:Int),(0:Int)))))
           else
            jA g0 g1 g2 g3 g4 g5 g6 g7 g8 g9 N kf mJ ga jK pR nF Ht (List.replicate (Int.toNat (List.length nF:Int)) ((0:Int),((0:Int),(0:Int))))
          else none
         else
          jA g0 g1 g2 g3 g4 g5 g6 g7 g8 g9 N kf mJ ga jK pR ([]:(List cz)) ([]:(List Int)) ([]:(List a7)))
       else
        jA g0 g1 g2 g3 g4 g5 g6 g7 g8 g9 N kf mJ ga jK zt ([]:(List cz)) ([]:(List Int)) ([]:(List a7))
      else
       jA g0 g1 g2 g3 g4 g5 g6 g7 g8 g9 N kf mJ ga jK zt ([]:(List cz)) ([]:(List Int)) ([]:(List a7)))))))
noncomputable def S36 (N:Nat) (a0:ak) (kf:aa→ak→Option af):Option af:=Si S39 S59 YA YG Xh YL mg S24 S61 S62 N a0 kf
noncomputable def S21 (N:Nat) (a0:(List Int)) (kf:aa→Option af):Option af:=
 S17 N a0 (fun(ve:ak)=>
  S36 N ve (fun(RS:aa) (ahb:ak)=>
   kf RS))
noncomputable def S10 (N:Nat) (a0:(List Int)) (kf:aa→Option af):Option af:=
 S21 N a0 kf
noncomputable def qa (gm:(List a7)) (K0:Int):Nat→((List Int)→Option af)→(List Int)→Int→Option af
 |0,_,_,_=>none
 |v8+1,dE,bW,jB=>
  bif (decide (jB<K0)) then
   bif (bw jB (List.length gm)) then
    bif ((decide (((List.getD gm (Int.toNat jB) aT).1:Int)=(0:Int)))&&((decide (((List.getD gm (Int.toNat jB) aT).2.1:Int)=(0:Int)))&&(decide (((List.getD gm (Int.toNat jB) aT).2.2:Int)=(0:Int))))) then
     bif (decide ((List.length bW+List.length [jB])*1≤4398046511104)) then
      (qa gm K0 v8 dE) (bW++[jB]) (IntKind.wrap .i64 (jB+(1:Int)))
     else none
    else
     (qa gm K0 v8 dE) bW (IntKind.wrap .i64 (jB+(1:Int)))
   else none
  else
   dE bW
noncomputable def I20 (N:Nat) (a0:aa) (kf:(List Int)→Option af):Option af:=
 qa a0.2.2.2.2.1 (List.length a0.2.2.2.2.1:Int) N kf ([]:(List Int)) (0:Int)
noncomputable def sO (N:Nat) (gw:(List Int)) (RT:Int):Nat→((List ByteArray)→Option af)→(List ByteArray)→Int→Option af
 |0,_,_,_=>none
 |v8+1,dE,bW,xB=>
  bif (decide (xB<RT)) then
   bif (bw xB (List.length gw)) then
    zz N (List.getD gw (Int.toNat xB) (0:Int)) (fun(oZ:ByteArray)=>
     bif (decide ((List.length bW+List.length [oZ])*1≤4398046511104)) then
      (sO N gw RT v8 dE) (bW++[oZ]) (IntKind.wrap .i64 (xB+(1:Int)))
     else none)
   else none
  else
   dE bW
noncomputable def I12 (N:Nat) (a0:(List Int)) (kf:ByteArray→Option af):Option af:=
 sO N a0 (List.length a0:Int) N (fun(ajJ:(List ByteArray))=>
  Wh N ajJ kf) ([]:(List ByteArray)) (0:Int)
noncomputable def I9 (N:Nat) (a0:aa) (kf:ByteArray→Option af):Option af:=
 I20 N a0 (fun(jZ:(List Int))=>
  I12 N [(List.length a0.1:Int),(List.length a0.2.1:Int),(List.length a0.2.2.1:Int),(List.length jZ:Int),a0.2.2.2.2.2.2,(List.length a0.2.2.2.2.2.1:Int)] kf)
noncomputable def qb (N:Nat) (aj:(List a7)):Nat→(Option af)→(Bool→Option af)→Int→Option af
 |0,_,_,_=>none
 |RF+1,sQ,iR,ay=>
  bif (decide (ay<(List.length aj:Int))) then
   bif (bw ay (List.length aj)) then
    mC N (List.getD aj (Int.toNat ay) aT).1 (1:Int) (99:Int) (fun(Sj:Bool)=>
     bif (!Sj) then
      iR false
     else
      bif (bw ay (List.length aj)) then
       mC N (List.getD aj (Int.toNat ay) aT).2.1 (1:Int) (2:Int) (fun(mE:Bool)=>
        bif (!mE) then
         iR false
        else
         bif (bw ay (List.length aj)) then
          mC N (List.getD aj (Int.toNat ay) aT).2.2 (0:Int) (4:Int) (fun(tW:Bool)=>
           bif (!tW) then
            iR false
           else
            bif (decide (ay>(0:Int))) then
             bif (bw (IntKind.wrap .i64 (ay - (1:Int))) (List.length aj)) then
              bif (bw ay (List.length aj)) then
               bif (decide ((List.getD aj (Int.toNat (IntKind.wrap .i64 (ay - (1:Int)))) aT).1≥(List.getD aj (Int.toNat ay) aT).1)) then
                iR false
               else
                (qb N aj RF sQ iR) (IntKind.wrap .i64 (ay+(1:Int)))
              else none
             else none
            else
             (qb N aj RF sQ iR) (IntKind.wrap .i64 (ay+(1:Int))))
         else none)
      else none)
   else none
  else
   sQ
noncomputable def YO (N:Nat) (a0:(List a7)) (kf:Bool→Option af):Option af:=
 qb N a0 N (kf (decide ((List.length a0:Int)≤(30:Int)))) kf (0:Int)
noncomputable def qc (aj:(List a7)) (aV:Int) (eK:Int):Nat→(Int→Option af)→Int→Option af
 |0,_,_=>none
 |v8+1,qd,Pu=>
  bif (decide (Pu<(List.length aj:Int))) then
   bif (bw Pu (List.length aj)) then
    bif (decide ((List.getD aj (Int.toNat Pu) aT).1<aV)) then
     (qc aj aV eK v8 qd) (IntKind.wrap .i64 (Pu+(1:Int)))
    else
     qd Pu
   else none
  else
   qd Pu
noncomputable def S81 (N:Nat) (a0:(List a7)) (a1:Int) (a2:Int) (kf:(List a7)→Bool→Option af):Option af:=
 qc a0 a1 a2 N (fun(xC:Int)=>
  bif (decide ((0:Int)≤(0:Int))&&decide ((0:Int)≤xC)&&decide (xC≤(List.length a0:Int))) then
   bif (decide ((0:Int)≤xC)&&decide (xC≤(List.length a0:Int))&&decide ((List.length a0:Int)≤(List.length a0:Int))) then
    bif (decide ((List.length ([]:(List a7))+List.length (List.drop (Int.toNat (0:Int)) (List.take (Int.toNat xC) a0)))*3≤4398046511104)) then
     bif (decide ((List.length (([]:(List a7))++(List.drop (Int.toNat (0:Int)) (List.take (Int.toNat xC) a0)))+List.length [(a1,(a2,(0:Int)))])*3≤4398046511104)) then
      bif (decide ((List.length ((([]:(List a7))++(List.drop (Int.toNat (0:Int)) (List.take (Int.toNat xC) a0)))++[(a1,(a2,(0:Int)))])+List.length (List.drop (Int.toNat xC) (List.take (Int.toNat (List.length a0:Int)) a0)))*3≤4398046511104)) then
       YO N (((([]:(List a7))++(List.drop (Int.toNat (0:Int)) (List.take (Int.toNat xC) a0)))++[(a1,(a2,(0:Int)))])++(List.drop (Int.toNat xC) (List.take (Int.toNat (List.length a0:Int)) a0))) (fun(Sk:Bool)=>
        bif (!Sk) then
         bif (decide ((List.length ([]:(List a7))+List.length a0)*3≤4398046511104)) then
          kf (([]:(List a7))++a0) false
         else none
        else
         kf (((([]:(List a7))++(List.drop (Int.toNat (0:Int)) (List.take (Int.toNat xC) a0)))++[(a1,(a2,(0:Int)))])++(List.drop (Int.toNat xC) (List.take (Int.toNat (List.length a0:Int)) a0))) true)
      else none
     else none
    else none
   else none
  else none) (0:Int)
noncomputable def K1 (eF:(List a7)→Bool→Option af) (zN:Bool) (ou:Int→Option af) (aj:(List a7)) (cv:(List a7)) (cd:Int) (aV:Int) (ck:Int):Option af:=
 bif ((List.getD aj (Int.toNat cd) aT).1==aV) then
  bif zN then
   bif (bw cd (List.length cv)) then
    eF (List.set cv (Int.toNat cd) ((List.getD cv (Int.toNat cd) aT).1,((List.getD cv (Int.toNat cd) aT).2.1,ck))) true
   else none
  else
   ou (IntKind.wrap .i64 (cd+(1:Int)))
 else
  ou (IntKind.wrap .i64 (cd+(1:Int)))
noncomputable def K2 (N:Nat) (eF:(List a7)→Bool→Option af) (ou:Int→Option af) (aj:(List a7)) (cv:(List a7)) (cd:Int) (aV:Int) (eK:Int) (ck:Int):Option af:=
 bif ((List.getD aj (Int.toNat cd) aT).2.2==(2:Int)) then
  bif (eK==(List.getD aj (Int.toNat cd) aT).2.1) then
   mC N ck (3:Int) (4:Int) (fun(ab6:Bool)=>
    bif ((List.getD aj (Int.toNat cd) aT).1==aV) then
     bif ab6 then
      bif (bw cd (List.length cv)) then
       eF (List.set cv (Int.toNat cd) ((List.getD cv (Int.toNat cd) aT).1,((List.getD cv (Int.toNat cd) aT).2.1,ck))) true
      else none
     else
      ou (IntKind.wrap .i64 (cd+(1:Int)))
    else
     ou (IntKind.wrap .i64 (cd+(1:Int))))
  else
   bif ((List.getD aj (Int.toNat cd) aT).1==aV) then
    ou (IntKind.wrap .i64 (cd+(1:Int)))
   else
    ou (IntKind.wrap .i64 (cd+(1:Int)))
 else
  bif ((List.getD aj (Int.toNat cd) aT).1==aV) then
   ou (IntKind.wrap .i64 (cd+(1:Int)))
  else
   ou (IntKind.wrap .i64 (cd+(1:Int)))
noncomputable def lX (N:Nat) (aj:(List a7)) (aV:Int) (eK:Int) (ck:Int) (cv:(List a7)):Nat→(Option af)→((List a7)→Bool→Option af)→Int→Option af
 |0,_,_,_=>none
 |YB+1,gF,eF,cd=>
  bif (decide (cd<(List.length aj:Int))) then
   YO N aj (fun(ah5:Bool)=>
    bif ah5 then
     mC N eK (1:Int) (2:Int) (fun(ah6:Bool)=>
      bif ah6 then
       bif (bw cd (List.length aj)) then
        bif ((List.getD aj (Int.toNat cd) aT).2.2==(0:Int)) then
         bif (eK != (List.getD aj (Int.toNat cd) aT).2.1) then
          mC N ck (1:Int) (2:Int) (fun(zN:Bool)=>
           bif ((List.getD aj (Int.toNat cd) aT).2.2==(2:Int)) then
            bif (eK==(List.getD aj (Int.toNat cd) aT).2.1) then
             mC N ck (3:Int) (4:Int) (fun(ab7:Bool)=>
              bif ((List.getD aj (Int.toNat cd) aT).1==aV) then
               bif zN then
                bif (bw cd (List.length cv)) then
                 eF (List.set cv (Int.toNat cd) ((List.getD cv (Int.toNat cd) aT).1,((List.getD cv (Int.toNat cd) aT).2.1,ck))) true
                else none
               else
                bif ab7 then
                 bif (bw cd (List.length cv)) then
                  eF (List.set cv (Int.toNat cd) ((List.getD cv (Int.toNat cd) aT).1,((List.getD cv (Int.toNat cd) aT).2.1,ck))) true
                 else none
                else
                 (lX N aj aV eK ck cv YB gF eF) (IntKind.wrap .i64 (cd+(1:Int)))
              else
               (lX N aj aV eK ck cv YB gF eF) (IntKind.wrap .i64 (cd+(1:Int))))
            else
             K1 eF zN (lX N aj aV eK ck cv YB gF eF) aj cv cd aV ck
           else
            K1 eF zN (lX N aj aV eK ck cv YB gF eF) aj cv cd aV ck)
         else
          K2 N eF (lX N aj aV eK ck cv YB gF eF) aj cv cd aV eK ck
        else
         K2 N eF (lX N aj aV eK ck cv YB gF eF) aj cv cd aV eK ck
       else none
      else
       gF)
    else
     gF)
  else
   gF
noncomputable def S82 (N:Nat) (a0:(List a7)) (a1:Int) (a2:Int) (a3:Int) (kf:(List a7)→Bool→Option af):Option af:=
 bif (decide ((List.length ([]:(List a7))+List.length a0)*3≤4398046511104)) then
  lX N a0 a1 a2 a3 (([]:(List a7))++a0) N (kf (([]:(List a7))++a0) false) kf (0:Int)
 else none
noncomputable def vk (N:Nat):Nat→(ak→(List a7)→Option af)→ak→(List a7)→Int→Option af
 |0,_,_,_,_=>none
 |P5+1,MX,Sh,ck,B2=>
  bif (decide (B2>(0:Int))) then
   mg N Sh (6:Int) (fun(ah7:Int) (o9:ak)=>
    mg N o9 (2:Int) (fun(ah8:Int) (CW:ak)=>
     S81 N ck (IntKind.wrap .i64 ((1:Int)+ah7)) (IntKind.wrap .i64 ((1:Int)+ah8)) (fun(KY:(List a7)) (abZ:Bool)=>
      mg N CW (6:Int) (fun(ab8:Int) (zx:ak)=>
       mg N zx (2:Int) (fun(ab9:Int) (ah9:ak)=>
        mg N ah9 (4:Int) (fun(ab':Int) (zy:ak)=>
         S82 N KY (IntKind.wrap .i64 ((1:Int)+ab8)) (IntKind.wrap .i64 ((1:Int)+ab9)) (IntKind.wrap .i64 ((1:Int)+ab')) (fun(aca:(List a7)) (ajK:Bool)=>
          (vk N P5 MX) zy aca (IntKind.wrap .i64 (B2 - (1:Int))))))))))
  else
   MX Sh ck
noncomputable def S63 (N:Nat) (a0:ak) (kf:(List a7)→ak→Option af):Option af:=
 mg N a0 (10:Int) (fun(KU:Int) (o8:ak)=>
  vk N N (fun(Sf:ak) (ah':(List a7))=>
   kf ah' Sf) o8 ([]:(List a7)) KU)
noncomputable def S37 (N:Nat) (a0:ak) (kf:(List a7)→ak→Option af):Option af:=
 S63 N a0 (fun(cF:(List a7)) (o8:ak)=>
  bif (decide ((List.length cF:Int)>(0:Int))) then
   mg N o8 (List.length cF:Int) (fun(qe:Int) (zt:ak)=>
    mg N zt (12:Int) (fun(ga:Int) (ki:ak)=>
     bif (ga==(0:Int)) then
      JU N ki [(0:Int),(1:Int),(99:Int),(100:Int)] (fun(aia:Int) (o9:ak)=>
       bif (bw qe (List.length cF)) then
        share (List.set cF (Int.toNat qe) (aia,(List.getD cF (Int.toNat qe) aT).2)) (fun(RQ:(List a7))=>
         kf RQ o9)
       else none)
     else
      bif (ga==(1:Int)) then
       JU N ki [(0:Int),(2:Int),(3:Int)] (fun(acb:Int) (pR:ak)=>
        bif (bw qe (List.length cF)) then
         share (List.set cF (Int.toNat qe) ((List.getD cF (Int.toNat qe) aT).1,(acb,(List.getD cF (Int.toNat qe) aT).2.2))) (fun(Hf:(List a7))=>
          kf Hf pR)
        else none)
      else
       bif (ga==(2:Int)) then
        JU N ki [(-1:Int),(4:Int),(5:Int)] (fun(acd:Int) (zx:ak)=>
         bif (bw qe (List.length cF)) then
          share (List.set cF (Int.toNat qe) ((List.getD cF (Int.toNat qe) aT).1,((List.getD cF (Int.toNat qe) aT).2.1,acd))) (fun(RR:(List a7))=>
           kf RR zx)
         else none)
       else
        kf cF ki))
  else
   kf cF o8)
noncomputable def S22 (N:Nat) (a0:(List Int)) (kf:(List a7)→Option af):Option af:=
 S17 N a0 (fun(ve:ak)=>
  S37 N ve (fun(RS:(List a7)) (ahb:ak)=>
   kf RS))
noncomputable def S11 (N:Nat) (a0:(List Int)) (kf:(List a7)→Option af):Option af:=
 S22 N a0 kf
noncomputable def I38 (N:Nat) (a0:Int) (a1:Int) (a2:Int) (kf:Bool→Option af):Option af:=
 bif (decide (a1≤a0)) then
  kf (decide (a0≤a2))
 else
  kf false
noncomputable def I23 (N:Nat) (a0:a7) (kf:ByteArray→Option af):Option af:=
 I38 N a0.2.1 (1:Int) (2:Int) (fun(ve:Bool)=>
  bif (!ve) then
   kf RE
  else
   I38 N a0.2.2 (0:Int) (4:Int) (fun(aib:Bool)=>
    bif (!aib) then
     kf RE
    else
     bif (decide ((0:Int)≤a0.2.2)&&decide (a0.2.2≤(IntKind.wrap .i64 (a0.2.2+(1:Int))))&&decide ((IntKind.wrap .i64 (a0.2.2+(1:Int)))≤(ByteArray.size dt:Int))) then
      zz N a0.1 (fun(zI:ByteArray)=>
       bif (decide (ByteArray.size zI+ByteArray.size dU≤9223372036854775807)) then
        zz N a0.2.1 (fun(zu:ByteArray)=>
         bif (decide (ByteArray.size (zI++dU)+ByteArray.size zu≤9223372036854775807)) then
          bif (decide (ByteArray.size ((zI++dU)++zu)+ByteArray.size (ByteArray.extract dt (Int.toNat a0.2.2) (Int.toNat (IntKind.wrap .i64 (a0.2.2+(1:Int)))))≤9223372036854775807)) then
           kf (((zI++dU)++zu)++(ByteArray.extract dt (Int.toNat a0.2.2) (Int.toNat (IntKind.wrap .i64 (a0.2.2+(1:Int))))))
          else none
         else none)
       else none)
     else none))
noncomputable def D3 (aic:(List ByteArray)→Int→Option af) (jB:Int) (bW:(List ByteArray)) (aid:ByteArray):Option af:=
 bif (decide ((List.length bW+List.length [aid])*1≤4398046511104)) then
  aic (bW++[aid]) (IntKind.wrap .i64 (jB+(1:Int)))
 else none
noncomputable def qf (N:Nat) (gm:(List a7)) (K0:Int):Nat→((List ByteArray)→Option af)→(List ByteArray)→Int→Option af
 |0,_,_,_=>none
 |v8+1,dF,bW,jB=>
  bif (decide (jB<K0)) then
   bif (bw jB (List.length gm)) then
    I23 N (List.getD gm (Int.toNat jB) aT) (fun(oZ:ByteArray)=>
     bif (ByteArray.toList oZ==ByteArray.toList RE) then
      D3 (qf N gm K0 v8 dF) jB bW jX
     else
      D3 (qf N gm K0 v8 dF) jB bW oZ)
   else none
  else
   dF bW
noncomputable def I13 (N:Nat) (a0:(List a7)) (kf:ByteArray→Option af):Option af:=
 qf N a0 (List.length a0:Int) N (fun(aie:(List ByteArray))=>
  Wh N aie kf) ([]:(List ByteArray)) (0:Int)
abbrev Sl:Type:=Nat→(List Int)→(Bool→Option af)→Option af
abbrev Sm:Type:=Nat→(List Int)→((List ah)→Option af)→Option af
abbrev Sn:Type:=Nat→(List ah)→(ByteArray→Option af)→Option af
abbrev So:Type:=Nat→(List Int)→((List cz)→(List Int)→Option af)→Option af
abbrev Sp:Type:=Nat→(List cz)→(List Int)→(ByteArray→Option af)→Option af
abbrev Sq:Type:=Nat→(List Int)→(aa→Option af)→Option af
abbrev Sr:Type:=Nat→aa→(ByteArray→Option af)→Option af
abbrev Ss:Type:=Nat→(List Int)→((List a7)→Option af)→Option af
abbrev Su:Type:=Nat→(List Int)→(ByteArray→Option af)→Option af
abbrev Sv:Type:=Nat→(List a7)→(ByteArray→Option af)→Option af
abbrev MY:Type:=(List Int)→(List ah)→ByteArray→Nat→(Int→Option af)→Int→Int→Option af
abbrev MZ:Type:=(List Int)→(List ah)→Int→(List cz)→ByteArray→Nat→(Int→Option af)→Int→Int→Option af
abbrev M0:Type:=(List Int)→(List ah)→Int→(List cz)→Int→ByteArray→Nat→(Int→Option af)→Int→Int→Option af
noncomputable def qg (YP:(List Int)) (jy:(List ah)) (YQ:Int) (wb:(List cz)) (Hu:ByteArray):Nat→(Int→Option af)→Int→Int→Option af
 |0,_,_,_=>none
 |aif+1,zO,K3,zP=>
  bif (decide (zP<(ByteArray.size Hu:Int))) then
   bif (bw zP (ByteArray.size Hu)) then
    bif ((bt Hu zP)==(64:Int)) then
     (qg YP jy YQ wb Hu aif zO) (IntKind.wrap .i64 (K3+(1:Int))) (IntKind.wrap .i64 (zP+(1:Int)))
    else
     (qg YP jy YQ wb Hu aif zO) K3 (IntKind.wrap .i64 (zP+(1:Int)))
   else none
  else
   zO K3
noncomputable def qh (YR:(List Int)) (YS:(List ah)) (YT:Int) (YU:(List cz)) (Sw:Int) (zQ:ByteArray):Nat→(Int→Option af)→Int→Int→Option af
 |0,_,_,_=>none
 |aih+1,zR,K4,zS=>
  bif (decide (zS<(ByteArray.size zQ:Int))) then
   bif (bw zS (ByteArray.size zQ)) then
    bif ((bt zQ zS)==(32:Int)) then
     (qh YR YS YT YU Sw zQ aih zR) (IntKind.wrap .i64 (K4+(1:Int))) (IntKind.wrap .i64 (zS+(1:Int)))
    else
     (qh YR YS YT YU Sw zQ aih zR) K4 (IntKind.wrap .i64 (zS+(1:Int)))
   else none
  else
   zR K4
noncomputable def wh (aii:(List Int)) (oo:(List ah)) (Sx:ByteArray):Nat→(Int→Option af)→Int→Int→Option af
 |0,_,_,_=>none
 |n_9+1,ik,ace,Sy=>
  bif (decide (Sy<(ByteArray.size Sx:Int))) then
   bif (bw Sy (ByteArray.size Sx)) then
    bif ((bt Sx Sy)==(61:Int)) then
     (wh aii oo Sx n_9 ik) (IntKind.wrap .i64 (ace+(1:Int))) (IntKind.wrap .i64 (Sy+(1:Int)))
    else
     (wh aii oo Sx n_9 ik) ace (IntKind.wrap .i64 (Sy+(1:Int)))
   else none
  else
   ik ace
noncomputable def Xj (g0:Sl) (g1:Sm) (g2:Sn) (g3:So) (g4:Sp) (g5:Sq) (g6:Sr) (g7:Ss) (g8:Su) (g9:Sv) (g10:MY) (g11:MZ) (g12:M0) (N:Nat) (a0:(List Int)) (kf:Bool→Option af):Option af:=
 g0 N a0 (fun(RW:Bool)=>
  bif RW then
   kf true
  else
   g1 N a0 (fun(pT:(List ah))=>
    g2 N pT (fun(aij:ByteArray)=>
     g10 a0 pT aij N (fun(Hr:Int)=>
      g3 N a0 (fun(D4:(List cz)) (acf:(List Int))=>
       g4 N D4 acf (fun(acg:ByteArray)=>
        g11 a0 pT Hr D4 acg N (fun(Sz:Int)=>
         g5 N a0 (fun(ach:aa)=>
          g6 N ach (fun(aci:ByteArray)=>
           g12 a0 pT Hr D4 Sz aci N (fun(acj:Int)=>
            g7 N a0 (fun(SA:(List a7))=>
             bif (Hr==(List.length pT:Int)) then
              bif (Sz==(List.length D4:Int)) then
               bif (acj==(5:Int)) then
                g8 N ([]:(List Int)) (fun(ack:ByteArray)=>
                 bif (ByteArray.toList ack==ByteArray.toList cY) then
                  g9 N SA (fun(acm:ByteArray)=>
                   kf ((ByteArray.toList acm==ByteArray.toList cY)==((List.length SA:Int)==(0:Int))))
                 else
                  kf false)
               else
                kf false
              else
               kf false
             else
              kf false)) (0:Int) (0:Int)))) (0:Int) (0:Int)))) (0:Int) (0:Int))))
noncomputable def L3 (N:Nat) (a0:(List Int)) (kf:Bool→Option af):Option af:=Xj L4 S5 I6 S7 I8 S10 I9 S11 I12 I13 wh qg qh N a0 kf
end Go.Pv.R
