/- What the functions compute, as plain functions. -/
import Derived.Test.YtpcoilhcgcpjmaaGreatDoorPv5
set_option linter.unusedSimpArgs false
set_option linter.unusedVariables false
noncomputable section
namespace Go.Pv
open List Int IntKind
theorem dZ {p:Prop} [Decidable p] (h:p:=by omega):decide p=true:=af h
theorem il {p:Prop} [Decidable p] (h: ¬p:=by omega):decide p=false:=an h
theorem iD {n:Int} (h1: -9223372036854775808<=n:=by omega) (h2:n<9223372036854775808:=by omega):wrap .i64 n=n:=wrap64 h1 h2
end Go.Pv
namespace Go.Pv.R
open List Int IntKind
abbrev tQJ:Ty:=(.pair (.int .i64) (.pair (.int .i64) (.sl (.int .i64))))
abbrev QJ:Type:=(Int×(Int×(List Int)))
def jy:QJ:=((0:Int),((0:Int),([]:(List Int))))
abbrev Q5:Ty:=(.pair (.int .i64) (.pair (.int .i64) (.pair (.int .i64) (.pair (.int .i64) (.pair (.int .i64) (.sl (.int .i64)))))))
abbrev QT:Type:=(Int×(Int×(Int×(Int×(Int×(List Int))))))
def eZ:QT:=((0:Int),((0:Int),((0:Int),((0:Int),((0:Int),([]:(List Int)))))))
abbrev Fi:Ty:=(.pair (.int .i64) (.int .i64))
abbrev LR:Type:=(Int×Int)
def lI:LR:=((0:Int),(0:Int))
abbrev tQB:Ty:=(.pair (.int .i64) (.pair (.int .i64) (.int .i64)))
abbrev QB:Type:=(Int×(Int×Int))
def x4:QB:=((0:Int),((0:Int),(0:Int)))
abbrev tQL:Ty:=(.pair (.int .i64) (.pair (.int .i64) (.pair (.int .i64) (.int .i64))))
abbrev QL:Type:=(Int×(Int×(Int×Int)))
def zQL:QL:=((0:Int),((0:Int),((0:Int),(0:Int))))
abbrev TN:Ty:=(.pair (.sl Q5) (.pair (.sl tQJ) (.pair (.sl Fi) (.pair (.sl (.int .i64)) (.pair (.sl tQB) (.pair (.sl tQL) (.int .i64)))))))
abbrev QC:Type:=((List QT)×((List QJ)×((List LR)×((List Int)×((List QB)×((List QL)×Int))))))
abbrev Q6:Ty:=(.pair (.int .i64) (.sl (.sl (.int .i64))))
abbrev cZ:Type:=(Int×(List (List Int)))
abbrev bg:=List QT
abbrev du:=List QJ
abbrev iz:=List QB
abbrev lX:=List QL
abbrev aq:=List Int
abbrev dD:=List LR
abbrev Ip:=List Bool
abbrev bG:=List ByteArray
abbrev eL:=List (List Int)
abbrev Iq:=List (List Int×Bool)
def D9:ByteArray:=⟨#[]⟩
def gE:ByteArray:=⟨#[119,104,97,116]⟩
def Ir:ByteArray:=⟨#[97,108,119,97,121,115]⟩
def Be:ByteArray:=⟨#[114,111,119,115]⟩
def kx:ByteArray:=⟨#[97,98,99,100,101,102]⟩
def JV:ByteArray:=⟨#[33]⟩
def nO:ByteArray:=⟨#[40]⟩
def GJ:ByteArray:=⟨#[38]⟩
def GK:ByteArray:=⟨#[124]⟩
def GL:ByteArray:=⟨#[62]⟩
def Af:ByteArray:=⟨#[41]⟩
def s_0:ByteArray:=⟨#[48]⟩
def im:ByteArray:=⟨#[45]⟩
def aq1:ByteArray:=⟨#[121,101,115]⟩
def abz:ByteArray:=⟨#[110,111]⟩
def K1:ByteArray:=⟨#[106,111,105,110]⟩
def yV:ByteArray:=⟨#[106,117,100,103,101]⟩
def PK:ByteArray:=⟨#[112,97,105,114]⟩
def Bf:ByteArray:=⟨#[98,97,108,108,111,116]⟩
def JW:ByteArray:=⟨#[99,108,111,115,101]⟩
def EP:ByteArray:=⟨#[108,101,97,118,101]⟩
def PL:ByteArray:=⟨#[111,107]⟩
def LS:ByteArray:=⟨#[110,101,119]⟩
def p9:ByteArray:=⟨#[115,116,97,110,100,105,110,103]⟩
def Bg:ByteArray:=⟨#[32]⟩
def Bh:ByteArray:=⟨#[116,101,97,109,115]⟩
def nC:ByteArray:=⟨#[58]⟩
def rZ:ByteArray:=⟨#[47]⟩
def Ag:ByteArray:=⟨#[61]⟩
def Bi:ByteArray:=⟨#[114,111,117,110,100]⟩
def LU:ByteArray:=⟨#[63]⟩
def r9:ByteArray:=⟨#[64]⟩
def sO:ByteArray:=⟨#[119,97,105,116,105,110,103]⟩
def Bj:ByteArray:=⟨#[99,108,117,98]⟩
def ER:ByteArray:=⟨#[97,117,100,105,116]⟩
def Yd:ByteArray:=⟨#[114,101,109,97,116,99,104]⟩
def Ye:ByteArray:=⟨#[109,105,110,117,116,101,115]⟩
def aq2:ByteArray:=⟨#[115,117,109]⟩
def tZ:ByteArray:=⟨#[103,114,111,117,110,100,101,100]⟩
def tG:ByteArray:=⟨#[112,114,101,102,101,114,114,101,100]⟩
def aex:ByteArray:=⟨#[123]⟩
def aq3:ByteArray:=⟨#[44]⟩
def ah7:ByteArray:=⟨#[125]⟩
def JX:ByteArray:=⟨#[119,105,110]⟩
def aq4:ByteArray:=⟨#[10]⟩
def gN:ByteArray:=⟨#[38,124,62]⟩
def cB:ByteArray:=⟨#[0,1,2,2,3,3,3,3,4,4,4,4,4,4,4,4,5,5,5,5,5,5,5,5,5,5,5,5,5,5,5,5,6,6,6,6,6,6,6,6,6,6,6,6,6,6,6,6,6,6,6,6,6,6,6,6,6,6,6,6,6,6,6,6,7,7,7,7,7,7,7,7,7,7,7,7,7,7,7,7,7,7,7,7,7,7,7,7,7,7,7,7,7,7,7,7,7,7,7,7,7,7,7,7,7,7,7,7,7,7,7,7,7,7,7,7,7,7,7,7,7,7,7,7,7,7,7,7,8,8,8,8,8,8,8,8,8,8,8,8,8,8,8,8,8,8,8,8,8,8,8,8,8,8,8,8,8,8,8,8,8,8,8,8,8,8,8,8,8,8,8,8,8,8,8,8,8,8,8,8,8,8,8,8,8,8,8,8,8,8,8,8,8,8,8,8,8,8,8,8,8,8,8,8,8,8,8,8,8,8,8,8,8,8,8,8,8,8,8,8,8,8,8,8,8,8,8,8,8,8,8,8,8,8,8,8,8,8,8,8,8,8,8,8,8,8,8,8,8,8,8,8,8,8,8,8]⟩
def aA8:ByteArray:=⟨#[109,48]⟩
def s_m:ByteArray:=⟨#[109]⟩
def HE (N:Nat) (kf:QC->aa):aa:=
 kf (([]:bg),(([]:du),(([]:dD),(([]:aq),(([]:iz),(([]:lX),(0:Int)))))))
def xl (aq5:bG->ByteArray->Int->aa) (aE:bG) (b9:ByteArray) (cy:Int):aa:=
 bif (!(ByteArray.toList b9==ByteArray.toList D9)) then
  bif (decide ((length aE+length [b9])*1<=4398046511104)) then
   aq5 (aE++[b9]) D9 (wrap .i64 (cy+(1:Int)))
  else none
 else
  aq5 aE D9 (wrap .i64 (cy+(1:Int)))
def gO (aB:ByteArray):Nat->(bG->aa)->bG->ByteArray->Int->aa
 |0,_,_,_,_=>none
 |pB+1,ua,aE,b9,cy=>
  bif (decide (cy<=(ByteArray.size aB:Int))) then
   bif (decide (cy<(ByteArray.size aB:Int))) then
    bif (bp cy (ByteArray.size aB)) then
     bif ((bt aB cy) != (32:Int)) then
      bif (decide ((0:Int)<=cy)&&decide (cy<=(wrap .i64 (cy+(1:Int))))&&decide ((wrap .i64 (cy+(1:Int)))<=(ByteArray.size aB:Int))) then
       bif (decide (ByteArray.size b9+ByteArray.size (ByteArray.extract aB (toNat cy) (toNat (wrap .i64 (cy+(1:Int)))))<=9223372036854775807)) then
        (gO aB pB ua) aE (b9++(ByteArray.extract aB (toNat cy) (toNat (wrap .i64 (cy+(1:Int)))))) (wrap .i64 (cy+(1:Int)))
       else none
      else none
     else
      xl (gO aB pB ua) aE b9 cy
    else none
   else
    xl (gO aB pB ua) aE b9 cy
  else
   ua aE
def K2 (N:Nat) (a0:ByteArray) (kf:bG->aa):aa:=
 gO a0 N kf ([]:bG) D9 (0:Int)
def oD (aB:bg):Nat->(bg->aa)->bg->Int->aa
 |0,_,_,_=>none
 |wC+1,xR,aE,b9=>
  let dd:=(getD aB (toNat b9) eZ);
  bif (decide (b9<(length aB:Int))) then
   bif (bp b9 (length aB)) then
    bif (decide ((length ([]:aq)+length dd.2.2.2.2.2)*1<=4398046511104)) then
     bif (decide ((length aE+length [(dd.1,(dd.2.1,(dd.2.2.1,(dd.2.2.2.1,(dd.2.2.2.2.1,(([]:aq)++dd.2.2.2.2.2))))))])*6<=4398046511104)) then
      (oD aB wC xR) (aE++[(dd.1,(dd.2.1,(dd.2.2.1,(dd.2.2.2.1,(dd.2.2.2.2.1,(([]:aq)++dd.2.2.2.2.2))))))]) (wrap .i64 (b9+(1:Int)))
     else none
    else none
   else none
  else
   xR aE
def lY (N:Nat) (a0:bg) (kf:bg->aa):aa:=
 oD a0 N kf ([]:bg) (0:Int)
def lZ (aB:du):Nat->(du->aa)->du->Int->aa
 |0,_,_,_=>none
 |wC+1,xR,aE,b9=>
  bif (decide (b9<(length aB:Int))) then
   bif (bp b9 (length aB)) then
    bif (decide ((length ([]:aq)+length (getD aB (toNat b9) jy).2.2)*1<=4398046511104)) then
     bif (decide ((length aE+length [((getD aB (toNat b9) jy).1,((getD aB (toNat b9) jy).2.1,(([]:aq)++(getD aB (toNat b9) jy).2.2)))])*3<=4398046511104)) then
      (lZ aB wC xR) (aE++[((getD aB (toNat b9) jy).1,((getD aB (toNat b9) jy).2.1,(([]:aq)++(getD aB (toNat b9) jy).2.2)))]) (wrap .i64 (b9+(1:Int)))
     else none
    else none
   else none
  else
   xR aE
def qa (N:Nat) (a0:du) (kf:du->aa):aa:=
 lZ a0 N kf ([]:du) (0:Int)
def bW (N:Nat) (a0:QC) (kf:QC->aa):aa:=
 lY N a0.1 (λLV=>
  qa N a0.2.1 (λayv=>
   bif (decide ((length ([]:dD)+length a0.2.2.1)*2<=4398046511104)) then
    bif (decide ((length ([]:aq)+length a0.2.2.2.1)*1<=4398046511104)) then
     bif (decide ((length ([]:iz)+length a0.2.2.2.2.1)*3<=4398046511104)) then
      bif (decide ((length ([]:lX)+length a0.2.2.2.2.2.1)*4<=4398046511104)) then
       kf (LV,(ayv,((([]:dD)++a0.2.2.1),((([]:aq)++a0.2.2.2.1),((([]:iz)++a0.2.2.2.2.1),((([]:lX)++a0.2.2.2.2.2.1),a0.2.2.2.2.2.2))))))
      else none
     else none
    else none
   else none))
def abA (self:ByteArray->Int->(aq->Int->aa)->aa) (a0:ByteArray) (kf:aq->Int->aa) (Zu:aq) (Of:Int) (aq6:Int):aa:=
 self a0 (wrap .i64 (Of+(1:Int))) (λaq7 ah8=>
  bif (aq6==(0:Int)) then
   kf ([]:aq) (-1:Int)
  else
   bif (decide (ah8<(0:Int))) then
    kf ([]:aq) (-1:Int)
   else
    bif (decide (ah8≥(ByteArray.size a0:Int))) then
     kf ([]:aq) (-1:Int)
    else
     bif (bp ah8 (ByteArray.size a0)) then
      bif ((bt a0 ah8) != (41:Int)) then
       kf ([]:aq) (-1:Int)
      else
       bif (decide ((length Zu+length aq7)*1<=4398046511104)) then
        bif (decide ((length (Zu++aq7)+length [aq6])*1<=4398046511104)) then
         kf ((Zu++aq7)++[aq6]) (wrap .i64 (ah8+(1:Int)))
        else none
       else none
     else none)
def D' (self:ByteArray->Int->(aq->Int->aa)->aa) (a0:ByteArray) (kf:aq->Int->aa) (Ea:aq) (qb:Int) (akN:Int):aa:=
 self a0 (wrap .i64 (qb+(1:Int))) (λakO ub=>
  bif (akN==(0:Int)) then
   kf ([]:aq) (-1:Int)
  else
   bif (decide (ub<(0:Int))) then
    kf ([]:aq) (-1:Int)
   else
    bif (decide (ub≥(ByteArray.size a0:Int))) then
     kf ([]:aq) (-1:Int)
    else
     bif (bp ub (ByteArray.size a0)) then
      bif ((bt a0 ub) != (41:Int)) then
       kf ([]:aq) (-1:Int)
      else
       bif (decide ((length Ea+length akO)*1<=4398046511104)) then
        bif (decide ((length (Ea++akO)+length [akN])*1<=4398046511104)) then
         kf ((Ea++akO)++[akN]) (wrap .i64 (ub+(1:Int)))
        else none
       else none
     else none)
def PM (self:ByteArray->Int->(aq->Int->aa)->aa) (N:Nat) (a0:ByteArray) (a1:Int) (kf:aq->Int->aa):aa:=
 bif (decide (a1≥(ByteArray.size a0:Int))) then
  kf ([]:aq) (-1:Int)
 else
  bif (bp a1 (ByteArray.size a0)) then
   bif (decide ((bt a0 a1)≥(97:Int))) then
    bif (bp a1 (ByteArray.size a0)) then
     bif (decide ((bt a0 a1)<=(102:Int))) then
      bif (bp a1 (ByteArray.size a0)) then
       kf [(wrap .i64 (wrap .u8 ((bt a0 a1) - (97:Int))))] (wrap .i64 (a1+(1:Int)))
      else none
     else
      bif (bp a1 (ByteArray.size a0)) then
       bif ((bt a0 a1)==(33:Int)) then
        self a0 (wrap .i64 (a1+(1:Int))) (λaxb aA9=>
         bif (decide ((length axb+length [(-1:Int)])*1<=4398046511104)) then
          kf (axb++[(-1:Int)]) aA9
         else none)
       else
        bif (bp a1 (ByteArray.size a0)) then
         bif ((bt a0 a1)==(40:Int)) then
          self a0 (wrap .i64 (a1+(1:Int))) (λZu Of=>
           bif (decide (Of<(0:Int))) then
            kf ([]:aq) (-1:Int)
           else
            bif (decide (Of≥(ByteArray.size a0:Int))) then
             kf ([]:aq) (-1:Int)
            else
             bif (bp Of (ByteArray.size a0)) then
              bif ((bt a0 Of)==(38:Int)) then
               abA self a0 kf Zu Of (-2:Int)
              else
               bif ((bt a0 Of)==(124:Int)) then
                abA self a0 kf Zu Of (-3:Int)
               else
                bif ((bt a0 Of)==(62:Int)) then
                 abA self a0 kf Zu Of (-4:Int)
                else
                 abA self a0 kf Zu Of (0:Int)
             else none)
         else
          kf ([]:aq) (-1:Int)
        else none
      else none
    else none
   else
    bif (bp a1 (ByteArray.size a0)) then
     bif ((bt a0 a1)==(33:Int)) then
      self a0 (wrap .i64 (a1+(1:Int))) (λah9 aq8=>
       bif (decide ((length ah9+length [(-1:Int)])*1<=4398046511104)) then
        kf (ah9++[(-1:Int)]) aq8
       else none)
     else
      bif (bp a1 (ByteArray.size a0)) then
       bif ((bt a0 a1)==(40:Int)) then
        self a0 (wrap .i64 (a1+(1:Int))) (λEa qb=>
         bif (decide (qb<(0:Int))) then
          kf ([]:aq) (-1:Int)
         else
          bif (decide (qb≥(ByteArray.size a0:Int))) then
           kf ([]:aq) (-1:Int)
          else
           bif (bp qb (ByteArray.size a0)) then
            bif ((bt a0 qb)==(38:Int)) then
             D' self a0 kf Ea qb (-2:Int)
            else
             bif ((bt a0 qb)==(124:Int)) then
              D' self a0 kf Ea qb (-3:Int)
             else
              bif ((bt a0 qb)==(62:Int)) then
               D' self a0 kf Ea qb (-4:Int)
              else
               D' self a0 kf Ea qb (0:Int)
           else none)
       else
        kf ([]:aq) (-1:Int)
      else none
    else none
  else none
def S38:Nat->ByteArray->Int->(aq->Int->aa)->aa
 |0,_,_,_=>none
 |N+1,a0,a1,kf=>PM (S38 N) N a0 a1 kf
def cj (N:Nat) (a0:Int) (a1:Int) (a2:Int) (kf:Bool->aa):aa:=
 bif (decide (a0≥a1)) then
  kf (decide (a0<=a2))
 else
  kf false
def fV (N:Nat) (aB:aq):Nat->(Int->aa)->(Bool->aa)->Int->Int->aa
 |0,_,_,_,_=>none
 |wC+1,cJ,jR,aE,b9=>
  bif (decide (b9<(length aB:Int))) then
   bif (bp b9 (length aB)) then
    cj N (getD aB (toNat b9) (0:Int)) (0:Int) (5:Int) (λaq9=>
     bif aq9 then
      (fV N aB wC cJ jR) (wrap .i64 (aE+(1:Int))) (wrap .i64 (b9+(1:Int)))
     else
      bif (bp b9 (length aB)) then
       bif ((getD aB (toNat b9) (0:Int))==(-1:Int)) then
        bif (decide (aE≥(1:Int))) then
         (fV N aB wC cJ jR) aE (wrap .i64 (b9+(1:Int)))
        else
         bif (bp b9 (length aB)) then
          cj N (getD aB (toNat b9) (0:Int)) (-4:Int) (-2:Int) (λaq'=>
           bif aq' then
            bif (decide (aE≥(2:Int))) then
             (fV N aB wC cJ jR) (wrap .i64 (aE - (1:Int))) (wrap .i64 (b9+(1:Int)))
            else
             jR false
           else
            jR false)
         else none
       else
        bif (bp b9 (length aB)) then
         cj N (getD aB (toNat b9) (0:Int)) (-4:Int) (-2:Int) (λya=>
          bif ya then
           bif (decide (aE≥(2:Int))) then
            (fV N aB wC cJ jR) (wrap .i64 (aE - (1:Int))) (wrap .i64 (b9+(1:Int)))
           else
            jR false
          else
           jR false)
        else none
      else none)
   else none
  else
   cJ aE
def wD (N:Nat) (a0:aq) (kf:Bool->aa):aa:=
 fV N a0 N (λara=>
  bif (ara==(1:Int)) then
   kf (decide ((length a0:Int)<=(24:Int)))
  else
   kf false) kf (0:Int) (0:Int)
def fD (mW:aq):Nat->(bG->aa)->bG->Int->aa
 |0,_,_,_=>none
 |pB+1,vn,ck,Fj=>
  let dd:=(getD mW (toNat Fj) (0:Int));
  let yb:=((wrap .i64 (0 - dd)) - (2:Int));
  let tC:=(wrap .i64 ((length ck:Int) - (1:Int)));
  let xS:=(getD ck (toNat tC) ByteArray.empty);
  let Rz:=(wrap .i64 ((length ck:Int) - (2:Int)));
  let AI:=(getD ck (toNat Rz) ByteArray.empty);
  let RA:=(getD [GJ,GK,GL] (toNat (wrap .i64 yb)) ByteArray.empty);
  bif (decide (Fj<(length mW:Int))) then
   bif (bp Fj (length mW)) then
    bif (decide (dd≥(0:Int))) then
     bif (bp Fj (length mW)) then
      bif (bp Fj (length mW)) then
       bif (decide ((0:Int)<=dd)&&decide (dd<=(wrap .i64 (dd+(1:Int))))&&decide ((wrap .i64 (dd+(1:Int)))<=(ByteArray.size kx:Int))) then
        bif (decide ((length ck+length [(ByteArray.extract kx (toNat dd) (toNat (wrap .i64 (dd+(1:Int)))))])*1<=4398046511104)) then
         (fD mW pB vn) (ck++[(ByteArray.extract kx (toNat dd) (toNat (wrap .i64 (dd+(1:Int)))))]) (wrap .i64 (Fj+(1:Int)))
        else none
       else none
      else none
     else none
    else
     bif (bp Fj (length mW)) then
      bif (dd==(-1:Int)) then
       bif (bp tC (length ck)) then
        bif (decide (ByteArray.size JV+ByteArray.size xS<=9223372036854775807)) then
         bif (bp tC (length ck)) then
          (fD mW pB vn) (List.set ck (toNat tC) (JV++xS)) (wrap .i64 (Fj+(1:Int)))
         else none
        else none
       else none
      else
       bif (bp Rz (length ck)) then
        bif (decide (ByteArray.size nO+ByteArray.size AI<=9223372036854775807)) then
         bif (bp Fj (length mW)) then
          bif (bp tC (length ck)) then
           bif (bp (wrap .i64 yb) (length [GJ,GK,GL])) then
            bif (decide (ByteArray.size (nO++AI)+ByteArray.size RA<=9223372036854775807)) then
             bif (decide (ByteArray.size ((nO++AI)++RA)+ByteArray.size xS<=9223372036854775807)) then
              bif (decide (ByteArray.size (((nO++AI)++RA)++xS)+ByteArray.size Af<=9223372036854775807)) then
               bif (decide ((0:Int)<=(0:Int))&&decide ((0:Int)<=Rz)&&decide (Rz<=(length ck:Int))) then
                bif (decide ((length (List.take (toNat Rz) ck)+length [((((nO++AI)++RA)++xS)++Af)])*1<=4398046511104)) then
                 (fD mW pB vn) ((List.take (toNat Rz) ck)++[((((nO++AI)++RA)++xS)++Af)]) (wrap .i64 (Fj+(1:Int)))
                else none
               else none
              else none
             else none
            else none
           else none
          else none
         else none
        else none
       else none
     else none
   else none
  else
   vn ck
def pN (N:Nat) (a0:aq) (kf:ByteArray->aa):aa:=
 wD N a0 (λZT=>
  bif (!ZT) then
   kf D9
  else
   fD a0 N (λaoL=>
    bif (bp (0:Int) (length aoL)) then
     kf (getD aoL (toNat (0:Int)) ByteArray.empty)
    else none) ([]:bG) (0:Int))
def fW (N:Nat) (a0:ByteArray) (kf:aq->Bool->aa):aa:=
 bif (decide ((ByteArray.size a0:Int)>(200:Int))) then
  kf ([]:aq) false
 else
  S38 N a0 (0:Int) (λvK PN=>
   bif (PN != (ByteArray.size a0:Int)) then
    kf ([]:aq) false
   else
    pN N vK (λaey=>
     bif (!(ByteArray.toList aey==ByteArray.toList a0)) then
      kf ([]:aq) false
     else
      bif (ByteArray.toList a0==ByteArray.toList D9) then
       kf ([]:aq) false
      else
       kf vK true))
def Is (aB:Int):Nat->(Ip->aa)->Ip->Int->aa
 |0,_,_,_=>none
 |wC+1,xR,aE,b9=>
  bif (decide (b9<(6:Int))) then
   bif (decide (0<=b9)) then
    bif (decide ((length aE+length [((wrap .i64 (BitVec.toNat (BitVec.ofInt (IntKind.bits .i64) (Int.fdiv aB (2^(min (toNat b9) (IntKind.bits .i64))))&&&BitVec.ofInt (IntKind.bits .i64) (1:Int))))==(1:Int))])*1<=4398046511104)) then
     (Is aB wC xR) (aE++[((wrap .i64 (BitVec.toNat (BitVec.ofInt (IntKind.bits .i64) (Int.fdiv aB (2^(min (toNat b9) (IntKind.bits .i64))))&&&BitVec.ofInt (IntKind.bits .i64) (1:Int))))==(1:Int))]) (wrap .i64 (b9+(1:Int)))
    else none
   else none
  else
   xR aE
def JY (N:Nat) (a0:Int) (kf:Ip->aa):aa:=
 Is a0 N kf ([]:Ip) (0:Int)
def It (N:Nat) (a0:Int) (a1:Bool) (a2:Bool) (kf:Bool->aa):aa:=
 bif (a0==(-2:Int)) then
  bif a1 then
   kf a2
  else
   kf false
 else
  bif (a0==(-3:Int)) then
   bif a1 then
    kf true
   else
    kf a2
  else
   bif (!a1) then
    kf true
   else
    kf a2
def lN (N:Nat) (mW:aq) (qc:Ip):Nat->(Ip->aa)->Ip->Int->aa
 |0,_,_,_=>none
 |Dh+1,jE,cy,iN=>
  let dd:=(getD mW (toNat iN) (0:Int));
  let yb:=(wrap .i64 ((length cy:Int) - (1:Int)));
  let tC:=(wrap .i64 ((length cy:Int) - (2:Int)));
  bif (decide (iN<(length mW:Int))) then
   bif (bp iN (length mW)) then
    bif (decide (dd≥(0:Int))) then
     bif (bp iN (length mW)) then
      bif (decide (dd<(length qc:Int))) then
       bif (bp iN (length mW)) then
        bif (bp dd (length qc)) then
         bif (decide ((length cy+length [(getD qc (toNat dd) false)])*1<=4398046511104)) then
          (lN N mW qc Dh jE) (cy++[(getD qc (toNat dd) false)]) (wrap .i64 (iN+(1:Int)))
         else none
        else none
       else none
      else
       bif (decide ((length cy+length [false])*1<=4398046511104)) then
        (lN N mW qc Dh jE) (cy++[false]) (wrap .i64 (iN+(1:Int)))
       else none
     else none
    else
     bif (bp iN (length mW)) then
      bif (dd==(-1:Int)) then
       bif (bp yb (length cy)) then
        bif (bp yb (length cy)) then
         (lN N mW qc Dh jE) (List.set cy (toNat yb) (!(getD cy (toNat yb) false))) (wrap .i64 (iN+(1:Int)))
        else none
       else none
      else
       bif (decide ((0:Int)<=(0:Int))&&decide ((0:Int)<=tC)&&decide (tC<=(length cy:Int))) then
        bif (bp iN (length mW)) then
         bif (bp tC (length cy)) then
          bif (bp yb (length cy)) then
           It N dd (getD cy (toNat tC) false) (getD cy (toNat yb) false) (λIu=>
            bif (decide ((length (List.take (toNat tC) cy)+length [Iu])*1<=4398046511104)) then
             (lN N mW qc Dh jE) ((List.take (toNat tC) cy)++[Iu]) (wrap .i64 (iN+(1:Int)))
            else none)
          else none
         else none
        else none
       else none
     else none
   else none
  else
   jE cy
def Iv (N:Nat) (a0:aq) (a1:Ip) (kf:Bool->aa):aa:=
 wD N a0 (λwe=>
  bif (!we) then
   kf false
  else
   lN N a0 a1 N (λaez=>
    bif (bp (0:Int) (length aez)) then
     kf (getD aez (toNat (0:Int)) false)
    else none) ([]:Ip) (0:Int))
def l4 (N:Nat) (aB:aq):Nat->(Int->aa)->Int->Int->aa
 |0,_,_,_=>none
 |wC+1,ep,aE,b9=>
  bif (decide (b9<(64:Int))) then
   JY N b9 (λabB=>
    Iv N aB abB (λaA'=>
     bif aA' then
      (l4 N aB wC ep) (wrap .i64 (aE+(1:Int))) (wrap .i64 (b9+(1:Int)))
     else
      (l4 N aB wC ep) aE (wrap .i64 (b9+(1:Int)))))
  else
   ep aE
def l5 (N:Nat) (a0:aq) (kf:Int->aa):aa:=
 l4 N a0 N kf (0:Int) (0:Int)
def vL (aBa:ByteArray->Int->aa) (aE:ByteArray) (b9:Int) (aBb:Int):aa:=
 bif (decide (ByteArray.size (bytesOf [(wrap .u8 (wrap .i64 ((48:Int)+aBb)))])+ByteArray.size aE<=9223372036854775807)) then
  aBa ((bytesOf [(wrap .u8 (wrap .i64 ((48:Int)+aBb)))])++aE) (wrap .i64 (Int.tdiv b9 (10:Int)))
 else none
def iq (aB:Int):Nat->(ByteArray->aa)->ByteArray->Int->aa
 |0,_,_,_=>none
 |wC+1,Yf,aE,b9=>
  bif (b9 != (0:Int)) then
   bif (decide ((Int.tmod b9 (10:Int))<(0:Int))) then
    vL (iq aB wC Yf) aE b9 (wrap .i64 (0 - (Int.tmod b9 (10:Int))))
   else
    vL (iq aB wC Yf) aE b9 (Int.tmod b9 (10:Int))
  else
   Yf aE
def cn (N:Nat) (a0:Int) (kf:ByteArray->aa):aa:=
 bif (a0==(0:Int)) then
  kf s_0
 else
  iq a0 N (λafL=>
   bif (decide (a0<(0:Int))) then
    bif (decide (ByteArray.size im+ByteArray.size afL<=9223372036854775807)) then
     kf (im++afL)
    else none
   else
    kf afL) D9 a0
def rQ (N:Nat) (a0:aq) (kf:Bool->aa):aa:=
 l5 N a0 (λaDs=>
  kf (aDs==(64:Int)))
def pC (N:Nat) (a0:Bool) (kf:ByteArray->aa):aa:=
 bif a0 then
  kf aq1
 else
  kf abz
def pO (N:Nat) (mW:ByteArray):Nat->(Int->aa)->(Int->Bool->aa)->Int->Int->aa
 |0,_,_,_,_=>none
 |pB+1,vn,arb,b9,cy=>
  bif (decide (cy<(ByteArray.size mW:Int))) then
   bif (bp cy (ByteArray.size mW)) then
    cj N (wrap .i64 (bt mW cy)) (48:Int) (57:Int) (λah'=>
     bif (!ah') then
      arb (0:Int) false
     else
      bif (bp cy (ByteArray.size mW)) then
       (pO N mW pB vn arb) (wrap .i64 ((wrap .i64 ((10:Int)*b9))+(wrap .i64 (wrap .u8 ((bt mW cy) - (48:Int)))))) (wrap .i64 (cy+(1:Int)))
      else none)
   else none
  else
   vn b9
def yc (N:Nat) (a0:ByteArray) (kf:Int->Bool->aa):aa:=
 cj N (ByteArray.size a0:Int) (1:Int) (13:Int) (λZT=>
  bif (!ZT) then
   kf (0:Int) false
  else
   pO N a0 N (λOg=>
    bif (decide (Og>(1000000000000:Int))) then
     kf (0:Int) false
    else
     cn N Og (λakP=>
      bif (!(ByteArray.toList akP==ByteArray.toList a0)) then
       kf (0:Int) false
      else
       kf Og true)) kf (0:Int) (0:Int))
def oH (N:Nat) (aB:bG):Nat->(aq->aa)->(aq->Bool->aa)->aq->Int->aa
 |0,_,_,_,_=>none
 |wC+1,dF,Yg,bX,bA=>
  bif (decide (bA<(length aB:Int))) then
   bif (bp bA (length aB)) then
    yc N (getD aB (toNat bA) ByteArray.empty) (λVB ah'=>
     bif (!ah') then
      Yg bX false
     else
      bif (decide ((length bX+length [VB])*1<=4398046511104)) then
       (oH N aB wC dF Yg) (bX++[VB]) (wrap .i64 (bA+(1:Int)))
      else none)
   else none
  else
   dF bX
def HF (N:Nat) (a0:bG) (kf:aq->Bool->aa):aa:=
 oH N a0 N (λOg=>
  kf Og true) kf ([]:aq) (0:Int)
def iX (N:Nat) (a0:ByteArray) (a1:aq) (kf:QL->aa):aa:=
 let arc:aa:=(
  let aBc:aa:=(
   let aBd:aa:=(
    let aBe:aa:=(
     let aBf:aa:=(
      bif ((length a1:Int)==(1:Int)) then
       bif (ByteArray.toList a0==ByteArray.toList EP) then
        bif (bp (0:Int) (length a1)) then
         kf ((6:Int),((getD a1 (toNat (0:Int)) (0:Int)),((0:Int),(0:Int))))
        else none
       else
        kf ((0:Int),((0:Int),((0:Int),(0:Int))))
      else
       kf ((0:Int),((0:Int),((0:Int),(0:Int)))));
     bif ((length a1:Int)==(0:Int)) then
      bif (ByteArray.toList a0==ByteArray.toList JW) then
       kf ((5:Int),((0:Int),((0:Int),(0:Int))))
      else
       aBf
     else
      aBf);
    bif ((length a1:Int)==(3:Int)) then
     bif (ByteArray.toList a0==ByteArray.toList Bf) then
      bif (bp (0:Int) (length a1)) then
       bif (bp (1:Int) (length a1)) then
        bif (bp (2:Int) (length a1)) then
         kf ((4:Int),((getD a1 (toNat (1:Int)) (0:Int)),((getD a1 (toNat (2:Int)) (0:Int)),(getD a1 (toNat (0:Int)) (0:Int)))))
        else none
       else none
      else none
     else
      aBe
    else
     aBe);
   bif ((length a1:Int)==(0:Int)) then
    bif (ByteArray.toList a0==ByteArray.toList PK) then
     kf ((3:Int),((0:Int),((0:Int),(0:Int))))
    else
     aBd
   else
    aBd);
  bif ((length a1:Int)==(2:Int)) then
   bif (ByteArray.toList a0==ByteArray.toList yV) then
    bif (bp (0:Int) (length a1)) then
     bif (bp (1:Int) (length a1)) then
      kf ((2:Int),((getD a1 (toNat (0:Int)) (0:Int)),((getD a1 (toNat (1:Int)) (0:Int)),(0:Int))))
     else none
    else none
   else
    aBc
  else
   aBc);
 bif ((length a1:Int)==(2:Int)) then
  bif (ByteArray.toList a0==ByteArray.toList K1) then
   bif (bp (0:Int) (length a1)) then
    bif (bp (1:Int) (length a1)) then
     kf ((1:Int),((getD a1 (toNat (0:Int)) (0:Int)),((getD a1 (toNat (1:Int)) (0:Int)),(0:Int))))
    else none
   else none
  else
   arc
 else
  arc
def l6 (N:Nat) (a0:QC) (kf:Bool->aa):aa:=
 kf (decide ((length a0.2.2.1:Int)>(0:Int)))
def K3 (N:Nat) (a0:lX) (kf:Int->aa):aa:=
 bif ((length a0:Int)==(0:Int)) then
  kf (0:Int)
 else
  bif (bp (wrap .i64 ((length a0:Int) - (1:Int))) (length a0)) then
   kf (getD a0 (toNat (wrap .i64 ((length a0:Int) - (1:Int)))) zQL).2.2.2
  else none
def PO (N:Nat) (a0:Int) (a1:Int) (kf:Int->aa):aa:=
 cj N a1 (1:Int) (1000000000000:Int) (λard=>
  bif (!ard) then
   kf (0:Int)
  else
   bif (!decide (a1=0)) then
    bif (!decide (a1=0)) then
     kf (Int.tmod (wrap .i64 ((Int.tmod a0 a1)+a1)) a1)
    else none
   else none)
def uc (N:Nat) (aB:aq):Nat->(Int->aa)->Int->Int->aa
 |0,_,_,_=>none
 |wC+1,ez,aE,b9=>
  bif (decide (b9<(length aB:Int))) then
   bif (bp b9 (length aB)) then
    PO N (getD aB (toNat b9) (0:Int)) (2147483647:Int) (λFl=>
     (uc N aB wC ez) (Int.tmod (wrap .i64 ((wrap .i64 ((wrap .i64 (aE*(1000003:Int)))+Fl))+(13:Int))) (2147483647:Int)) (wrap .i64 (b9+(1:Int))))
   else none
  else
   ez aE
def Q7 (N:Nat) (a0:aq) (kf:Int->aa):aa:=
 uc N a0 N kf (11:Int) (0:Int)
def ud (N:Nat) (a0:Int) (a1:QL) (kf:Int->aa):aa:=
 Q7 N [a0,a1.1,a1.2.1,a1.2.2.1] kf
def kZ (N:Nat) (aB:lX):Nat->(aa)->(Bool->aa)->Int->Int->aa
 |0,_,_,_,_=>none
 |wC+1,ep,mX,aE,b9=>
  bif (decide (b9<(length aB:Int))) then
   bif (decide ((length aB:Int)<=(200:Int))) then
    bif (bp b9 (length aB)) then
     ud N aE (getD aB (toNat b9) zQL) (λSI=>
      bif ((getD aB (toNat b9) zQL).1 != (wrap .i64 (b9+(1:Int)))) then
       mX false
      else
       cj N (getD aB (toNat b9) zQL).2.1 (1:Int) (9:Int) (λaia=>
        bif (!aia) then
         mX false
        else
         cj N (getD aB (toNat b9) zQL).2.2.1 (0:Int) (99:Int) (λIu=>
          bif (!Iu) then
           mX false
          else
           bif ((getD aB (toNat b9) zQL).2.2.2 != SI) then
            mX false
           else
            (kZ N aB wC ep mX) SI (wrap .i64 (b9+(1:Int))))))
    else none
   else
    ep
  else
   ep
def qG (N:Nat) (a0:lX) (kf:Bool->aa):aa:=
 kZ N a0 N (kf (decide ((length a0:Int)<=(200:Int)))) kf (0:Int) (0:Int)
def Bk (N:Nat) (a0:lX) (a1:Int) (a2:Int) (kf:lX->Bool->aa):aa:=
 K3 N a0 (λare=>
  ud N are ((wrap .i64 ((length a0:Int)+(1:Int))),(a1,(a2,(0:Int)))) (λPQ=>
   bif (decide ((length ([]:lX)+length a0)*4<=4398046511104)) then
    bif (decide ((length (([]:lX)++a0)+length [((wrap .i64 ((length a0:Int)+(1:Int))),(a1,(a2,PQ)))])*4<=4398046511104)) then
     qG N ((([]:lX)++a0)++[((wrap .i64 ((length a0:Int)+(1:Int))),(a1,(a2,PQ)))]) (λarf=>
      bif (!arf) then
       bif (decide ((length ([]:lX)+length a0)*4<=4398046511104)) then
        kf (([]:lX)++a0) false
       else none
      else
       kf ((([]:lX)++a0)++[((wrap .i64 ((length a0:Int)+(1:Int))),(a1,(a2,PQ)))]) true)
    else none
   else none))
def nr (aB:bg) (aR:Int):Nat->(aa)->(Int->aa)->Int->aa
 |0,_,_,_=>none
 |wC+1,fM,jF,bA=>
  bif (decide (bA<(length aB:Int))) then
   bif (bp bA (length aB)) then
    bif ((getD aB (toNat bA) eZ).1==aR) then
     jF bA
    else
     (nr aB aR wC fM jF) (wrap .i64 (bA+(1:Int)))
   else none
  else
   fM
def fj (N:Nat) (a0:bg) (a1:Int) (kf:Int->aa):aa:=
 nr a0 a1 N (kf (-1:Int)) kf (0:Int)
def ln (aB:aq) (aR:Int):Nat->(Int->aa)->Int->Int->aa
 |0,_,_,_=>none
 |pB+1,dF,bA,eJ=>
  bif (decide (eJ<(length aB:Int))) then
   bif (bp eJ (length aB)) then
    bif ((getD aB (toNat eJ) (0:Int))==aR) then
     (ln aB aR pB dF) (wrap .i64 (bA+(1:Int))) (wrap .i64 (eJ+(1:Int)))
    else
     (ln aB aR pB dF) bA (wrap .i64 (eJ+(1:Int)))
   else none
  else
   dF bA
def rR (N:Nat) (a0:aq) (a1:Int) (kf:Int->aa):aa:=
 ln a0 a1 N kf (0:Int) (0:Int)
def fN (N:Nat) (VC:bg) (aeA:Int) (uL:QT):Nat->(aa)->(Bool->aa)->Int->aa
 |0,_,_,_=>none
 |akQ+1,Q8,ES,amQ=>
  bif (decide (amQ<(length uL.2.2.2.2.2:Int))) then
   bif (bp amQ (length uL.2.2.2.2.2)) then
    fj N VC (getD uL.2.2.2.2.2 (toNat amQ) (0:Int)) (λub=>
     bif (decide (ub<(0:Int))) then
      ES false
     else
      bif (ub==aeA) then
       ES false
      else
       bif (bp ub (length VC)) then
        bif (bp ub (length VC)) then
         rR N (getD VC (toNat ub) eZ).2.2.2.2.2 uL.1 (λafM=>
          rR N uL.2.2.2.2.2 (getD VC (toNat ub) eZ).1 (λafN=>
           bif (afM != afN) then
            ES false
           else
            (fN N VC aeA uL akQ Q8 ES) (wrap .i64 (amQ+(1:Int)))))
        else none
       else none)
   else none
  else
   Q8
def lp (N:Nat) (aB:bg):Nat->(aa)->(Bool->aa)->Int->aa
 |0,_,_,_=>none
 |n_3+1,Ny,l7,aE=>
  let dd:=(getD aB (toNat aE) eZ);
  bif (decide (aE<(length aB:Int))) then
   bif (bp aE (length aB)) then
    cj N dd.1 (1:Int) (99:Int) (λabC=>
     bif (!abC) then
      l7 false
     else
      cj N dd.2.1 (1:Int) (99:Int) (λabD=>
       bif (!abD) then
        l7 false
       else
        cj N dd.2.2.1 (0:Int) (length dd.2.2.2.2.2:Int) (λaib=>
         bif (!aib) then
          l7 false
         else
          cj N dd.2.2.2.2.1 (0:Int) (length dd.2.2.2.2.2:Int) (λarh=>
           bif (!arh) then
            l7 false
           else
            cj N dd.2.2.2.1 (0:Int) (100000:Int) (λari=>
             bif (!ari) then
              l7 false
             else
              bif (decide ((length dd.2.2.2.2.2:Int)>(20:Int))) then
               l7 false
              else
               bif (decide (aE>(0:Int))) then
                bif (bp (wrap .i64 (aE - (1:Int))) (length aB)) then
                 bif (decide ((getD aB (toNat (wrap .i64 (aE - (1:Int)))) eZ).1≥dd.1)) then
                  l7 false
                 else
                  fN N aB aE dd N ((lp N aB n_3 Ny l7) (wrap .i64 (aE+(1:Int)))) l7 (0:Int)
                else none
               else
                fN N aB aE dd N ((lp N aB n_3 Ny l7) (wrap .i64 (aE+(1:Int)))) l7 (0:Int))))))
   else none
  else
   Ny
def dV (N:Nat) (a0:bg) (kf:Bool->aa):aa:=
 lp N a0 N (kf (decide ((length a0:Int)<=(10:Int)))) kf (0:Int)
def eM (N:Nat) (nP:du) (AJ:Int):Nat->(aa)->(Bool->aa)->Int->aa
 |0,_,_,_=>none
 |n_9+1,Nz,HG,OX=>
  bif (bp AJ (length nP)) then
   bif (decide (OX<(length (getD nP (toNat AJ) jy).2.2:Int))) then
    bif (bp AJ (length nP)) then
     bif (bp OX (length (getD nP (toNat AJ) jy).2.2)) then
      cj N (getD (getD nP (toNat AJ) jy).2.2 (toNat OX) (0:Int)) (1:Int) (99:Int) (λakR=>
       bif (!akR) then
        HG false
       else
        bif (decide (OX>(0:Int))) then
         bif (bp AJ (length nP)) then
          bif (bp (wrap .i64 (OX - (1:Int))) (length (getD nP (toNat AJ) jy).2.2)) then
           bif (bp AJ (length nP)) then
            bif (bp OX (length (getD nP (toNat AJ) jy).2.2)) then
             bif (decide ((getD (getD nP (toNat AJ) jy).2.2 (toNat (wrap .i64 (OX - (1:Int)))) (0:Int))≥(getD (getD nP (toNat AJ) jy).2.2 (toNat OX) (0:Int)))) then
              HG false
             else
              (eM N nP AJ n_9 Nz HG) (wrap .i64 (OX+(1:Int)))
            else none
           else none
          else none
         else none
        else
         (eM N nP AJ n_9 Nz HG) (wrap .i64 (OX+(1:Int))))
     else none
    else none
   else
    Nz
  else none
def jS (N:Nat) (aB:du):Nat->(aa)->(Bool->aa)->Int->aa
 |0,_,_,_=>none
 |n_3+1,NA,ue,aE=>
  bif (decide (aE<(length aB:Int))) then
   bif (bp aE (length aB)) then
    cj N (getD aB (toNat aE) jy).1 (1:Int) (99:Int) (λaic=>
     bif (!aic) then
      ue false
     else
      bif (bp aE (length aB)) then
       cj N (getD aB (toNat aE) jy).2.1 (1:Int) (99:Int) (λabD=>
        bif (!abD) then
         ue false
        else
         bif (decide (aE>(0:Int))) then
          bif (bp (wrap .i64 (aE - (1:Int))) (length aB)) then
           bif (bp aE (length aB)) then
            bif (decide ((getD aB (toNat (wrap .i64 (aE - (1:Int)))) jy).1≥(getD aB (toNat aE) jy).1)) then
             ue false
            else
             eM N aB aE N ((jS N aB n_3 NA ue) (wrap .i64 (aE+(1:Int)))) ue (0:Int)
           else none
          else none
         else
          eM N aB aE N ((jS N aB n_3 NA ue) (wrap .i64 (aE+(1:Int)))) ue (0:Int))
      else none)
   else none
  else
   NA
def sQ (N:Nat) (a0:du) (kf:Bool->aa):aa:=
 jS N a0 N (kf (decide ((length a0:Int)<=(10:Int)))) kf (0:Int)
def l8 (N:Nat) (aB:bg):Nat->(Int->aa)->Int->Int->aa
 |0,_,_,_=>none
 |wC+1,ez,aE,b9=>
  bif (decide (b9<(length aB:Int))) then
   dV N aB (λabB=>
    bif abB then
     bif (bp b9 (length aB)) then
      (l8 N aB wC ez) (wrap .i64 (aE+(getD aB (toNat b9) eZ).2.2.1)) (wrap .i64 (b9+(1:Int)))
     else none
    else
     ez aE)
  else
   ez aE
def Bl (N:Nat) (a0:bg) (kf:Int->aa):aa:=
 l8 N a0 N kf (0:Int) (0:Int)
def rS (aB:aq) (aR:Int):Nat->(aa)->(Bool->aa)->Int->aa
 |0,_,_,_=>none
 |wC+1,fM,jF,bA=>
  bif (decide (bA<(length aB:Int))) then
   bif (bp bA (length aB)) then
    bif ((getD aB (toNat bA) (0:Int))==aR) then
     jF true
    else
     (rS aB aR wC fM jF) (wrap .i64 (bA+(1:Int)))
   else none
  else
   fM
def eT (N:Nat) (a0:aq) (a1:Int) (kf:Bool->aa):aa:=
 rS a0 a1 N (kf false) kf (0:Int)
def HI (N:Nat) (a0:bg) (a1:Int) (a2:Int) (kf:Bool->aa):aa:=
 fj N a0 a1 (λlq=>
  bif (decide (lq≥(0:Int))) then
   bif (bp lq (length a0)) then
    eT N (getD a0 (toNat lq) eZ).2.2.2.2.2 a2 kf
   else none
  else
   kf false)
def uf (N:Nat) (a0:bg) (a1:Int) (a2:Int) (kf:Bool->aa):aa:=
 fj N a0 a1 (λeV=>
  fj N a0 a2 (λmM=>
   dV N a0 (λOh=>
    bif Oh then
     bif (decide (eV≥(0:Int))) then
      bif (decide (mM≥(0:Int))) then
       bif (eV != mM) then
        bif (bp eV (length a0)) then
         bif (bp mM (length a0)) then
          bif ((getD a0 (toNat eV) eZ).2.1 != (getD a0 (toNat mM) eZ).2.1) then
           HI N a0 a1 a2 (λarj=>
            kf (!arj))
          else
           kf false
         else none
        else none
       else
        kf false
      else
       kf false
     else
      kf false
    else
     kf false)))
def oI (N:Nat) (aB:bg) (aR:dD):Nat->(aq->aa)->(Bool->aa)->aq->Int->aa
 |0,_,_,_,_=>none
 |pB+1,cJ,jR,bA,eJ=>
  bif (decide (eJ<(length aR:Int))) then
   bif (bp eJ (length aR)) then
    bif (bp eJ (length aR)) then
     uf N aB (getD aR (toNat eJ) lI).1 (getD aR (toNat eJ) lI).2 (λyd=>
      bif (!yd) then
       jR false
      else
       bif (bp eJ (length aR)) then
        eT N bA (getD aR (toNat eJ) lI).1 (λya=>
         bif ya then
          jR false
         else
          bif (bp eJ (length aR)) then
           eT N bA (getD aR (toNat eJ) lI).2 (λaid=>
            bif aid then
             jR false
            else
             bif (bp eJ (length aR)) then
              bif (bp eJ (length aR)) then
               bif (decide ((length bA+length [(getD aR (toNat eJ) lI).1,(getD aR (toNat eJ) lI).2])*1<=4398046511104)) then
                (oI N aB aR pB cJ jR) (bA++[(getD aR (toNat eJ) lI).1,(getD aR (toNat eJ) lI).2]) (wrap .i64 (eJ+(1:Int)))
               else none
              else none
             else none)
          else none)
       else none)
    else none
   else none
  else
   cJ bA
def HJ (N:Nat) (a0:bg) (a1:dD) (kf:Bool->aa):aa:=
 oI N a0 a1 N (λaie=>
  dV N a0 (λayw=>
   bif ayw then
    kf ((length aie:Int)==(length a0:Int))
   else
    kf false)) kf ([]:aq) (0:Int)
def oJ (aB:du) (aR:Int):Nat->(aa)->(Int->aa)->Int->aa
 |0,_,_,_=>none
 |wC+1,fM,jF,bA=>
  bif (decide (bA<(length aB:Int))) then
   bif (bp bA (length aB)) then
    bif ((getD aB (toNat bA) jy).1==aR) then
     jF bA
    else
     (oJ aB aR wC fM jF) (wrap .i64 (bA+(1:Int)))
   else none
  else
   fM
def jf (N:Nat) (a0:du) (a1:Int) (kf:Int->aa):aa:=
 oJ a0 a1 N (kf (-1:Int)) kf (0:Int)
def pD (N:Nat) (a0:bg) (a1:QJ) (a2:LR) (kf:Bool->aa):aa:=
 fj N a0 a2.1 (λvK=>
  fj N a0 a2.2 (λGM=>
   bif (decide (vK≥(0:Int))) then
    bif (decide (GM≥(0:Int))) then
     bif (bp vK (length a0)) then
      bif ((getD a0 (toNat vK) eZ).2.1 != a1.2.1) then
       bif (bp GM (length a0)) then
        bif ((getD a0 (toNat GM) eZ).2.1 != a1.2.1) then
         eT N a1.2.2 a2.1 (λaBg=>
          bif (!aBg) then
           eT N a1.2.2 a2.2 (λark=>
            kf (!ark))
          else
           kf false)
        else
         kf false
       else none
      else
       kf false
     else none
    else
     kf false
   else
    kf false))
def l9 (N:Nat) (mW:bg) (qc:du) (Ga:dD) (wE:aq):Nat->(aa)->(Bool->aa)->Int->aa
 |0,_,_,_=>none
 |Yh+1,Bm,ug,abE=>
  bif (decide (abE<(length Ga:Int))) then
   bif (bp abE (length wE)) then
    jf N qc (getD wE (toNat abE) (0:Int)) (λabF=>
     bif (decide (abF<(0:Int))) then
      ug false
     else
      bif (decide ((0:Int)<=(0:Int))&&decide ((0:Int)<=abE)&&decide (abE<=(length wE:Int))) then
       bif (bp abE (length wE)) then
        eT N (List.drop (toNat (0:Int)) (List.take (toNat abE) wE)) (getD wE (toNat abE) (0:Int)) (λaif=>
         bif aif then
          ug false
         else
          bif (bp abF (length qc)) then
           bif (bp abE (length Ga)) then
            pD N mW (getD qc (toNat abF) jy) (getD Ga (toNat abE) lI) (λakS=>
             bif (!akS) then
              ug false
             else
              (l9 N mW qc Ga wE Yh Bm ug) (wrap .i64 (abE+(1:Int))))
           else none
          else none)
       else none
      else none)
   else none
  else
   Bm
def Bn (N:Nat) (a0:bg) (a1:du) (a2:dD) (a3:aq) (kf:Bool->aa):aa:=
 bif ((length a3:Int) != (length a2:Int)) then
  kf false
 else
  sQ N a1 (λse=>
   bif (!se) then
    kf false
   else
    l9 N a0 a1 a2 a3 N (kf true) kf (0:Int))
def pE (N:Nat) (a0:QB) (kf:Bool->aa):aa:=
 cj N a0.1 (1:Int) (99:Int) (λLV=>
  bif LV then
   cj N a0.2.1 (0:Int) (100:Int) (λakT=>
    bif akT then
     cj N a0.2.2 (0:Int) (100:Int) (λaih=>
      bif aih then
       kf (a0.2.1 != a0.2.2)
      else
       kf false)
    else
     kf false)
  else
   kf false)
def nQ (N:Nat) (JG:QC) (abG:QB):Nat->(aa)->(Bool->aa)->Int->aa
 |0,_,_,_=>none
 |RB+1,NB,HK,LW=>
  bif (decide (LW<(length JG.2.2.2.2.1:Int))) then
   bif (bp LW (length JG.2.2.2.2.1)) then
    bif (!((decide (((getD JG.2.2.2.2.1 (toNat LW) x4).1:Int)=abG.1))&&((decide (((getD JG.2.2.2.2.1 (toNat LW) x4).2.1:Int)=abG.2.1))&&(decide (((getD JG.2.2.2.2.1 (toNat LW) x4).2.2:Int)=abG.2.2))))) then
     bif (bp LW (length JG.2.2.2.2.1)) then
      pE N (getD JG.2.2.2.2.1 (toNat LW) x4) (λakU=>
       bif (!akU) then
        HK false
       else
        bif (bp LW (length JG.2.2.2.2.1)) then
         bif (bp LW (length JG.2.2.2.1)) then
          bif ((getD JG.2.2.2.2.1 (toNat LW) x4).1 != (getD JG.2.2.2.1 (toNat LW) (0:Int))) then
           HK false
          else
           (nQ N JG abG RB NB HK) (wrap .i64 (LW+(1:Int)))
         else none
        else none)
     else none
    else
     (nQ N JG abG RB NB HK) (wrap .i64 (LW+(1:Int)))
   else none
  else
   NB
def Bo (N:Nat) (a0:QC) (kf:Bool->aa):aa:=
 nQ N a0 ((0:Int),((0:Int),(0:Int))) N (kf true) kf (0:Int)
def tH (N:Nat) (a0:QC) (kf:Bool->aa):aa:=
 dV N a0.1 (λHL=>
  bif (!HL) then
   kf false
  else
   sQ N a0.2.1 (λPN=>
    bif (!PN) then
     kf false
    else
     qG N a0.2.2.2.2.2.1 (λVE=>
      bif (!VE) then
       kf false
      else
       bif ((length a0.2.2.2.1:Int) != (length a0.2.2.1:Int)) then
        kf false
       else
        bif ((length a0.2.2.2.2.1:Int) != (length a0.2.2.1:Int)) then
         kf false
        else
         cj N a0.2.2.2.2.2.2 (0:Int) (1000:Int) (λaBh=>
          bif (!aBh) then
           kf false
          else
           Bl N a0.1 (λaBi=>
            bif (aBi != a0.2.2.2.2.2.2) then
             kf false
            else
             bif (decide ((length a0.2.2.1:Int)>(0:Int))) then
              HJ N a0.1 a0.2.2.1 (λaBj=>
               bif (!aBj) then
                kf false
               else
                Bn N a0.1 a0.2.1 a0.2.2.1 a0.2.2.2.1 (λaBk=>
                 bif (!aBk) then
                  kf false
                 else
                  Bo N a0 kf))
             else
              Bo N a0 kf)))))
def jg (N:Nat) (a0:QC) (a1:QC) (a2:Bool) (a3:Int) (a4:Int) (kf:QC->Bool->aa):aa:=
 Bk N a0.2.2.2.2.2.1 a3 a4 (λaii PQ=>
  bif (!a2) then
   bW N a0 (λZv=>
    kf Zv false)
  else
   bif (!PQ) then
    bW N a0 (λZv=>
     kf Zv false)
   else
    tH N a0 (λaBl=>
     bif (!aBl) then
      bW N a0 (λZv=>
       kf Zv false)
     else
      tH N (a1.1,(a1.2.1,(a1.2.2.1,(a1.2.2.2.1,(a1.2.2.2.2.1,(aii,a1.2.2.2.2.2.2)))))) (λaBm=>
       bif (!aBm) then
        bW N a0 (λaBn=>
         kf aBn false)
       else
        kf (a1.1,(a1.2.1,(a1.2.2.1,(a1.2.2.2.1,(a1.2.2.2.2.1,(aii,a1.2.2.2.2.2.2)))))) true)))
def lr (aR:Int) (ky:Int) (lK:QC) (iN:QC) (NC:QC):Nat->(Int->aa)->Int->aa
 |0,_,_=>none
 |n_8+1,cJ,Iw=>
  bif (decide (Iw<(length lK.1:Int))) then
   bif (bp Iw (length lK.1)) then
    bif (decide ((getD lK.1 (toNat Iw) eZ).1<aR)) then
     (lr aR ky lK iN NC n_8 cJ) (wrap .i64 (Iw+(1:Int)))
    else
     cJ Iw
   else none
  else
   cJ Iw
def ET (N:Nat) (a0:QC) (a1:Int) (a2:Int) (kf:QC->Bool->aa):aa:=
 bW N a0 (λeV=>
  lr a1 a2 a0 (([]:bg),(([]:du),(([]:dD),(([]:aq),(([]:iz),(([]:lX),(0:Int))))))) eV N (λLX=>
   bif (decide ((0:Int)<=(0:Int))&&decide ((0:Int)<=LX)&&decide (LX<=(length a0.1:Int))) then
    lY N (List.drop (toNat (0:Int)) (List.take (toNat LX) a0.1)) (λTO=>
     bif (decide ((length TO+length [(a1,(a2,((0:Int),((0:Int),((0:Int),([]:aq))))))])*6<=4398046511104)) then
      bif (decide ((0:Int)<=LX)&&decide (LX<=(length a0.1:Int))&&decide ((length a0.1:Int)<=(length a0.1:Int))) then
       lY N (List.drop (toNat LX) (List.take (toNat (length a0.1:Int)) a0.1)) (λabH=>
        bif (decide ((length (TO++[(a1,(a2,((0:Int),((0:Int),((0:Int),([]:aq))))))])+length abH)*6<=4398046511104)) then
         l6 N a0 (λayx=>
          jg N a0 (((TO++[(a1,(a2,((0:Int),((0:Int),((0:Int),([]:aq))))))])++abH),eV.2) (!ayx) (1:Int) a1 kf)
        else none)
      else none
     else none)
   else none) (0:Int))
def jT (aR:Int) (ky:Int) (lK:QC) (iN:QC) (NC:QC):Nat->(Int->aa)->Int->aa
 |0,_,_=>none
 |n_8+1,cJ,Iw=>
  bif (decide (Iw<(length lK.2.1:Int))) then
   bif (bp Iw (length lK.2.1)) then
    bif (decide ((getD lK.2.1 (toNat Iw) jy).1<aR)) then
     (jT aR ky lK iN NC n_8 cJ) (wrap .i64 (Iw+(1:Int)))
    else
     cJ Iw
   else none
  else
   cJ Iw
def Bp (N:Nat) (a0:QC) (a1:Int) (a2:Int) (kf:QC->Bool->aa):aa:=
 bW N a0 (λeV=>
  jT a1 a2 a0 (([]:bg),(([]:du),(([]:dD),(([]:aq),(([]:iz),(([]:lX),(0:Int))))))) eV N (λLX=>
   bif (decide ((0:Int)<=(0:Int))&&decide ((0:Int)<=LX)&&decide (LX<=(length a0.2.1:Int))) then
    qa N (List.drop (toNat (0:Int)) (List.take (toNat LX) a0.2.1)) (λTO=>
     bif (decide ((length TO+length [(a1,(a2,([]:aq)))])*3<=4398046511104)) then
      bif (decide ((0:Int)<=LX)&&decide (LX<=(length a0.2.1:Int))&&decide ((length a0.2.1:Int)<=(length a0.2.1:Int))) then
       qa N (List.drop (toNat LX) (List.take (toNat (length a0.2.1:Int)) a0.2.1)) (λabH=>
        bif (decide ((length (TO++[(a1,(a2,([]:aq)))])+length abH)*3<=4398046511104)) then
         jg N a0 (eV.1,(((TO++[(a1,(a2,([]:aq)))])++abH),eV.2.2)) true (2:Int) a1 kf
        else none)
      else none
     else none)
   else none) (0:Int))
def wF (N:Nat) (a0:QT) (a1:QT) (kf:Bool->aa):aa:=
 bif (a0.2.2.1 != a1.2.2.1) then
  kf (decide (a0.2.2.1>a1.2.2.1))
 else
  bif (decide (a0.2.2.2.1>a1.2.2.2.1)) then
   kf true
  else
   bif (a0.2.2.2.1==a1.2.2.2.1) then
    kf (decide (a0.1<a1.1))
   else
    kf false
def jU (GN:bg):Nat->(aq->aa)->aq->Int->aa
 |0,_,_,_=>none
 |aDt+1,LY,GO,aij=>
  bif (decide (aij<(length GN:Int))) then
   bif (bp aij (length GN)) then
    bif (decide ((length GO+length [(getD GN (toNat aij) eZ).1])*1<=4398046511104)) then
     (jU GN aDt LY) (GO++[(getD GN (toNat aij) eZ).1]) (wrap .i64 (aij+(1:Int)))
    else none
   else none
  else
   LY GO
def ns (N:Nat) (nP:bg) (AJ:bg) (OX:Int):Nat->(Int->aa)->Int->aa
 |0,_,_=>none
 |aik+1,afO,TP=>
  bif (decide (TP>(0:Int))) then
   bif (bp OX (length nP)) then
    bif (bp (wrap .i64 (TP - (1:Int))) (length AJ)) then
     wF N (getD nP (toNat OX) eZ) (getD AJ (toNat (wrap .i64 (TP - (1:Int)))) eZ) (λayy=>
      bif ayy then
       (ns N nP AJ OX aik afO) (wrap .i64 (TP - (1:Int)))
      else
       afO TP)
    else none
   else none
  else
   afO TP
def nt (N:Nat) (aB:bg):Nat->(bg->aa)->bg->Int->aa
 |0,_,_,_=>none
 |wC+1,Bq,aE,b9=>
  bif (decide (b9<(length aB:Int))) then
   dV N aB (λail=>
    bif ail then
     ns N aB aE b9 N (λye=>
      bif (decide ((0:Int)<=(0:Int))&&decide ((0:Int)<=ye)&&decide (ye<=(length aE:Int))) then
       bif (bp b9 (length aB)) then
        bif (decide ((0:Int)<=ye)&&decide (ye<=(length aE:Int))&&decide ((length aE:Int)<=(length aE:Int))) then
         bif (decide ((length ([]:bg)+length (List.drop 0 (List.take (toNat ye) aE)))*6<=4398046511104)) then
          bif (decide ((length (([]:bg)++(List.drop 0 (List.take (toNat ye) aE)))+length [(getD aB (toNat b9) eZ)])*6<=4398046511104)) then
           bif (decide ((length ((([]:bg)++(List.drop 0 (List.take (toNat ye) aE)))++[(getD aB (toNat b9) eZ)])+length (List.drop (toNat ye) (List.take (toNat (length aE:Int)) aE)))*6<=4398046511104)) then
            (nt N aB wC Bq) (((([]:bg)++(List.drop 0 (List.take (toNat ye) aE)))++[(getD aB (toNat b9) eZ)])++(List.drop (toNat ye) (List.take (toNat (length aE:Int)) aE))) (wrap .i64 (b9+(1:Int)))
           else none
          else none
         else none
        else none
       else none
      else none) (length aE:Int)
    else
     Bq aE)
  else
   Bq aE
def vf (N:Nat) (a0:bg) (kf:aq->aa):aa:=
 nt N a0 N (λarl=>
  jU arl N kf ([]:aq) (0:Int)) ([]:bg) (0:Int)
def HM (N:Nat) (a0:bg) (a1:Int) (a2:Int) (kf:LR->aa):aa:=
 fj N a0 a1 (λeV=>
  fj N a0 a2 (λmM=>
   dV N a0 (λOh=>
    bif (!Oh) then
     kf ((0:Int),(0:Int))
    else
     bif (decide (eV<(0:Int))) then
      kf ((0:Int),(0:Int))
     else
      bif (decide (mM<(0:Int))) then
       kf ((0:Int),(0:Int))
      else
       bif (eV==mM) then
        kf ((0:Int),(0:Int))
       else
        bif (bp mM (length a0)) then
         bif (bp eV (length a0)) then
          bif (decide ((getD a0 (toNat mM) eZ).2.2.2.2.1<(getD a0 (toNat eV) eZ).2.2.2.2.1)) then
           kf (a2,a1)
          else
           bif (bp mM (length a0)) then
            bif (bp eV (length a0)) then
             bif ((getD a0 (toNat mM) eZ).2.2.2.2.1==(getD a0 (toNat eV) eZ).2.2.2.2.1) then
              bif (bp mM (length a0)) then
               bif (bp eV (length a0)) then
                wF N (getD a0 (toNat mM) eZ) (getD a0 (toNat eV) eZ) (λaBo=>
                 bif aBo then
                  kf (a2,a1)
                 else
                  kf (a1,a2))
               else none
              else none
             else
              kf (a1,a2)
            else none
           else none
         else none
        else none)))
def ND (N:Nat) (self:bg->aq->(dD->Bool->aa)->aa) (aB:bg) (aR:aq):Nat->(aa)->(dD->Bool->aa)->Int->aa
 |0,_,_,_=>none
 |wC+1,ua,Br,AL=>
  bif (decide (AL<(length aR:Int))) then
   bif (bp (0:Int) (length aR)) then
    bif (bp AL (length aR)) then
     uf N aB (getD aR (toNat (0:Int)) (0:Int)) (getD aR (toNat AL) (0:Int)) (λaim=>
      bif (!aim) then
       (ND N self aB aR wC ua Br) (wrap .i64 (AL+(1:Int)))
      else
       bif (decide ((0:Int)<=(1:Int))&&decide ((1:Int)<=AL)&&decide (AL<=(length aR:Int))) then
        bif (decide ((0:Int)<=(wrap .i64 (AL+(1:Int))))&&decide ((wrap .i64 (AL+(1:Int)))<=(length aR:Int))&&decide ((length aR:Int)<=(length aR:Int))) then
         bif (decide ((length ([]:aq)+length (List.drop (toNat (1:Int)) (List.take (toNat AL) aR)))*1<=4398046511104)) then
          bif (decide ((length (([]:aq)++(List.drop (toNat (1:Int)) (List.take (toNat AL) aR)))+length (List.drop (toNat (wrap .i64 (AL+(1:Int)))) (List.take (toNat (length aR:Int)) aR)))*1<=4398046511104)) then
           self aB ((([]:aq)++(List.drop (toNat (1:Int)) (List.take (toNat AL) aR)))++(List.drop (toNat (wrap .i64 (AL+(1:Int)))) (List.take (toNat (length aR:Int)) aR))) (λaxc aBp=>
            bif aBp then
             bif (bp (0:Int) (length aR)) then
              bif (bp AL (length aR)) then
               HM N aB (getD aR (toNat (0:Int)) (0:Int)) (getD aR (toNat AL) (0:Int)) (λaeB=>
                bif (decide ((length [aeB]+length axc)*2<=4398046511104)) then
                 Br ([aeB]++axc) true
                else none)
              else none
             else none
            else
             (ND N self aB aR wC ua Br) (wrap .i64 (AL+(1:Int))))
          else none
         else none
        else none
       else none)
    else none
   else none
  else
   ua
def akV (self:bg->aq->(dD->Bool->aa)->aa) (N:Nat) (a0:bg) (a1:aq) (kf:dD->Bool->aa):aa:=
 bif ((length a1:Int)==(0:Int)) then
  kf ([]:dD) true
 else
  ND N self a0 a1 N (kf ([]:dD) false) kf (1:Int)
def akW:Nat->bg->aq->(dD->Bool->aa)->aa
 |0,_,_,_=>none
 |N+1,a0,a1,kf=>akV (akW N) N a0 a1 kf
def Bs (N:Nat) (a0:bg) (kf:dD->Bool->aa):aa:=
 dV N a0 (λLV=>
  bif (!LV) then
   kf ([]:dD) false
  else
   bif ((Int.tmod (length a0:Int) (2:Int))==(1:Int)) then
    kf ([]:dD) false
   else
    vf N a0 (λGM=>
     akW N a0 GM kf))
def JZ (N:Nat) (self:bg->du->dD->aq->(aq->Bool->aa)->aa) (aB:bg) (aR:du) (ky:dD) (lK:aq):Nat->(aa)->(aq->Bool->aa)->Int->aa
 |0,_,_,_=>none
 |Dh+1,Bm,ug,vM=>
  bif (decide (vM<(length aR:Int))) then
   bif (bp vM (length aR)) then
    eT N lK (getD aR (toNat vM) jy).1 (λaBq=>
     bif aBq then
      (JZ N self aB aR ky lK Dh Bm ug) (wrap .i64 (vM+(1:Int)))
     else
      bif (bp vM (length aR)) then
       bif (bp (0:Int) (length ky)) then
        pD N aB (getD aR (toNat vM) jy) (getD ky (toNat (0:Int)) lI) (λPR=>
         bif (!PR) then
          (JZ N self aB aR ky lK Dh Bm ug) (wrap .i64 (vM+(1:Int)))
         else
          bif (decide ((0:Int)<=(1:Int))&&decide ((1:Int)<=(length ky:Int))&&decide ((length ky:Int)<=(length ky:Int))) then
           bif (bp vM (length aR)) then
            bif (decide ((length ([]:aq)+length lK)*1<=4398046511104)) then
             bif (decide ((length (([]:aq)++lK)+length [(getD aR (toNat vM) jy).1])*1<=4398046511104)) then
              self aB aR (List.drop (toNat (1:Int)) (List.take (toNat (length ky:Int)) ky)) ((([]:aq)++lK)++[(getD aR (toNat vM) jy).1]) (λaxd ayz=>
               bif ayz then
                bif (bp vM (length aR)) then
                 bif (decide ((length [(getD aR (toNat vM) jy).1]+length axd)*1<=4398046511104)) then
                  ug ([(getD aR (toNat vM) jy).1]++axd) true
                 else none
                else none
               else
                (JZ N self aB aR ky lK Dh Bm ug) (wrap .i64 (vM+(1:Int))))
             else none
            else none
           else none
          else none)
       else none
      else none)
   else none
  else
   Bm
def akX (self:bg->du->dD->aq->(aq->Bool->aa)->aa) (N:Nat) (a0:bg) (a1:du) (a2:dD) (a3:aq) (kf:aq->Bool->aa):aa:=
 bif ((length a2:Int)==(0:Int)) then
  kf ([]:aq) true
 else
  JZ N self a0 a1 a2 a3 N (kf ([]:aq) false) kf (0:Int)
def akY:Nat->bg->du->dD->aq->(aq->Bool->aa)->aa
 |0,_,_,_,_,_=>none
 |N+1,a0,a1,a2,a3,kf=>akX (akY N) N a0 a1 a2 a3 kf
def yW (N:Nat) (a0:bg) (a1:du) (a2:dD) (kf:aq->Bool->aa):aa:=
 sQ N a1 (λwe=>
  bif (!we) then
   kf ([]:aq) false
  else
   dV N a0 (λqY=>
    bif (!qY) then
     kf ([]:aq) false
    else
     akY N a0 a1 a2 ([]:aq) kf))
def EU (N:Nat) (a0:QC) (kf:QC->Bool->aa):aa:=
 bW N a0 (λlq=>
  Bs N a0.1 (λmM aih=>
   let dd:=(List.replicate (toNat (length mM:Int)) ((0:Int),((0:Int),(0:Int))));
   yW N a0.1 a0.2.1 mM (λaeC SI=>
    bif (decide ((length mM:Int)=(length mM:Int))&&decide ((0:Int)<=(length mM:Int))&&decide ((length mM:Int)<=1099511627776)) then
     bif aih then
      bif SI then
       l6 N a0 (λaBr=>
        bif (!aBr) then
         jg N a0 (lq.1,(lq.2.1,(mM,(aeC,(dd,lq.2.2.2.2.2))))) (decide ((length a0.1:Int)>(0:Int))) (3:Int) (0:Int) kf
        else
         jg N a0 (lq.1,(lq.2.1,(mM,(aeC,(dd,lq.2.2.2.2.2))))) false (3:Int) (0:Int) kf)
      else
       jg N a0 (lq.1,(lq.2.1,(mM,(aeC,(dd,lq.2.2.2.2.2))))) false (3:Int) (0:Int) kf
     else
      jg N a0 (lq.1,(lq.2.1,(mM,(aeC,(dd,lq.2.2.2.2.2))))) false (3:Int) (0:Int) kf
    else none)))
def yX (N:Nat) (a0:QC) (a1:Int) (a2:Int) (a3:Int) (kf:QC->Bool->aa):aa:=
 bW N a0 (λlJ=>
  tH N a0 (λGM=>
   bif (!GM) then
    kf lJ false
   else
    cj N a1 (0:Int) (wrap .i64 ((length a0.2.2.1:Int) - (1:Int))) (λfO=>
     bif (!fO) then
      kf lJ false
     else
      bif (bp a1 (length a0.2.2.2.2.1)) then
       bif (!((decide (((getD a0.2.2.2.2.1 (toNat a1) x4).1:Int)=(0:Int)))&&((decide (((getD a0.2.2.2.2.1 (toNat a1) x4).2.1:Int)=(0:Int)))&&(decide (((getD a0.2.2.2.2.1 (toNat a1) x4).2.2:Int)=(0:Int)))))) then
        kf lJ false
       else
        bif (bp a1 (length a0.2.2.2.1)) then
         bif (bp a1 (length lJ.2.2.2.2.1)) then
          bif (bp a1 (length (List.set lJ.2.2.2.2.1 (toNat a1) ((getD a0.2.2.2.1 (toNat a1) (0:Int)),(a2,a3))))) then
           bif (bp a1 (length a0.2.2.2.1)) then
            pE N (getD (List.set lJ.2.2.2.2.1 (toNat a1) ((getD a0.2.2.2.1 (toNat a1) (0:Int)),(a2,a3))) (toNat a1) x4) (λark=>
             jg N a0 (lJ.1,(lJ.2.1,(lJ.2.2.1,(lJ.2.2.2.1,((List.set lJ.2.2.2.2.1 (toNat a1) ((getD a0.2.2.2.1 (toNat a1) (0:Int)),(a2,a3))),lJ.2.2.2.2.2))))) ark (4:Int) (getD a0.2.2.2.1 (toNat a1) (0:Int)) kf)
           else none
          else none
         else none
        else none
      else none)))
def mO (cD:QC) (b9:QB):Nat->(aq->aa)->aq->Int->aa
 |0,_,_,_=>none
 |pB+1,qz,aE,cy=>
  bif (decide (cy<(length cD.2.2.2.2.1:Int))) then
   bif (bp cy (length cD.2.2.2.2.1)) then
    bif ((decide (((getD cD.2.2.2.2.1 (toNat cy) x4).1:Int)=b9.1))&&((decide (((getD cD.2.2.2.2.1 (toNat cy) x4).2.1:Int)=b9.2.1))&&(decide (((getD cD.2.2.2.2.1 (toNat cy) x4).2.2:Int)=b9.2.2)))) then
     bif (decide ((length aE+length [cy])*1<=4398046511104)) then
      (mO cD b9 pB qz) (aE++[cy]) (wrap .i64 (cy+(1:Int)))
     else none
    else
     (mO cD b9 pB qz) aE (wrap .i64 (cy+(1:Int)))
   else none
  else
   qz aE
def qZ (N:Nat) (a0:QC) (kf:aq->aa):aa:=
 mO a0 ((0:Int),((0:Int),(0:Int))) N kf ([]:aq) (0:Int)
def iO (N:Nat) (aB:iz):Nat->(aa)->(Bool->aa)->Int->aa
 |0,_,_,_=>none
 |n_3+1,fM,jF,aE=>
  bif (decide (aE<(length aB:Int))) then
   bif (bp aE (length aB)) then
    pE N (getD aB (toNat aE) x4) (λarn=>
     bif (!arn) then
      jF false
     else
      bif (decide (aE>(0:Int))) then
       bif (bp (wrap .i64 (aE - (1:Int))) (length aB)) then
        bif (bp aE (length aB)) then
         bif (decide ((getD aB (toNat (wrap .i64 (aE - (1:Int)))) x4).1≥(getD aB (toNat aE) x4).1)) then
          jF false
         else
          (iO N aB n_3 fM jF) (wrap .i64 (aE+(1:Int)))
        else none
       else none
      else
       (iO N aB n_3 fM jF) (wrap .i64 (aE+(1:Int))))
   else none
  else
   fM
def oK (N:Nat) (a0:iz) (kf:Bool->aa):aa:=
 iO N a0 N (kf (decide ((length a0:Int)<=(9:Int)))) kf (0:Int)
def Eb (N:Nat) (a0:QB) (kf:Int->aa):aa:=
 bif (decide (a0.2.1>a0.2.2)) then
  kf (1:Int)
 else
  kf (2:Int)
def lu (N:Nat) (aB:iz) (aR:Int):Nat->(Int->aa)->Int->Int->aa
 |0,_,_,_=>none
 |pB+1,cJ,bA,eJ=>
  bif (decide (eJ<(length aB:Int))) then
   oK N aB (λain=>
    bif ain then
     bif (bp eJ (length aB)) then
      Eb N (getD aB (toNat eJ) x4) (λaio=>
       bif (aio==aR) then
        (lu N aB aR pB cJ) (wrap .i64 (bA+(1:Int))) (wrap .i64 (eJ+(1:Int)))
       else
        (lu N aB aR pB cJ) bA (wrap .i64 (eJ+(1:Int))))
     else none
    else
     cJ bA)
  else
   cJ bA
def yf (N:Nat) (a0:iz) (a1:Int) (kf:Int->aa):aa:=
 lu N a0 a1 N kf (0:Int) (0:Int)
def wG (N:Nat) (aB:iz) (aR:Int):Nat->(Int->aa)->Int->Int->aa
 |0,_,_,_=>none
 |pB+1,ep,bA,eJ=>
  bif (decide (eJ<(length aB:Int))) then
   oK N aB (λain=>
    bif ain then
     bif (aR==(1:Int)) then
      bif (bp eJ (length aB)) then
       (wG N aB aR pB ep) (wrap .i64 (bA+(getD aB (toNat eJ) x4).2.1)) (wrap .i64 (eJ+(1:Int)))
      else none
     else
      bif (aR==(2:Int)) then
       bif (bp eJ (length aB)) then
        (wG N aB aR pB ep) (wrap .i64 (bA+(getD aB (toNat eJ) x4).2.2)) (wrap .i64 (eJ+(1:Int)))
       else none
      else
       (wG N aB aR pB ep) bA (wrap .i64 (eJ+(1:Int)))
    else
     ep bA)
  else
   ep bA
def PS (N:Nat) (a0:iz) (a1:Int) (kf:Int->aa):aa:=
 wG N a0 a1 N kf (0:Int) (0:Int)
def LZ (N:Nat) (a0:iz) (kf:Int->aa) (aBs:Int):aa:=
 bif (decide (aBs>(0:Int))) then
  kf (1:Int)
 else
  bif (decide (aBs<(0:Int))) then
   kf (2:Int)
  else
   bif (bp (0:Int) (length a0)) then
    Eb N (getD a0 (toNat (0:Int)) x4) kf
   else none
def vg (N:Nat) (a0:iz) (kf:Int->aa):aa:=
 bif ((length a0:Int)==(0:Int)) then
  kf (0:Int)
 else
  oK N a0 (λwe=>
   bif (!we) then
    kf (0:Int)
   else
    yf N a0 (1:Int) (λqY=>
     yf N a0 (2:Int) (λaxe=>
      bif ((wrap .i64 (qY - axe))==(0:Int)) then
       PS N a0 (1:Int) (λaBt=>
        PS N a0 (2:Int) (λaBu=>
         LZ N a0 kf (wrap .i64 (aBt - aBu))))
      else
       LZ N a0 kf (wrap .i64 (qY - axe)))))
def vN (N:Nat) (a0:bg) (kf:bg->Bool->aa) (aro:bg):aa:=
 dV N aro (λau2=>
  bif (!au2) then
   lY N a0 (λau3=>
    kf au3 false)
  else
   kf aro true)
def sR (N:Nat) (a0:bg) (a1:Int) (a2:Int) (a3:Int) (a4:Int) (a5:Int) (kf:bg->Bool->aa):aa:=
 lY N a0 (λse=>
  fj N a0 a1 (λgF=>
   let dd:=(getD se (toNat gF) eZ);
   let yb:=(List.set se (toNat gF) (dd.1,(dd.2.1,(dd.2.2.1,(dd.2.2.2.1,(dd.2.2.2.2.1,(dd.2.2.2.2.2++[a2])))))));
   fj N a0 a2 (λfO=>
    let tC:=(getD yb (toNat fO) eZ);
    dV N a0 (λabI=>
     bif (!abI) then
      kf se false
     else
      bif (decide (gF<(0:Int))) then
       kf se false
      else
       bif (decide (fO<(0:Int))) then
        kf se false
       else
        bif (gF==fO) then
         kf se false
        else
         cj N a3 (1:Int) (2:Int) (λarp=>
          bif (!arp) then
           kf se false
          else
           cj N a4 (0:Int) (1000:Int) (λarq=>
            bif (!arq) then
             kf se false
            else
             cj N a5 (0:Int) (1000:Int) (λars=>
              bif (!ars) then
               kf se false
              else
               bif (bp gF (length se)) then
                bif (decide ((length dd.2.2.2.2.2+length [a2])*1<=4398046511104)) then
                 bif (bp gF (length se)) then
                  bif (Nat.beq (toNat gF) (toNat gF)) then
                   bif (bp fO (length yb)) then
                    bif (decide ((length tC.2.2.2.2.2+length [a1])*1<=4398046511104)) then
                     bif (bp fO (length yb)) then
                      bif (Nat.beq (toNat fO) (toNat fO)) then
                       share (List.set yb (toNat fO) (tC.1,(tC.2.1,(tC.2.2.1,(tC.2.2.2.1,(tC.2.2.2.2.1,(tC.2.2.2.2.2++[a1]))))))) (λVF=>
                        let xS:=(getD VF (toNat gF) eZ);
                        let Rz:=(wrap .i64 (xS.2.2.2.2.1+(1:Int)));
                        let AI:=(List.set VF (toNat gF) (xS.1,(xS.2.1,(xS.2.2.1,(xS.2.2.2.1,(Rz,xS.2.2.2.2.2))))));
                        let RA:=(getD AI (toNat gF) eZ);
                        bif (bp gF (length VF)) then
                         bif (bp gF (length VF)) then
                          bif (bp gF (length AI)) then
                           bif (bp gF (length AI)) then
                            share (List.set AI (toNat gF) (RA.1,(RA.2.1,(RA.2.2.1,((wrap .i64 (RA.2.2.2.1+a4)),RA.2.2.2.2))))) (λaeD=>
                             let art:=(getD aeD (toNat fO) eZ);
                             let aDu:=((wrap .i64 (art.2.2.2.1+a5)),art.2.2.2.2);
                             let J0:=(List.set aeD (toNat fO) (art.1,(art.2.1,(art.2.2.1,aDu))));
                             bif (bp fO (length aeD)) then
                              bif (bp fO (length aeD)) then
                               bif (a3==(1:Int)) then
                                bif (bp gF (length J0)) then
                                 bif (bp gF (length J0)) then
                                  share (List.set J0 (toNat gF) ((getD J0 (toNat gF) eZ).1,((getD J0 (toNat gF) eZ).2.1,((wrap .i64 ((getD J0 (toNat gF) eZ).2.2.1+(1:Int))),(getD J0 (toNat gF) eZ).2.2.2)))) (λakZ=>
                                   vN N a0 kf akZ)
                                 else none
                                else none
                               else
                                bif (bp fO (length J0)) then
                                 bif (bp fO (length J0)) then
                                  share (List.set J0 (toNat fO) ((getD J0 (toNat fO) eZ).1,((getD J0 (toNat fO) eZ).2.1,((wrap .i64 ((getD J0 (toNat fO) eZ).2.2.1+(1:Int))),(getD J0 (toNat fO) eZ).2.2.2)))) (λayA=>
                                   vN N a0 kf ayA)
                                 else none
                                else none
                              else none
                             else none)
                           else none
                          else none
                         else none
                        else none)
                      else none
                     else none
                    else none
                   else none
                  else none
                 else none
                else none
               else none)))))))
def sS (a0:aq) (a1:Int) (kf:aq->aa) (Gb:Int):aa:=
 bif (decide ((0:Int)<=(0:Int))&&decide ((0:Int)<=Gb)&&decide (Gb<=(length a0:Int))) then
  bif (decide ((0:Int)<=Gb)&&decide (Gb<=(length a0:Int))&&decide ((length a0:Int)<=(length a0:Int))) then
   bif (decide ((length ([]:aq)+length (List.drop (toNat (0:Int)) (List.take (toNat Gb) a0)))*1<=4398046511104)) then
    bif (decide ((length (([]:aq)++(List.drop (toNat (0:Int)) (List.take (toNat Gb) a0)))+length [a1])*1<=4398046511104)) then
     bif (decide ((length ((([]:aq)++(List.drop (toNat (0:Int)) (List.take (toNat Gb) a0)))++[a1])+length (List.drop (toNat Gb) (List.take (toNat (length a0:Int)) a0)))*1<=4398046511104)) then
      kf (((([]:aq)++(List.drop (toNat (0:Int)) (List.take (toNat Gb) a0)))++[a1])++(List.drop (toNat Gb) (List.take (toNat (length a0:Int)) a0)))
     else none
    else none
   else none
  else none
 else none
def qd (aB:aq) (aR:Int):Nat->(Int->aa)->Int->aa
 |0,_,_=>none
 |wC+1,fM,bA=>
  bif (decide (bA<(length aB:Int))) then
   bif (bp bA (length aB)) then
    bif (decide ((getD aB (toNat bA) (0:Int))<aR)) then
     (qd aB aR wC fM) (wrap .i64 (bA+(1:Int)))
    else
     fM bA
   else none
  else
   fM bA
def iP (N:Nat) (a0:aq) (a1:Int) (kf:aq->aa):aa:=
 qd a0 a1 N (λGb=>
  bif (decide (Gb<(length a0:Int))) then
   bif (bp Gb (length a0)) then
    bif ((getD a0 (toNat Gb) (0:Int))==a1) then
     bif (decide ((length ([]:aq)+length a0)*1<=4398046511104)) then
      kf (([]:aq)++a0)
     else none
    else
     sS a0 a1 kf Gb
   else none
  else
   sS a0 a1 kf Gb) (0:Int)
def jV (N:Nat) (uM:QC) (aru:QC):Nat->(QC->Bool->aa)->QC->Bool->Int->aa
 |0,_,_,_,_=>none
 |aik+1,NF,ki,AM,Fo=>
  bif (decide (Fo<(length uM.2.2.1:Int))) then
   bif (bp Fo (length uM.2.2.2.2.1)) then
    bif (bp Fo (length uM.2.2.1)) then
     bif (bp Fo (length uM.2.2.1)) then
      vg N [(getD uM.2.2.2.2.1 (toNat Fo) x4)] (λabJ=>
       sR N ki.1 (getD uM.2.2.1 (toNat Fo) lI).1 (getD uM.2.2.1 (toNat Fo) lI).2 abJ (getD uM.2.2.2.2.1 (toNat Fo) x4).2.1 (getD uM.2.2.2.2.1 (toNat Fo) x4).2.2 (λPT NG=>
        bif AM then
         bif (bp Fo (length uM.2.2.2.1)) then
          jf N ki.2.1 (getD uM.2.2.2.1 (toNat Fo) (0:Int)) (λsU=>
           bif (bp sU (length ki.2.1)) then
            bif (bp Fo (length uM.2.2.1)) then
             bif (bp Fo (length uM.2.2.1)) then
              iP N (getD ki.2.1 (toNat sU) jy).2.2 (getD uM.2.2.1 (toNat Fo) lI).1 (λabK=>
               iP N abK (getD uM.2.2.1 (toNat Fo) lI).2 (λVG=>
                bif (bp sU (length ki.2.1)) then
                 (jV N uM aru aik NF) (PT,((List.set ki.2.1 (toNat sU) ((getD ki.2.1 (toNat sU) jy).1,((getD ki.2.1 (toNat sU) jy).2.1,VG))),ki.2.2)) NG (wrap .i64 (Fo+(1:Int)))
                else none))
             else none
            else none
           else none)
         else none
        else
         bif (bp Fo (length uM.2.2.2.1)) then
          jf N ki.2.1 (getD uM.2.2.2.1 (toNat Fo) (0:Int)) (λsV=>
           bif (bp sV (length ki.2.1)) then
            bif (bp Fo (length uM.2.2.1)) then
             bif (bp Fo (length uM.2.2.1)) then
              iP N (getD ki.2.1 (toNat sV) jy).2.2 (getD uM.2.2.1 (toNat Fo) lI).1 (λTQ=>
               iP N TQ (getD uM.2.2.1 (toNat Fo) lI).2 (λVH=>
                bif (bp sV (length ki.2.1)) then
                 (jV N uM aru aik NF) (PT,((List.set ki.2.1 (toNat sV) ((getD ki.2.1 (toNat sV) jy).1,((getD ki.2.1 (toNat sV) jy).2.1,VH))),ki.2.2)) false (wrap .i64 (Fo+(1:Int)))
                else none))
             else none
            else none
           else none)
         else none))
     else none
    else none
   else none
  else
   NF ki AM
def Bt (N:Nat) (a0:QC) (kf:QC->Bool->aa):aa:=
 bW N a0 (λvK=>
  tH N a0 (λmM=>
   bif (!mM) then
    kf vK false
   else
    l6 N a0 (λVE=>
     bif (!VE) then
      kf vK false
     else
      qZ N a0 (λaeC=>
       bif (decide ((length aeC:Int)>(0:Int))) then
        kf vK false
       else
        jV N a0 (([]:bg),(([]:du),(([]:dD),(([]:aq),(([]:iz),(([]:lX),(0:Int))))))) N (λarv aBv=>
         jg N a0 (arv.1,(arv.2.1,(([]:dD),(([]:aq),(([]:iz),(arv.2.2.2.2.2.1,(wrap .i64 (a0.2.2.2.2.2.2+(length a0.2.2.1:Int))))))))) aBv (5:Int) (0:Int) kf) vK true (0:Int)))))
def Bu (N:Nat) (a0:QC) (a1:Int) (kf:QC->Bool->aa):aa:=
 bW N a0 (λwe=>
  fj N a0.1 a1 (λqY=>
   bif (decide (qY<(0:Int))) then
    kf we false
   else
    l6 N a0 (λVE=>
     bif VE then
      kf we false
     else
      bif (bp qY (length a0.1)) then
       bif (decide ((length (getD a0.1 (toNat qY) eZ).2.2.2.2.2:Int)>(0:Int))) then
        kf we false
       else
        bif (decide ((0:Int)<=(0:Int))&&decide ((0:Int)<=qY)&&decide (qY<=(length a0.1:Int))) then
         bif (decide ((0:Int)<=(wrap .i64 (qY+(1:Int))))&&decide ((wrap .i64 (qY+(1:Int)))<=(length a0.1:Int))&&decide ((length a0.1:Int)<=(length a0.1:Int))) then
          lY N (List.drop (toNat (0:Int)) (List.take (toNat qY) a0.1)) (λaxf=>
           lY N (List.drop (toNat (wrap .i64 (qY+(1:Int)))) (List.take (toNat (length a0.1:Int)) a0.1)) (λZv=>
            bif (decide ((length axf+length Zv)*6<=4398046511104)) then
             jg N a0 ((axf++Zv),we.2) true (6:Int) a1 kf
            else none))
         else none
        else none
      else none)))
def uN (N:Nat) (a0:QC) (a1:QL) (kf:QC->Bool->aa):aa:=
 bif (a1.1==(1:Int)) then
  ET N a0 a1.2.1 a1.2.2.1 kf
 else
  bif (a1.1==(2:Int)) then
   Bp N a0 a1.2.1 a1.2.2.1 kf
  else
   bif (a1.1==(3:Int)) then
    EU N a0 kf
   else
    bif (a1.1==(4:Int)) then
     yX N a0 a1.2.2.2 a1.2.1 a1.2.2.1 kf
    else
     bif (a1.1==(5:Int)) then
      Bt N a0 kf
     else
      bif (a1.1==(6:Int)) then
       Bu N a0 a1.2.1 kf
      else
       bW N a0 (λayB=>
        kf ayB false)
def HN (N:Nat) (a0:QC) (a1:QC) (a2:Bool) (kf:QC->ByteArray->aa):aa:=
 bif (!a2) then
  bW N a0 (λeV=>
   kf eV abz)
 else
  kf a1 PL
def yY (aBw:ByteArray->Int->aa) (aB:bG) (b9:Int) (aBx:ByteArray):aa:=
 bif (bp b9 (length aB)) then
  bif (decide (ByteArray.size aBx+ByteArray.size (getD aB (toNat b9) ByteArray.empty)<=9223372036854775807)) then
   aBw (aBx++(getD aB (toNat b9) ByteArray.empty)) (wrap .i64 (b9+(1:Int)))
  else none
 else none
def mP (aB:bG):Nat->(ByteArray->aa)->ByteArray->Int->aa
 |0,_,_,_=>none
 |wC+1,ez,aE,b9=>
  bif (decide (b9<(length aB:Int))) then
   bif (decide (b9>(0:Int))) then
    bif (decide (ByteArray.size aE+ByteArray.size Bg<=9223372036854775807)) then
     yY (mP aB wC ez) aB b9 (aE++Bg)
    else none
   else
    yY (mP aB wC ez) aB b9 aE
  else
   ez aE
def q7 (N:Nat) (a0:bG) (kf:ByteArray->aa):aa:=
 mP a0 N (λafL=>
  bif ((length a0:Int)==(0:Int)) then
   kf im
  else
   kf afL) D9 (0:Int)
def ib (N:Nat) (aB:aq):Nat->(bG->aa)->bG->Int->aa
 |0,_,_,_=>none
 |wC+1,ez,aE,b9=>
  bif (decide (b9<(length aB:Int))) then
   bif (bp b9 (length aB)) then
    cn N (getD aB (toNat b9) (0:Int)) (λFl=>
     bif (decide ((length aE+length [Fl])*1<=4398046511104)) then
      (ib N aB wC ez) (aE++[Fl]) (wrap .i64 (b9+(1:Int)))
     else none)
   else none
  else
   ez aE
def gy (N:Nat) (a0:aq) (kf:ByteArray->aa):aa:=
 ib N a0 N (λafL=>
  q7 N afL kf) ([]:bG) (0:Int)
def jG (N:Nat) (aB:bg):Nat->(bG->aa)->bG->Int->aa
 |0,_,_,_=>none
 |wC+1,cJ,aE,b9=>
  bif (decide (b9<(length aB:Int))) then
   bif (bp b9 (length aB)) then
    bif (bp b9 (length aB)) then
     bif (bp b9 (length aB)) then
      bif (bp b9 (length aB)) then
       cn N (getD aB (toNat b9) eZ).1 (λFp=>
        bif (decide (ByteArray.size Fp+ByteArray.size nC<=9223372036854775807)) then
         cn N (getD aB (toNat b9) eZ).2.2.1 (λyd=>
          bif (decide (ByteArray.size (Fp++nC)+ByteArray.size yd<=9223372036854775807)) then
           bif (decide (ByteArray.size ((Fp++nC)++yd)+ByteArray.size rZ<=9223372036854775807)) then
            cn N (length (getD aB (toNat b9) eZ).2.2.2.2.2:Int) (λya=>
             bif (decide (ByteArray.size (((Fp++nC)++yd)++rZ)+ByteArray.size ya<=9223372036854775807)) then
              bif (decide (ByteArray.size ((((Fp++nC)++yd)++rZ)++ya)+ByteArray.size Ag<=9223372036854775807)) then
               cn N (getD aB (toNat b9) eZ).2.2.2.1 (λabL=>
                bif (decide (ByteArray.size (((((Fp++nC)++yd)++rZ)++ya)++Ag)+ByteArray.size abL<=9223372036854775807)) then
                 bif (decide ((length aE+length [((((((Fp++nC)++yd)++rZ)++ya)++Ag)++abL)])*1<=4398046511104)) then
                  (jG N aB wC cJ) (aE++[((((((Fp++nC)++yd)++rZ)++ya)++Ag)++abL)]) (wrap .i64 (b9+(1:Int)))
                 else none
                else none)
              else none
             else none)
           else none
          else none)
        else none)
      else none
     else none
    else none
   else none
  else
   cJ aE
def sW (N:Nat) (a0:bg) (kf:ByteArray->aa):aa:=
 jG N a0 N (λaip=>
  q7 N aip kf) ([]:bG) (0:Int)
def sv (N:Nat) (ayC:bG->Int->aa) (aB:dD) (bA:bG) (eJ:Int) (ayD:ByteArray):aa:=
 bif (bp eJ (length aB)) then
  bif (bp eJ (length aB)) then
   cn N (getD aB (toNat eJ) lI).1 (λAh=>
    bif (decide (ByteArray.size Ah+ByteArray.size im<=9223372036854775807)) then
     cn N (getD aB (toNat eJ) lI).2 (λFq=>
      bif (decide (ByteArray.size (Ah++im)+ByteArray.size Fq<=9223372036854775807)) then
       bif (decide (ByteArray.size ((Ah++im)++Fq)+ByteArray.size r9<=9223372036854775807)) then
        bif (decide (ByteArray.size (((Ah++im)++Fq)++r9)+ByteArray.size ayD<=9223372036854775807)) then
         bif (decide ((length bA+length [((((Ah++im)++Fq)++r9)++ayD)])*1<=4398046511104)) then
          ayC (bA++[((((Ah++im)++Fq)++r9)++ayD)]) (wrap .i64 (eJ+(1:Int)))
         else none
        else none
       else none
      else none)
    else none)
  else none
 else none
def gX (N:Nat) (aB:dD) (aR:aq):Nat->(bG->aa)->bG->Int->aa
 |0,_,_,_=>none
 |pB+1,vO,bA,eJ=>
  bif (decide (eJ<(length aB:Int))) then
   bif (decide (eJ<(length aR:Int))) then
    bif (bp eJ (length aR)) then
     cn N (getD aR (toNat eJ) (0:Int)) (λabM=>
      sv N (gX N aB aR pB vO) aB bA eJ abM)
    else none
   else
    sv N (gX N aB aR pB vO) aB bA eJ LU
  else
   vO bA
def sX (N:Nat) (a0:dD) (a1:aq) (kf:ByteArray->aa):aa:=
 gX N a0 a1 N (λaie=>
  q7 N aie kf) ([]:bG) (0:Int)
def yZ (N:Nat) (a0:QC) (kf:ByteArray->aa):aa:=
 qZ N a0 (λlJ=>
  gy N [(length a0.1:Int),(length a0.2.1:Int),(length a0.2.2.1:Int),(length lJ:Int),a0.2.2.2.2.2.2,(length a0.2.2.2.2.2.1:Int)] kf)
def jW (N:Nat) (abN:QC) (wE:Int) (TR:aq):Nat->(aa)->(Bool->aa)->Int->aa
 |0,_,_,_=>none
 |n_8+1,HO,HP,ak0=>
  bif (decide (ak0<(length TR:Int))) then
   bif (decide ((0:Int)<=(0:Int))&&decide ((0:Int)<=ak0)&&decide (ak0<=(length TR:Int))) then
    bif (bp ak0 (length TR)) then
     eT N (List.drop (toNat (0:Int)) (List.take (toNat ak0) TR)) (getD TR (toNat ak0) (0:Int)) (λarw=>
      bif arw then
       HP false
      else
       (jW N abN wE TR n_8 HO HP) (wrap .i64 (ak0+(1:Int))))
    else none
   else none
  else
   HO
def mc (N:Nat) (cD:QC):Nat->(aa)->(Bool->aa)->Int->aa
 |0,_,_,_=>none
 |n_3+1,Q9,Q',aE=>
  bif (decide (aE<(length cD.1:Int))) then
   bif (bp aE (length cD.1)) then
    jW N cD aE (getD cD.1 (toNat aE) eZ).2.2.2.2.2 N ((mc N cD n_3 Q9 Q') (wrap .i64 (aE+(1:Int)))) Q' (0:Int)
   else none
  else
   Q9
def Bv (N:Nat) (a0:QC) (kf:Bool->aa):aa:=
 mc N a0 N (kf true) kf (0:Int)
def jH (N:Nat) (cD:QC):Nat->(aa)->(Bool->aa)->Int->aa
 |0,_,_,_=>none
 |n_3+1,jh,iv,aE=>
  bif (decide (aE<(length cD.2.2.1:Int))) then
   bif (decide (aE≥(length cD.2.2.2.1:Int))) then
    iv false
   else
    bif (bp aE (length cD.2.2.2.1)) then
     jf N cD.2.1 (getD cD.2.2.2.1 (toNat aE) (0:Int)) (λabO=>
      bif (decide (abO<(0:Int))) then
       iv false
      else
       bif (bp abO (length cD.2.1)) then
        bif (bp aE (length cD.2.2.1)) then
         pD N cD.1 (getD cD.2.1 (toNat abO) jy) (getD cD.2.2.1 (toNat aE) lI) (λJ1=>
          bif (!J1) then
           iv false
          else
           (jH N cD n_3 jh iv) (wrap .i64 (aE+(1:Int))))
        else none
       else none)
    else none
  else
   jh
def xm (N:Nat) (a0:QC) (kf:Bool->aa):aa:=
 jH N a0 N (kf true) kf (0:Int)
def jX (cD:QC):Nat->(Int->aa)->Int->Int->aa
 |0,_,_,_=>none
 |wC+1,ez,aE,b9=>
  bif (decide (b9<(length cD.2.2.2.2.2.1:Int))) then
   bif (bp b9 (length cD.2.2.2.2.2.1)) then
    bif ((getD cD.2.2.2.2.2.1 (toNat b9) zQL).2.1==(4:Int)) then
     (jX cD wC ez) (wrap .i64 (aE+(1:Int))) (wrap .i64 (b9+(1:Int)))
    else
     (jX cD wC ez) aE (wrap .i64 (b9+(1:Int)))
   else none
  else
   ez aE
def Bw (N:Nat) (a0:QC) (kf:Bool->aa):aa:=
 jX a0 N (λafL=>
  qG N a0.2.2.2.2.2.1 (λaBy=>
   bif aBy then
    cj N a0.2.2.2.2.2.2 (0:Int) (1000:Int) (λayE=>
     bif ayE then
      qZ N a0 (λTS=>
       kf (afL==(wrap .i64 ((wrap .i64 (a0.2.2.2.2.2.2+(length a0.2.2.2.2.1:Int))) - (length TS:Int)))))
     else
      kf false)
   else
    kf false)) (0:Int) (0:Int)
def mf (N:Nat) (cD:QC):Nat->(Int->Int->Int->aa)->Int->Int->Int->Int->aa
 |0,_,_,_,_,_=>none
 |Dh+1,wH,aE,b9,cy,iN=>
  bif (decide (iN<(length cD.1:Int))) then
   dV N cD.1 (λarx=>
    bif arx then
     bif (bp iN (length cD.1)) then
      bif (bp iN (length cD.1)) then
       bif (bp iN (length cD.1)) then
        (mf N cD Dh wH) (wrap .i64 (aE+(length (getD cD.1 (toNat iN) eZ).2.2.2.2.2:Int))) (wrap .i64 (b9+(getD cD.1 (toNat iN) eZ).2.2.1)) (wrap .i64 (cy+(getD cD.1 (toNat iN) eZ).2.2.2.2.1)) (wrap .i64 (iN+(1:Int)))
       else none
      else none
     else none
    else
     wH aE b9 cy)
  else
   wH aE b9 cy
def Bx (N:Nat) (a0:QC) (kf:Bool->aa):aa:=
 mf N a0 N (λaiq aBz aie=>
  dV N a0.1 (λayF=>
   bif ayF then
    bif ((wrap .i64 ((2:Int)*aBz))==aiq) then
     kf ((wrap .i64 ((2:Int)*aie))==aiq)
    else
     kf false
   else
    kf false)) (0:Int) (0:Int) (0:Int) (0:Int)
def By (N:Nat) (a0:QC) (kf:ByteArray->aa):aa:=
 Bv N a0 (λLV=>
  bif (!LV) then
   kf Yd
  else
   xm N a0 (λakT=>
    bif (!akT) then
     kf yV
    else
     Bw N a0 (λabP=>
      bif (!abP) then
       kf Ye
      else
       Bx N a0 (λary=>
        bif (!ary) then
         kf aq2
        else
         tH N a0 (λabQ=>
          bif (!abQ) then
           kf Bj
          else
           kf D9)))))
def oc (N:Nat) (kf:cZ->aa):aa:=
 kf ((5:Int),[[(0:Int),(1:Int)],[(1:Int),(0:Int)],[(1:Int),(2:Int)],[(2:Int),(3:Int)],[(3:Int),(4:Int)],[(4:Int),(2:Int)]])
def uO (N:Nat) (cD:cZ):Nat->(aa)->(Bool->aa)->Int->aa
 |0,_,_,_=>none
 |n_3+1,jh,iv,aE=>
  let dd:=(getD cD.2 (toNat aE) ([]:aq));
  let yb:=(getD cD.2 (toNat (wrap .i64 (aE - (1:Int)))) ([]:aq));
  bif (decide (aE<(length cD.2:Int))) then
   bif (bp aE (length cD.2)) then
    bif ((length dd:Int) != (2:Int)) then
     iv false
    else
     bif (bp (0:Int) (length dd)) then
      cj N (getD dd (toNat (0:Int)) (0:Int)) (0:Int) (wrap .i64 (cD.1 - (1:Int))) (λVI=>
       bif (!VI) then
        iv false
       else
        bif (bp (1:Int) (length dd)) then
         cj N (getD dd (toNat (1:Int)) (0:Int)) (0:Int) (wrap .i64 (cD.1 - (1:Int))) (λaBA=>
          bif (!aBA) then
           iv false
          else
           bif (decide (aE>(0:Int))) then
            bif (bp (wrap .i64 (aE - (1:Int))) (length cD.2)) then
             bif (bp (0:Int) (length yb)) then
              bif (bp (0:Int) (length dd)) then
               bif (decide ((getD yb (toNat (0:Int)) (0:Int))>(getD dd (toNat (0:Int)) (0:Int)))) then
                iv false
               else
                bif (bp (0:Int) (length yb)) then
                 bif (bp (0:Int) (length dd)) then
                  bif ((getD yb (toNat (0:Int)) (0:Int))==(getD dd (toNat (0:Int)) (0:Int))) then
                   bif (bp (1:Int) (length yb)) then
                    bif (bp (1:Int) (length dd)) then
                     bif (decide ((getD yb (toNat (1:Int)) (0:Int))≥(getD dd (toNat (1:Int)) (0:Int)))) then
                      iv false
                     else
                      (uO N cD n_3 jh iv) (wrap .i64 (aE+(1:Int)))
                    else none
                   else none
                  else
                   (uO N cD n_3 jh iv) (wrap .i64 (aE+(1:Int)))
                 else none
                else none
              else none
             else none
            else none
           else
            (uO N cD n_3 jh iv) (wrap .i64 (aE+(1:Int))))
        else none)
     else none
   else none
  else
   jh
def uh (N:Nat) (a0:cZ) (kf:Bool->aa):aa:=
 uO N a0 N (cj N a0.1 (0:Int) (10:Int) kf) kf (0:Int)
def EV (N:Nat) (aR:aq) (ky:cZ):Nat->(aa)->(Bool->aa)->Int->aa
 |0,_,_,_=>none
 |pB+1,qz,Bz,cy=>
  bif (decide (cy<(length aR:Int))) then
   bif (bp cy (length aR)) then
    cj N (getD aR (toNat cy) (0:Int)) (0:Int) (wrap .i64 (ky.1 - (1:Int))) (λarz=>
     bif (!arz) then
      Bz false
     else
      bif (decide (cy>(0:Int))) then
       bif (bp (wrap .i64 (cy - (1:Int))) (length aR)) then
        bif (bp cy (length aR)) then
         bif (decide ((getD aR (toNat (wrap .i64 (cy - (1:Int)))) (0:Int))≥(getD aR (toNat cy) (0:Int)))) then
          Bz false
         else
          (EV N aR ky pB qz Bz) (wrap .i64 (cy+(1:Int)))
        else none
       else none
      else
       (EV N aR ky pB qz Bz) (wrap .i64 (cy+(1:Int))))
   else none
  else
   qz
def NH (N:Nat) (a0:cZ) (a1:aq) (kf:Bool->aa):aa:=
 uh N a0 (λHL=>
  bif (!HL) then
   kf false
  else
   EV N a1 a0 N (kf true) kf (0:Int))
def yg (N:Nat) (sk:aq) (NI:cZ) (TP:aq) (Oi:Int):Nat->(Bool->aa)->Bool->Int->aa
 |0,_,_,_=>none
 |akQ+1,aap,axg,SJ=>
  bif (decide (SJ<(length NI.2:Int))) then
   bif axg then
    (yg N sk NI TP Oi akQ aap) true (wrap .i64 (SJ+(1:Int)))
   else
    bif (bp SJ (length NI.2)) then
     bif (bp (1:Int) (length (getD NI.2 (toNat SJ) ([]:aq)))) then
      bif ((getD (getD NI.2 (toNat SJ) ([]:aq)) (toNat (1:Int)) (0:Int))==Oi) then
       bif (bp SJ (length NI.2)) then
        bif (bp (0:Int) (length (getD NI.2 (toNat SJ) ([]:aq)))) then
         eT N sk (getD (getD NI.2 (toNat SJ) ([]:aq)) (toNat (0:Int)) (0:Int)) (λayG=>
          (yg N sk NI TP Oi akQ aap) ayG (wrap .i64 (SJ+(1:Int))))
        else none
       else none
      else
       (yg N sk NI TP Oi akQ aap) false (wrap .i64 (SJ+(1:Int)))
     else none
    else none
  else
   aap axg
def EW (N:Nat) (cD:aq) (Ix:cZ):Nat->(aq->aa)->aq->Int->aa
 |0,_,_,_=>none
 |pB+1,aaq,bA,eJ=>
  bif (decide (eJ<Ix.1)) then
   uh N Ix (λnh=>
    bif nh then
     yg N cD Ix bA eJ N (λaBB=>
      bif aBB then
       bif (decide ((length bA+length [eJ])*1<=4398046511104)) then
        (EW N cD Ix pB aaq) (bA++[eJ]) (wrap .i64 (eJ+(1:Int)))
       else none
      else
       (EW N cD Ix pB aaq) bA (wrap .i64 (eJ+(1:Int)))) false (0:Int)
    else
     aaq bA)
  else
   aaq bA
def TT (N:Nat) (a0:cZ) (a1:aq) (kf:aq->aa):aa:=
 EW N a1 a0 N kf ([]:aq) (0:Int)
def sw (N:Nat) (cD:Int) (Ix:cZ):Nat->(aq->aa)->aq->Int->aa
 |0,_,_,_=>none
 |pB+1,ep,bA,eJ=>
  bif (decide (eJ<(length Ix.2:Int))) then
   uh N Ix (λwI=>
    bif wI then
     bif (bp eJ (length Ix.2)) then
      bif (bp (1:Int) (length (getD Ix.2 (toNat eJ) ([]:aq)))) then
       bif ((getD (getD Ix.2 (toNat eJ) ([]:aq)) (toNat (1:Int)) (0:Int))==cD) then
        bif (bp eJ (length Ix.2)) then
         bif (bp (0:Int) (length (getD Ix.2 (toNat eJ) ([]:aq)))) then
          bif (decide ((length bA+length [(getD (getD Ix.2 (toNat eJ) ([]:aq)) (toNat (0:Int)) (0:Int))])*1<=4398046511104)) then
           (sw N cD Ix pB ep) (bA++[(getD (getD Ix.2 (toNat eJ) ([]:aq)) (toNat (0:Int)) (0:Int))]) (wrap .i64 (eJ+(1:Int)))
          else none
         else none
        else none
       else
        (sw N cD Ix pB ep) bA (wrap .i64 (eJ+(1:Int)))
      else none
     else none
    else
     ep bA)
  else
   ep bA
def xn (N:Nat) (a0:cZ) (a1:Int) (kf:aq->aa):aa:=
 sw N a1 a0 N kf ([]:aq) (0:Int)
def Gc (N:Nat) (arA:aq) (NC:aq):Nat->(aa)->(Bool->aa)->Int->aa
 |0,_,_,_=>none
 |n_8+1,HO,HP,Iw=>
  bif (decide (Iw<(length NC:Int))) then
   bif (bp Iw (length NC)) then
    eT N arA (getD NC (toNat Iw) (0:Int)) (λarB=>
     bif (!arB) then
      HP false
     else
      (Gc N arA NC n_8 HO HP) (wrap .i64 (Iw+(1:Int))))
   else none
  else
   HO
def VJ (N:Nat) (a0:cZ) (a1:aq) (a2:Int) (kf:Bool->aa):aa:=
 NH N a0 a1 (λvK=>
  bif (!vK) then
   kf false
  else
   cj N a2 (0:Int) (wrap .i64 (a0.1 - (1:Int))) (λPQ=>
    bif (!PQ) then
     kf false
    else
     TT N a0 a1 (λfO=>
      xn N a0 a2 (λarC=>
       Gc N fO arC N (kf true) kf (0:Int)))))
def ui (N:Nat) (cD:aq) (Ix:cZ):Nat->(aq->aa)->aq->Int->aa
 |0,_,_,_=>none
 |pB+1,cJ,bA,eJ=>
  bif (decide (eJ<Ix.1)) then
   NH N Ix cD (λwI=>
    bif wI then
     VJ N Ix cD eJ (λBA=>
      bif BA then
       bif (decide ((length bA+length [eJ])*1<=4398046511104)) then
        (ui N cD Ix pB cJ) (bA++[eJ]) (wrap .i64 (eJ+(1:Int)))
       else none
      else
       (ui N cD Ix pB cJ) bA (wrap .i64 (eJ+(1:Int))))
    else
     cJ bA)
  else
   cJ bA
def Gd (N:Nat) (a0:cZ) (a1:aq) (kf:aq->aa):aa:=
 ui N a1 a0 N kf ([]:aq) (0:Int)
def BB (aB:aq) (aR:aq):Nat->(aa)->(Bool->aa)->Int->aa
 |0,_,_,_=>none
 |wC+1,NJ,NK,bA=>
  bif (decide (bA<(length aB:Int))) then
   bif (bp bA (length aB)) then
    bif (bp bA (length aR)) then
     bif ((getD aB (toNat bA) (0:Int)) != (getD aR (toNat bA) (0:Int))) then
      NK false
     else
      (BB aB aR wC NJ NK) (wrap .i64 (bA+(1:Int)))
    else none
   else none
  else
   NJ
def Iy (N:Nat) (a0:aq) (a1:aq) (kf:Bool->aa):aa:=
 bif ((length a0:Int) != (length a1:Int)) then
  kf false
 else
  BB a0 a1 N (kf true) kf (0:Int)
def Ee (N:Nat) (cD:cZ):Nat->(aq->aa)->aq->aa
 |0,_,_=>none
 |n_3+1,jh,aE=>
  Gd N cD aE (λayH=>
   Iy N ayH aE (λabB=>
    bif abB then
     jh ayH
    else
     (Ee N cD n_3 jh) ayH))
def SK (N:Nat) (a0:cZ) (kf:aq->aa):aa:=
 Ee N a0 N kf ([]:aq)
def Iz (N:Nat) (aR:aq) (ky:cZ) (cy:aq):Nat->(aa)->(Bool->aa)->Int->aa
 |0,_,_,_=>none
 |Dh+1,ep,mX,iN=>
  bif (decide (iN<(length aR:Int))) then
   bif (bp iN (length aR)) then
    eT N cy (getD aR (toNat iN) (0:Int)) (λaio=>
     bif aio then
      mX false
     else
      (Iz N aR ky cy Dh ep mX) (wrap .i64 (iN+(1:Int))))
   else none
  else
   ep
def Zw (N:Nat) (a0:cZ) (a1:aq) (kf:Bool->aa):aa:=
 TT N a0 a1 (λwe=>
  Iz N a1 a0 we N (NH N a0 a1 kf) kf (0:Int))
def Oj (N:Nat) (a0:cZ) (a1:aq) (kf:Bool->aa):aa:=
 Zw N a0 a1 (λHL=>
  bif HL then
   Gd N a0 a1 (λarD=>
    Iy N arD a1 kf)
  else
   kf false)
def Ef (aB:aq) (aR:aq):Nat->(aa)->(Bool->aa)->Int->aa
 |0,_,_,_=>none
 |wC+1,fM,jF,bA=>
  bif (decide (bA<(length aB:Int))) then
   bif (decide (bA<(length aR:Int))) then
    bif (bp bA (length aB)) then
     bif (bp bA (length aR)) then
      bif ((getD aB (toNat bA) (0:Int)) != (getD aR (toNat bA) (0:Int))) then
       bif (bp bA (length aB)) then
        bif (bp bA (length aR)) then
         jF (decide ((getD aB (toNat bA) (0:Int))<(getD aR (toNat bA) (0:Int))))
        else none
       else none
      else
       (Ef aB aR wC fM jF) (wrap .i64 (bA+(1:Int)))
     else none
    else none
   else
    fM
  else
   fM
def SL (N:Nat) (a0:aq) (a1:aq) (kf:Bool->aa):aa:=
 Ef a0 a1 N (kf (decide ((length a0:Int)<(length a1:Int)))) kf (0:Int)
def wJ (N:Nat) (aBC:cZ) (GN:eL) (aBD:Int) (axh:aq):Nat->(Int->aa)->Int->aa
 |0,_,_=>none
 |aDv+1,abR,aeE=>
  bif (decide (aeE>(0:Int))) then
   bif (bp (wrap .i64 (aeE - (1:Int))) (length GN)) then
    SL N axh (getD GN (toNat (wrap .i64 (aeE - (1:Int)))) ([]:aq)) (λayI=>
     bif ayI then
      (wJ N aBC GN aBD axh aDv abR) (wrap .i64 (aeE - (1:Int)))
     else
      abR aeE)
   else none
  else
   abR aeE
def sx (ayJ:cZ) (AJ:eL) (OX:Int):Nat->(aq->aa)->aq->Int->aa
 |0,_,_,_=>none
 |RB+1,afP,TP,Oi=>
  bif (decide (Oi<ayJ.1)) then
   bif (decide (0<=Oi)) then
    bif ((wrap .i64 (BitVec.toNat (BitVec.ofInt (IntKind.bits .i64) (Int.fdiv OX (2^(min (toNat Oi) (IntKind.bits .i64))))&&&BitVec.ofInt (IntKind.bits .i64) (1:Int))))==(1:Int)) then
     bif (decide ((length TP+length [Oi])*1<=4398046511104)) then
      (sx ayJ AJ OX RB afP) (TP++[Oi]) (wrap .i64 (Oi+(1:Int)))
     else none
    else
     (sx ayJ AJ OX RB afP) TP (wrap .i64 (Oi+(1:Int)))
   else none
  else
   afP TP
def sy (N:Nat) (aR:cZ):Nat->(eL->aa)->eL->Int->aa
 |0,_,_,_=>none
 |pB+1,afQ,ck,Fj=>
  bif (decide (0<=aR.1)) then
   bif (decide (Fj<(wrap .i64 ((1:Int)*2^(min (toNat aR.1) (IntKind.bits .i64)))))) then
    sx aR ck Fj N (λair=>
     Oj N aR air (λayK=>
      bif ayK then
       wJ N aR ck Fj air N (λSM=>
        bif (decide ((0:Int)<=(0:Int))&&decide ((0:Int)<=SM)&&decide (SM<=(length ck:Int))) then
         bif (decide ((0:Int)<=SM)&&decide (SM<=(length ck:Int))&&decide ((length ck:Int)<=(length ck:Int))) then
          bif (decide ((length ([]:eL)+length (List.drop (toNat (0:Int)) (List.take (toNat SM) ck)))*1<=4398046511104)) then
           bif (decide ((length (([]:eL)++(List.drop (toNat (0:Int)) (List.take (toNat SM) ck)))+length [air])*1<=4398046511104)) then
            bif (decide ((length ((([]:eL)++(List.drop (toNat (0:Int)) (List.take (toNat SM) ck)))++[air])+length (List.drop (toNat SM) (List.take (toNat (length ck:Int)) ck)))*1<=4398046511104)) then
             (sy N aR pB afQ) (((([]:eL)++(List.drop (toNat (0:Int)) (List.take (toNat SM) ck)))++[air])++(List.drop (toNat SM) (List.take (toNat (length ck:Int)) ck))) (wrap .i64 (Fj+(1:Int)))
            else none
           else none
          else none
         else none
        else none) (length ck:Int)
      else
       (sy N aR pB afQ) ck (wrap .i64 (Fj+(1:Int))))) ([]:aq) (0:Int)
   else
    afQ ck
  else none
def L0 (N:Nat) (a0:cZ) (kf:eL->aa):aa:=
 uh N a0 (λlq=>
  bif (!lq) then
   kf ([]:eL)
  else
   sy N a0 N kf ([]:eL) (0:Int))
def IA (N:Nat) (aB:aq) (aR:aq):Nat->(aa)->(Bool->aa)->Int->aa
 |0,_,_,_=>none
 |wC+1,jh,iv,bA=>
  bif (decide (bA<(length aB:Int))) then
   bif (bp bA (length aB)) then
    eT N aR (getD aB (toNat bA) (0:Int)) (λFl=>
     bif (!Fl) then
      iv false
     else
      (IA N aB aR wC jh iv) (wrap .i64 (bA+(1:Int))))
   else none
  else
   jh
def Zx (N:Nat) (a0:aq) (a1:aq) (kf:Bool->aa):aa:=
 IA N a0 a1 N (kf true) kf (0:Int)
def q8 (N:Nat) (TU:eL) (ki:eL) (AM:Int):Nat->(Bool->aa)->Bool->Int->aa
 |0,_,_,_=>none
 |RB+1,aar,Fo,abS=>
  bif (decide (abS<(length ki:Int))) then
   bif Fo then
    bif (abS==AM) then
     (q8 N TU ki AM RB aar) true (wrap .i64 (abS+(1:Int)))
    else
     bif (bp AM (length ki)) then
      bif (bp abS (length ki)) then
       Zx N (getD ki (toNat AM) ([]:aq)) (getD ki (toNat abS) ([]:aq)) (λayL=>
        (q8 N TU ki AM RB aar) (!ayL) (wrap .i64 (abS+(1:Int))))
      else none
     else none
   else
    (q8 N TU ki AM RB aar) false (wrap .i64 (abS+(1:Int)))
  else
   aar Fo
def vP (N:Nat) (b9:eL):Nat->(eL->aa)->eL->Int->aa
 |0,_,_,_=>none
 |pB+1,afR,aE,cy=>
  bif (decide (cy<(length b9:Int))) then
   q8 N aE b9 cy N (λaBE=>
    bif aBE then
     bif (bp cy (length b9)) then
      bif (decide ((length aE+length [(getD b9 (toNat cy) ([]:aq))])*1<=4398046511104)) then
       (vP N b9 pB afR) (aE++[(getD b9 (toNat cy) ([]:aq))]) (wrap .i64 (cy+(1:Int)))
      else none
     else none
    else
     (vP N b9 pB afR) aE (wrap .i64 (cy+(1:Int)))) true (0:Int)
  else
   afR aE
def IB (N:Nat) (a0:cZ) (kf:eL->aa):aa:=
 L0 N a0 (λlq=>
  vP N lq N kf ([]:eL) (0:Int))
def L1 (N:Nat) (ayM:ByteArray->Int->aa) (adB:eL) (ki:Int) (AM:Int) (axi:ByteArray):aa:=
 bif (bp ki (length adB)) then
  bif (bp AM (length (getD adB (toNat ki) ([]:aq)))) then
   cn N (getD (getD adB (toNat ki) ([]:aq)) (toNat AM) (0:Int)) (λarE=>
    bif (decide (ByteArray.size axi+ByteArray.size arE<=9223372036854775807)) then
     ayM (axi++arE) (wrap .i64 (AM+(1:Int)))
    else none)
  else none
 else none
def xo (N:Nat) (adB:eL) (ki:Int):Nat->(ByteArray->aa)->ByteArray->Int->aa
 |0,_,_,_=>none
 |n_9+1,afS,TU,AM=>
  bif (bp ki (length adB)) then
   bif (decide (AM<(length (getD adB (toNat ki) ([]:aq)):Int))) then
    bif (decide (AM>(0:Int))) then
     bif (decide (ByteArray.size TU+ByteArray.size aq3<=9223372036854775807)) then
      L1 N (xo N adB ki n_9 afS) adB ki AM (TU++aq3)
     else none
    else
     L1 N (xo N adB ki n_9 afS) adB ki AM TU
   else
    afS TU
  else none
def Eg (N:Nat) (aB:eL):Nat->(ByteArray->aa)->ByteArray->Int->aa
 |0,_,_,_=>none
 |wC+1,Bq,aE,b9=>
  bif (decide (b9<(length aB:Int))) then
   bif (decide (ByteArray.size aE+ByteArray.size aex<=9223372036854775807)) then
    xo N aB b9 N (λaxj=>
     bif (decide (ByteArray.size axj+ByteArray.size ah7<=9223372036854775807)) then
      (Eg N aB wC Bq) (axj++ah7) (wrap .i64 (b9+(1:Int)))
     else none) (aE++aex) (0:Int)
   else none
  else
   Bq aE
def K4 (N:Nat) (a0:eL) (kf:ByteArray->aa):aa:=
 Eg N a0 N (λarl=>
  bif ((length a0:Int)==(0:Int)) then
   kf im
  else
   kf arl) D9 (0:Int)
def dY (N:Nat) (a0:QC) (a1:ByteArray) (kf:ByteArray->aa):aa:=
 bif (ByteArray.toList a1==ByteArray.toList p9) then
  vf N a0.1 (λeV=>
   gy N eV kf)
 else
  bif (ByteArray.toList a1==ByteArray.toList Bh) then
   sW N a0.1 kf
  else
   bif (ByteArray.toList a1==ByteArray.toList Bi) then
    sX N a0.2.2.1 a0.2.2.2.1 kf
   else
    bif (ByteArray.toList a1==ByteArray.toList sO) then
     qZ N a0 (λaim=>
      gy N aim kf)
    else
     bif (ByteArray.toList a1==ByteArray.toList Bj) then
      yZ N a0 kf
     else
      bif (ByteArray.toList a1==ByteArray.toList ER) then
       By N a0 (λaxk=>
        bif (!(ByteArray.toList axk==ByteArray.toList D9)) then
         kf axk
        else
         kf PL)
      else
       bif (ByteArray.toList a1==ByteArray.toList tZ) then
        oc N (λaif=>
         SK N aif (λayN=>
          gy N ayN kf))
       else
        bif (ByteArray.toList a1==ByteArray.toList tG) then
         oc N (λafT=>
          IB N afT (λayO=>
           K4 N ayO kf))
        else
         kf gE
def vQ (N:Nat) (aR:aq) (mg:aq):Nat->(aq->aa)->aq->Int->aa
 |0,_,_,_=>none
 |Dh+1,ua,Ge,Fs=>
  bif (decide (Fs<(length mg:Int))) then
   bif (bp Fs (length mg)) then
    eT N aR (getD mg (toNat Fs) (0:Int)) (λL2=>
     bif (!L2) then
      bif (bp Fs (length mg)) then
       bif (decide ((length Ge+length [(getD mg (toNat Fs) (0:Int))])*1<=4398046511104)) then
        (vQ N aR mg Dh ua) (Ge++[(getD mg (toNat Fs) (0:Int))]) (wrap .i64 (Fs+(1:Int)))
       else none
      else none
     else
      (vQ N aR mg Dh ua) Ge (wrap .i64 (Fs+(1:Int))))
   else none
  else
   ua Ge
def PU (N:Nat) (a0:cZ) (a1:aq) (a2:Int) (kf:aq->aa):aa:=
 xn N a0 a2 (λlJ=>
  vQ N a1 lJ N kf ([]:aq) (0:Int))
def afU (self:cZ->aq->Int->(Bool->aa)->aa) (aR:aq) (ck:cZ) (VK:aq):Nat->(aa)->(Int->aa)->Int->aa
 |0,_,_,_=>none
 |Dh+1,ep,mX,VL=>
  bif (decide (VL<(length VK:Int))) then
   bif (bp VL (length VK)) then
    bif (bp VL (length VK)) then
     bif (decide ((length ([]:aq)+length aR)*1<=4398046511104)) then
      bif (decide ((length (([]:aq)++aR)+length [(getD VK (toNat VL) (0:Int))])*1<=4398046511104)) then
       self ck ((([]:aq)++aR)++[(getD VK (toNat VL) (0:Int))]) (getD VK (toNat VL) (0:Int)) (λaBF=>
        bif aBF then
         bif (bp VL (length VK)) then
          mX (getD VK (toNat VL) (0:Int))
         else none
        else
         (afU self aR ck VK Dh ep mX) (wrap .i64 (VL+(1:Int))))
      else none
     else none
    else none
   else none
  else
   ep
def arF (self:cZ->aq->Int->(Bool->aa)->aa) (N:Nat) (a0:cZ) (a1:aq) (a2:Int) (kf:Int->aa):aa:=
 PU N a0 a1 a2 (λvK=>
  afU self a1 a0 vK N (kf (-1:Int)) kf (0:Int))
def ak1 (self:cZ->aq->Int->(Int->aa)->aa) (aR:aq) (ck:cZ) (VK:aq):Nat->(aa)->(Bool->aa)->Int->aa
 |0,_,_,_=>none
 |Dh+1,ep,mX,VL=>
  bif (decide (VL<(length VK:Int))) then
   bif (bp VL (length VK)) then
    self ck aR (getD VK (toNat VL) (0:Int)) (λaBG=>
     bif (decide (aBG<(0:Int))) then
      mX false
     else
      (ak1 self aR ck VK Dh ep mX) (wrap .i64 (VL+(1:Int))))
   else none
  else
   ep
def aBH (self:cZ->aq->Int->(Int->aa)->aa) (N:Nat) (a0:cZ) (a1:aq) (a2:Int) (kf:Bool->aa):aa:=
 xn N a0 a2 (λeV=>
  ak1 self a1 a0 eV N (kf true) kf (0:Int))
def S61:Nat->cZ->aq->Int->(Bool->aa)->aa
 |0,_,_,_,_=>none
 |N+1,a0,a1,a2,kf=>aBH (arF (S61 N) N) N a0 a1 a2 kf
def aBI (N:Nat) (a0:cZ) (a1:aq) (a2:Int) (kf:Int->aa):aa:=arF (S61 N) N a0 a1 a2 kf
def tI (N:Nat) (a0:cZ) (a1:Int) (kf:Bool->aa):aa:=
 uh N a0 (λard=>
  bif ard then
   cj N a1 (0:Int) (wrap .i64 (a0.1 - (1:Int))) (λPN=>
    bif PN then
     S61 N a0 [a1] a1 kf
    else
     kf false)
  else
   kf false)
def sA (N:Nat) (a0:QC) (kf:QC->ByteArray->aa) (od:bG):aa:=
 bif (decide ((0:Int)<=(1:Int))&&decide ((1:Int)<=(length od:Int))&&decide ((length od:Int)<=(length od:Int))) then
  HF N (List.drop (toNat (1:Int)) (List.take (toNat (length od:Int)) od)) (λK5 ayP=>
   bif (!ayP) then
    bW N a0 (λayQ=>
     kf ayQ gE)
   else
    bif (bp (0:Int) (length od)) then
     iX N (getD od (toNat (0:Int)) ByteArray.empty) K5 (λarG=>
      bif (decide (arG.1>(0:Int))) then
       uN N a0 arG (λayR ayS=>
        HN N a0 ayR ayS kf)
      else
       bif ((length K5:Int)==(0:Int)) then
        bif (bp (0:Int) (length od)) then
         bif (ByteArray.toList (getD od (toNat (0:Int)) ByteArray.empty)==ByteArray.toList LS) then
          HE N (λau4=>
           kf au4 PL)
         else
          bif ((length K5:Int)==(0:Int)) then
           bif (bp (0:Int) (length od)) then
            bW N a0 (λau5=>
             dY N a0 (getD od (toNat (0:Int)) ByteArray.empty) (kf au5))
           else none
          else
           bif ((length K5:Int)==(1:Int)) then
            bif (bp (0:Int) (length od)) then
             bif (ByteArray.toList (getD od (toNat (0:Int)) ByteArray.empty)==ByteArray.toList JX) then
              bif (bp (0:Int) (length K5)) then
               bW N a0 (λau6=>
                oc N (λau7=>
                 tI N au7 (getD K5 (toNat (0:Int)) (0:Int)) (λau8=>
                  pC N au8 (kf au6))))
              else none
             else
              bW N a0 (λNL=>
               kf NL gE)
            else none
           else
            bW N a0 (λNL=>
             kf NL gE)
        else none
       else
        bif ((length K5:Int)==(0:Int)) then
         bif (bp (0:Int) (length od)) then
          bW N a0 (λau9=>
           dY N a0 (getD od (toNat (0:Int)) ByteArray.empty) (kf au9))
         else none
        else
         bif ((length K5:Int)==(1:Int)) then
          bif (bp (0:Int) (length od)) then
           bif (ByteArray.toList (getD od (toNat (0:Int)) ByteArray.empty)==ByteArray.toList JX) then
            bif (bp (0:Int) (length K5)) then
             bW N a0 (λau'=>
              oc N (λava=>
               tI N ava (getD K5 (toNat (0:Int)) (0:Int)) (λavb=>
                pC N avb (kf au'))))
            else none
           else
            bW N a0 (λNL=>
             kf NL gE)
          else none
         else
          bW N a0 (λNL=>
           kf NL gE))
    else none)
 else none
def jk (N:Nat) (a0:QC) (a1:ByteArray) (kf:QC->ByteArray->aa):aa:=
 K2 N a1 (λod=>
  bif ((length od:Int)==(0:Int)) then
   bW N a0 (λaBJ=>
    kf aBJ gE)
  else
   bif (decide ((ByteArray.size a1:Int)>(200:Int))) then
    bW N a0 (λaBK=>
     kf aBK gE)
   else
    bif ((length od:Int)==(2:Int)) then
     bif (bp (0:Int) (length od)) then
      bif (ByteArray.toList (getD od (toNat (0:Int)) ByteArray.empty)==ByteArray.toList Ir) then
       bif (bp (1:Int) (length od)) then
        fW N (getD od (toNat (1:Int)) ByteArray.empty) (λaxl aBL=>
         bif (!aBL) then
          bW N a0 (λaBM=>
           kf aBM gE)
         else
          bif (bp (0:Int) (length od)) then
           bif (ByteArray.toList (getD od (toNat (0:Int)) ByteArray.empty)==ByteArray.toList Be) then
            bW N a0 (λaBN=>
             l5 N axl (λaBO=>
              cn N aBO (kf aBN)))
           else
            bW N a0 (λayT=>
             rQ N axl (λayU=>
              pC N ayU (kf ayT)))
          else none)
       else none
      else
       bif (bp (0:Int) (length od)) then
        bif (ByteArray.toList (getD od (toNat (0:Int)) ByteArray.empty)==ByteArray.toList Be) then
         bif (bp (1:Int) (length od)) then
          fW N (getD od (toNat (1:Int)) ByteArray.empty) (λarH ayV=>
           bif (!ayV) then
            bW N a0 (λak2=>
             kf ak2 gE)
           else
            bif (bp (0:Int) (length od)) then
             bif (ByteArray.toList (getD od (toNat (0:Int)) ByteArray.empty)==ByteArray.toList Be) then
              bW N a0 (λayW=>
               l5 N arH (λayX=>
                cn N ayX (kf ayW)))
             else
              bW N a0 (λayY=>
               rQ N arH (λayZ=>
                pC N ayZ (kf ayY)))
            else none)
         else none
        else
         sA N a0 kf od
       else none
     else none
    else
     sA N a0 kf od)
def jI (N:Nat) (PV:bG):Nat->(bG->aa)->QC->bG->Int->aa
 |0,_,_,_,_=>none
 |aDw+1,L4,Ol,GP,abT=>
  bif (decide (abT<(length PV:Int))) then
   bif (bp abT (length PV)) then
    jk N Ol (getD PV (toNat abT) ByteArray.empty) (λak3 abU=>
     bif (decide ((length GP+length [abU])*1<=4398046511104)) then
      (jI N PV aDw L4) ak3 (GP++[abU]) (wrap .i64 (abT+(1:Int)))
     else none)
   else none
  else
   L4 GP
def uj (arI:bG->Int->Int->aa) (aB:ByteArray) (bX:bG) (bA:Int) (eJ:Int):aa:=
 bif (eJ==(ByteArray.size aB:Int)) then
  bif (decide ((0:Int)<=bA)&&decide (bA<=eJ)&&decide (eJ<=(ByteArray.size aB:Int))) then
   bif (decide ((length bX+length [(ByteArray.extract aB (toNat bA) (toNat eJ))])*1<=4398046511104)) then
    arI (bX++[(ByteArray.extract aB (toNat bA) (toNat eJ))]) (wrap .i64 (eJ+(1:Int))) (wrap .i64 (eJ+(1:Int)))
   else none
  else none
 else
  bif (bp eJ (ByteArray.size aB)) then
   bif ((bt aB eJ)==(10:Int)) then
    bif (decide ((0:Int)<=bA)&&decide (bA<=eJ)&&decide (eJ<=(ByteArray.size aB:Int))) then
     bif (decide ((length bX+length [(ByteArray.extract aB (toNat bA) (toNat eJ))])*1<=4398046511104)) then
      arI (bX++[(ByteArray.extract aB (toNat bA) (toNat eJ))]) (wrap .i64 (eJ+(1:Int))) (wrap .i64 (eJ+(1:Int)))
     else none
    else none
   else
    arI bX bA (wrap .i64 (eJ+(1:Int)))
  else none
def fk (aB:ByteArray):Nat->(bG->aa)->bG->Int->Int->aa
 |0,_,_,_,_=>none
 |pB+1,afV,bX,bA,eJ=>
  bif (decide (eJ<=(ByteArray.size aB:Int))) then
   bif (eJ==(ByteArray.size aB:Int)) then
    bif (bA==(ByteArray.size aB:Int)) then
     afV bX
    else
     uj (fk aB pB afV) aB bX bA eJ
   else
    uj (fk aB pB afV) aB bX bA eJ
  else
   afV bX
def uP (N:Nat) (a0:ByteArray) (kf:bG->Bool->aa):aa:=
 fk a0 N (λOg=>
  bif (decide ((length Og:Int)>(60:Int))) then
   kf ([]:bG) false
  else
   HE N (λay0=>
    jI N Og N (λaBP=>
     kf aBP true) ay0 ([]:bG) (0:Int))) ([]:bG) (0:Int) (0:Int)
def S11 (N:Nat) (a0:ByteArray) (a1:ByteArray) (kf:bG->aa):aa:=
 bif (Nat.blt (ByteArray.size a0) 4294967281&&Nat.beq (ByteArray.size a1) 1) then
  kf (Bd a0 a1)
 else none
def HQ (N:Nat) (kf:QC->aa):aa:=
 kf (([]:bg),(([]:du),(([]:dD),(([]:aq),(([]:iz),(([]:lX),(0:Int)))))))
def S68 (N:Nat) (a0:aq) (kf:aq->aa):aa:=
 bif (List.isEmpty a0) then
  both (kf ([]:aq)) (
   bif (decide ((length ([]:aq)+length a0)*1<=4398046511104)) then
    kf (([]:aq)++a0)
   else none)
 else
  bif (decide ((length ([]:aq)+length a0)*1<=4398046511104)) then
   kf (([]:aq)++a0)
  else none
def k8 (N:Nat) (ic:bg) (zA:Int):Nat->(bg->aa)->bg->Int->aa
 |0,_,_,_=>none
 |pB+1,dF,de,rT=>
  let dd:=(getD ic (toNat rT) eZ);
  bif (decide (rT<zA)) then
   bif (bp rT (length ic)) then
    S68 N dd.2.2.2.2.2 (λwI=>
     bif (decide ((length de+length [(dd.1,(dd.2.1,(dd.2.2.1,(dd.2.2.2.1,(dd.2.2.2.2.1,wI)))))])*6<=4398046511104)) then
      (k8 N ic zA pB dF) (de++[(dd.1,(dd.2.1,(dd.2.2.1,(dd.2.2.2.1,(dd.2.2.2.2.1,wI)))))]) (wrap .i64 (rT+(1:Int)))
     else none)
   else none
  else
   dF de
def oM (N:Nat) (a0:bg) (kf:bg->aa):aa:=
 k8 N a0 (length a0:Int) N kf ([]:bg) (0:Int)
def jJ (N:Nat) (ic:du) (zA:Int):Nat->(du->aa)->du->Int->aa
 |0,_,_,_=>none
 |pB+1,dF,de,rT=>
  bif (decide (rT<zA)) then
   bif (bp rT (length ic)) then
    S68 N (getD ic (toNat rT) jy).2.2 (λwI=>
     bif (decide ((length de+length [((getD ic (toNat rT) jy).1,((getD ic (toNat rT) jy).2.1,wI))])*3<=4398046511104)) then
      (jJ N ic zA pB dF) (de++[((getD ic (toNat rT) jy).1,((getD ic (toNat rT) jy).2.1,wI))]) (wrap .i64 (rT+(1:Int)))
     else none)
   else none
  else
   dF de
def xp (N:Nat) (a0:du) (kf:du->aa):aa:=
 jJ N a0 (length a0:Int) N kf ([]:du) (0:Int)
def S67 (N:Nat) (a0:dD) (kf:dD->aa):aa:=
 bif (List.isEmpty a0) then
  both (kf ([]:dD)) (
   bif (decide ((length ([]:dD)+length a0)*2<=4398046511104)) then
    kf (([]:dD)++a0)
   else none)
 else
  bif (decide ((length ([]:dD)+length a0)*2<=4398046511104)) then
   kf (([]:dD)++a0)
  else none
def S69 (N:Nat) (a0:iz) (kf:iz->aa):aa:=
 bif (List.isEmpty a0) then
  both (kf ([]:iz)) (
   bif (decide ((length ([]:iz)+length a0)*3<=4398046511104)) then
    kf (([]:iz)++a0)
   else none)
 else
  bif (decide ((length ([]:iz)+length a0)*3<=4398046511104)) then
   kf (([]:iz)++a0)
  else none
def S70 (N:Nat) (a0:lX) (kf:lX->aa):aa:=
 bif (List.isEmpty a0) then
  both (kf ([]:lX)) (
   bif (decide ((length ([]:lX)+length a0)*4<=4398046511104)) then
    kf (([]:lX)++a0)
   else none)
 else
  bif (decide ((length ([]:lX)+length a0)*4<=4398046511104)) then
   kf (([]:lX)++a0)
  else none
def bR (N:Nat) (a0:QC) (kf:QC->aa):aa:=
 oM N a0.1 (λLV=>
  xp N a0.2.1 (λayv=>
   S67 N a0.2.2.1 (λabP=>
    S68 N a0.2.2.2.1 (λaic=>
     S69 N a0.2.2.2.2.1 (λaBQ=>
      S70 N a0.2.2.2.2.2.1 (λarz=>
       kf (LV,(ayv,(abP,(aic,(aBQ,(arz,a0.2.2.2.2.2.2))))))))))))
def avc (N:Nat) (a0:ByteArray) (a1:Int) (kf:Int->aa):aa:=
 kf (LP a0 a1)
def avd (N:Nat) (a0:aq) (a1:Int) (kf:aq->aa):aa:=
 bif (List.isEmpty a0&&(decide ((0:Int)<=a1)&&decide (a1<=(549755813888:Int)))) then
  kf ([]:List Int)
 else none
def eP (Eh:eL) (arJ:Int):Nat->(aq->aa)->aq->Int->aa
 |0,_,_,_=>none
 |ave+1,L5,GQ,abV=>
  bif (decide (abV<arJ)) then
   bif (bp abV (length Eh)) then
    bif (decide ((length GQ+length (getD Eh (toNat abV) ([]:aq)))*1<=4398046511104)) then
     (eP Eh arJ ave L5) (GQ++(getD Eh (toNat abV) ([]:aq))) (wrap .i64 (abV+(1:Int)))
    else none
   else none
  else
   L5 GQ
def iQ (aB:eL) (BC:eL) (oe:Int):Nat->(Int->aa)->Int->Int->aa
 |0,_,_,_=>none
 |Dh+1,dF,aE,xC=>
  bif (decide (xC<oe)) then
   bif (bp xC (length BC)) then
    bif (decide ((wrap .i64 (aE+(length (getD BC (toNat xC) ([]:aq)):Int)))<(0:Int))) then
     none
    else
     (iQ aB BC oe Dh dF) (wrap .i64 (aE+(length (getD BC (toNat xC) ([]:aq)):Int))) (wrap .i64 (xC+(1:Int)))
   else none
  else
   dF aE
def mh (N:Nat) (a0:eL) (kf:aq->aa):aa:=
 iQ a0 a0 (length a0:Int) N (λaoL=>
  avd N ([]:aq) aoL (λay1=>
   eP a0 (length a0:Int) N kf ay1 (0:Int))) (0:Int) (0:Int)
def IC (self:ByteArray->(aq->ByteArray->Bool->aa)->aa) (N:Nat) (a0:ByteArray) (kf:aq->ByteArray->Bool->aa):aa:=
 bif (ByteArray.toList a0==ByteArray.toList D9) then
  kf ([]:aq) D9 false
 else
  bif (bp (0:Int) (ByteArray.size a0)) then
   bif ((bt a0 (0:Int))==(33:Int)) then
    bif (decide ((0:Int)<=(1:Int))&&decide ((1:Int)<=(ByteArray.size a0:Int))&&decide ((ByteArray.size a0:Int)<=(ByteArray.size a0:Int))) then
     self (ByteArray.extract a0 (toNat (1:Int)) (toNat (ByteArray.size a0:Int))) (λaxm aBR fO=>
      bif (decide ((length axm+length [(-1:Int)])*1<=4398046511104)) then
       kf (axm++[(-1:Int)]) aBR fO
      else none)
    else none
   else
    bif (bp (0:Int) (ByteArray.size a0)) then
     bif ((bt a0 (0:Int))==(40:Int)) then
      bif (decide ((0:Int)<=(1:Int))&&decide ((1:Int)<=(ByteArray.size a0:Int))&&decide ((ByteArray.size a0:Int)<=(ByteArray.size a0:Int))) then
       self (ByteArray.extract a0 (toNat (1:Int)) (toNat (ByteArray.size a0:Int))) (λais J1 aBS=>
        bif (!aBS) then
         kf ([]:aq) D9 false
        else
         bif (ByteArray.toList J1==ByteArray.toList D9) then
          kf ([]:aq) D9 false
         else
          bif (bp (0:Int) (ByteArray.size J1)) then
           avc N gN (bt J1 (0:Int)) (λaxn=>
            bif (decide ((0:Int)<=(1:Int))&&decide ((1:Int)<=(ByteArray.size J1:Int))&&decide ((ByteArray.size J1:Int)<=(ByteArray.size J1:Int))) then
             self (ByteArray.extract J1 (toNat (1:Int)) (toNat (ByteArray.size J1:Int))) (λaBT Zy ay2=>
              bif (decide (axn<(0:Int))) then
               kf ([]:aq) D9 false
              else
               bif (!ay2) then
                kf ([]:aq) D9 false
               else
                bif (ByteArray.toList Zy==ByteArray.toList D9) then
                 kf ([]:aq) D9 false
                else
                 bif (bp (0:Int) (ByteArray.size Zy)) then
                  bif ((bt Zy (0:Int)) != (41:Int)) then
                   kf ([]:aq) D9 false
                  else
                   bif (decide ((0:Int)<=(1:Int))&&decide ((1:Int)<=(ByteArray.size Zy:Int))&&decide ((ByteArray.size Zy:Int)<=(ByteArray.size Zy:Int))) then
                    mh N [ais,aBT,[(wrap .i64 ((-2:Int) - axn))]] (λay3=>
                     kf ay3 (ByteArray.extract Zy (toNat (1:Int)) (toNat (ByteArray.size Zy:Int))) true)
                   else none
                 else none)
            else none)
          else none)
      else none
     else
      bif (bp (0:Int) (ByteArray.size a0)) then
       bif (decide ((0:Int)<=(1:Int))&&decide ((1:Int)<=(ByteArray.size a0:Int))&&decide ((ByteArray.size a0:Int)<=(ByteArray.size a0:Int))) then
        kf [(wrap .i64 ((wrap .i64 (bt a0 (0:Int))) - (97:Int)))] (ByteArray.extract a0 (toNat (1:Int)) (toNat (ByteArray.size a0:Int))) true
       else none
      else none
    else none
  else none
def adC:Nat->ByteArray->(aq->ByteArray->Bool->aa)->aa
 |0,_,_=>none
 |N+1,a0,kf=>IC (adC N) N a0 kf
def bq (N:Nat) (a0:Int) (a1:Int) (a2:Int) (kf:Bool->aa):aa:=
 bif (decide (a1<=a0)) then
  kf (decide (a0<=a2))
 else
  kf false
def k9 (aB:Int):Nat->(Int->aa)->Int->Int->aa
 |0,_,_,_=>none
 |wC+1,ez,aE,bA=>
  bif (decide (bA<(64:Int))) then
   bif (decide (0<=aB)) then
    bif ((wrap .i64 (BitVec.toNat (BitVec.ofInt (IntKind.bits .i64) (Int.fdiv bA (2^(min (toNat aB) (IntKind.bits .i64))))&&&BitVec.ofInt (IntKind.bits .i64) (1:Int))))==(1:Int)) then
     bif (decide (0<=bA)) then
      (k9 aB wC ez) (wrap .u64 (BitVec.toNat (BitVec.ofInt (IntKind.bits .u64) aE|||BitVec.ofInt (IntKind.bits .u64) (wrap .u64 ((1:Int)*2^(min (toNat bA) (IntKind.bits .u64))))))) (wrap .i64 (bA+(1:Int)))
     else none
    else
     (k9 aB wC ez) aE (wrap .i64 (bA+(1:Int)))
   else none
  else
   ez aE
def uQ (N:Nat) (a0:Int) (kf:Int->aa):aa:=
 k9 a0 N kf (0:Int) (0:Int)
def iR (N:Nat) (yh:aq) (aeF:Int):Nat->(aq->aa)->(Int->Bool->aa)->aq->Int->aa
 |0,_,_,_,_=>none
 |Dh+1,EX,vR,bX,L6=>
  bif (decide (L6<aeF)) then
   bif (bp L6 (length yh)) then
    bq N (getD yh (toNat L6) (0:Int)) (0:Int) (5:Int) (λL2=>
     bif L2 then
      uQ N (getD yh (toNat L6) (0:Int)) (λait=>
       bif (decide ((length bX+length [ait])*1<=4398046511104)) then
        (iR N yh aeF Dh EX vR) (bX++[ait]) (wrap .i64 (L6+(1:Int)))
       else none)
     else
      let arc:aa:=(
       bq N (getD yh (toNat L6) (0:Int)) (-4:Int) (-2:Int) (λarK=>
        bif arK then
         bif (decide ((length bX:Int)≥(2:Int))) then
          bif (bp (wrap .i64 ((length bX:Int) - (2:Int))) (length bX)) then
           bif (bp (wrap .i64 ((length bX:Int) - (1:Int))) (length bX)) then
            bif (decide ((0:Int)<=(0:Int))&&decide ((0:Int)<=(wrap .i64 ((length bX:Int) - (1:Int))))&&decide ((wrap .i64 ((length bX:Int) - (1:Int)))<=(length bX:Int))) then
             bif ((getD yh (toNat L6) (0:Int))==(-2:Int)) then
              bif (bp (wrap .i64 ((length bX:Int) - (2:Int))) (length (List.take (toNat (wrap .i64 ((length bX:Int) - (1:Int)))) bX))) then
               (iR N yh aeF Dh EX vR) (List.set (List.take (toNat (wrap .i64 ((length bX:Int) - (1:Int)))) bX) (toNat (wrap .i64 ((length bX:Int) - (2:Int)))) (wrap .u64 (BitVec.toNat (BitVec.ofInt (IntKind.bits .u64) (getD bX (toNat (wrap .i64 ((length bX:Int) - (2:Int)))) (0:Int))&&&BitVec.ofInt (IntKind.bits .u64) (getD bX (toNat (wrap .i64 ((length bX:Int) - (1:Int)))) (0:Int)))))) (wrap .i64 (L6+(1:Int)))
              else none
             else
              bif ((getD yh (toNat L6) (0:Int))==(-3:Int)) then
               bif (bp (wrap .i64 ((length bX:Int) - (2:Int))) (length (List.take (toNat (wrap .i64 ((length bX:Int) - (1:Int)))) bX))) then
                (iR N yh aeF Dh EX vR) (List.set (List.take (toNat (wrap .i64 ((length bX:Int) - (1:Int)))) bX) (toNat (wrap .i64 ((length bX:Int) - (2:Int)))) (wrap .u64 (BitVec.toNat (BitVec.ofInt (IntKind.bits .u64) (getD bX (toNat (wrap .i64 ((length bX:Int) - (2:Int)))) (0:Int))|||BitVec.ofInt (IntKind.bits .u64) (getD bX (toNat (wrap .i64 ((length bX:Int) - (1:Int)))) (0:Int)))))) (wrap .i64 (L6+(1:Int)))
               else none
              else
               bif (bp (wrap .i64 ((length bX:Int) - (2:Int))) (length (List.take (toNat (wrap .i64 ((length bX:Int) - (1:Int)))) bX))) then
                (iR N yh aeF Dh EX vR) (List.set (List.take (toNat (wrap .i64 ((length bX:Int) - (1:Int)))) bX) (toNat (wrap .i64 ((length bX:Int) - (2:Int)))) (wrap .u64 (BitVec.toNat (BitVec.ofInt (IntKind.bits .u64) (TM .u64 (getD bX (toNat (wrap .i64 ((length bX:Int) - (2:Int)))) (0:Int)))|||BitVec.ofInt (IntKind.bits .u64) (getD bX (toNat (wrap .i64 ((length bX:Int) - (1:Int)))) (0:Int)))))) (wrap .i64 (L6+(1:Int)))
               else none
            else none
           else none
          else none
         else
          vR (0:Int) false
        else
         vR (0:Int) false));
      bif ((getD yh (toNat L6) (0:Int))==(-1:Int)) then
       bif (decide ((length bX:Int)≥(1:Int))) then
        bif (bp (wrap .i64 ((length bX:Int) - (1:Int))) (length bX)) then
         bif (bp (wrap .i64 ((length bX:Int) - (1:Int))) (length bX)) then
          (iR N yh aeF Dh EX vR) (List.set bX (toNat (wrap .i64 ((length bX:Int) - (1:Int)))) (TM .u64 (getD bX (toNat (wrap .i64 ((length bX:Int) - (1:Int)))) (0:Int)))) (wrap .i64 (L6+(1:Int)))
         else none
        else none
       else
        arc
      else
       arc)
   else none
  else
   EX bX
def tJ (N:Nat) (a0:aq) (kf:Int->Bool->aa):aa:=
 bq N (length a0:Int) (1:Int) (24:Int) (λvK=>
  bif (!vK) then
   kf (0:Int) false
  else
   iR N a0 (length a0:Int) N (λarL=>
    bif (bp (0:Int) (length arL)) then
     kf (getD arL (toNat (0:Int)) (0:Int)) ((length arL:Int)==(1:Int))
    else none) kf ([]:aq) (0:Int))
def BD (N:Nat) (a0:aq) (kf:Bool->aa):aa:=
 tJ N a0 (λHL arN=>
  kf arN)
def fE (Ft:aq) (ID:Int):Nat->(bG->aa)->bG->Int->aa
 |0,_,_,_=>none
 |Dh+1,wH,aE,L7=>
  let dd:=(getD Ft (toNat L7) (0:Int));
  let yb:=((wrap .i64 ((-2:Int) - dd))+(1:Int));
  let tC:=(wrap .i64 ((length aE:Int) - (1:Int)));
  let xS:=(getD aE (toNat tC) ByteArray.empty);
  let Rz:=(wrap .i64 ((length aE:Int) - (2:Int)));
  let AI:=(getD aE (toNat Rz) ByteArray.empty);
  let RA:=((nO++AI)++(ByteArray.extract gN (toNat (wrap .i64 ((-2:Int) - dd))) (toNat (wrap .i64 yb))));
  bif (decide (L7<ID)) then
   bif (bp L7 (length Ft)) then
    bif (decide (dd≥(0:Int))) then
     bif (decide ((0:Int)<=dd)&&decide (dd<=(wrap .i64 (dd+(1:Int))))&&decide ((wrap .i64 (dd+(1:Int)))<=(ByteArray.size kx:Int))) then
      bif (decide ((length aE+length [(ByteArray.extract kx (toNat dd) (toNat (wrap .i64 (dd+(1:Int)))))])*1<=4398046511104)) then
       (fE Ft ID Dh wH) (aE++[(ByteArray.extract kx (toNat dd) (toNat (wrap .i64 (dd+(1:Int)))))]) (wrap .i64 (L7+(1:Int)))
      else none
     else none
    else
     bif (dd==(-1:Int)) then
      bif (bp tC (length aE)) then
       bif (decide (ByteArray.size JV+ByteArray.size xS<=9223372036854775807)) then
        bif (bp tC (length aE)) then
         (fE Ft ID Dh wH) (List.set aE (toNat tC) (JV++xS)) (wrap .i64 (L7+(1:Int)))
        else none
       else none
      else none
     else
      bif (bp Rz (length aE)) then
       bif (decide (ByteArray.size nO+ByteArray.size AI<=9223372036854775807)) then
        bif (decide ((0:Int)<=(wrap .i64 ((-2:Int) - dd)))&&decide ((wrap .i64 ((-2:Int) - dd))<=(wrap .i64 yb))&&decide ((wrap .i64 yb)<=(ByteArray.size gN:Int))) then
         bif (decide (ByteArray.size (nO++AI)+ByteArray.size (ByteArray.extract gN (toNat (wrap .i64 ((-2:Int) - dd))) (toNat (wrap .i64 yb)))<=9223372036854775807)) then
          bif (bp tC (length aE)) then
           bif (decide (ByteArray.size RA+ByteArray.size xS<=9223372036854775807)) then
            bif (decide (ByteArray.size (RA++xS)+ByteArray.size Af<=9223372036854775807)) then
             bif (bp Rz (length aE)) then
              bif (decide ((0:Int)<=(0:Int))&&decide ((0:Int)<=tC)&&decide (tC<=(length (List.set aE (toNat Rz) ((RA++xS)++Af)):Int))) then
               (fE Ft ID Dh wH) (List.take (toNat tC) (List.set aE (toNat Rz) ((RA++xS)++Af))) (wrap .i64 (L7+(1:Int)))
              else none
             else none
            else none
           else none
          else none
         else none
        else none
       else none
      else none
   else none
  else
   wH aE
def pP (N:Nat) (a0:aq) (kf:ByteArray->aa):aa:=
 BD N a0 (λwe=>
  bif (!we) then
   kf D9
  else
   fE a0 (length a0:Int) N (λaiq=>
    bif (bp (0:Int) (length aiq)) then
     kf (getD aiq (toNat (0:Int)) ByteArray.empty)
    else none) ([]:bG) (0:Int))
def jY (N:Nat) (a0:ByteArray) (kf:aq->Bool->aa):aa:=
 bif (decide ((ByteArray.size a0:Int)>(100:Int))) then
  kf ([]:aq) false
 else
  adC N a0 (λlJ qY abP=>
   bif (!abP) then
    kf ([]:aq) false
   else
    bif (!(ByteArray.toList qY==ByteArray.toList D9)) then
     kf ([]:aq) false
    else
     pP N lJ (λamR=>
      bif (!(ByteArray.toList amR==ByteArray.toList a0)) then
       kf ([]:aq) false
      else
       kf lJ true))
def qo (N:Nat) (a0:Int) (kf:Int->aa):aa:=
 bif (decide (0<=(1:Int))) then
  bif (decide (0<=(2:Int))) then
   bif (decide (0<=(4:Int))) then
    bif (decide (0<=(8:Int))) then
     bif (decide (0<=(16:Int))) then
      bif (decide (0<=(32:Int))) then
       let aBU:Int:=(wrap .u64 (BitVec.toNat (BitVec.ofInt (IntKind.bits .u64) a0&&&BitVec.ofInt (IntKind.bits .u64) (6148914691236517205:Int))));
       let aBV:Int:=(wrap .u64 (BitVec.toNat (BitVec.ofInt (IntKind.bits .u64) (Int.fdiv a0 (2^(min (toNat (1:Int)) (IntKind.bits .u64))))&&&BitVec.ofInt (IntKind.bits .u64) (6148914691236517205:Int))));
       let aBW:Int:=(wrap .u64 (BitVec.toNat (BitVec.ofInt (IntKind.bits .u64) (wrap .u64 (aBV+aBU))&&&BitVec.ofInt (IntKind.bits .u64) (3689348814741910323:Int))));
       let aBX:Int:=(wrap .u64 (BitVec.toNat (BitVec.ofInt (IntKind.bits .u64) (Int.fdiv (wrap .u64 (aBV+aBU)) (2^(min (toNat (2:Int)) (IntKind.bits .u64))))&&&BitVec.ofInt (IntKind.bits .u64) (3689348814741910323:Int))));
       let aDx:Int:=(wrap .u64 ((Int.fdiv (wrap .u64 (aBX+aBW)) (2^(min (toNat (4:Int)) (IntKind.bits .u64))))+(wrap .u64 (aBX+aBW))));
       let aBY:Int:=(wrap .u64 (BitVec.toNat (BitVec.ofInt (IntKind.bits .u64) aDx&&&BitVec.ofInt (IntKind.bits .u64) (1085102592571150095:Int))));
       let aBZ:Int:=(wrap .u64 (aBY+(Int.fdiv aBY (2^(min (toNat (8:Int)) (IntKind.bits .u64))))));
       let aB0:Int:=(wrap .u64 (aBZ+(Int.fdiv aBZ (2^(min (toNat (16:Int)) (IntKind.bits .u64))))));
       kf (wrap .i64 (BitVec.toNat (BitVec.ofInt (IntKind.bits .i64) (wrap .i64 (wrap .u64 (aB0+(Int.fdiv aB0 (2^(min (toNat (32:Int)) (IntKind.bits .u64)))))))&&&BitVec.ofInt (IntKind.bits .i64) (127:Int))))
      else none
     else none
    else none
   else none
  else none
 else none
def wK (N:Nat) (a0:aq) (kf:Int->aa):aa:=
 tJ N a0 (λHL arN=>
  bif (!arN) then
   kf (0:Int)
  else
   qo N HL kf)
def ay4 (N:Nat) (a0:Int) (kf:ByteArray->aa):aa:=
 bif (decide ((-9223372036854775808:Int)<=a0)&&decide (a0<=(9223372036854775807:Int))) then
  kf (qX a0)
 else none
def cO (N:Nat) (a0:Int) (kf:ByteArray->aa):aa:=
 ay4 N a0 kf
def yi (N:Nat) (a0:aq) (kf:Bool->aa):aa:=
 tJ N a0 (λHL arN=>
  bif arN then
   kf ((TM .u64 HL)==(0:Int))
  else
   kf false)
def Ei (N:Nat) (a0:Bool) (kf:ByteArray->aa):aa:=
 bif a0 then
  kf aq1
 else
  kf abz
def jn (N:Nat) (a0:bG) (kf:ByteArray->aa):aa:=
 bif ((length a0:Int) != (2:Int)) then
  kf gE
 else
  bif (bp (1:Int) (length a0)) then
   jY N (getD a0 (toNat (1:Int)) ByteArray.empty) (λvK PN=>
    bif (!PN) then
     kf gE
    else
     bif (bp (0:Int) (length a0)) then
      bif (ByteArray.toList (getD a0 (toNat (0:Int)) ByteArray.empty)==ByteArray.toList Be) then
       wK N vK (λfO=>
        cO N fO kf)
      else
       yi N vK (λarO=>
        Ei N arO kf)
     else none)
  else none
def K6 (a0:ByteArray) (kf:Int->aa) (aB1:Bool):aa:=
 bif aB1 then
  kf (2:Int)
 else
  bif (ByteArray.toList a0==ByteArray.toList Bf) then
   kf (3:Int)
  else
   kf (-1:Int)
def K7 (a0:ByteArray) (kf:Int->aa) (aB2:Bool):aa:=
 bif aB2 then
  kf (1:Int)
 else
  bif (ByteArray.toList a0==ByteArray.toList K1) then
   K6 a0 kf (ByteArray.toList a0==ByteArray.toList K1)
  else
   K6 a0 kf (ByteArray.toList a0==ByteArray.toList yV)
def iY (a0:ByteArray) (kf:Int->aa) (aDy:Bool):aa:=
 bif aDy then
  kf (0:Int)
 else
  bif (ByteArray.toList a0==ByteArray.toList EP) then
   K7 a0 kf (ByteArray.toList a0==ByteArray.toList EP)
  else
   K7 a0 kf (ByteArray.toList a0==ByteArray.toList JX)
def IE (N:Nat) (a0:ByteArray) (kf:Int->aa):aa:=
 bif (ByteArray.toList a0==ByteArray.toList LS) then
  iY a0 kf (ByteArray.toList a0==ByteArray.toList LS)
 else
  bif (ByteArray.toList a0==ByteArray.toList PK) then
   iY a0 kf (ByteArray.toList a0==ByteArray.toList PK)
  else
   bif (ByteArray.toList a0==ByteArray.toList JW) then
    iY a0 kf (ByteArray.toList a0==ByteArray.toList JW)
   else
    bif (ByteArray.toList a0==ByteArray.toList p9) then
     iY a0 kf (ByteArray.toList a0==ByteArray.toList p9)
    else
     bif (ByteArray.toList a0==ByteArray.toList Bh) then
      iY a0 kf (ByteArray.toList a0==ByteArray.toList Bh)
     else
      bif (ByteArray.toList a0==ByteArray.toList Bi) then
       iY a0 kf (ByteArray.toList a0==ByteArray.toList Bi)
      else
       bif (ByteArray.toList a0==ByteArray.toList sO) then
        iY a0 kf (ByteArray.toList a0==ByteArray.toList sO)
       else
        bif (ByteArray.toList a0==ByteArray.toList Bj) then
         iY a0 kf (ByteArray.toList a0==ByteArray.toList Bj)
        else
         bif (ByteArray.toList a0==ByteArray.toList ER) then
          iY a0 kf (ByteArray.toList a0==ByteArray.toList ER)
         else
          bif (ByteArray.toList a0==ByteArray.toList tZ) then
           iY a0 kf (ByteArray.toList a0==ByteArray.toList tZ)
          else
           iY a0 kf (ByteArray.toList a0==ByteArray.toList tG)
def pQ (aB:ByteArray) (axo:Int):Nat->(Int->aa)->(Int->Bool->aa)->Int->Int->aa
 |0,_,_,_,_=>none
 |pB+1,Yf,ak4,bX,Zz=>
  bif (decide (Zz<axo)) then
   bif (bp Zz (ByteArray.size aB)) then
    bif (decide ((bt aB Zz)<(48:Int))) then
     ak4 (0:Int) false
    else
     bif (bp Zz (ByteArray.size aB)) then
      bif (decide ((bt aB Zz)>(57:Int))) then
       ak4 (0:Int) false
      else
       bif (bp Zz (ByteArray.size aB)) then
        (pQ aB axo pB Yf ak4) (wrap .i64 ((wrap .i64 ((10:Int)*bX))+(wrap .i64 (wrap .u8 ((bt aB Zz) - (48:Int)))))) (wrap .i64 (Zz+(1:Int)))
       else none
     else none
   else none
  else
   Yf bX
def xq (N:Nat) (a0:ByteArray) (kf:Int->Bool->aa):aa:=
 pQ a0 (ByteArray.size a0:Int) N (λarP=>
  bif (decide (arP>(1000000000000:Int))) then
   kf (0:Int) false
  else
   kf arP true) kf (0:Int) (0:Int)
def yj (N:Nat) (a0:ByteArray) (kf:Int->Bool->aa):aa:=
 bif ((ByteArray.size a0:Int)==(0:Int)) then
  kf (0:Int) false
 else
  bif (decide ((ByteArray.size a0:Int)>(13:Int))) then
   kf (0:Int) false
  else
   bif (decide ((ByteArray.size a0:Int)>(1:Int))) then
    bif (bp (0:Int) (ByteArray.size a0)) then
     bif ((bt a0 (0:Int))==(48:Int)) then
      kf (0:Int) false
     else
      xq N a0 kf
    else none
   else
    xq N a0 kf
def y5 (N:Nat) (a0:QT) (a1:Int) (kf:Bool->aa):aa:=
 kf (a0.1==a1)
def cK (N:Nat) (aB:bg) (aR:Int) (Ge:Int):Nat->(aa)->(Int->aa)->Int->aa
 |0,_,_,_=>none
 |pB+1,nR,nS,mg=>
  bif (decide (mg<Ge)) then
   bif (bp mg (length aB)) then
    y5 N (getD aB (toNat mg) eZ) aR (λnh=>
     bif nh then
      nS mg
     else
      (cK N aB aR Ge pB nR nS) (wrap .i64 (mg+(1:Int))))
   else none
  else
   nR
def jo (N:Nat) (a0:bg) (afW:Int) (kf:Int->aa):aa:=
 cK N a0 afW (length a0:Int) N (kf (-1:Int)) kf (0:Int)
def eF (N:Nat) (a0:bg) (a1:Int) (kf:Int->aa):aa:=
 jo N a0 a1 kf
def iS (N:Nat) (a0:QC) (kf:Bool->aa):aa:=
 kf (decide ((length a0.2.2.1:Int)>(0:Int)))
def avf (N:Nat) (a0:bg) (a1:Int) (a2:bg) (kf:bg->aa):aa:=
 bif (decide ((0:Int)<=a1)&&(decide (a1<=(length a0:Int))&&(Nat.blt 0 (length a2)&&Nat.ble ((length a0+length a2)*Ty.size Q5) 4398046511104))) then
  kf (List.take (toNat a1) a0++a2++List.drop (toNat a1) a0)
 else none
def K8 (N:Nat) (a0:lX) (kf:Int->aa):aa:=
 bif ((length a0:Int)==(0:Int)) then
  kf (0:Int)
 else
  bif (bp (wrap .i64 ((length a0:Int) - (1:Int))) (length a0)) then
   kf (getD a0 (toNat (wrap .i64 ((length a0:Int) - (1:Int)))) zQL).2.2.2
  else none
def VM (N:Nat) (a0:Int) (a1:Int) (kf:Int->aa):aa:=
 bq N a1 (1:Int) (1000000000000:Int) (λHL=>
  bif (!HL) then
   kf (0:Int)
  else
   bif (!decide (a1=0)) then
    bif (decide ((Int.tmod a0 a1)<(0:Int))) then
     kf (wrap .i64 ((Int.tmod a0 a1)+a1))
    else
     kf (Int.tmod a0 a1)
   else none)
def Ra (N:Nat) (a0:Int) (a1:Int) (kf:Int->aa):aa:=
 VM N a1 (2147483647:Int) (λZT=>
  kf (Int.tmod (wrap .i64 ((wrap .i64 ((wrap .i64 (a0*(1000003:Int)))+ZT))+(13:Int))) (2147483647:Int)))
def uk (N:Nat) (Fu:aq) (Ge:Int):Nat->(Int->aa)->Int->Int->aa
 |0,_,_,_=>none
 |pB+1,dF,de,mg=>
  bif (decide (mg<Ge)) then
   bif (bp mg (length Fu)) then
    Ra N de (getD Fu (toNat mg) (0:Int)) (λarQ=>
     (uk N Fu Ge pB dF) arQ (wrap .i64 (mg+(1:Int))))
   else none
  else
   dF de
def Rb (N:Nat) (a0:aq) (kf:Int->aa):aa:=
 uk N a0 (length a0:Int) N kf (11:Int) (0:Int)
def rU (N:Nat) (a0:Int) (a1:QL) (kf:Int->aa):aa:=
 Rb N [a0,a1.1,a1.2.1,a1.2.2.1] kf
def ld (N:Nat) (K9:lX) (gG:Int):Nat->(aa)->(Bool->aa)->Int->Int->aa
 |0,_,_,_,_=>none
 |pB+1,jE,y7,de,uR=>
  bif (decide (uR<gG)) then
   bif (bp uR (length K9)) then
    bif ((getD K9 (toNat uR) zQL).1 != (wrap .i64 (uR+(1:Int)))) then
     y7 false
    else
     bq N (getD K9 (toNat uR) zQL).2.1 (1:Int) (9:Int) (λVN=>
      bif (!VN) then
       y7 false
      else
       bq N (getD K9 (toNat uR) zQL).2.2.1 (0:Int) (99:Int) (λaiu=>
        bif (!aiu) then
         y7 false
        else
         rU N de (getD K9 (toNat uR) zQL) (λSN=>
          bif ((getD K9 (toNat uR) zQL).2.2.2 != SN) then
           y7 false
          else
           (ld N K9 gG pB jE y7) (getD K9 (toNat uR) zQL).2.2.2 (wrap .i64 (uR+(1:Int))))))
   else none
  else
   jE
def qH (N:Nat) (a0:lX) (kf:Bool->aa):aa:=
 bif (decide ((length a0:Int)>(200:Int))) then
  kf false
 else
  ld N a0 (length a0:Int) N (kf true) kf (0:Int) (0:Int)
def BE (N:Nat) (a0:lX) (a1:Int) (a2:Int) (kf:lX->Bool->aa):aa:=
 K8 N a0 (λare=>
  rU N are ((wrap .i64 ((length a0:Int)+(1:Int))),(a1,(a2,(0:Int)))) (λPQ=>
   S70 N a0 (λaiv=>
    bif (decide ((length aiv+length [((wrap .i64 ((length a0:Int)+(1:Int))),(a1,(a2,PQ)))])*4<=4398046511104)) then
     qH N (aiv++[((wrap .i64 ((length a0:Int)+(1:Int))),(a1,(a2,PQ)))]) (λarC=>
      bif (!arC) then
       S70 N a0 (λarR=>
        kf arR false)
      else
       kf (aiv++[((wrap .i64 ((length a0:Int)+(1:Int))),(a1,(a2,PQ)))]) true)
    else none)))
def pF (cD:Int) (zA:aq) (rT:Int):Nat->(Int->aa)->Int->Int->aa
 |0,_,_,_=>none
 |Dh+1,ep,lv,vM=>
  bif (decide (vM<rT)) then
   bif (bp vM (length zA)) then
    bif ((getD zA (toNat vM) (0:Int))==cD) then
     (pF cD zA rT Dh ep) (wrap .i64 (lv+(1:Int))) (wrap .i64 (vM+(1:Int)))
    else
     (pF cD zA rT Dh ep) lv (wrap .i64 (vM+(1:Int)))
   else none
  else
   ep lv
def qe (N:Nat) (a0:aq) (a1:Int) (kf:Int->aa):aa:=
 pF a1 a0 (length a0:Int) N kf (0:Int) (0:Int)
def fX (N:Nat) (SO:bg) (SP:QT) (afX:bg) (afY:Int) (afZ:Int) (BF:aq) (arS:Int):Nat->(aa)->(Bool->aa)->Int->aa
 |0,_,_,_=>none
 |avg+1,L8,yk,Yi=>
  bif (decide (Yi<arS)) then
   bif (bp Yi (length BF)) then
    eF N SO (getD BF (toNat Yi) (0:Int)) (λTW=>
     bif (decide (TW<(0:Int))) then
      yk false
     else
      bif ((getD BF (toNat Yi) (0:Int))==SP.1) then
       yk false
      else
       bif (bp TW (length SO)) then
        qe N SP.2.2.2.2.2 (getD BF (toNat Yi) (0:Int)) (λak5=>
         qe N (getD SO (toNat TW) eZ).2.2.2.2.2 SP.1 (λaf0=>
          bif (ak5 != af0) then
           yk false
          else
           (fX N SO SP afX afY afZ BF arS avg L8 yk) (wrap .i64 (Yi+(1:Int)))))
       else none)
   else none
  else
   L8
def xr (N:Nat) (ff:Bool->aa) (ay5:Int->aa) (aB:bg) (qt:bg) (PW:Int) (jZ:Int):aa:=
 fX N aB (getD qt (toNat jZ) eZ) qt PW jZ (getD qt (toNat jZ) eZ).2.2.2.2.2 (length (getD qt (toNat jZ) eZ).2.2.2.2.2:Int) N (ay5 (wrap .i64 (jZ+(1:Int)))) ff (0:Int)
def lx (N:Nat) (aB:bg) (qt:bg) (PW:Int):Nat->(aa)->(Bool->aa)->Int->aa
 |0,_,_,_=>none
 |pB+1,NM,ff,jZ=>
  let dd:=(getD qt (toNat jZ) eZ);
  bif (decide (jZ<PW)) then
   bif (bp jZ (length qt)) then
    bq N dd.1 (1:Int) (99:Int) (λVN=>
     bif (!VN) then
      ff false
     else
      bif (decide (jZ>(0:Int))) then
       bif (bp (wrap .i64 (jZ - (1:Int))) (length aB)) then
        bif (decide (dd.1<=(getD aB (toNat (wrap .i64 (jZ - (1:Int)))) eZ).1)) then
         ff false
        else
         bq N dd.2.1 (1:Int) (99:Int) (λarT=>
          bif (!arT) then
           ff false
          else
           bif (decide ((length dd.2.2.2.2.2:Int)>(20:Int))) then
            ff false
           else
            bq N dd.2.2.1 (0:Int) (length dd.2.2.2.2.2:Int) (λaeB=>
             bif (!aeB) then
              ff false
             else
              bq N dd.2.2.2.2.1 (0:Int) (length dd.2.2.2.2.2:Int) (λarU=>
               bif (!arU) then
                ff false
               else
                bq N dd.2.2.2.1 (0:Int) (100000:Int) (λak6=>
                 bif (!ak6) then
                  ff false
                 else
                  xr N ff (lx N aB qt PW pB NM ff) aB qt PW jZ))))
       else none
      else
       bq N dd.2.1 (1:Int) (99:Int) (λak7=>
        bif (!ak7) then
         ff false
        else
         bif (decide ((length dd.2.2.2.2.2:Int)>(20:Int))) then
          ff false
         else
          bq N dd.2.2.1 (0:Int) (length dd.2.2.2.2.2:Int) (λak8=>
           bif (!ak8) then
            ff false
           else
            bq N dd.2.2.2.2.1 (0:Int) (length dd.2.2.2.2.2:Int) (λNG=>
             bif (!NG) then
              ff false
             else
              bq N dd.2.2.2.1 (0:Int) (100000:Int) (λak9=>
               bif (!ak9) then
                ff false
               else
                xr N ff (lx N aB qt PW pB NM ff) aB qt PW jZ)))))
   else none
  else
   NM
def fY (N:Nat) (a0:bg) (kf:Bool->aa):aa:=
 bif (decide ((length a0:Int)>(10:Int))) then
  kf false
 else
  lx N a0 a0 (length a0:Int) N (kf true) kf (0:Int)
def fg (N:Nat) (aiw:du) (uL:QJ) (abW:du) (abX:Int) (abY:Int) (BG:aq) (ak':Int):Nat->(aa)->(Bool->aa)->Int->aa
 |0,_,_,_=>none
 |aB3+1,NN,HR,NO=>
  bif (decide (NO<ak')) then
   bif (bp NO (length BG)) then
    bq N (getD BG (toNat NO) (0:Int)) (1:Int) (99:Int) (λala=>
     bif (!ala) then
      HR false
     else
      bif (decide (NO>(0:Int))) then
       bif (bp (wrap .i64 (NO - (1:Int))) (length uL.2.2)) then
        bif (decide ((getD BG (toNat NO) (0:Int))<=(getD uL.2.2 (toNat (wrap .i64 (NO - (1:Int)))) (0:Int)))) then
         HR false
        else
         (fg N aiw uL abW abX abY BG ak' aB3 NN HR) (wrap .i64 (NO+(1:Int)))
       else none
      else
       (fg N aiw uL abW abX abY BG ak' aB3 NN HR) (wrap .i64 (NO+(1:Int))))
   else none
  else
   NN
def vS (N:Nat) (po:Bool->aa) (ay6:Int->aa) (aB:du) (sY:du) (uS:Int) (gY:Int):aa:=
 fg N aB (getD sY (toNat gY) jy) sY uS gY (getD sY (toNat gY) jy).2.2 (length (getD sY (toNat gY) jy).2.2:Int) N (ay6 (wrap .i64 (gY+(1:Int)))) po (0:Int)
def j0 (N:Nat) (aB:du) (sY:du) (uS:Int):Nat->(aa)->(Bool->aa)->Int->aa
 |0,_,_,_=>none
 |pB+1,NP,po,gY=>
  bif (decide (gY<uS)) then
   bif (bp gY (length sY)) then
    bq N (getD sY (toNat gY) jy).1 (1:Int) (99:Int) (λarV=>
     bif (!arV) then
      po false
     else
      bif (decide (gY>(0:Int))) then
       bif (bp (wrap .i64 (gY - (1:Int))) (length aB)) then
        bif (decide ((getD sY (toNat gY) jy).1<=(getD aB (toNat (wrap .i64 (gY - (1:Int)))) jy).1)) then
         po false
        else
         bq N (getD sY (toNat gY) jy).2.1 (1:Int) (99:Int) (λarW=>
          bif (!arW) then
           po false
          else
           vS N po (j0 N aB sY uS pB NP po) aB sY uS gY)
       else none
      else
       bq N (getD sY (toNat gY) jy).2.1 (1:Int) (99:Int) (λPR=>
        bif (!PR) then
         po false
        else
         vS N po (j0 N aB sY uS pB NP po) aB sY uS gY))
   else none
  else
   NP
def sZ (N:Nat) (a0:du) (kf:Bool->aa):aa:=
 bif (decide ((length a0:Int)>(10:Int))) then
  kf false
 else
  j0 N a0 a0 (length a0:Int) N (kf true) kf (0:Int)
def jK (aB:aq) (aR:Int) (Ge:Int):Nat->(aa)->(Int->aa)->Int->aa
 |0,_,_,_=>none
 |pB+1,jh,iv,mg=>
  bif (decide (mg<Ge)) then
   bif (bp mg (length aB)) then
    bif (aR==(getD aB (toNat mg) (0:Int))) then
     iv mg
    else
     (jK aB aR Ge pB jh iv) (wrap .i64 (mg+(1:Int)))
   else none
  else
   jh
def nu (N:Nat) (a0:aq) (a1:Int) (kf:Int->aa):aa:=
 jK a0 a1 (length a0:Int) N (kf (-1:Int)) kf (0:Int)
def dB (N:Nat) (a0:aq) (a1:Int) (kf:Bool->aa):aa:=
 nu N a0 a1 (λHL=>
  kf (decide (HL≥(0:Int))))
def HS (N:Nat) (a0:bg) (a1:Int) (a2:Int) (kf:Bool->aa):aa:=
 eF N a0 a1 (λlq=>
  bif (decide (lq≥(0:Int))) then
   bif (bp lq (length a0)) then
    dB N (getD a0 (toNat lq) eZ).2.2.2.2.2 a2 kf
   else none
  else
   kf false)
def um (N:Nat) (a0:bg) (a1:Int) (a2:Int) (kf:Bool->aa):aa:=
 eF N a0 a1 (λeV=>
  eF N a0 a2 (λmM=>
   fY N a0 (λOh=>
    bif Oh then
     bif (decide (eV≥(0:Int))) then
      bif (decide (mM≥(0:Int))) then
       bif (eV != mM) then
        bif (bp eV (length a0)) then
         bif (bp mM (length a0)) then
          bif ((getD a0 (toNat eV) eZ).2.1 != (getD a0 (toNat mM) eZ).2.1) then
           HS N a0 a1 a2 (λarj=>
            kf (!arj))
          else
           kf false
         else none
        else none
       else
        kf false
      else
       kf false
     else
      kf false
    else
     kf false)))
def nw (N:Nat) (aeG:aq) (Gf:bg) (arX:Int):Nat->(aa)->(Bool->aa)->Int->aa
 |0,_,_,_=>none
 |aDz+1,L9,Ma,af1=>
  bif (decide (af1<arX)) then
   bif (bp af1 (length Gf)) then
    qe N aeG (getD Gf (toNat af1) eZ).1 (λalb=>
     bif (alb != (1:Int)) then
      Ma false
     else
      (nw N aeG Gf arX aDz L9 Ma) (wrap .i64 (af1+(1:Int))))
   else none
  else
   L9
def oN (N:Nat) (aB:bg) (uS:dD) (gY:Int):Nat->(aq->aa)->(Bool->aa)->aq->Int->aa
 |0,_,_,_,_=>none
 |Dh+1,ep,mX,lv,Di=>
  bif (decide (Di<gY)) then
   bif (bp Di (length uS)) then
    um N aB (getD uS (toNat Di) lI).1 (getD uS (toNat Di) lI).2 (λBA=>
     bif (!BA) then
      mX false
     else
      bif (decide ((length lv+length [(getD uS (toNat Di) lI).1,(getD uS (toNat Di) lI).2])*1<=4398046511104)) then
       (oN N aB uS gY Dh ep mX) (lv++[(getD uS (toNat Di) lI).1,(getD uS (toNat Di) lI).2]) (wrap .i64 (Di+(1:Int)))
      else none)
   else none
  else
   ep lv
def HT (N:Nat) (a0:bg) (a1:dD) (kf:Bool->aa):aa:=
 oN N a0 a1 (length a1:Int) N (λaez=>
  nw N aez a0 (length a0:Int) N (kf true) kf (0:Int)) kf ([]:aq) (0:Int)
def xt (N:Nat) (a0:QJ) (a1:Int) (kf:Bool->aa):aa:=
 kf (a0.1==a1)
def cE (N:Nat) (aB:du) (aR:Int) (Ge:Int):Nat->(aa)->(Int->aa)->Int->aa
 |0,_,_,_=>none
 |pB+1,nR,nS,mg=>
  bif (decide (mg<Ge)) then
   bif (bp mg (length aB)) then
    xt N (getD aB (toNat mg) jy) aR (λnh=>
     bif nh then
      nS mg
     else
      (cE N aB aR Ge pB nR nS) (wrap .i64 (mg+(1:Int))))
   else none
  else
   nR
def dR (N:Nat) (a0:du) (afW:Int) (kf:Int->aa):aa:=
 cE N a0 afW (length a0:Int) N (kf (-1:Int)) kf (0:Int)
def nx (N:Nat) (aB:bg) (bX:QJ) (Mb:aq) (axp:Int):Nat->(aa)->(Bool->aa)->Int->aa
 |0,_,_,_=>none
 |Dh+1,La,EY,BH=>
  bif (decide (BH<axp)) then
   bif (bp BH (length Mb)) then
    eF N aB (getD Mb (toNat BH) (0:Int)) (λBA=>
     bif (decide (BA<(0:Int))) then
      EY false
     else
      bif (bp BA (length aB)) then
       bif ((getD aB (toNat BA) eZ).2.1==bX.2.1) then
        EY false
       else
        dB N bX.2.2 (getD Mb (toNat BH) (0:Int)) (λPR=>
         bif PR then
          EY false
         else
          (nx N aB bX Mb axp Dh La EY) (wrap .i64 (BH+(1:Int))))
      else none)
   else none
  else
   La
def pG (N:Nat) (a0:bg) (a1:QJ) (a2:LR) (kf:Bool->aa):aa:=
 nx N a0 a1 [a2.1,a2.2] (length [a2.1,a2.2]:Int) N (kf true) kf (0:Int)
def mi (N:Nat) (mW:bg) (qc:du) (Ga:dD) (wE:aq) (Mc:aq) (axq:Int):Nat->(aa)->(Bool->aa)->Int->aa
 |0,_,_,_=>none
 |n_9+1,Rc,EZ,SQ=>
  bif (decide (SQ<axq)) then
   bif (bp SQ (length Mc)) then
    dR N qc (getD Mc (toNat SQ) (0:Int)) (λTX=>
     bif (decide (TX<(0:Int))) then
      EZ false
     else
      bif (decide ((0:Int)<=(0:Int))&&decide ((0:Int)<=SQ)&&decide (SQ<=(length wE:Int))) then
       dB N (List.drop (toNat (0:Int)) (List.take (toNat SQ) wE)) (getD Mc (toNat SQ) (0:Int)) (λYj=>
        bif Yj then
         EZ false
        else
         bif (bp TX (length qc)) then
          bif (bp SQ (length Ga)) then
           pG N mW (getD qc (toNat TX) jy) (getD Ga (toNat SQ) lI) (λalc=>
            bif (!alc) then
             EZ false
            else
             (mi N mW qc Ga wE Mc axq n_9 Rc EZ) (wrap .i64 (SQ+(1:Int))))
          else none
         else none)
      else none)
   else none
  else
   Rc
def BI (N:Nat) (a0:bg) (a1:du) (a2:dD) (a3:aq) (kf:Bool->aa):aa:=
 sZ N a1 (λlJ=>
  bif (!lJ) then
   kf false
  else
   bif ((length a3:Int) != (length a2:Int)) then
    kf false
   else
    mi N a0 a1 a2 a3 a3 (length a3:Int) N (kf true) kf (0:Int))
def pH (N:Nat) (a0:QB) (kf:Bool->aa):aa:=
 bq N a0.1 (1:Int) (99:Int) (λLV=>
  bif LV then
   bq N a0.2.1 (0:Int) (100:Int) (λakT=>
    bif akT then
     bq N a0.2.2 (0:Int) (100:Int) (λaih=>
      bif aih then
       kf (a0.2.1 != a0.2.2)
      else
       kf false)
    else
     kf false)
  else
   kf false)
def mj (gG:bg) (uR:Int):Nat->(Int->aa)->Int->Int->aa
 |0,_,_,_=>none
 |Dh+1,vn,aE,mQ=>
  bif (decide (mQ<uR)) then
   bif (bp mQ (length gG)) then
    (mj gG uR Dh vn) (wrap .i64 (aE+(getD gG (toNat mQ) eZ).2.2.1)) (wrap .i64 (mQ+(1:Int)))
   else none
  else
   vn aE
def BJ (N:Nat) (a0:bg) (kf:Int->aa):aa:=
 fY N a0 (λHL=>
  bif (!HL) then
   kf (0:Int)
  else
   mj a0 (length a0:Int) N kf (0:Int) (0:Int))
def nT (N:Nat) (sk:QC) (Fv:iz) (arY:Int):Nat->(aa)->(Bool->aa)->Int->aa
 |0,_,_,_=>none
 |RB+1,NQ,HU,IF=>
  bif (decide (IF<arY)) then
   bif (bp IF (length Fv)) then
    bif (!((decide (((getD Fv (toNat IF) x4).1:Int)=(0:Int)))&&((decide (((getD Fv (toNat IF) x4).2.1:Int)=(0:Int)))&&(decide (((getD Fv (toNat IF) x4).2.2:Int)=(0:Int)))))) then
     pH N (getD Fv (toNat IF) x4) (λald=>
      bif (!ald) then
       HU false
      else
       bif (bp IF (length sk.2.2.2.1)) then
        bif ((getD Fv (toNat IF) x4).1 != (getD sk.2.2.2.1 (toNat IF) (0:Int))) then
         HU false
        else
         (nT N sk Fv arY RB NQ HU) (wrap .i64 (IF+(1:Int)))
       else none)
    else
     (nT N sk Fv arY RB NQ HU) (wrap .i64 (IF+(1:Int)))
   else none
  else
   NQ
def BK (N:Nat) (a0:QC) (kf:Bool->aa):aa:=
 nT N a0 a0.2.2.2.2.1 (length a0.2.2.2.2.1:Int) N (
  bq N a0.2.2.2.2.2.2 (0:Int) (1000:Int) (λay7=>
   bif ay7 then
    BJ N a0.1 (λTQ=>
     kf (TQ==a0.2.2.2.2.2.2))
   else
    kf false)) kf (0:Int)
def q9 (N:Nat) (a0:QC) (kf:Bool->aa):aa:=
 fY N a0.1 (λHL=>
  bif (!HL) then
   kf false
  else
   sZ N a0.2.1 (λPN=>
    bif (!PN) then
     kf false
    else
     qH N a0.2.2.2.2.2.1 (λVE=>
      bif (!VE) then
       kf false
      else
       bif ((length a0.2.2.2.1:Int) != (length a0.2.2.1:Int)) then
        kf false
       else
        bif ((length a0.2.2.2.2.1:Int) != (length a0.2.2.1:Int)) then
         kf false
        else
         iS N a0 (λais=>
          bif ais then
           HT N a0.1 a0.2.2.1 (λaB4=>
            bif (!aB4) then
             kf false
            else
             BI N a0.1 a0.2.1 a0.2.2.1 a0.2.2.2.1 (λaB5=>
              bif (!aB5) then
               kf false
              else
               BK N a0 kf))
          else
           BK N a0 kf))))
def pq (N:Nat) (a0:QC) (a1:QC) (a2:Int) (a3:Int) (kf:QC->Bool->aa):aa:=
 BE N a1.2.2.2.2.2.1 a2 a3 (λabZ GM=>
  bif (!GM) then
   bR N a0 (λarZ=>
    kf arZ false)
  else
   q9 N a0 (λfO=>
    bif (!fO) then
     bR N a0 (λarZ=>
      kf arZ false)
    else
     q9 N (a1.1,(a1.2.1,(a1.2.2.1,(a1.2.2.2.1,(a1.2.2.2.2.1,(abZ,a1.2.2.2.2.2.2)))))) (λaB6=>
      bif (!aB6) then
       bR N a0 (λaib=>
        kf aib false)
      else
       kf (a1.1,(a1.2.1,(a1.2.2.1,(a1.2.2.2.1,(a1.2.2.2.2.1,(abZ,a1.2.2.2.2.2.2)))))) true)))
def ly (abN:Int) (avh:Int) (TU:QC) (aix:QC) (ZU:QC):Nat->(Int->aa)->Int->aa
 |0,_,_=>none
 |aik+1,BL,aoM=>
  bif (decide (aoM<(length ZU.1:Int))) then
   bif (bp aoM (length ZU.1)) then
    bif (decide ((getD ZU.1 (toNat aoM) eZ).1<abN)) then
     (ly abN avh TU aix ZU aik BL) (wrap .i64 (aoM+(1:Int)))
    else
     BL aoM
   else none
  else
   BL aoM
def yl (N:Nat) (a0:QC) (a1:Int) (a2:Int) (kf:QC->Bool->aa):aa:=
 bR N a0 (λeV=>
  eF N a0.1 a1 (λaiy=>
   bif (decide (aiy≥(0:Int))) then
    kf eV false
   else
    iS N a0 (λaiz=>
     bif aiz then
      kf eV false
     else
      ly a1 a2 a0 (([]:bg),(([]:du),(([]:dD),(([]:aq),(([]:iz),(([]:lX),(0:Int))))))) eV N (λaB7=>
       avf N eV.1 aB7 [(a1,(a2,((0:Int),((0:Int),((0:Int),([]:aq))))))] (λay8=>
        pq N a0 (ay8,eV.2) (1:Int) a1 kf)) (0:Int))))
def BM (N:Nat) (a0:QJ) (a1:Int) (kf:Bool->aa):aa:=
 kf (a0.1==a1)
def cL (N:Nat) (aB:du) (aR:Int) (Ge:Int):Nat->(aa)->(Int->aa)->Int->aa
 |0,_,_,_=>none
 |pB+1,nR,nS,mg=>
  bif (decide (mg<Ge)) then
   bif (bp mg (length aB)) then
    BM N (getD aB (toNat mg) jy) aR (λnh=>
     bif nh then
      nS mg
     else
      (cL N aB aR Ge pB nR nS) (wrap .i64 (mg+(1:Int))))
   else none
  else
   nR
def jq (N:Nat) (a0:du) (afW:Int) (kf:Int->aa):aa:=
 cL N a0 afW (length a0:Int) N (kf (-1:Int)) kf (0:Int)
def pr (N:Nat) (a0:du) (a1:Int) (kf:Int->aa):aa:=
 jq N a0 a1 kf
def avi (N:Nat) (a0:du) (a1:Int) (a2:du) (kf:du->aa):aa:=
 bif (decide ((0:Int)<=a1)&&(decide (a1<=(length a0:Int))&&(Nat.blt 0 (length a2)&&Nat.ble ((length a0+length a2)*Ty.size tQJ) 4398046511104))) then
  kf (List.take (toNat a1) a0++a2++List.drop (toNat a1) a0)
 else none
def j8 (qc:Int) (Ga:Int) (wE:QC) (avj:QC) (ZV:QC):Nat->(Int->aa)->Int->aa
 |0,_,_=>none
 |n_9+1,og,aoN=>
  bif (decide (aoN<(length ZV.2.1:Int))) then
   bif (bp aoN (length ZV.2.1)) then
    bif (decide ((getD ZV.2.1 (toNat aoN) jy).1<qc)) then
     (j8 qc Ga wE avj ZV n_9 og) (wrap .i64 (aoN+(1:Int)))
    else
     og aoN
   else none
  else
   og aoN
def wL (N:Nat) (a0:QC) (a1:Int) (a2:Int) (kf:QC->Bool->aa):aa:=
 bR N a0 (λeV=>
  pr N a0.2.1 a1 (λaiy=>
   bif (decide (aiy≥(0:Int))) then
    kf eV false
   else
    j8 a1 a2 a0 (([]:bg),(([]:du),(([]:dD),(([]:aq),(([]:iz),(([]:lX),(0:Int))))))) eV N (λaB8=>
     avi N eV.2.1 aB8 [(a1,(a2,([]:aq)))] (λay9=>
      pq N a0 (eV.1,(ay9,eV.2.2)) (2:Int) a1 kf)) (0:Int)))
def avk (N:Nat) (a0:bg) (kf:bg->aa):aa:=
 bif (List.isEmpty a0) then
  both (kf ([]:bg)) (
   bif (decide ((length ([]:bg)+length a0)*6<=4398046511104)) then
    kf (([]:bg)++a0)
   else none)
 else
  bif (decide ((length ([]:bg)+length a0)*6<=4398046511104)) then
   kf (([]:bg)++a0)
  else none
def zB (kf:Int->aa) (aB9:Int) (aDA:Int):aa:=
 bif (bp (wrap .u8 aB9) (ByteArray.size cB)) then
  kf (wrap .i64 (aDA+(wrap .i64 (bt cB (wrap .u8 aB9)))))
 else none
def zC (kf:Int->aa) (ay':Int) (aB':Int):aa:=
 bif (decide (ay'≥(256:Int))) then
  bif (decide (0<=(8:Int))) then
   zB kf (Int.fdiv ay' (2^(min (toNat (8:Int)) (IntKind.bits .u64)))) (wrap .i64 (aB'+(8:Int)))
  else none
 else
  zB kf ay' aB'
def zD (kf:Int->aa) (aza:Int) (aCa:Int):aa:=
 bif (decide (aza≥(65536:Int))) then
  bif (decide (0<=(16:Int))) then
   zC kf (Int.fdiv aza (2^(min (toNat (16:Int)) (IntKind.bits .u64)))) (wrap .i64 (aCa+(16:Int)))
  else none
 else
  zC kf aza aCa
def Gg (N:Nat) (a0:Int) (kf:Int->aa):aa:=
 bif (decide (a0≥(4294967296:Int))) then
  bif (decide (0<=(32:Int))) then
   zD kf (Int.fdiv a0 (2^(min (toNat (32:Int)) (IntKind.bits .u64)))) (32:Int)
  else none
 else
  zD kf a0 (0:Int)
def ym (N:Nat) (a0:Int) (kf:Int->aa):aa:=
 Gg N a0 kf
def cmp_isNaN_int (N:Nat) (a0:Int) (kf:Bool->aa):aa:=
 kf (a0 != a0)
def oO (N:Nat) (a0:Int) (a1:Int) (kf:Int->aa):aa:=
 cmp_isNaN_int N a0 (λZT=>
  cmp_isNaN_int N a1 (λamS=>
   bif ZT then
    bif amS then
     kf (0:Int)
    else
     kf (-1:Int)
   else
    bif amS then
     kf (1:Int)
    else
     bif (decide (a0<a1)) then
      kf (-1:Int)
     else
      bif (decide (a0>a1)) then
       kf (1:Int)
      else
       kf (0:Int)))
def rV (de:Int) (Fu:aq) (Ge:Int):Nat->(aa)->(Int->aa)->Int->aa
 |0,_,_,_=>none
 |pB+1,ez,Yk,mg=>
  bif (decide (mg<Ge)) then
   bif (bp mg (length Fu)) then
    bif ((getD Fu (toNat mg) (0:Int)) != de) then
     Yk (getD Fu (toNat mg) (0:Int))
    else
     (rV de Fu Ge pB ez Yk) (wrap .i64 (mg+(1:Int)))
   else none
  else
   ez
def NR (N:Nat) (a0:aq) (kf:Int->aa):aa:=
 rV (0:Int) a0 (length a0:Int) N (kf (0:Int)) kf (0:Int)
def y8 (N:Nat) (a0:QT) (a1:QT) (kf:Int->aa):aa:=
 oO N a1.2.2.1 a0.2.2.1 (λwe=>
  oO N a1.2.2.2.1 a0.2.2.2.1 (λmM=>
   oO N a0.1 a1.1 (λaiz=>
    NR N [we,mM,aiz] kf)))
def cq (N:Nat) (sk:Int) (NI:Int) (azb:Int):Nat->(bg->aa)->bg->Int->aa
 |0,_,_,_=>none
 |RB+1,NS,nP,rh=>
  bif (decide (rh>sk)) then
   bif (bp rh (length nP)) then
    bif (bp (wrap .i64 (rh - (1:Int))) (length nP)) then
     y8 N (getD nP (toNat rh) eZ) (getD nP (toNat (wrap .i64 (rh - (1:Int)))) eZ) (λale=>
      bif (decide (ale<(0:Int))) then
       bif (bp (wrap .i64 (rh - (1:Int))) (length nP)) then
        bif (bp rh (length nP)) then
         bif (bp rh (length nP)) then
          share (List.set nP (toNat rh) (getD nP (toNat (wrap .i64 (rh - (1:Int)))) eZ)) (λaiA=>
           bif (bp (wrap .i64 (rh - (1:Int))) (length aiA)) then
            share (List.set aiA (toNat (wrap .i64 (rh - (1:Int)))) (getD nP (toNat rh) eZ)) (λar0=>
             (cq N sk NI azb RB NS) ar0 (wrap .i64 (rh - (1:Int))))
           else none)
         else none
        else none
       else none
      else
       NS nP)
    else none
   else none
  else
   NS nP
def bT (N:Nat) (aR:Int) (ky:Int):Nat->(bg->aa)->bg->Int->aa
 |0,_,_,_=>none
 |pB+1,VO,aB,mg=>
  bif (decide (mg<ky)) then
   cq N aR ky mg N (λar1=>
    (bT N aR ky pB VO) ar1 (wrap .i64 (mg+(1:Int)))) aB mg
  else
   VO aB
def eU (N:Nat) (a0:bg) (a1:Int) (a2:Int) (kf:bg->aa):aa:=
 bT N a1 a2 N kf a0 (wrap .i64 (a1+(1:Int)))
def fq (N:Nat) (aB:bg) (aR:Int) (ky:Int) (lK:Int) (vM:Bool) (aCb:Bool):Nat->(bg->aa)->aa
 |0,_=>none
 |Yh+1,La=>
  bif (decide ((wrap .i64 (ky - aR))<=(12:Int))) then
   eU N aB aR ky La
  else
   bif (lK==(0:Int)) then
    none
   else
    bif (!vM) then
     none
    else none
def eA (N:Nat) (a0:bg) (a1:Int) (a2:Int) (a3:Int) (kf:bg->aa):aa:=
 fq N a0 a1 a2 a3 true true N kf
def fF (N:Nat) (a0:bg) (kf:bg->aa):aa:=
 ym N (wrap .u64 (length a0:Int)) (λeV=>
  eA N a0 (0:Int) (length a0:Int) eV kf)
def ny (BH:bg) (axr:Int):Nat->(aq->aa)->aq->Int->aa
 |0,_,_,_=>none
 |n_8+1,Yl,lK,aiB=>
  bif (decide (aiB<axr)) then
   bif (bp aiB (length BH)) then
    bif (decide ((length lK+length [(getD BH (toNat aiB) eZ).1])*1<=4398046511104)) then
     (ny BH axr n_8 Yl) (lK++[(getD BH (toNat aiB) eZ).1]) (wrap .i64 (aiB+(1:Int)))
    else none
   else none
  else
   Yl lK
def rW (N:Nat) (a0:bg) (kf:aq->aa):aa:=
 fY N a0 (λwe=>
  bif (!we) then
   kf ([]:aq)
  else
   avk N a0 (λqY=>
    fF N qY (λaCc=>
     ny aCc (length aCc:Int) N kf ([]:aq) (0:Int))))
def HV (N:Nat) (a0:bg) (a1:Int) (a2:Int) (kf:LR->aa):aa:=
 eF N a0 a1 (λaiC=>
  eF N a0 a2 (λab0=>
   fY N a0 (λaiz=>
    bif (!aiz) then
     kf ((0:Int),(0:Int))
    else
     bif (decide (aiC<(0:Int))) then
      kf ((0:Int),(0:Int))
     else
      bif (decide (ab0<(0:Int))) then
       kf ((0:Int),(0:Int))
      else
       bif (aiC==ab0) then
        kf ((0:Int),(0:Int))
       else
        bif (bp aiC (length a0)) then
         bif (bp ab0 (length a0)) then
          rW N a0 (λaxs=>
           bif (decide ((getD a0 (toNat aiC) eZ).2.2.2.2.1<(getD a0 (toNat ab0) eZ).2.2.2.2.1)) then
            kf (a1,a2)
           else
            bif ((getD a0 (toNat aiC) eZ).2.2.2.2.1==(getD a0 (toNat ab0) eZ).2.2.2.2.1) then
             nu N axs a1 (λaCd=>
              nu N axs a2 (λaCe=>
               bif (decide (aCd<aCe)) then
                kf (a1,a2)
               else
                kf (a2,a1)))
            else
             kf (a2,a1))
         else none
        else none)))
def NT (N:Nat) (self:bg->aq->(dD->Bool->aa)->aa) (aB:bg) (aR:aq):Nat->(aa)->(dD->Bool->aa)->Int->aa
 |0,_,_,_=>none
 |wC+1,NU,E0,AL=>
  bif (decide (AL<(length aR:Int))) then
   bif (bp (0:Int) (length aR)) then
    bif (bp AL (length aR)) then
     um N aB (getD aR (toNat (0:Int)) (0:Int)) (getD aR (toNat AL) (0:Int)) (λarO=>
      bif (!arO) then
       (NT N self aB aR wC NU E0) (wrap .i64 (AL+(1:Int)))
      else
       bif (decide ((0:Int)<=(1:Int))&&decide ((1:Int)<=AL)&&decide (AL<=(length aR:Int))) then
        bif (decide ((0:Int)<=(wrap .i64 (AL+(1:Int))))&&decide ((wrap .i64 (AL+(1:Int)))<=(length aR:Int))&&decide ((length aR:Int)<=(length aR:Int))) then
         mh N [(List.drop (toNat (1:Int)) (List.take (toNat AL) aR)),(List.drop (toNat (wrap .i64 (AL+(1:Int)))) (List.take (toNat (length aR:Int)) aR))] (λaCf=>
          self aB aCf (λaxt aCg=>
           bif aCg then
            bif (bp (0:Int) (length aR)) then
             bif (bp AL (length aR)) then
              HV N aB (getD aR (toNat (0:Int)) (0:Int)) (getD aR (toNat AL) (0:Int)) (λaxu=>
               bif (decide ((length [axu]+length axt)*2<=4398046511104)) then
                E0 ([axu]++axt) true
               else none)
             else none
            else none
           else
            (NT N self aB aR wC NU E0) (wrap .i64 (AL+(1:Int)))))
        else none
       else none)
    else none
   else none
  else
   NU
def alf (self:bg->aq->(dD->Bool->aa)->aa) (N:Nat) (a0:bg) (a1:aq) (kf:dD->Bool->aa):aa:=
 bif ((length a1:Int)==(0:Int)) then
  kf ([]:dD) true
 else
  NT N self a0 a1 N (kf ([]:dD) false) kf (1:Int)
def alg:Nat->bg->aq->(dD->Bool->aa)->aa
 |0,_,_,_=>none
 |N+1,a0,a1,kf=>alf (alg N) N a0 a1 kf
def BN (N:Nat) (a0:bg) (kf:dD->Bool->aa):aa:=
 fY N a0 (λLV=>
  bif (!LV) then
   kf ([]:dD) false
  else
   bif ((Int.tmod (length a0:Int) (2:Int))==(1:Int)) then
    kf ([]:dD) false
   else
    rW N a0 (λGM=>
     alg N a0 GM kf))
def J2 (N:Nat) (self:bg->du->dD->aq->(aq->Bool->aa)->aa) (aB:bg) (aR:du) (ky:dD) (lK:aq) (J3:du) (tK:Int):Nat->(aa)->(aq->Bool->aa)->Int->aa
 |0,_,_,_=>none
 |n_8+1,aas,aat,IG=>
  bif (decide (IG<tK)) then
   bif (bp IG (length J3)) then
    dB N lK (getD J3 (toNat IG) jy).1 (λaCh=>
     bif aCh then
      (J2 N self aB aR ky lK J3 tK n_8 aas aat) (wrap .i64 (IG+(1:Int)))
     else
      bif (bp (0:Int) (length ky)) then
       pG N aB (getD J3 (toNat IG) jy) (getD ky (toNat (0:Int)) lI) (λazc=>
        bif (!azc) then
         (J2 N self aB aR ky lK J3 tK n_8 aas aat) (wrap .i64 (IG+(1:Int)))
        else
         bif (decide ((0:Int)<=(1:Int))&&decide ((1:Int)<=(length ky:Int))&&decide ((length ky:Int)<=(length ky:Int))) then
          S68 N lK (λaf2=>
           bif (decide ((length af2+length [(getD J3 (toNat IG) jy).1])*1<=4398046511104)) then
            self aB aR (List.drop (toNat (1:Int)) (List.take (toNat (length ky:Int)) ky)) (af2++[(getD J3 (toNat IG) jy).1]) (λafT azd=>
             bif azd then
              bif (decide ((length [(getD J3 (toNat IG) jy).1]+length afT)*1<=4398046511104)) then
               aat ([(getD J3 (toNat IG) jy).1]++afT) true
              else none
             else
              (J2 N self aB aR ky lK J3 tK n_8 aas aat) (wrap .i64 (IG+(1:Int))))
           else none)
         else none)
      else none)
   else none
  else
   aas
def alh (self:bg->du->dD->aq->(aq->Bool->aa)->aa) (N:Nat) (a0:bg) (a1:du) (a2:dD) (a3:aq) (kf:aq->Bool->aa):aa:=
 bif ((length a2:Int)==(0:Int)) then
  kf ([]:aq) true
 else
  J2 N self a0 a1 a2 a3 a1 (length a1:Int) N (kf ([]:aq) false) kf (0:Int)
def ali:Nat->bg->du->dD->aq->(aq->Bool->aa)->aa
 |0,_,_,_,_,_=>none
 |N+1,a0,a1,a2,a3,kf=>alh (ali N) N a0 a1 a2 a3 kf
def y9 (N:Nat) (a0:bg) (a1:du) (a2:dD) (kf:aq->Bool->aa):aa:=
 sZ N a1 (λwe=>
  bif (!we) then
   kf ([]:aq) false
  else
   fY N a0 (λqY=>
    bif (!qY) then
     kf ([]:aq) false
    else
     bif (decide ((length a2:Int)>(length a1:Int))) then
      kf ([]:aq) false
     else
      ali N a0 a1 a2 ([]:aq) kf))
def yn (N:Nat) (a0:QC) (kf:QC->Bool->aa):aa:=
 bR N a0 (λlq=>
  q9 N a0 (λPN=>
   bif (!PN) then
    kf lq false
   else
    iS N a0 (λOh=>
     bif Oh then
      kf lq false
     else
      bif ((length a0.1:Int)==(0:Int)) then
       kf lq false
      else
       BN N a0.1 (λVI aim=>
        y9 N a0.1 a0.2.1 VI (λaCi aCj=>
         bif (!aim) then
          kf lq false
         else
          bif (!aCj) then
           kf lq false
          else
           bif (decide ((length VI:Int)=(length VI:Int))&&decide ((0:Int)<=(length VI:Int))&&decide ((length VI:Int)<=1099511627776)) then
            pq N a0 (lq.1,(lq.2.1,(VI,(aCi,((List.replicate (toNat (length VI:Int)) ((0:Int),((0:Int),(0:Int)))),lq.2.2.2.2.2))))) (3:Int) (0:Int) kf
           else none)))))
def uT (N:Nat) (a0:QC) (a1:Int) (a2:Int) (a3:Int) (kf:QC->Bool->aa):aa:=
 bR N a0 (λlJ=>
  q9 N a0 (λaiy=>
   bif (!aiy) then
    kf lJ false
   else
    bif (decide (a1<(0:Int))) then
     kf lJ false
    else
     bif (decide (a1≥(length a0.2.2.1:Int))) then
      kf lJ false
     else
      bif (bp a1 (length a0.2.2.2.2.1)) then
       bif (!((decide (((getD a0.2.2.2.2.1 (toNat a1) x4).1:Int)=(0:Int)))&&((decide (((getD a0.2.2.2.2.1 (toNat a1) x4).2.1:Int)=(0:Int)))&&(decide (((getD a0.2.2.2.2.1 (toNat a1) x4).2.2:Int)=(0:Int)))))) then
        kf lJ false
       else
        bif (bp a1 (length a0.2.2.2.1)) then
         pH N ((getD a0.2.2.2.1 (toNat a1) (0:Int)),(a2,a3)) (λaCk=>
          bif (!aCk) then
           kf lJ false
          else
           bif (bp a1 (length lJ.2.2.2.2.1)) then
            pq N a0 (lJ.1,(lJ.2.1,(lJ.2.2.1,(lJ.2.2.2.1,((List.set lJ.2.2.2.2.1 (toNat a1) ((getD a0.2.2.2.1 (toNat a1) (0:Int)),(a2,a3))),lJ.2.2.2.2.2))))) (4:Int) (getD a0.2.2.2.1 (toNat a1) (0:Int)) kf
           else none)
        else none
      else none))
def mR (AN:iz) (BC:Int):Nat->(aq->aa)->aq->Int->aa
 |0,_,_,_=>none
 |pB+1,dF,de,oe=>
  bif (decide (oe<BC)) then
   bif (bp oe (length AN)) then
    bif ((decide (((getD AN (toNat oe) x4).1:Int)=(0:Int)))&&((decide (((getD AN (toNat oe) x4).2.1:Int)=(0:Int)))&&(decide (((getD AN (toNat oe) x4).2.2:Int)=(0:Int))))) then
     bif (decide ((length de+length [oe])*1<=4398046511104)) then
      (mR AN BC pB dF) (de++[oe]) (wrap .i64 (oe+(1:Int)))
     else none
    else
     (mR AN BC pB dF) de (wrap .i64 (oe+(1:Int)))
   else none
  else
   dF de
def pv (N:Nat) (a0:QC) (kf:aq->aa):aa:=
 mR a0.2.2.2.2.1 (length a0.2.2.2.2.1:Int) N kf ([]:aq) (0:Int)
def iT (N:Nat) (aB:iz) (AN:iz) (BC:Int):Nat->(aa)->(Bool->aa)->Int->aa
 |0,_,_,_=>none
 |pB+1,qz,Bz,oe=>
  bif (decide (oe<BC)) then
   bif (bp oe (length AN)) then
    pH N (getD AN (toNat oe) x4) (λnh=>
     bif (!nh) then
      Bz false
     else
      bif (decide (oe>(0:Int))) then
       bif (bp (wrap .i64 (oe - (1:Int))) (length aB)) then
        bif (decide ((getD AN (toNat oe) x4).1<=(getD aB (toNat (wrap .i64 (oe - (1:Int)))) x4).1)) then
         Bz false
        else
         (iT N aB AN BC pB qz Bz) (wrap .i64 (oe+(1:Int)))
       else none
      else
       (iT N aB AN BC pB qz Bz) (wrap .i64 (oe+(1:Int))))
   else none
  else
   qz
def qI (N:Nat) (a0:iz) (kf:Bool->aa):aa:=
 bif (decide ((length a0:Int)>(9:Int))) then
  kf false
 else
  iT N a0 a0 (length a0:Int) N (kf true) kf (0:Int)
def Ai (N:Nat) (a0:QB) (kf:Int->aa):aa:=
 bif (decide (a0.2.1>a0.2.2)) then
  kf (1:Int)
 else
  kf (2:Int)
def lz (N:Nat) (aR:Int) (gY:iz) (Di:Int):Nat->(Int->aa)->Int->Int->aa
 |0,_,_,_=>none
 |Yh+1,og,bA,Me=>
  bif (decide (Me<Di)) then
   bif (bp Me (length gY)) then
    Ai N (getD gY (toNat Me) x4) (λaiD=>
     bif (aiD==aR) then
      (lz N aR gY Di Yh og) (wrap .i64 (bA+(1:Int))) (wrap .i64 (Me+(1:Int)))
     else
      (lz N aR gY Di Yh og) bA (wrap .i64 (Me+(1:Int))))
   else none
  else
   og bA
def yo (N:Nat) (a0:iz) (a1:Int) (kf:Int->aa):aa:=
 qI N a0 (λwe=>
  bif (!we) then
   kf (0:Int)
  else
   lz N a1 a0 (length a0:Int) N kf (0:Int) (0:Int))
def mm (aR:Int) (gY:iz) (Di:Int):Nat->(Int->aa)->Int->Int->aa
 |0,_,_,_=>none
 |Yh+1,jE,bA,Me=>
  bif (decide (Me<Di)) then
   bif (bp Me (length gY)) then
    bif (aR==(1:Int)) then
     (mm aR gY Di Yh jE) (wrap .i64 (bA+(getD gY (toNat Me) x4).2.1)) (wrap .i64 (Me+(1:Int)))
    else
     bif (aR==(2:Int)) then
      (mm aR gY Di Yh jE) (wrap .i64 (bA+(getD gY (toNat Me) x4).2.2)) (wrap .i64 (Me+(1:Int)))
     else
      (mm aR gY Di Yh jE) bA (wrap .i64 (Me+(1:Int)))
   else none
  else
   jE bA
def wM (N:Nat) (a0:iz) (a1:Int) (kf:Int->aa):aa:=
 qI N a0 (λwe=>
  bif (!we) then
   kf (0:Int)
  else
   mm a1 a0 (length a0:Int) N kf (0:Int) (0:Int))
def Mf (N:Nat) (a0:iz) (kf:Int->aa):aa:=
 bif (bp (0:Int) (length a0)) then
  Ai N (getD a0 (toNat (0:Int)) x4) kf
 else none
def vh (N:Nat) (a0:iz) (kf:Int->aa):aa:=
 bif ((length a0:Int)==(0:Int)) then
  kf (0:Int)
 else
  qI N a0 (λlq=>
   bif (!lq) then
    kf (0:Int)
   else
    yo N a0 (1:Int) (λmM=>
     yo N a0 (2:Int) (λOh=>
      wM N a0 (1:Int) (λabC=>
       wM N a0 (2:Int) (λabQ=>
        bif (decide ((wrap .i64 (mM - Oh))>(0:Int))) then
         kf (1:Int)
        else
         bif ((wrap .i64 (mM - Oh))==(0:Int)) then
          bif (decide ((wrap .i64 (abC - abQ))>(0:Int))) then
           kf (1:Int)
          else
           bif (decide ((wrap .i64 (mM - Oh))<(0:Int))) then
            kf (2:Int)
           else
            bif (decide ((wrap .i64 (abC - abQ))<(0:Int))) then
             kf (2:Int)
            else
             Mf N a0 kf
         else
          bif (decide ((wrap .i64 (mM - Oh))<(0:Int))) then
           kf (2:Int)
          else
           bif (decide ((wrap .i64 (abC - abQ))<(0:Int))) then
            kf (2:Int)
           else
            Mf N a0 kf)))))
def BO (N:Nat) (a0:bg) (a4:Int) (a5:Int) (kf:bg->Bool->aa) (gF:Int) (fO:Int) (af3:bg):aa:=
 let dd:=(getD af3 (toNat gF) eZ);
 let yb:=((wrap .i64 (dd.2.2.2.1+a4)),dd.2.2.2.2);
 let tC:=(List.set af3 (toNat gF) (dd.1,(dd.2.1,(dd.2.2.1,yb))));
 let xS:=(getD tC (toNat fO) eZ);
 bif (bp gF (length af3)) then
  bif (bp gF (length af3)) then
   bif (bp fO (length tC)) then
    bif (bp fO (length tC)) then
     share (List.set tC (toNat fO) (xS.1,(xS.2.1,(xS.2.2.1,((wrap .i64 (xS.2.2.2.1+a5)),xS.2.2.2.2))))) (λar2=>
      fY N ar2 (λaf4=>
       bif (!af4) then
        oM N a0 (λaf5=>
         kf af5 false)
       else
        kf ar2 true))
    else none
   else none
  else none
 else none
def s4 (N:Nat) (a0:bg) (a1:Int) (a2:Int) (a3:Int) (a4:Int) (a5:Int) (kf:bg->Bool->aa):aa:=
 oM N a0 (λse=>
  eF N a0 a1 (λgF=>
   let dd:=(getD se (toNat gF) eZ);
   let yb:=(List.set se (toNat gF) (dd.1,(dd.2.1,(dd.2.2.1,(dd.2.2.2.1,(dd.2.2.2.2.1,(dd.2.2.2.2.2++[a2])))))));
   eF N a0 a2 (λfO=>
    let tC:=(getD yb (toNat fO) eZ);
    fY N a0 (λabI=>
     bif (!abI) then
      kf se false
     else
      bif (decide (gF<(0:Int))) then
       kf se false
      else
       bif (decide (fO<(0:Int))) then
        kf se false
       else
        bif (gF==fO) then
         kf se false
        else
         bq N a3 (1:Int) (2:Int) (λarp=>
          bif (!arp) then
           kf se false
          else
           bq N a4 (0:Int) (1000:Int) (λarq=>
            bif (!arq) then
             kf se false
            else
             bq N a5 (0:Int) (1000:Int) (λars=>
              bif (!ars) then
               kf se false
              else
               bif (bp gF (length se)) then
                bif (bp fO (length se)) then
                 bif (decide ((length dd.2.2.2.2.2+length [a2])*1<=4398046511104)) then
                  bif ((!(Nat.beq (toNat gF) (toNat fO)))&&true) then
                   bif (decide ((length (getD se (toNat fO) eZ).2.2.2.2.2+length [a1])*1<=4398046511104)) then
                    bif (bp gF (length se)) then
                     bif (Nat.beq (toNat gF) (toNat gF)) then
                      bif (bp fO (length yb)) then
                       bif (Nat.beq (toNat fO) (toNat fO)) then
                        share (List.set yb (toNat fO) (tC.1,(tC.2.1,(tC.2.2.1,(tC.2.2.2.1,(tC.2.2.2.2.1,((getD se (toNat fO) eZ).2.2.2.2.2++[a1]))))))) (λVF=>
                         let xS:=(getD VF (toNat gF) eZ);
                         let Rz:=(wrap .i64 (xS.2.2.2.2.1+(1:Int)));
                         let AI:=(List.set VF (toNat gF) (xS.1,(xS.2.1,(xS.2.2.1,(xS.2.2.2.1,(Rz,xS.2.2.2.2.2))))));
                         bif (bp gF (length VF)) then
                          bif (bp gF (length VF)) then
                           bif (a3==(1:Int)) then
                            bif (bp gF (length AI)) then
                             bif (bp gF (length AI)) then
                              share (List.set AI (toNat gF) ((getD AI (toNat gF) eZ).1,((getD AI (toNat gF) eZ).2.1,((wrap .i64 ((getD AI (toNat gF) eZ).2.2.1+(1:Int))),(getD AI (toNat gF) eZ).2.2.2)))) (λaeD=>
                               BO N a0 a4 a5 kf gF fO aeD)
                             else none
                            else none
                           else
                            bif (bp fO (length AI)) then
                             bif (bp fO (length AI)) then
                              share (List.set AI (toNat fO) ((getD AI (toNat fO) eZ).1,((getD AI (toNat fO) eZ).2.1,((wrap .i64 ((getD AI (toNat fO) eZ).2.2.1+(1:Int))),(getD AI (toNat fO) eZ).2.2.2)))) (λakZ=>
                               BO N a0 a4 a5 kf gF fO akZ)
                             else none
                            else none
                          else none
                         else none)
                       else none
                      else none
                     else none
                    else none
                   else none
                  else none
                 else none
                else none
               else none)))))))
def alj (N:Nat) (a0:aq) (kf:aq->aa):aa:=
 bif (Nat.blt (length a0) 4611686018427387904) then
  kf (Ae a0)
 else none
def aoO (N:Nat) (a0:aq) (kf:aq->aa):aa:=
 kf (oZ a0)
def mn (N:Nat) (sk:QC) (NI:QC) (wN:dD) (ar3:Int):Nat->(QC->aa)->(QC->Bool->aa)->QC->Int->aa
 |0,_,_,_,_=>none
 |akQ+1,Re,Rf,wg,zE=>
  bif (decide (zE<ar3)) then
   bif (bp zE (length wN)) then
    bif (bp zE (length sk.2.2.2.2.1)) then
     vh N [(getD sk.2.2.2.2.1 (toNat zE) x4)] (λab1=>
      s4 N wg.1 (getD wN (toNat zE) lI).1 (getD wN (toNat zE) lI).2 ab1 (getD sk.2.2.2.2.1 (toNat zE) x4).2.1 (getD sk.2.2.2.2.1 (toNat zE) x4).2.2 (λab2 ab3=>
       bif (!ab3) then
        bR N sk (λab4=>
         Rf ab4 false)
       else
        bif (bp zE (length sk.2.2.2.1)) then
         pr N wg.2.1 (getD sk.2.2.2.1 (toNat zE) (0:Int)) (λmo=>
          bif (bp mo (length wg.2.1)) then
           bif (decide ((length (getD wg.2.1 (toNat mo) jy).2.2+length [(getD wN (toNat zE) lI).1,(getD wN (toNat zE) lI).2])*1<=4398046511104)) then
            alj N ((getD wg.2.1 (toNat mo) jy).2.2++[(getD wN (toNat zE) lI).1,(getD wN (toNat zE) lI).2]) (λab5=>
             aoO N ab5 (λab6=>
              bif (bp mo (length wg.2.1)) then
               bif (Nat.beq (toNat mo) (toNat mo)) then
                (mn N sk NI wN ar3 akQ Re Rf) (ab2,((List.set wg.2.1 (toNat mo) ((getD wg.2.1 (toNat mo) jy).1,((getD wg.2.1 (toNat mo) jy).2.1,ab6))),wg.2.2)) (wrap .i64 (zE+(1:Int)))
               else none
              else none))
           else none
          else none)
        else none))
    else none
   else none
  else
   Re wg
def wO (N:Nat) (a0:QC) (kf:QC->Bool->aa):aa:=
 q9 N a0 (λvK=>
  bif (!vK) then
   bR N a0 (λabI=>
    kf abI false)
  else
   iS N a0 (λGM=>
    bif (!GM) then
     bR N a0 (λabI=>
      kf abI false)
    else
     pv N a0 (λaey=>
      bif (decide ((length aey:Int)>(0:Int))) then
       bR N a0 (λar4=>
        kf ar4 false)
      else
       bR N a0 (λaCl=>
        mn N a0 (([]:bg),(([]:du),(([]:dD),(([]:aq),(([]:iz),(([]:lX),(0:Int))))))) a0.2.2.1 (length a0.2.2.1:Int) N (λamT=>
         pq N a0 (amT.1,(amT.2.1,(([]:dD),(([]:aq),(([]:iz),(amT.2.2.2.2.2.1,(wrap .i64 (amT.2.2.2.2.2.2+(length a0.2.2.1:Int))))))))) (5:Int) (0:Int) kf) kf aCl (0:Int)))))
def aze (N:Nat) (a0:bg) (a1:Int) (a2:Int) (kf:bg->aa):aa:=
 bif (decide ((0:Int)<=a1)&&(decide (a1<=a2)&&decide (a2<=(length a0:Int)))) then
  kf (List.take (toNat a1) a0++List.drop (toNat a2) a0)
 else none
def wP (N:Nat) (a0:QC) (a1:Int) (kf:QC->Bool->aa):aa:=
 bR N a0 (λwe=>
  eF N a0.1 a1 (λqY=>
   bif (decide (qY<(0:Int))) then
    kf we false
   else
    bif (bp qY (length a0.1)) then
     bif (decide ((length (getD a0.1 (toNat qY) eZ).2.2.2.2.2:Int)>(0:Int))) then
      kf we false
     else
      iS N a0 (λarf=>
       bif arf then
        kf we false
       else
        aze N we.1 qY (wrap .i64 (qY+(1:Int))) (λaCm=>
         pq N a0 (aCm,we.2) (6:Int) a1 kf))
    else none))
def jr (N:Nat) (a0:QC) (a1:ByteArray) (a2:aq) (kf:QC->Bool->Bool->aa):aa:=
 bif (ByteArray.toList a1==ByteArray.toList LS) then
  HQ N (λabZ=>
   kf abZ true true)
 else
  bif (ByteArray.toList a1==ByteArray.toList K1) then
   bif (bp (0:Int) (length a2)) then
    bif (bp (1:Int) (length a2)) then
     yl N a0 (getD a2 (toNat (0:Int)) (0:Int)) (getD a2 (toNat (1:Int)) (0:Int)) (λaCn ar5=>
      kf aCn ar5 true)
    else none
   else none
  else
   bif (ByteArray.toList a1==ByteArray.toList yV) then
    bif (bp (0:Int) (length a2)) then
     bif (bp (1:Int) (length a2)) then
      wL N a0 (getD a2 (toNat (0:Int)) (0:Int)) (getD a2 (toNat (1:Int)) (0:Int)) (λais J1=>
       kf ais J1 true)
     else none
    else none
   else
    bif (ByteArray.toList a1==ByteArray.toList PK) then
     yn N a0 (λaCo aCp=>
      kf aCo aCp true)
    else
     bif (ByteArray.toList a1==ByteArray.toList Bf) then
      bif (bp (0:Int) (length a2)) then
       bif (bp (1:Int) (length a2)) then
        bif (bp (2:Int) (length a2)) then
         uT N a0 (getD a2 (toNat (0:Int)) (0:Int)) (getD a2 (toNat (1:Int)) (0:Int)) (getD a2 (toNat (2:Int)) (0:Int)) (λaCq aCr=>
          kf aCq aCr true)
        else none
       else none
      else none
     else
      bif (ByteArray.toList a1==ByteArray.toList JW) then
       wO N a0 (λazf azg=>
        kf azf azg true)
      else
       bif (ByteArray.toList a1==ByteArray.toList EP) then
        bif (bp (0:Int) (length a2)) then
         wP N a0 (getD a2 (toNat (0:Int)) (0:Int)) (λazh azi=>
          kf azh azi true)
        else none
       else
        kf a0 false false
def avl (N:Nat) (a0:bG) (a1:ByteArray) (kf:ByteArray->aa):aa:=
 bif (Nat.ble (length a0) 140737488355328&&Nat.ble (ByteArray.size (JU a0 a1)) 140737488355328) then
  kf (JU a0 a1)
 else none
def tL (N:Nat) (a0:bG) (kf:ByteArray->aa):aa:=
 bif ((length a0:Int)==(0:Int)) then
  kf im
 else
  avl N a0 Bg kf
def ig (N:Nat) (ic:aq) (zA:Int):Nat->(bG->aa)->bG->Int->aa
 |0,_,_,_=>none
 |pB+1,dF,de,rT=>
  bif (decide (rT<zA)) then
   bif (bp rT (length ic)) then
    cO N (getD ic (toNat rT) (0:Int)) (λwI=>
     bif (decide ((length de+length [wI])*1<=4398046511104)) then
      (ig N ic zA pB dF) (de++[wI]) (wrap .i64 (rT+(1:Int)))
     else none)
   else none
  else
   dF de
def gz (N:Nat) (a0:aq) (kf:ByteArray->aa):aa:=
 ig N a0 (length a0:Int) N (λaoL=>
  tL N aoL kf) ([]:bG) (0:Int)
def jL (N:Nat) (ic:bg) (zA:Int):Nat->(bG->aa)->bG->Int->aa
 |0,_,_,_=>none
 |pB+1,vO,de,rT=>
  bif (decide (rT<zA)) then
   bif (bp rT (length ic)) then
    cO N (getD ic (toNat rT) eZ).1 (λnh=>
     bif (decide (ByteArray.size nh+ByteArray.size nC<=9223372036854775807)) then
      cO N (getD ic (toNat rT) eZ).2.2.1 (λIH=>
       bif (decide (ByteArray.size (nh++nC)+ByteArray.size IH<=9223372036854775807)) then
        bif (decide (ByteArray.size ((nh++nC)++IH)+ByteArray.size rZ<=9223372036854775807)) then
         cO N (length (getD ic (toNat rT) eZ).2.2.2.2.2:Int) (λPX=>
          bif (decide (ByteArray.size (((nh++nC)++IH)++rZ)+ByteArray.size PX<=9223372036854775807)) then
           bif (decide (ByteArray.size ((((nh++nC)++IH)++rZ)++PX)+ByteArray.size Ag<=9223372036854775807)) then
            cO N (getD ic (toNat rT) eZ).2.2.2.1 (λab7=>
             bif (decide (ByteArray.size (((((nh++nC)++IH)++rZ)++PX)++Ag)+ByteArray.size ab7<=9223372036854775807)) then
              bif (decide ((length de+length [((((((nh++nC)++IH)++rZ)++PX)++Ag)++ab7)])*1<=4398046511104)) then
               (jL N ic zA pB vO) (de++[((((((nh++nC)++IH)++rZ)++PX)++Ag)++ab7)]) (wrap .i64 (rT+(1:Int)))
              else none
             else none)
           else none
          else none)
        else none
       else none)
     else none)
   else none
  else
   vO de
def s5 (N:Nat) (a0:bg) (kf:ByteArray->aa):aa:=
 jL N a0 (length a0:Int) N (λara=>
  tL N ara kf) ([]:bG) (0:Int)
def sB (N:Nat) (azj:bG->Int->aa) (gG:dD) (mQ:Int) (lv:bG) (azk:ByteArray):aa:=
 cO N (getD gG (toNat mQ) lI).1 (λAj=>
  bif (decide (ByteArray.size Aj+ByteArray.size im<=9223372036854775807)) then
   cO N (getD gG (toNat mQ) lI).2 (λuo=>
    bif (decide (ByteArray.size (Aj++im)+ByteArray.size uo<=9223372036854775807)) then
     bif (decide (ByteArray.size ((Aj++im)++uo)+ByteArray.size r9<=9223372036854775807)) then
      bif (decide (ByteArray.size (((Aj++im)++uo)++r9)+ByteArray.size azk<=9223372036854775807)) then
       bif (decide ((length lv+length [((((Aj++im)++uo)++r9)++azk)])*1<=4398046511104)) then
        azj (lv++[((((Aj++im)++uo)++r9)++azk)]) (wrap .i64 (mQ+(1:Int)))
       else none
      else none
     else none
    else none)
  else none)
def gZ (N:Nat) (cD:aq) (gG:dD) (uR:Int):Nat->(bG->aa)->bG->Int->aa
 |0,_,_,_=>none
 |Dh+1,uq,lv,mQ=>
  bif (decide (mQ<uR)) then
   bif (bp mQ (length gG)) then
    bif (decide (mQ<(length cD:Int))) then
     bif (bp mQ (length cD)) then
      cO N (getD cD (toNat mQ) (0:Int)) (λL2=>
       sB N (gZ N cD gG uR Dh uq) gG mQ lv L2)
     else none
    else
     sB N (gZ N cD gG uR Dh uq) gG mQ lv LU
   else none
  else
   uq lv
def s6 (N:Nat) (a0:dD) (a1:aq) (kf:ByteArray->aa):aa:=
 gZ N a1 a0 (length a0:Int) N (λamU=>
  tL N amU kf) ([]:bG) (0:Int)
def za (N:Nat) (a0:QC) (kf:ByteArray->aa):aa:=
 pv N a0 (λlJ=>
  gz N [(length a0.1:Int),(length a0.2.1:Int),(length a0.2.2.1:Int),(length lJ:Int),a0.2.2.2.2.2.2,(length a0.2.2.2.2.2.1:Int)] kf)
def oh (N:Nat) (kf:cZ->aa):aa:=
 kf ((5:Int),[[(0:Int),(1:Int)],[(1:Int),(0:Int)],[(1:Int),(2:Int)],[(2:Int),(3:Int)],[(3:Int),(4:Int)],[(4:Int),(2:Int)]])
def ur (N:Nat) (a0:cZ) (a1:Int) (kf:Bool->aa):aa:=
 bq N a1 (0:Int) (wrap .i64 (a0.1 - (1:Int))) kf
def vo (N:Nat) (aB:aq) (aR:aq) (BC:aq) (oe:Int):Nat->(aa)->(Int->aa)->Int->aa
 |0,_,_,_=>none
 |Dh+1,NV,BP,xC=>
  bif (decide (xC<oe)) then
   bif (bp xC (length BC)) then
    bif (decide (xC≥(length aR:Int))) then
     BP (1:Int)
    else
     bif (bp xC (length aR)) then
      oO N (getD BC (toNat xC) (0:Int)) (getD aR (toNat xC) (0:Int)) (λaxv=>
       bif (axv != (0:Int)) then
        BP axv
       else
        (vo N aB aR BC oe Dh NV BP) (wrap .i64 (xC+(1:Int))))
     else none
   else none
  else
   NV
def zF (N:Nat) (a0:aq) (a1:aq) (kf:Int->aa):aa:=
 vo N a0 a1 a0 (length a0:Int) N (
  bif (decide ((length a0:Int)<(length a1:Int))) then
   kf (-1:Int)
  else
   kf (0:Int)) kf (0:Int)
def zb (N:Nat) (aR:cZ) (gG:eL) (uR:Int):Nat->(aa)->(Bool->aa)->Int->aa
 |0,_,_,_=>none
 |Dh+1,NU,E0,mQ=>
  bif (decide (mQ<uR)) then
   bif (bp mQ (length gG)) then
    bif ((length (getD gG (toNat mQ) ([]:aq)):Int) != (2:Int)) then
     E0 false
    else
     bif (bp (0:Int) (length (getD gG (toNat mQ) ([]:aq)))) then
      ur N aR (getD (getD gG (toNat mQ) ([]:aq)) (toNat (0:Int)) (0:Int)) (λL2=>
       bif (!L2) then
        E0 false
       else
        bif (bp (1:Int) (length (getD gG (toNat mQ) ([]:aq)))) then
         ur N aR (getD (getD gG (toNat mQ) ([]:aq)) (toNat (1:Int)) (0:Int)) (λaCs=>
          bif (!aCs) then
           E0 false
          else
           bif (decide (mQ>(0:Int))) then
            bif (bp (wrap .i64 (mQ - (1:Int))) (length aR.2)) then
             zF N (getD aR.2 (toNat (wrap .i64 (mQ - (1:Int)))) ([]:aq)) (getD gG (toNat mQ) ([]:aq)) (λaCt=>
              bif (decide (aCt≥(0:Int))) then
               E0 false
              else
               (zb N aR gG uR Dh NU E0) (wrap .i64 (mQ+(1:Int))))
            else none
           else
            (zb N aR gG uR Dh NU E0) (wrap .i64 (mQ+(1:Int))))
        else none)
     else none
   else none
  else
   NU
def rk (N:Nat) (a0:cZ) (kf:Bool->aa):aa:=
 bq N a0.1 (0:Int) (10:Int) (λHL=>
  bif (!HL) then
   kf false
  else
   zb N a0 a0.2 (length a0.2:Int) N (kf true) kf (0:Int))
def E3 (N:Nat) (aR:aq) (ky:cZ) (oe:aq) (xC:Int):Nat->(aa)->(Bool->aa)->Int->aa
 |0,_,_,_=>none
 |Yh+1,ua,Br,Mg=>
  bif (decide (Mg<xC)) then
   bif (bp Mg (length oe)) then
    ur N ky (getD oe (toNat Mg) (0:Int)) (λaiD=>
     bif (!aiD) then
      Br false
     else
      bif (decide (Mg>(0:Int))) then
       bif (bp (wrap .i64 (Mg - (1:Int))) (length aR)) then
        bif (decide ((getD oe (toNat Mg) (0:Int))<=(getD aR (toNat (wrap .i64 (Mg - (1:Int)))) (0:Int)))) then
         Br false
        else
         (E3 N aR ky oe xC Yh ua Br) (wrap .i64 (Mg+(1:Int)))
       else none
      else
       (E3 N aR ky oe xC Yh ua Br) (wrap .i64 (Mg+(1:Int))))
   else none
  else
   ua
def NW (N:Nat) (a0:cZ) (a1:aq) (kf:Bool->aa):aa:=
 rk N a0 (λZT=>
  bif (!ZT) then
   kf false
  else
   E3 N a1 a0 a1 (length a1:Int) N (kf true) kf (0:Int))
def vT (aR:Int) (jZ:eL) (Mh:Int):Nat->(aq->aa)->aq->Int->aa
 |0,_,_,_=>none
 |Yh+1,jE,bA,BQ=>
  bif (decide (BQ<Mh)) then
   bif (bp BQ (length jZ)) then
    bif (bp (0:Int) (length (getD jZ (toNat BQ) ([]:aq)))) then
     bif ((getD (getD jZ (toNat BQ) ([]:aq)) (toNat (0:Int)) (0:Int))==aR) then
      bif (bp (1:Int) (length (getD jZ (toNat BQ) ([]:aq)))) then
       bif (decide ((length bA+length [(getD (getD jZ (toNat BQ) ([]:aq)) (toNat (1:Int)) (0:Int))])*1<=4398046511104)) then
        (vT aR jZ Mh Yh jE) (bA++[(getD (getD jZ (toNat BQ) ([]:aq)) (toNat (1:Int)) (0:Int))]) (wrap .i64 (BQ+(1:Int)))
       else none
      else none
     else
      (vT aR jZ Mh Yh jE) bA (wrap .i64 (BQ+(1:Int)))
    else none
   else none
  else
   jE bA
def PY (N:Nat) (a0:cZ) (a1:Int) (kf:aq->aa):aa:=
 rk N a0 (λlq=>
  bif (!lq) then
   kf ([]:aq)
  else
   vT a1 a0.2 (length a0.2:Int) N kf ([]:aq) (0:Int))
def Lb (N:Nat) (aCu:cZ) (BC:aq) (oe:Int):Nat->(aq->aa)->aq->Int->aa
 |0,_,_,_=>none
 |Dh+1,ep,lv,xC=>
  bif (decide (xC<oe)) then
   bif (bp xC (length BC)) then
    PY N aCu (getD BC (toNat xC) (0:Int)) (λamV=>
     bif (decide ((length lv+length amV)*1<=4398046511104)) then
      (Lb N aCu BC oe Dh ep) (lv++amV) (wrap .i64 (xC+(1:Int)))
     else none)
   else none
  else
   ep lv
def TY (N:Nat) (a0:cZ) (a1:aq) (kf:aq->aa):aa:=
 Lb N a0 a1 (length a1:Int) N (λaCv=>
  alj N aCv (λaez=>
   aoO N aez kf)) ([]:aq) (0:Int)
def sC (aR:Int) (jZ:eL) (Mh:Int):Nat->(aq->aa)->aq->Int->aa
 |0,_,_,_=>none
 |Yh+1,jE,bA,BQ=>
  bif (decide (BQ<Mh)) then
   bif (bp BQ (length jZ)) then
    bif (bp (1:Int) (length (getD jZ (toNat BQ) ([]:aq)))) then
     bif ((getD (getD jZ (toNat BQ) ([]:aq)) (toNat (1:Int)) (0:Int))==aR) then
      bif (bp (0:Int) (length (getD jZ (toNat BQ) ([]:aq)))) then
       bif (decide ((length bA+length [(getD (getD jZ (toNat BQ) ([]:aq)) (toNat (0:Int)) (0:Int))])*1<=4398046511104)) then
        (sC aR jZ Mh Yh jE) (bA++[(getD (getD jZ (toNat BQ) ([]:aq)) (toNat (0:Int)) (0:Int))]) (wrap .i64 (BQ+(1:Int)))
       else none
      else none
     else
      (sC aR jZ Mh Yh jE) bA (wrap .i64 (BQ+(1:Int)))
    else none
   else none
  else
   jE bA
def xu (N:Nat) (a0:cZ) (a1:Int) (kf:aq->aa):aa:=
 rk N a0 (λlq=>
  bif (!lq) then
   kf ([]:aq)
  else
   sC a1 a0.2 (length a0.2:Int) N kf ([]:aq) (0:Int))
def Gh (N:Nat) (arA:aq) (ar6:aq) (axw:Int):Nat->(aa)->(Bool->aa)->Int->aa
 |0,_,_,_=>none
 |n_9+1,BL,amW,amX=>
  bif (decide (amX<axw)) then
   bif (bp amX (length ar6)) then
    dB N arA (getD ar6 (toNat amX) (0:Int)) (λuo=>
     bif (!uo) then
      amW false
     else
      (Gh N arA ar6 axw n_9 BL amW) (wrap .i64 (amX+(1:Int))))
   else none
  else
   BL
def VP (N:Nat) (a0:cZ) (a1:aq) (a2:Int) (kf:Bool->aa):aa:=
 NW N a0 a1 (λvK=>
  bif (!vK) then
   kf false
  else
   ur N a0 a2 (λab0=>
    bif (!ab0) then
     kf false
    else
     TY N a0 a1 (λaiv=>
      xu N a0 a2 (λamR=>
       Gh N aiv amR (length amR:Int) N (kf true) kf (0:Int)))))
def uu (N:Nat) (aR:aq) (ky:cZ) (L7:Int):Nat->(aq->aa)->aq->Int->aa
 |0,_,_,_=>none
 |Yh+1,og,cy,PZ=>
  bif (decide (PZ<L7)) then
   VP N ky aR PZ (λar7=>
    bif ar7 then
     bif (decide ((length cy+length [PZ])*1<=4398046511104)) then
      (uu N aR ky L7 Yh og) (cy++[PZ]) (wrap .i64 (PZ+(1:Int)))
     else none
    else
     (uu N aR ky L7 Yh og) cy (wrap .i64 (PZ+(1:Int))))
  else
   og cy
def Gi (N:Nat) (a0:cZ) (a1:aq) (kf:aq->aa):aa:=
 NW N a0 a1 (λlq=>
  bif (!lq) then
   kf ([]:aq)
  else
   uu N a1 a0 a0.1 N kf ([]:aq) (0:Int))
def xT (aB:aq) (aR:aq) (Ft:Int):Nat->(aa)->(Bool->aa)->Int->aa
 |0,_,_,_=>none
 |pB+1,ar8,ar9,ID=>
  bif (decide (ID<Ft)) then
   bif (bp ID (length aB)) then
    bif (bp ID (length aR)) then
     bif ((getD aB (toNat ID) (0:Int)) != (getD aR (toNat ID) (0:Int))) then
      ar9 false
     else
      (xT aB aR Ft pB ar8 ar9) (wrap .i64 (ID+(1:Int)))
    else none
   else none
  else
   ar8
def Ej (N:Nat) (a0:aq) (a1:aq) (kf:Bool->aa):aa:=
 bif ((length a0:Int) != (length a1:Int)) then
  kf false
 else
  xT a0 a1 (length a0:Int) N (kf true) kf (0:Int)
def II (N:Nat) (aR:cZ):Nat->(eL->aa)->eL->aa
 |0,_,_=>none
 |wC+1,qz,ck=>
  bif (bp (wrap .i64 ((length ck:Int) - (1:Int))) (length ck)) then
   Gi N aR (getD ck (toNat (wrap .i64 ((length ck:Int) - (1:Int)))) ([]:aq)) (λVB=>
    Ej N VB (getD ck (toNat (wrap .i64 ((length ck:Int) - (1:Int)))) ([]:aq)) (λabM=>
     bif abM then
      qz ck
     else
      bif (decide ((length ck+length [VB])*1<=4398046511104)) then
       (II N aR wC qz) (ck++[VB])
      else none))
  else none
def ZA (N:Nat) (a0:cZ) (kf:eL->aa):aa:=
 rk N a0 (λwe=>
  bif (!we) then
   kf [([]:aq)]
  else
   II N a0 N kf [([]:aq)])
def SR (N:Nat) (a0:cZ) (kf:aq->aa):aa:=
 ZA N a0 (λLV=>
  bif (bp (wrap .i64 ((length LV:Int) - (1:Int))) (length LV)) then
   kf (getD LV (toNat (wrap .i64 ((length LV:Int) - (1:Int)))) ([]:aq))
  else none)
def IJ (N:Nat) (qc:aq) (ID:aq) (L7:Int):Nat->(aa)->(Bool->aa)->Int->aa
 |0,_,_,_=>none
 |Yh+1,ua,Br,PZ=>
  bif (decide (PZ<L7)) then
   bif (bp PZ (length ID)) then
    dB N qc (getD ID (toNat PZ) (0:Int)) (λar7=>
     bif ar7 then
      Br false
     else
      (IJ N qc ID L7 Yh ua Br) (wrap .i64 (PZ+(1:Int))))
   else none
  else
   ua
def ZB (N:Nat) (a0:cZ) (a1:aq) (kf:Bool->aa):aa:=
 NW N a0 a1 (λwe=>
  bif (!we) then
   kf false
  else
   TY N a0 a1 (λqY=>
    IJ N a1 qY (length qY:Int) N (kf true) kf (0:Int)))
def Om (N:Nat) (a0:cZ) (a1:aq) (kf:Bool->aa):aa:=
 ZB N a0 a1 (λHL=>
  bif HL then
   Gi N a0 a1 (λarD=>
    Ej N arD a1 kf)
  else
   kf false)
def ee (N:Nat) (sk:Int) (NI:Int) (azb:Int):Nat->(eL->aa)->eL->Int->aa
 |0,_,_,_=>none
 |RB+1,NS,nP,rh=>
  bif (decide (rh>sk)) then
   bif (bp rh (length nP)) then
    bif (bp (wrap .i64 (rh - (1:Int))) (length nP)) then
     zF N (getD nP (toNat rh) ([]:aq)) (getD nP (toNat (wrap .i64 (rh - (1:Int)))) ([]:aq)) (λale=>
      bif (decide (ale<(0:Int))) then
       bif (bp (wrap .i64 (rh - (1:Int))) (length nP)) then
        bif (bp rh (length nP)) then
         bif (bp rh (length nP)) then
          share (List.set nP (toNat rh) (getD nP (toNat (wrap .i64 (rh - (1:Int)))) ([]:aq))) (λaiA=>
           bif (bp (wrap .i64 (rh - (1:Int))) (length aiA)) then
            share (List.set aiA (toNat (wrap .i64 (rh - (1:Int)))) (getD nP (toNat rh) ([]:aq))) (λar0=>
             (ee N sk NI azb RB NS) ar0 (wrap .i64 (rh - (1:Int))))
           else none)
         else none
        else none
       else none
      else
       NS nP)
    else none
   else none
  else
   NS nP
def ef (N:Nat) (aR:Int) (ky:Int):Nat->(eL->aa)->eL->Int->aa
 |0,_,_,_=>none
 |pB+1,VO,aB,mg=>
  bif (decide (mg<ky)) then
   ee N aR ky mg N (λar1=>
    (ef N aR ky pB VO) ar1 (wrap .i64 (mg+(1:Int)))) aB mg
  else
   VO aB
def iA (N:Nat) (a0:eL) (a1:Int) (a2:Int) (kf:eL->aa):aa:=
 ef N a1 a2 N kf a0 (wrap .i64 (a1+(1:Int)))
def jz (N:Nat) (aB:eL) (aR:Int) (ky:Int) (lK:Int) (vM:Bool) (aCb:Bool):Nat->(eL->aa)->aa
 |0,_=>none
 |Yh+1,La=>
  bif (decide ((wrap .i64 (ky - aR))<=(12:Int))) then
   iA N aB aR ky La
  else
   bif (lK==(0:Int)) then
    none
   else
    bif (!vM) then
     none
    else none
def kK (N:Nat) (a0:eL) (a1:Int) (a2:Int) (a3:Int) (kf:eL->aa):aa:=
 jz N a0 a1 a2 a3 true true N kf
def nD (N:Nat) (a0:eL) (kf:eL->aa):aa:=
 ym N (wrap .u64 (length a0:Int)) (λeV=>
  kK N a0 (0:Int) (length a0:Int) eV kf)
def sD (sk:cZ) (aCw:eL) (wg:Int) (ar':Int) (asa:Int) (alk:Int):Nat->(aq->aa)->aq->Int->aa
 |0,_,_,_=>none
 |ave+1,af6,amY,TZ=>
  bif (decide (TZ<alk)) then
   bif (decide (0<=TZ)) then
    bif ((wrap .i64 (BitVec.toNat (BitVec.ofInt (IntKind.bits .i64) (Int.fdiv wg (2^(min (toNat TZ) (IntKind.bits .i64))))&&&BitVec.ofInt (IntKind.bits .i64) (1:Int))))==(1:Int)) then
     bif (decide ((length amY+length [TZ])*1<=4398046511104)) then
      (sD sk aCw wg ar' asa alk ave af6) (amY++[TZ]) (wrap .i64 (TZ+(1:Int)))
     else none
    else
     (sD sk aCw wg ar' asa alk ave af6) amY (wrap .i64 (TZ+(1:Int)))
   else none
  else
   af6 amY
def sE (N:Nat) (aR:cZ) (jZ:Int):Nat->(eL->aa)->eL->Int->aa
 |0,_,_,_=>none
 |Dh+1,af7,ck,Mh=>
  bif (decide (Mh<jZ)) then
   sD aR ck Mh jZ Mh aR.1 N (λasb=>
    Om N aR asb (λazl=>
     bif azl then
      bif (decide ((length ck+length [asb])*1<=4398046511104)) then
       (sE N aR jZ Dh af7) (ck++[asb]) (wrap .i64 (Mh+(1:Int)))
      else none
     else
      (sE N aR jZ Dh af7) ck (wrap .i64 (Mh+(1:Int))))) ([]:aq) (0:Int)
  else
   af7 ck
def Mi (N:Nat) (a0:cZ) (kf:eL->aa):aa:=
 rk N a0 (λwe=>
  bif (!we) then
   kf ([]:eL)
  else
   bif (decide (0<=a0.1)) then
    sE N a0 (wrap .i64 ((1:Int)*2^(min (toNat a0.1) (IntKind.bits .i64)))) N (λaCx=>
     nD N aCx kf) ([]:eL) (0:Int)
   else none)
def El (N:Nat) (cD:aq) (ic:aq) (zA:Int):Nat->(aa)->(Bool->aa)->Int->aa
 |0,_,_,_=>none
 |pB+1,nR,nS,rT=>
  bif (decide (rT<zA)) then
   bif (bp rT (length ic)) then
    dB N cD (getD ic (toNat rT) (0:Int)) (λwI=>
     bif (!wI) then
      nS false
     else
      (El N cD ic zA pB nR nS) (wrap .i64 (rT+(1:Int))))
   else none
  else
   nR
def SS (N:Nat) (a0:aq) (a1:aq) (kf:Bool->aa):aa:=
 El N a1 a0 (length a0:Int) N (kf true) kf (0:Int)
def Mj (N:Nat) (a0:aq) (a1:aq) (kf:Bool->aa):aa:=
 bif (decide ((length a0:Int)>(length a1:Int))) then
  SS N a1 a0 kf
 else
  kf false
def gH (N:Nat) (aB:eL) (aR:aq) (Ge:Int):Nat->(aa)->(Int->aa)->Int->aa
 |0,_,_,_=>none
 |pB+1,nR,nS,mg=>
  bif (decide (mg<Ge)) then
   bif (bp mg (length aB)) then
    Mj N (getD aB (toNat mg) ([]:aq)) aR (λnh=>
     bif nh then
      nS mg
     else
      (gH N aB aR Ge pB nR nS) (wrap .i64 (mg+(1:Int))))
   else none
  else
   nR
def nU (N:Nat) (a0:eL) (afW:aq) (kf:Int->aa):aa:=
 gH N a0 afW (length a0:Int) N (kf (-1:Int)) kf (0:Int)
def mS (N:Nat) (a0:eL) (afW:aq) (kf:Bool->aa):aa:=
 nU N a0 afW (λHL=>
  kf (decide (HL≥(0:Int))))
def vU (N:Nat) (aE:eL) (uR:Int):Nat->(eL->aa)->eL->Int->aa
 |0,_,_,_=>none
 |Dh+1,cJ,b9,mQ=>
  bif (decide (mQ<uR)) then
   bif (bp mQ (length aE)) then
    mS N aE (getD aE (toNat mQ) ([]:aq)) (λamV=>
     bif (!amV) then
      bif (decide ((length b9+length [(getD aE (toNat mQ) ([]:aq))])*1<=4398046511104)) then
       (vU N aE uR Dh cJ) (b9++[(getD aE (toNat mQ) ([]:aq))]) (wrap .i64 (mQ+(1:Int)))
      else none
     else
      (vU N aE uR Dh cJ) b9 (wrap .i64 (mQ+(1:Int))))
   else none
  else
   cJ b9
def IK (N:Nat) (a0:cZ) (kf:eL->aa):aa:=
 Mi N a0 (λZT=>
  vU N ZT (length ZT:Int) N kf ([]:eL) (0:Int))
def Em (N:Nat) (TU:ByteArray) (aCy:eL) (aCz:Int) (azm:Int) (alm:aq) (asc:Int):Nat->(bG->aa)->bG->Int->aa
 |0,_,_,_=>none
 |aDB+1,amZ,aix,af8=>
  bif (decide (af8<asc)) then
   bif (bp af8 (length alm)) then
    cO N (getD alm (toNat af8) (0:Int)) (λasd=>
     bif (decide ((length aix+length [asd])*1<=4398046511104)) then
      (Em N TU aCy aCz azm alm asc aDB amZ) (aix++[asd]) (wrap .i64 (af8+(1:Int)))
     else none)
   else none
  else
   amZ aix
def Eo (N:Nat) (qt:eL) (PW:Int):Nat->(ByteArray->aa)->ByteArray->Int->aa
 |0,_,_,_=>none
 |pB+1,am0,de,jZ=>
  bif (decide (jZ<PW)) then
   bif (bp jZ (length qt)) then
    Em N de qt PW jZ (getD qt (toNat jZ) ([]:aq)) (length (getD qt (toNat jZ) ([]:aq)):Int) N (λaCA=>
     avl N aCA aq3 (λaf9=>
      bif (decide (ByteArray.size aex+ByteArray.size af9<=9223372036854775807)) then
       bif (decide (ByteArray.size (aex++af9)+ByteArray.size ah7<=9223372036854775807)) then
        bif (decide (ByteArray.size de+ByteArray.size ((aex++af9)++ah7)<=9223372036854775807)) then
         (Eo N qt PW pB am0) (de++((aex++af9)++ah7)) (wrap .i64 (jZ+(1:Int)))
        else none
       else none
      else none)) ([]:bG) (0:Int)
   else none
  else
   am0 de
def Ld (N:Nat) (a0:eL) (kf:ByteArray->aa):aa:=
 bif ((length a0:Int)==(0:Int)) then
  kf im
 else
  Eo N a0 (length a0:Int) N kf D9 (0:Int)
def VQ (self:cZ->Int->Int->Iq->(Bool->Iq->aa)->aa) (am1:Int) (ase:cZ) (abT:aq) (asf:Bool) (aln:Bool) (asg:aq) (ash:Int) (asi:Int) (P1:aq) (alo:Int):Nat->(Iq->Bool->aa)->Iq->Int->aa
 |0,_,_,_=>none
 |avg+1,VR,asj,NX=>
  bif (decide (NX<alo)) then
   bif (bp NX (length P1)) then
    bif (decide (0<=(getD P1 (toNat NX) (0:Int)))) then
     bif ((wrap .i64 (BitVec.toNat (BitVec.ofInt (IntKind.bits .i64) (Int.fdiv am1 (2^(min (toNat (getD P1 (toNat NX) (0:Int))) (IntKind.bits .i64))))&&&BitVec.ofInt (IntKind.bits .i64) (1:Int))))==(0:Int)) then
      bif (decide (0<=(getD P1 (toNat NX) (0:Int)))) then
       self ase (wrap .i64 (BitVec.toNat (BitVec.ofInt (IntKind.bits .i64) am1|||BitVec.ofInt (IntKind.bits .i64) (wrap .i64 ((1:Int)*2^(min (toNat (getD P1 (toNat NX) (0:Int))) (IntKind.bits .i64))))))) (getD P1 (toNat NX) (0:Int)) asj (λazn axx=>
        bif azn then
         VR axx true
        else
         (VQ self am1 ase abT asf aln asg ash asi P1 alo avg VR) axx (wrap .i64 (NX+(1:Int))))
      else none
     else
      (VQ self am1 ase abT asf aln asg ash asi P1 alo avg VR) asj (wrap .i64 (NX+(1:Int)))
    else none
   else none
  else
   VR asj aln
def af' (N:Nat) (self:cZ->Int->Int->Iq->(Bool->Iq->aa)->aa) (aR:Int) (Fj:cZ) (Fs:aq) (Mg:Bool) (am2:aq) (asl:Int):Nat->(Iq->Bool->aa)->Iq->Int->aa
 |0,_,_,_=>none
 |aik+1,aga,ck,aiE=>
  bif (decide (aiE<asl)) then
   bif (bp aiE (length am2)) then
    xu N Fj (getD am2 (toNat aiE) (0:Int)) (λYj=>
     VQ self aR Fj Fs Mg false am2 asl aiE Yj (length Yj:Int) N (λaxy azo=>
      bif (!azo) then
       aga axy false
      else
       (af' N self aR Fj Fs Mg am2 asl aik aga) axy (wrap .i64 (aiE+(1:Int)))) ck (0:Int))
   else none
  else
   aga ck Mg
def azp (self:cZ->Int->Int->Iq->(Bool->Iq->aa)->aa) (N:Nat) (a0:cZ) (a1:Int) (a2:Int) (a3:Iq) (kf:Bool->Iq->aa):aa:=
 bif (ZP [a1,a2]) then
  bif (Option.isSome (xM a3 [a1,a2])) then
   kf (Option.getD (xM a3 [a1,a2]) false) a3
  else
   xu N a0 a2 (λaxz=>
    af' N self a1 a0 [a1,a2] true axz (length axz:Int) N (λaCB asm=>
     bif (ZP [a1,a2]) then
      kf asm (AU aCB [a1,a2] asm)
     else none) a3 (0:Int))
 else none
def asn:Nat->cZ->Int->Int->Iq->(Bool->Iq->aa)->aa
 |0,_,_,_,_,_=>none
 |N+1,a0,a1,a2,a3,kf=>azp (asn N) N a0 a1 a2 a3 kf
def Ak (N:Nat) (a0:cZ) (a1:Int) (kf:Bool->aa):aa:=
 rk N a0 (λard=>
  bif ard then
   ur N a0 a1 (λamS=>
    bif amS then
     bif (decide (0<=a1)) then
      asn N a0 (wrap .i64 ((1:Int)*2^(min (toNat a1) (IntKind.bits .i64)))) a1 ([]:Iq) (λVE aD2=>
       kf VE)
     else none
    else
     kf false)
  else
   kf false)
def j9 (N:Nat) (aoP:QT) (NC:bg) (Iw:Int) (am3:Int) (On:aq) (aso:Int):Nat->(aa)->(Bool->aa)->Int->aa
 |0,_,_,_=>none
 |aDC+1,Rg,Rh,agb=>
  bif (decide (agb<aso)) then
   bif (bp agb (length On)) then
    qe N aoP.2.2.2.2.2 (getD On (toNat agb) (0:Int)) (λalp=>
     bif (decide (alp>(1:Int))) then
      Rh false
     else
      (j9 N aoP NC Iw am3 On aso aDC Rg Rh) (wrap .i64 (agb+(1:Int))))
   else none
  else
   Rg
def mq (N:Nat) (P3:bg) (K9:Int):Nat->(aa)->(Bool->aa)->Int->aa
 |0,_,_,_=>none
 |wC+1,Ri,Rj,gG=>
  bif (decide (gG<K9)) then
   bif (bp gG (length P3)) then
    j9 N (getD P3 (toNat gG) eZ) P3 K9 gG (getD P3 (toNat gG) eZ).2.2.2.2.2 (length (getD P3 (toNat gG) eZ).2.2.2.2.2:Int) N ((mq N P3 K9 wC Ri Rj) (wrap .i64 (gG+(1:Int)))) Rj (0:Int)
   else none
  else
   Ri
def BR (N:Nat) (a0:QC) (kf:Bool->aa):aa:=
 mq N a0.1 (length a0.1:Int) N (kf true) kf (0:Int)
def jM (N:Nat) (cD:QC) (ic:dD) (zA:Int):Nat->(aa)->(Bool->aa)->Int->aa
 |0,_,_,_=>none
 |pB+1,NV,BP,rT=>
  bif (decide (rT<zA)) then
   bif (bp rT (length ic)) then
    bif (decide (rT≥(length cD.2.2.2.1:Int))) then
     BP false
    else
     bif (bp rT (length cD.2.2.2.1)) then
      pr N cD.2.1 (getD cD.2.2.2.1 (toNat rT) (0:Int)) (λab8=>
       bif (decide (ab8<(0:Int))) then
        BP false
       else
        bif (bp ab8 (length cD.2.1)) then
         pG N cD.1 (getD cD.2.1 (toNat ab8) jy) (getD ic (toNat rT) lI) (λIu=>
          bif (!Iu) then
           BP false
          else
           (jM N cD ic zA pB NV BP) (wrap .i64 (rT+(1:Int))))
        else none)
     else none
   else none
  else
   NV
def xv (N:Nat) (a0:QC) (kf:Bool->aa):aa:=
 jM N a0 a0.2.2.1 (length a0.2.2.1:Int) N (kf true) kf (0:Int)
def ka (aR:QC) (Mk:lX) (J3:Int):Nat->(Int->aa)->Int->Int->aa
 |0,_,_,_=>none
 |Yh+1,cJ,ck,tK=>
  bif (decide (tK<J3)) then
   bif (bp tK (length Mk)) then
    bif ((getD Mk (toNat tK) zQL).2.1==(4:Int)) then
     (ka aR Mk J3 Yh cJ) (wrap .i64 (ck - (1:Int))) (wrap .i64 (tK+(1:Int)))
    else
     (ka aR Mk J3 Yh cJ) ck (wrap .i64 (tK+(1:Int)))
   else none
  else
   cJ ck
def BS (N:Nat) (a0:QC) (kf:Bool->aa):aa:=
 pv N a0 (λlJ=>
  ka a0 a0.2.2.2.2.2.1 (length a0.2.2.2.2.2.1:Int) N (λaip=>
   qH N a0.2.2.2.2.2.1 (λazq=>
    bif azq then
     bq N a0.2.2.2.2.2.2 (0:Int) (1000:Int) (λazr=>
      bif azr then
       kf (aip==(0:Int))
      else
       kf false)
    else
     kf false)) (wrap .i64 ((wrap .i64 (a0.2.2.2.2.2.2+(length a0.2.2.2.2.1:Int))) - (length lJ:Int))) (0:Int))
def mr (cD:QC) (Fs:bg) (axA:Int):Nat->(Int->Int->Int->aa)->Int->Int->Int->Int->aa
 |0,_,_,_,_,_=>none
 |n_8+1,cJ,aE,b9,cy,aeH=>
  bif (decide (aeH<axA)) then
   bif (bp aeH (length Fs)) then
    (mr cD Fs axA n_8 cJ) (wrap .i64 (aE+(getD Fs (toNat aeH) eZ).2.2.1)) (wrap .i64 (b9+(getD Fs (toNat aeH) eZ).2.2.2.2.1)) (wrap .i64 (cy+(length (getD Fs (toNat aeH) eZ).2.2.2.2.2:Int))) (wrap .i64 (aeH+(1:Int)))
   else none
  else
   cJ aE b9 cy
def BT (N:Nat) (a0:QC) (kf:Bool->aa):aa:=
 mr a0 a0.1 (length a0.1:Int) N (λaip aCC amU=>
  fY N a0.1 (λazs=>
   bif azs then
    bif ((wrap .i64 ((2:Int)*aip))==amU) then
     kf ((wrap .i64 ((2:Int)*aCC))==amU)
    else
     kf false
   else
    kf false)) (0:Int) (0:Int) (0:Int) (0:Int)
def BU (N:Nat) (a0:QC) (kf:ByteArray->aa):aa:=
 BR N a0 (λLV=>
  bif (!LV) then
   kf Yd
  else
   xv N a0 (λakT=>
    bif (!akT) then
     kf yV
    else
     BS N a0 (λabP=>
      bif (!abP) then
       kf Ye
      else
       BT N a0 (λary=>
        bif (!ary) then
         kf aq2
        else
         q9 N a0 (λabQ=>
          bif (!abQ) then
           kf Bj
          else
           kf D9)))))
def gP (N:Nat) (a0:QC) (a1:ByteArray) (a2:aq) (kf:ByteArray->aa):aa:=
 bif (ByteArray.toList a1==ByteArray.toList p9) then
  rW N a0.1 (λlJ=>
   gz N lJ kf)
 else
  bif (ByteArray.toList a1==ByteArray.toList Bh) then
   s5 N a0.1 kf
  else
   bif (ByteArray.toList a1==ByteArray.toList Bi) then
    s6 N a0.2.2.1 a0.2.2.2.1 kf
   else
    bif (ByteArray.toList a1==ByteArray.toList sO) then
     pv N a0 (λarR=>
      gz N arR kf)
    else
     bif (ByteArray.toList a1==ByteArray.toList Bj) then
      za N a0 kf
     else
      bif (ByteArray.toList a1==ByteArray.toList tZ) then
       oh N (λSN=>
        SR N SN (λarB=>
         gz N arB kf))
      else
       bif (ByteArray.toList a1==ByteArray.toList tG) then
        oh N (λaf2=>
         IK N af2 (λazt=>
          Ld N azt kf))
       else
        bif (ByteArray.toList a1==ByteArray.toList JX) then
         bif (bp (0:Int) (length a2)) then
          oh N (λazu=>
           Ak N azu (getD a2 (toNat (0:Int)) (0:Int)) (λak2=>
            Ei N ak2 kf))
         else none
        else
         BU N a0 (λasp=>
          bif (!(ByteArray.toList asp==ByteArray.toList D9)) then
           kf asp
          else
           kf PL)
def gk (N:Nat) (aeI:QC) (am4:QC) (am5:bG) (Gj:bG) (asq:Int):Nat->(aq->aa)->(QC->ByteArray->aa)->aq->Int->aa
 |0,_,_,_,_=>none
 |aDD+1,Ml,Mm,GR,agc=>
  bif (decide (agc<asq)) then
   bif (bp agc (length Gj)) then
    yj N (getD Gj (toNat agc) ByteArray.empty) (λab9 alq=>
     bif (!alq) then
      bR N aeI (λalr=>
       Mm alr gE)
     else
      bif (decide ((length GR+length [ab9])*1<=4398046511104)) then
       (gk N aeI am4 am5 Gj asq aDD Ml Mm) (GR++[ab9]) (wrap .i64 (agc+(1:Int)))
      else none)
   else none
  else
   Ml GR
def fG (aR:ByteArray) (ky:QC) (Fj:QC) (tK:bG) (IG:Int):Nat->(bG->aa)->bG->Int->aa
 |0,_,_,_=>none
 |n_9+1,uq,iN,ab'=>
  bif (decide (ab'<IG)) then
   bif (bp ab' (length tK)) then
    bif (!(ByteArray.toList (getD tK (toNat ab') ByteArray.empty)==ByteArray.toList D9)) then
     bif (decide ((length iN+length [(getD tK (toNat ab') ByteArray.empty)])*1<=4398046511104)) then
      (fG aR ky Fj tK IG n_9 uq) (iN++[(getD tK (toNat ab') ByteArray.empty)]) (wrap .i64 (ab'+(1:Int)))
     else none
    else
     (fG aR ky Fj tK IG n_9 uq) iN (wrap .i64 (ab'+(1:Int)))
   else none
  else
   uq iN
def jt (N:Nat) (a0:QC) (a1:ByteArray) (kf:QC->ByteArray->aa):aa:=
 S11 N a1 Bg (λaii=>
  fG a1 a0 (([]:bg),(([]:du),(([]:dD),(([]:aq),(([]:iz),(([]:lX),(0:Int))))))) aii (length aii:Int) N (λxD=>
   bif (decide ((ByteArray.size a1:Int)>(200:Int))) then
    bR N a0 (λazv=>
     kf azv gE)
   else
    bif ((length xD:Int)==(0:Int)) then
     bR N a0 (λazw=>
      kf azw gE)
    else
     bif (bp (0:Int) (length xD)) then
      bif (ByteArray.toList (getD xD (toNat (0:Int)) ByteArray.empty)==ByteArray.toList Ir) then
       bR N a0 (λazx=>
        jn N xD (kf azx))
      else
       bif (bp (0:Int) (length xD)) then
        bif (ByteArray.toList (getD xD (toNat (0:Int)) ByteArray.empty)==ByteArray.toList Be) then
         bR N a0 (λazy=>
          jn N xD (kf azy))
        else
         bif (bp (0:Int) (length xD)) then
          IE N (getD xD (toNat (0:Int)) ByteArray.empty) (λazz=>
           bif (azz != (wrap .i64 ((length xD:Int) - (1:Int)))) then
            bR N a0 (λazA=>
             kf azA gE)
           else
            bif (decide ((0:Int)<=(1:Int))&&decide ((1:Int)<=(length xD:Int))&&decide ((length xD:Int)<=(length xD:Int))) then
             gk N a0 (([]:bg),(([]:du),(([]:dD),(([]:aq),(([]:iz),(([]:lX),(0:Int))))))) xD (List.drop (toNat (1:Int)) (List.take (toNat (length xD:Int)) xD)) (length (List.drop (toNat (1:Int)) (List.take (toNat (length xD:Int)) xD)):Int) N (λaxB=>
              bif (bp (0:Int) (length xD)) then
               jr N a0 (getD xD (toNat (0:Int)) ByteArray.empty) axB (λazB azC azD=>
                bif (!azD) then
                 bif (bp (0:Int) (length xD)) then
                  bR N a0 (λavm=>
                   gP N a0 (getD xD (toNat (0:Int)) ByteArray.empty) axB (kf avm))
                 else none
                else
                 bif (!azC) then
                  bR N a0 (λavn=>
                   kf avn abz)
                 else
                  kf azB PL)
              else none) kf ([]:aq) (0:Int)
            else none)
         else none
       else none
     else none) ([]:bG) (0:Int))
def lf (N:Nat) (Oo:bG) (axC:Int):Nat->(bG->aa)->QC->bG->Int->aa
 |0,_,_,_,_=>none
 |n_9+1,Rk,cy,iN,am6=>
  bif (decide (am6<axC)) then
   bif (bp am6 (length Oo)) then
    jt N cy (getD Oo (toNat am6) ByteArray.empty) (λals TS=>
     bif (decide ((length iN+length [TS])*1<=4398046511104)) then
      (lf N Oo axC n_9 Rk) als (iN++[TS]) (wrap .i64 (am6+(1:Int)))
     else none)
   else none
  else
   Rk iN
def qf (N:Nat) (kf:bG->Bool->aa) (azE:bG):aa:=
 bif (decide ((length azE:Int)>(60:Int))) then
  kf ([]:bG) false
 else
  HQ N (λar5=>
   lf N azE (length azE:Int) N (λaCD=>
    kf aCD true) ar5 ([]:bG) (0:Int))
def qJ (N:Nat) (a0:ByteArray) (kf:bG->Bool->aa):aa:=
 S11 N a0 aq4 (λeV=>
  bif (bp (wrap .i64 ((length eV:Int) - (1:Int))) (length eV)) then
   bif (ByteArray.toList (getD eV (toNat (wrap .i64 ((length eV:Int) - (1:Int)))) ByteArray.empty)==ByteArray.toList D9) then
    bif (decide ((0:Int)<=(0:Int))&&decide ((0:Int)<=(wrap .i64 ((length eV:Int) - (1:Int))))&&decide ((wrap .i64 ((length eV:Int) - (1:Int)))<=(length eV:Int))) then
     qf N kf (List.drop (toNat (0:Int)) (List.take (toNat (wrap .i64 ((length eV:Int) - (1:Int)))) eV))
    else none
   else
    qf N kf eV
  else none)
def mu (aB:bG) (aR:bG):Nat->(aa)->(Bool->aa)->Int->aa
 |0,_,_,_=>none
 |wC+1,NJ,NK,bA=>
  bif (decide (bA<(length aB:Int))) then
   bif (bp bA (length aB)) then
    bif (bp bA (length aR)) then
     bif (!(ByteArray.toList (getD aB (toNat bA) ByteArray.empty)==ByteArray.toList (getD aR (toNat bA) ByteArray.empty))) then
      NK false
     else
      (mu aB aR wC NJ NK) (wrap .i64 (bA+(1:Int)))
    else none
   else none
  else
   NJ
def s7 (N:Nat) (a0:bG) (a1:bG) (kf:Bool->aa):aa:=
 bif ((length a0:Int) != (length a1:Int)) then
  kf false
 else
  mu a0 a1 N (kf true) kf (0:Int)
def nz :Nat->(ByteArray->aa)->Int->ByteArray->aa
 |0,_,_,_=>none
 |n_3+1,asr,aB,aE=>
  bif (decide (aB>(0:Int))) then
   bif (decide (ByteArray.size (bytesOf [(wrap .u8 (wrap .i64 ((48:Int)+(Int.tmod aB (10:Int)))))])+ByteArray.size aE<=9223372036854775807)) then
    (nz n_3 asr) (wrap .i64 (Int.tdiv aB (10:Int))) ((bytesOf [(wrap .u8 (wrap .i64 ((48:Int)+(Int.tmod aB (10:Int)))))])++aE)
   else none
  else
   asr aE
def gQ (N:Nat) (a0:Int) (kf:ByteArray->aa):aa:=
 bif (decide (a0<=(0:Int))) then
  kf aA8
 else
  nz N (λaCE=>
   bif (decide (ByteArray.size s_m+ByteArray.size aCE<=9223372036854775807)) then
    kf (s_m++aCE)
   else none) a0 D9
def mH (N:Nat):Nat->(bG->Int->aa)->bG->Int->Int->aa
 |0,_,_,_,_=>none
 |wC+1,jh,aB,aR,bA=>
  bif (decide (bA<(length aB:Int))) then
   gQ N aR (λail=>
    bif (bp bA (length aB)) then
     (mH N wC jh) (List.set aB (toNat bA) ail) (wrap .i64 (aR+(1:Int))) (wrap .i64 (bA+(1:Int)))
    else none)
  else
   jh aB aR
def s8 (N:Nat) (a0:bG) (a1:Int) (kf:Int->bG->aa):aa:=
 mH N N (λaDE aDF=>
  kf aDF aDE) a0 a1 (0:Int)
def jO (N:Nat) (aB:bG):Nat->(Int->aa)->(Int->aa)->Int->Int->aa
 |0,_,_,_,_=>none
 |wC+1,jh,iv,aR,bA=>
  bif (decide (bA<(length aB:Int))) then
   bif (bp bA (length aB)) then
    gQ N aR (λFl=>
     bif (!(ByteArray.toList (getD aB (toNat bA) ByteArray.empty)==ByteArray.toList Fl)) then
      iv (-1:Int)
     else
      (jO N aB wC jh iv) (wrap .i64 (aR+(1:Int))) (wrap .i64 (bA+(1:Int))))
   else none
  else
   jh aR
def pR (N:Nat) (a0:bG) (a1:Int) (kf:Int->aa):aa:=
 jO N a0 N kf kf a1 (0:Int)
def L3 (N:Nat) (a0:ByteArray) (kf:Bool->aa):aa:=
 bif (decide ((ByteArray.size a0:Int)>(1048576:Int))) then
  kf true
 else
  uP N a0 (λabZ GM=>
   qJ N a0 (λaey aCF=>
    s7 N aey abZ (λar4=>
     bif (!ar4) then
      kf false
     else
      bif (!(aCF==GM)) then
       kf false
      else
       s8 N aey (1:Int) (λaxD Gb=>
        pR N Gb (1:Int) (λSN=>
         bif (decide (SN<(0:Int))) then
          kf false
         else
          bif (SN != axD) then
           kf false
          else
           qJ N a0 (λaCG azF=>
            s7 N aCG abZ (λazG=>
             bif (!azG) then
              kf false
             else
              bif (!(azF==GM)) then
               kf false
              else
               pR N Gb (1:Int) (λass=>
                bif (decide (ass<(0:Int))) then
                 kf false
                else
                 bif (ass != axD) then
                  kf false
                 else
                  kf true))))))))
end Go.Pv.R
