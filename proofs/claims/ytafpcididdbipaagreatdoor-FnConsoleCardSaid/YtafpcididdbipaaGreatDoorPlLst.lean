/- Their loops over lists, without rounds. -/
import Derived.Test.YtafpcididdbipaaGreatDoorPlRes
set_option linter.unusedSimpArgs false
set_option linter.unusedVariables false
namespace Go.Pv.R
open List Int IntKind
theorem MI {ae:(List QT)} {pW:(List QT)->Option aa} {ao:(List QT)} (hl:(length ae)<=maxLen) {n:Nat} (hn:(length ae)<n):jx ae n pW ao (0:Int)= dV (λ(i:Nat) (x:QT) (ao:(List QT)) (next:(List QT)->Option aa)=> bif (decide ((length ([]:(List Int))+length x.2.2.2.2.2)*1<=4398046511104)) then bif (decide ((length ao+length [(x.1,(x.2.1,(x.2.2.1,(x.2.2.2.1,(x.2.2.2.2.1,(([]:(List Int))++x.2.2.2.2.2))))))])*6<=4398046511104)) then next (ao++[(x.1,(x.2.1,(x.2.2.1,(x.2.2.2.1,(x.2.2.2.2.1,(([]:(List Int))++x.2.2.2.2.2))))))]) else none else none) (λ(ao:(List QT))=> pW ao) ae 0 ao:=by
 exact gp (f:=λn ao i=>jx ae n pW ao i) (l:=ae) (λn i ao h=>by
  simp only[jx]
  rw[decide_eq_true (show(i:Int)<(length ae:Int) by omega)]
  simp only[cond_true,ai h,toNat_natCast,af _ i h]) (λn ao=>by
  simp only[jx]
  rw[decide_eq_false (by omega)]
  simp only[cond_false]) hl ae 0 n ao rfl (by omega) hn
theorem I3 {ae:(List QJ)} {pW:(List QJ)->Option aa} {ao:(List QJ)} (hl:(length ae)<=maxLen) {n:Nat} (hn:(length ae)<n):gA ae n pW ao (0:Int)= dV (λ(i:Nat) (x:QJ) (ao:(List QJ)) (next:(List QJ)->Option aa)=> bif (decide ((length ([]:(List Int))+length x.2.2)*1<=4398046511104)) then bif (decide ((length ao+length [(x.1,(x.2.1,(([]:(List Int))++x.2.2)))])*3<=4398046511104)) then next (ao++[(x.1,(x.2.1,(([]:(List Int))++x.2.2)))]) else none else none) (λ(ao:(List QJ))=> pW ao) ae 0 ao:=by
 exact gp (f:=λn ao i=>gA ae n pW ao i) (l:=ae) (λn i ao h=>by
  simp only[gA]
  rw[decide_eq_true (show(i:Int)<(length ae:Int) by omega)]
  simp only[cond_true,ai h,toNat_natCast,af _ i h]) (λn ao=>by
  simp only[gA]
  rw[decide_eq_false (by omega)]
  simp only[cond_false]) hl ae 0 n ao rfl (by omega) hn
theorem SR {N:Nat} {ae:(List Int)} {iU:Int->Option aa} {ao:Int} (hl:(length ae)<=maxLen) {n:Nat} (hn:(length ae)<n):nD N ae n iU ao (0:Int)= dV (λ(i:Nat) (x:Int) (ao:Int) (next:Int->Option aa)=> Hi N x (2147483647:Int) (λ(ahK:Int)=> next (Int.tmod (wrap .i64 ((wrap .i64 ((wrap .i64 (ao*(1000003:Int)))+ahK))+(13:Int))) (2147483647:Int)))) (λ(ao:Int)=> iU ao) ae 0 ao:=by
 exact gp (f:=λn ao i=>nD N ae n iU ao i) (l:=ae) (λn i ao h=>by
  simp only[nD]
  rw[decide_eq_true (show(i:Int)<(length ae:Int) by omega)]
  simp only[cond_true,ai h,toNat_natCast,af _ i h]) (λn ao=>by
  simp only[nD]
  rw[decide_eq_false (by omega)]
  simp only[cond_false]) hl ae 0 n ao rfl (by omega) hn
theorem Hw {N:Nat} {ae:(List QL)} {fh:Option aa} {nF:Bool->Option aa} {ao:Int} (hl:(length ae)<=maxLen) {n:Nat} (hn:(length ae)<n):fL N ae n fh nF ao (0:Int)= dV (λ(i:Nat) (x:QL) (ao:Int) (next:Int->Option aa)=> bif (decide ((length ae:Int)<=(200:Int))) then nE N ao x (λ(JQ:Int)=> bif (x.1 != (wrap .i64 ((i:Int)+(1:Int)))) then nF false else bn N x.2.1 (1:Int) (9:Int) (λ(Za:Bool)=> bif (!Za) then nF false else bn N x.2.2.1 (0:Int) (99:Int) (λ(Mp:Bool)=> bif (!Mp) then nF false else bif (x.2.2.2 != JQ) then nF false else next JQ))) else fh) (λ(ao:Int)=> fh) ae 0 ao:=by
 exact gp (f:=λn ao i=>fL N ae n fh nF ao i) (l:=ae) (λn i ao h=>by
  simp only[fL]
  rw[decide_eq_true (show(i:Int)<(length ae:Int) by omega)]
  simp only[cond_true,ai h,toNat_natCast,af _ i h]) (λn ao=>by
  simp only[fL]
  rw[decide_eq_false (by omega)]
  simp only[cond_false]) hl ae 0 n ao rfl (by omega) hn
theorem KV {ae:(List QT)} {aj:Int} {dq:Option aa} {gq:Int->Option aa} (hl:(length ae)<=maxLen) {n:Nat} (hn:(length ae)<n):iC ae aj n dq gq (0:Int)= ud (λ(i:Nat) (x:QT) (next:Option aa)=> bif (x.1==aj) then gq (i:Int) else next) ( dq) ae 0:=by
 exact cN (f:=λn i=>iC ae aj n dq gq i) (l:=ae) (λn i h=>by
  simp only[iC]
  rw[decide_eq_true (show(i:Int)<(length ae:Int) by omega)]
  simp only[cond_true,ai h,toNat_natCast,af _ i h]) (λn=>by
  simp only[iC]
  rw[decide_eq_false (by omega)]
  simp only[cond_false]) hl ae 0 n rfl (by omega) hn
theorem KW {ae:(List Int)} {aj:Int} {bF:Int->Option aa} {aY:Int} (hl:(length ae)<=maxLen) {n:Nat} (hn:(length ae)<n):fT ae aj n bF aY (0:Int)= dV (λ(i:Nat) (x:Int) (aY:Int) (next:Int->Option aa)=> bif (x==aj) then next (wrap .i64 (aY+(1:Int))) else next aY) (λ(aY:Int)=> bF aY) ae 0 aY:=by
 exact gp (f:=λn aY i=>fT ae aj n bF aY i) (l:=ae) (λn i aY h=>by
  simp only[fT]
  rw[decide_eq_true (show(i:Int)<(length ae:Int) by omega)]
  simp only[cond_true,ai h,toNat_natCast,af _ i h]) (λn aY=>by
  simp only[fT]
  rw[decide_eq_false (by omega)]
  simp only[cond_false]) hl ae 0 n aY rfl (by omega) hn
theorem KX {N:Nat} {Mr:(List QT)} {VB:Int} {mL:QT} {Iw:Option aa} {xF:Bool->Option aa} (hl:(length mL.2.2.2.2.2)<=maxLen) {n:Nat} (hn:(length mL.2.2.2.2.2)<n):cC N Mr VB mL n Iw xF (0:Int)= ud (λ(i:Nat) (x:_) (next:Option aa)=> cH N Mr x (λ(xc:Int)=> bif (decide (xc<(0:Int))) then xF false else bif (xc==VB) then xF false else bif (aD xc (length Mr)) then bif (aD xc (length Mr)) then lY N (getD Mr (toNat xc) an).2.2.2.2.2 mL.1 (λ(WR:Int)=> lY N mL.2.2.2.2.2 (getD Mr (toNat xc) an).1 (λ(WS:Int)=> bif (WR != WS) then xF false else next)) else none else none)) ( Iw) mL.2.2.2.2.2 0:=by
 exact cN (f:=λn i=>cC N Mr VB mL n Iw xF i) (l:=mL.2.2.2.2.2) (λn i h=>by
  simp only[cC]
  rw[decide_eq_true (show(i:Int)<(length mL.2.2.2.2.2:Int) by omega)]
  simp only[cond_true,ai h,toNat_natCast,af _ i h]) (λn=>by
  simp only[cC]
  rw[decide_eq_false (by omega)]
  simp only[cond_false]) hl mL.2.2.2.2.2 0 n rfl (by omega) hn
theorem KY {N:Nat} {ae:(List QT)} {E3:Option aa} {gB:Bool->Option aa} (hl:(length ae)<=maxLen) {n:Nat} (hn:(length ae)<n):fU N ae n E3 gB (0:Int)= ud (λ(i:Nat) (x:QT) (next:Option aa)=> bn N x.1 (1:Int) (99:Int) (λ(Sg:Bool)=> bif (!Sg) then gB false else bn N x.2.1 (1:Int) (99:Int) (λ(Sh:Bool)=> bif (!Sh) then gB false else bn N x.2.2.1 (0:Int) (length x.2.2.2.2.2:Int) (λ(Zc:Bool)=> bif (!Zc) then gB false else bn N x.2.2.2.2.1 (0:Int) (length x.2.2.2.2.2:Int) (λ(ahM:Bool)=> bif (!ahM) then gB false else bn N x.2.2.2.1 (0:Int) (100000:Int) (λ(ahN:Bool)=> bif (!ahN) then gB false else bif (decide ((length x.2.2.2.2.2:Int)>(20:Int))) then gB false else bif (decide ((i:Int)>(0:Int))) then bif (aD (wrap .i64 ((i:Int) - (1:Int))) (length ae)) then bif (decide ((getD ae (toNat (wrap .i64 ((i:Int) - (1:Int)))) an).1≥x.1)) then gB false else cC N ae (i:Int) x N next gB (0:Int) else none else cC N ae (i:Int) x N next gB (0:Int))))))) ( E3) ae 0:=by
 exact cN (f:=λn i=>fU N ae n E3 gB i) (l:=ae) (λn i h=>by
  simp only[fU]
  rw[decide_eq_true (show(i:Int)<(length ae:Int) by omega)]
  simp only[cond_true,ai h,toNat_natCast,af _ i h]) (λn=>by
  simp only[fU]
  rw[decide_eq_false (by omega)]
  simp only[cond_false]) hl ae 0 n rfl (by omega) hn
theorem I4 {N:Nat} {iD:(List QJ)} {uh:Int} {E4:Option aa} {zR:Bool->Option aa} (Ue:(aD uh (length iD))=true) (hl:(length (getD iD (toNat uh) dY).2.2)<=maxLen) {n:Nat} (hn:(length (getD iD (toNat uh) dY).2.2)<n):bP N iD uh n E4 zR (0:Int)= ud (λ(i:Nat) (x:_) (next:Option aa)=> bn N x (1:Int) (99:Int) (λ(abM:Bool)=> bif (!abM) then zR false else bif (decide ((i:Int)>(0:Int))) then bif (aD (wrap .i64 ((i:Int) - (1:Int))) (length (getD iD (toNat uh) dY).2.2)) then bif (decide ((getD (getD iD (toNat uh) dY).2.2 (toNat (wrap .i64 ((i:Int) - (1:Int)))) (0:Int))≥x)) then zR false else next else none else next)) ( E4) ((getD iD (toNat uh) dY).2.2) 0:=by
 exact cN (f:=λn i=>bP N iD uh n E4 zR i) (l:=((getD iD (toNat uh) dY).2.2)) (λn i h=>by
  simp only[bP,Ue,cond_true]
  rw[decide_eq_true (show(i:Int)<(length ((getD iD (toNat uh) dY).2.2):Int) by omega)]
  simp only[cond_true,ai h,toNat_natCast,af _ i h]) (λn=>by
  simp only[bP,Ue,cond_true]
  rw[decide_eq_false (by omega)]
  simp only[cond_false]) hl ((getD iD (toNat uh) dY).2.2) 0 n rfl (by omega) hn
theorem I5 {N:Nat} {ae:(List QJ)} {E5:Option aa} {nG:Bool->Option aa} (hl:(length ae)<=maxLen) {n:Nat} (hn:(length ae)<n):eP N ae n E5 nG (0:Int)= ud (λ(i:Nat) (x:QJ) (next:Option aa)=> bn N x.1 (1:Int) (99:Int) (λ(Zd:Bool)=> bif (!Zd) then nG false else bn N x.2.1 (1:Int) (99:Int) (λ(Sh:Bool)=> bif (!Sh) then nG false else bif (decide ((i:Int)>(0:Int))) then bif (aD (wrap .i64 ((i:Int) - (1:Int))) (length ae)) then bif (decide ((getD ae (toNat (wrap .i64 ((i:Int) - (1:Int)))) dY).1≥x.1)) then nG false else bP N ae (i:Int) N next nG (0:Int) else none else bP N ae (i:Int) N next nG (0:Int)))) ( E5) ae 0:=by
 exact cN (f:=λn i=>eP N ae n E5 nG i) (l:=ae) (λn i h=>by
  simp only[eP]
  rw[decide_eq_true (show(i:Int)<(length ae:Int) by omega)]
  simp only[cond_true,ai h,toNat_natCast,af _ i h]) (λn=>by
  simp only[eP]
  rw[decide_eq_false (by omega)]
  simp only[cond_false]) hl ae 0 n rfl (by omega) hn
theorem I6 {N:Nat} {ae:(List QT)} {iU:Int->Option aa} {ao:Int} (hl:(length ae)<=maxLen) {n:Nat} (hn:(length ae)<n):gC N ae n iU ao (0:Int)= dV (λ(i:Nat) (x:QT) (ao:Int) (next:Int->Option aa)=> bW N ae (λ(ahO:Bool)=> bif ahO then next (wrap .i64 (ao+x.2.2.1)) else iU ao)) (λ(ao:Int)=> iU ao) ae 0 ao:=by
 exact gp (f:=λn ao i=>gC N ae n iU ao i) (l:=ae) (λn i ao h=>by
  simp only[gC]
  rw[decide_eq_true (show(i:Int)<(length ae:Int) by omega)]
  simp only[cond_true,ai h,toNat_natCast,af _ i h]) (λn ao=>by
  simp only[gC]
  rw[decide_eq_false (by omega)]
  simp only[cond_false]) hl ae 0 n ao rfl (by omega) hn
theorem Qm {ae:(List Int)} {aj:Int} {dq:Option aa} {gq:Bool->Option aa} (hl:(length ae)<=maxLen) {n:Nat} (hn:(length ae)<n):lZ ae aj n dq gq (0:Int)= ud (λ(i:Nat) (x:Int) (next:Option aa)=> bif (x==aj) then gq true else next) ( dq) ae 0:=by
 exact cN (f:=λn i=>lZ ae aj n dq gq i) (l:=ae) (λn i h=>by
  simp only[lZ]
  rw[decide_eq_true (show(i:Int)<(length ae:Int) by omega)]
  simp only[cond_true,ai h,toNat_natCast,af _ i h]) (λn=>by
  simp only[lZ]
  rw[decide_eq_false (by omega)]
  simp only[cond_false]) hl ae 0 n rfl (by omega) hn
theorem MJ {N:Nat} {ae:(List QT)} {aj:(List bE)} {bz:(List Int)->Option aa} {xG:Bool->Option aa} {aY:(List Int)} (hl:(length aj)<=maxLen) {n:Nat} (hn:(length aj)<n):jy N ae aj n bz xG aY (0:Int)= dV (λ(i:Nat) (x:bE) (aY:(List Int)) (next:(List Int)->Option aa)=> nH N ae x.1 x.2 (λ(Ze:Bool)=> bif (!Ze) then xG false else fM N aY x.1 (λ(Zf:Bool)=> bif Zf then xG false else fM N aY x.2 (λ(Zg:Bool)=> bif Zg then xG false else bif (decide ((length aY+length [x.1,x.2])*1<=4398046511104)) then next (aY++[x.1,x.2]) else none)))) (λ(aY:(List Int))=> bz aY) aj 0 aY:=by
 exact gp (f:=λn aY i=>jy N ae aj n bz xG aY i) (l:=aj) (λn i aY h=>by
  simp only[jy]
  rw[decide_eq_true (show(i:Int)<(length aj:Int) by omega)]
  simp only[cond_true,ai h,toNat_natCast,af _ i h]) (λn aY=>by
  simp only[jy]
  rw[decide_eq_false (by omega)]
  simp only[cond_false]) hl aj 0 n aY rfl (by omega) hn
theorem MK {ae:(List QJ)} {aj:Int} {dq:Option aa} {gq:Int->Option aa} (hl:(length ae)<=maxLen) {n:Nat} (hn:(length ae)<n):jz ae aj n dq gq (0:Int)= ud (λ(i:Nat) (x:QJ) (next:Option aa)=> bif (x.1==aj) then gq (i:Int) else next) ( dq) ae 0:=by
 exact cN (f:=λn i=>jz ae aj n dq gq i) (l:=ae) (λn i h=>by
  simp only[jz]
  rw[decide_eq_true (show(i:Int)<(length ae:Int) by omega)]
  simp only[cond_true,ai h,toNat_natCast,af _ i h]) (λn=>by
  simp only[jz]
  rw[decide_eq_false (by omega)]
  simp only[cond_false]) hl ae 0 n rfl (by omega) hn
theorem I7 {N:Nat} {KM:(List QT)} {sC:(List QJ)} {xd:(List bE)} {tJ:(List Int)} {uj:Option aa} {nI:Bool->Option aa} (hl:(length xd)<=maxLen) {n:Nat} (hn:(length xd)<n):gE N KM sC xd tJ n uj nI (0:Int)= ud (λ(i:Nat) (x:bE) (next:Option aa)=> bif (aD (i:Int) (length tJ)) then gD N sC (getD tJ (toNat (i:Int)) (0:Int)) (λ(Sj:Int)=> bif (decide (Sj<(0:Int))) then nI false else bif (decide ((0:Int)<=(0:Int))&&decide ((0:Int)<=(i:Int))&&decide ((i:Int)<=(length tJ:Int))) then bif (aD (i:Int) (length tJ)) then fM N (List.drop (toNat (0:Int)) (List.take (toNat (i:Int)) tJ)) (getD tJ (toNat (i:Int)) (0:Int)) (λ(ahR:Bool)=> bif ahR then nI false else bif (aD Sj (length sC)) then oS N KM (getD sC (toNat Sj) dY) x (λ(abN:Bool)=> bif (!abN) then nI false else next) else none) else none else none) else none) ( uj) xd 0:=by
 exact cN (f:=λn i=>gE N KM sC xd tJ n uj nI i) (l:=xd) (λn i h=>by
  simp only[gE]
  rw[decide_eq_true (show(i:Int)<(length xd:Int) by omega)]
  simp only[cond_true,ai h,toNat_natCast,af _ i h]) (λn=>by
  simp only[gE]
  rw[decide_eq_false (by omega)]
  simp only[cond_false]) hl xd 0 n rfl (by omega) hn
theorem OS {N:Nat} {zU:QC} {Sk:QB} {E6:Option aa} {zV:Bool->Option aa} (hl:(length zU.2.2.2.2.1)<=maxLen) {n:Nat} (hn:(length zU.2.2.2.2.1)<n):iV N zU Sk n E6 zV (0:Int)= ud (λ(i:Nat) (x:_) (next:Option aa)=> bif (!((decide ((x.1:Int)=Sk.1))&&((decide ((x.2.1:Int)=Sk.2.1))&&(decide ((x.2.2:Int)=Sk.2.2))))) then kj N x (λ(abP:Bool)=> bif (!abP) then zV false else bif (aD (i:Int) (length zU.2.2.2.1)) then bif (x.1 != (getD zU.2.2.2.1 (toNat (i:Int)) (0:Int))) then zV false else next else none) else next) ( E6) zU.2.2.2.2.1 0:=by
 exact cN (f:=λn i=>iV N zU Sk n E6 zV i) (l:=zU.2.2.2.2.1) (λn i h=>by
  simp only[iV]
  rw[decide_eq_true (show(i:Int)<(length zU.2.2.2.2.1:Int) by omega)]
  simp only[cond_true,ai h,toNat_natCast,af _ i h]) (λn=>by
  simp only[iV]
  rw[decide_eq_false (by omega)]
  simp only[cond_false]) hl zU.2.2.2.2.1 0 n rfl (by omega) hn
theorem KZ {aj:Int} {hJ:Int} {eJ:QC} {sD:QC} {Mu:QC} {bz:Int->Option aa} (hl:(length eJ.1)<=maxLen) {n:Nat} (hn:(length eJ.1)<n):fW aj hJ eJ sD Mu n bz (0:Int)= ud (λ(i:Nat) (x:_) (next:Option aa)=> bif (decide (x.1<aj)) then next else bz (i:Int)) ( bz (length eJ.1:Int)) eJ.1 0:=by
 exact cN (f:=λn i=>fW aj hJ eJ sD Mu n bz i) (l:=eJ.1) (λn i h=>by
  simp only[fW]
  rw[decide_eq_true (show(i:Int)<(length eJ.1:Int) by omega)]
  simp only[cond_true,ai h,toNat_natCast,af _ i h]) (λn=>by
  simp only[fW]
  rw[decide_eq_false (by omega)]
  simp only[cond_false]) hl eJ.1 0 n rfl (by omega) hn
theorem I8 {aj:Int} {hJ:Int} {eJ:QC} {sD:QC} {Mu:QC} {bz:Int->Option aa} (hl:(length eJ.2.1)<=maxLen) {n:Nat} (hn:(length eJ.2.1)<n):eQ aj hJ eJ sD Mu n bz (0:Int)= ud (λ(i:Nat) (x:_) (next:Option aa)=> bif (decide (x.1<aj)) then next else bz (i:Int)) ( bz (length eJ.2.1:Int)) eJ.2.1 0:=by
 exact cN (f:=λn i=>eQ aj hJ eJ sD Mu n bz i) (l:=eJ.2.1) (λn i h=>by
  simp only[eQ]
  rw[decide_eq_true (show(i:Int)<(length eJ.2.1:Int) by omega)]
  simp only[cond_true,ai h,toNat_natCast,af _ i h]) (λn=>by
  simp only[eQ]
  rw[decide_eq_false (by omega)]
  simp only[cond_false]) hl eJ.2.1 0 n rfl (by omega) hn
theorem zi {BU:(List QT)} {Ds:(List Int)->Option aa} {zg:(List Int)} (hl:(length BU)<=maxLen) {n:Nat} (hn:(length BU)<n):eR BU n Ds zg (0:Int)= dV (λ(i:Nat) (x:QT) (zg:(List Int)) (next:(List Int)->Option aa)=> bif (decide ((length zg+length [x.1])*1<=4398046511104)) then next (zg++[x.1]) else none) (λ(zg:(List Int))=> Ds zg) BU 0 zg:=by
 exact gp (f:=λn zg i=>eR BU n Ds zg i) (l:=BU) (λn i zg h=>by
  simp only[eR]
  rw[decide_eq_true (show(i:Int)<(length BU:Int) by omega)]
  simp only[cond_true,ai h,toNat_natCast,af _ i h]) (λn zg=>by
  simp only[eR]
  rw[decide_eq_false (by omega)]
  simp only[cond_false]) hl BU 0 n zg rfl (by omega) hn
theorem K0 {N:Nat} {ae:(List QT)} {BV:(List QT)->Option aa} {ao:(List QT)} (hl:(length ae)<=maxLen) {n:Nat} (hn:(length ae)<n):iF N ae n BV ao (0:Int)= dV (λ(i:Nat) (x:QT) (ao:(List QT)) (next:(List QT)->Option aa)=> bW N ae (λ(ahS:Bool)=> bif ahS then iE N ae ao (i:Int) N (λ(ry:Int)=> bif (decide ((0:Int)<=(0:Int))&&decide ((0:Int)<=ry)&&decide (ry<=(length ao:Int))) then bif (decide ((0:Int)<=ry)&&decide (ry<=(length ao:Int))&&decide ((length ao:Int)<=(length ao:Int))) then bif (decide ((length ([]:(List QT))+length (List.drop 0 (List.take (toNat ry) ao)))*6<=4398046511104)) then bif (decide ((length (([]:(List QT))++(List.drop 0 (List.take (toNat ry) ao)))+length [x])*6<=4398046511104)) then bif (decide ((length ((([]:(List QT))++(List.drop 0 (List.take (toNat ry) ao)))++[x])+length (List.drop (toNat ry) (List.take (toNat (length ao:Int)) ao)))*6<=4398046511104)) then next (((([]:(List QT))++(List.drop 0 (List.take (toNat ry) ao)))++[x])++(List.drop (toNat ry) (List.take (toNat (length ao:Int)) ao))) else none else none else none else none else none) (length ao:Int) else BV ao)) (λ(ao:(List QT))=> BV ao) ae 0 ao:=by
 exact gp (f:=λn ao i=>iF N ae n BV ao i) (l:=ae) (λn i ao h=>by
  simp only[iF]
  rw[decide_eq_true (show(i:Int)<(length ae:Int) by omega)]
  simp only[cond_true,ai h,toNat_natCast,af _ i h]) (λn ao=>by
  simp only[iF]
  rw[decide_eq_false (by omega)]
  simp only[cond_false]) hl ae 0 n ao rfl (by omega) hn
theorem ML {cO:QC} {bV:QB} {fi:(List Int)->Option aa} {ao:(List Int)} (hl:(length cO.2.2.2.2.1)<=maxLen) {n:Nat} (hn:(length cO.2.2.2.2.1)<n):ig cO bV n fi ao (0:Int)= dV (λ(i:Nat) (x:_) (ao:(List Int)) (next:(List Int)->Option aa)=> bif ((decide ((x.1:Int)=bV.1))&&((decide ((x.2.1:Int)=bV.2.1))&&(decide ((x.2.2:Int)=bV.2.2)))) then bif (decide ((length ao+length [(i:Int)])*1<=4398046511104)) then next (ao++[(i:Int)]) else none else next ao) (λ(ao:(List Int))=> fi ao) cO.2.2.2.2.1 0 ao:=by
 exact gp (f:=λn ao i=>ig cO bV n fi ao i) (l:=cO.2.2.2.2.1) (λn i ao h=>by
  simp only[ig]
  rw[decide_eq_true (show(i:Int)<(length cO.2.2.2.2.1:Int) by omega)]
  simp only[cond_true,ai h,toNat_natCast,af _ i h]) (λn ao=>by
  simp only[ig]
  rw[decide_eq_false (by omega)]
  simp only[cond_false]) hl cO.2.2.2.2.1 0 n ao rfl (by omega) hn
theorem Hy {N:Nat} {ae:(List QB)} {dq:Option aa} {gq:Bool->Option aa} (hl:(length ae)<=maxLen) {n:Nat} (hn:(length ae)<n):dH N ae n dq gq (0:Int)= ud (λ(i:Nat) (x:QB) (next:Option aa)=> kj N x (λ(ahU:Bool)=> bif (!ahU) then gq false else bif (decide ((i:Int)>(0:Int))) then bif (aD (wrap .i64 ((i:Int) - (1:Int))) (length ae)) then bif (decide ((getD ae (toNat (wrap .i64 ((i:Int) - (1:Int)))) oO).1≥x.1)) then gq false else next else none else next)) ( dq) ae 0:=by
 exact cN (f:=λn i=>dH N ae n dq gq i) (l:=ae) (λn i h=>by
  simp only[dH]
  rw[decide_eq_true (show(i:Int)<(length ae:Int) by omega)]
  simp only[cond_true,ai h,toNat_natCast,af _ i h]) (λn=>by
  simp only[dH]
  rw[decide_eq_false (by omega)]
  simp only[cond_false]) hl ae 0 n rfl (by omega) hn
theorem K1 {N:Nat} {ae:(List QB)} {aj:Int} {bz:Int->Option aa} {aY:Int} (hl:(length ae)<=maxLen) {n:Nat} (hn:(length ae)<n):fX N ae aj n bz aY (0:Int)= dV (λ(i:Nat) (x:QB) (aY:Int) (next:Int->Option aa)=> jA N ae (λ(Zm:Bool)=> bif Zm then xe N x (λ(Y':Int)=> bif (Y'==aj) then next (wrap .i64 (aY+(1:Int))) else next aY) else bz aY)) (λ(aY:Int)=> bz aY) ae 0 aY:=by
 exact gp (f:=λn aY i=>fX N ae aj n bz aY i) (l:=ae) (λn i aY h=>by
  simp only[fX]
  rw[decide_eq_true (show(i:Int)<(length ae:Int) by omega)]
  simp only[cond_true,ai h,toNat_natCast,af _ i h]) (λn aY=>by
  simp only[fX]
  rw[decide_eq_false (by omega)]
  simp only[cond_false]) hl ae 0 n aY rfl (by omega) hn
theorem OU {ae:(List Int)} {aj:Int} {dq:Int->Option aa} (hl:(length ae)<=maxLen) {n:Nat} (hn:(length ae)<n):kJ ae aj n dq (0:Int)= ud (λ(i:Nat) (x:Int) (next:Option aa)=> bif (decide (x<aj)) then next else dq (i:Int)) ( dq (length ae:Int)) ae 0:=by
 exact cN (f:=λn i=>kJ ae aj n dq i) (l:=ae) (λn i h=>by
  simp only[kJ]
  rw[decide_eq_true (show(i:Int)<(length ae:Int) by omega)]
  simp only[cond_true,ai h,toNat_natCast,af _ i h]) (λn=>by
  simp only[kJ]
  rw[decide_eq_false (by omega)]
  simp only[cond_false]) hl ae 0 n rfl (by omega) hn
theorem I9 {N:Nat} {nh:QC} {ahY:QC} {E8:QC->Bool->Option aa} {kR:QC} {AA:Bool} (hl:(length nh.2.2.1)<=maxLen) {n:Nat} (hn:(length nh.2.2.1)<n):eS N nh ahY n E8 kR AA (0:Int)= WK (λ(i:Nat) (x:_) (kR:QC) (AA:Bool) (next:QC->Bool->Option aa)=> bif (aD (i:Int) (length nh.2.2.2.2.1)) then oU N [(getD nh.2.2.2.2.1 (toNat (i:Int)) oO)] (λ(Sp:Int)=> mO N kR.1 x.1 x.2 Sp (getD nh.2.2.2.2.1 (toNat (i:Int)) oO).2.1 (getD nh.2.2.2.2.1 (toNat (i:Int)) oO).2.2 (λ(Hm:(List QT)) (E9:Bool)=> bif AA then bif (aD (i:Int) (length nh.2.2.2.1)) then gD N kR.2.1 (getD nh.2.2.2.1 (toNat (i:Int)) (0:Int)) (λ(mQ:Int)=> bif (aD mQ (length kR.2.1)) then dI N (getD kR.2.1 (toNat mQ) dY).2.2 x.1 (λ(Sq:(List Int))=> dI N Sq x.2 (λ(Mv:(List Int))=> bif (aD mQ (length kR.2.1)) then next (Hm,((List.set kR.2.1 (toNat mQ) ((getD kR.2.1 (toNat mQ) dY).1,((getD kR.2.1 (toNat mQ) dY).2.1,Mv))),kR.2.2)) E9 else none)) else none) else none else bif (aD (i:Int) (length nh.2.2.2.1)) then gD N kR.2.1 (getD nh.2.2.2.1 (toNat (i:Int)) (0:Int)) (λ(mR:Int)=> bif (aD mR (length kR.2.1)) then dI N (getD kR.2.1 (toNat mR) dY).2.2 x.1 (λ(KO:(List Int))=> dI N KO x.2 (λ(Mw:(List Int))=> bif (aD mR (length kR.2.1)) then next (Hm,((List.set kR.2.1 (toNat mR) ((getD kR.2.1 (toNat mR) dY).1,((getD kR.2.1 (toNat mR) dY).2.1,Mw))),kR.2.2)) false else none)) else none) else none)) else none) (λ(kR:QC) (AA:Bool)=> E8 kR AA) nh.2.2.1 0 kR AA:=by
 exact abJ (f:=λn kR AA i=>eS N nh ahY n E8 kR AA i) (l:=nh.2.2.1) (λn i kR AA h=>by
  simp only[eS]
  rw[decide_eq_true (show(i:Int)<(length nh.2.2.1:Int) by omega)]
  simp only[cond_true,ai h,toNat_natCast,af _ i h]) (λn kR AA=>by
  simp only[eS]
  rw[decide_eq_false (by omega)]
  simp only[cond_false]) hl nh.2.2.1 0 n kR AA rfl (by omega) hn
theorem Hz {N:Nat} {bR:(List QT)} {bF:(List QT)->Option aa} {bg:(List QT)} (hl:(length bR)<=maxLen) {n:Nat} (hn:(length bR)<n):fN N bR (length bR:Int) n bF bg (0:Int)= dV (λ(i:Nat) (x:QT) (bg:(List QT)) (next:(List QT)->Option aa)=> S48 N x.2.2.2.2.2 (λ(uv:(List Int))=> bif (decide ((length bg+length [(x.1,(x.2.1,(x.2.2.1,(x.2.2.2.1,(x.2.2.2.2.1,uv)))))])*6<=4398046511104)) then next (bg++[(x.1,(x.2.1,(x.2.2.1,(x.2.2.2.1,(x.2.2.2.2.1,uv)))))]) else none)) (λ(bg:(List QT))=> bF bg) bR 0 bg:=by
 exact gp (f:=λn bg i=>fN N bR (length bR:Int) n bF bg i) (l:=bR) (λn i bg h=>by
  simp only[fN]
  rw[decide_eq_true (show(i:Int)<(length bR:Int) by omega)]
  simp only[cond_true,ai h,toNat_natCast,af _ i h]) (λn bg=>by
  simp only[fN]
  rw[decide_eq_false (by omega)]
  simp only[cond_false]) hl bR 0 n bg rfl (by omega) hn
theorem GC {N:Nat} {bR:(List QJ)} {bF:(List QJ)->Option aa} {bg:(List QJ)} (hl:(length bR)<=maxLen) {n:Nat} (hn:(length bR)<n):eK N bR (length bR:Int) n bF bg (0:Int)= dV (λ(i:Nat) (x:QJ) (bg:(List QJ)) (next:(List QJ)->Option aa)=> S48 N x.2.2 (λ(uv:(List Int))=> bif (decide ((length bg+length [(x.1,(x.2.1,uv))])*3<=4398046511104)) then next (bg++[(x.1,(x.2.1,uv))]) else none)) (λ(bg:(List QJ))=> bF bg) bR 0 bg:=by
 exact gp (f:=λn bg i=>eK N bR (length bR:Int) n bF bg i) (l:=bR) (λn i bg h=>by
  simp only[eK]
  rw[decide_eq_true (show(i:Int)<(length bR:Int) by omega)]
  simp only[cond_true,ai h,toNat_natCast,af _ i h]) (λn bg=>by
  simp only[eK]
  rw[decide_eq_false (by omega)]
  simp only[cond_false]) hl bR 0 n bg rfl (by omega) hn
theorem DI {sE:(List (List Int))} {Du:(List Int)->Option aa} {zh:(List Int)} (hl:(length sE)<=maxLen) {n:Nat} (hn:(length sE)<n):cq sE (length sE:Int) n Du zh (0:Int)= dV (λ(i:Nat) (x:(List Int)) (zh:(List Int)) (next:(List Int)->Option aa)=> bif (decide ((length zh+length x)*1<=4398046511104)) then next (zh++x) else none) (λ(zh:(List Int))=> Du zh) sE 0 zh:=by
 exact gp (f:=λn zh i=>cq sE (length sE:Int) n Du zh i) (l:=sE) (λn i zh h=>by
  simp only[cq]
  rw[decide_eq_true (show(i:Int)<(length sE:Int) by omega)]
  simp only[cond_true,ai h,toNat_natCast,af _ i h]) (λn zh=>by
  simp only[cq]
  rw[decide_eq_false (by omega)]
  simp only[cond_false]) hl sE 0 n zh rfl (by omega) hn
theorem Fw {ae:(List (List Int))} {sF:(List (List Int))} {bF:Int->Option aa} {ao:Int} (hl:(length sF)<=maxLen) {n:Nat} (hn:(length sF)<n):dJ ae sF (length sF:Int) n bF ao (0:Int)= dV (λ(i:Nat) (x:(List Int)) (ao:Int) (next:Int->Option aa)=> bif (decide ((wrap .i64 (ao+(length x:Int)))<(0:Int))) then none else next (wrap .i64 (ao+(length x:Int)))) (λ(ao:Int)=> bF ao) sF 0 ao:=by
 exact gp (f:=λn ao i=>dJ ae sF (length sF:Int) n bF ao i) (l:=sF) (λn i ao h=>by
  simp only[dJ]
  rw[decide_eq_true (show(i:Int)<(length sF:Int) by omega)]
  simp only[cond_true,ai h,toNat_natCast,af _ i h]) (λn ao=>by
  simp only[dJ]
  rw[decide_eq_false (by omega)]
  simp only[cond_false]) hl sF 0 n ao rfl (by omega) hn
theorem nR {N:Nat} {ae:(List QT)} {aj:Int} {iY:Option aa} {iZ:Int->Option aa} (hl:(length ae)<=maxLen) {n:Nat} (hn:(length ae)<n):aS N ae aj (length ae:Int) n iY iZ (0:Int)= ud (λ(i:Nat) (x:QT) (next:Option aa)=> rZ N x aj (λ(ja:Bool)=> bif ja then iZ (i:Int) else next)) ( iY) ae 0:=by
 exact cN (f:=λn i=>aS N ae aj (length ae:Int) n iY iZ i) (l:=ae) (λn i h=>by
  simp only[aS]
  rw[decide_eq_true (show(i:Int)<(length ae:Int) by omega)]
  simp only[cond_true,ai h,toNat_natCast,af _ i h]) (λn=>by
  simp only[aS]
  rw[decide_eq_false (by omega)]
  simp only[cond_false]) hl ae 0 n rfl (by omega) hn
theorem SS {N:Nat} {tL:(List Int)} {bF:Int->Option aa} {bg:Int} (hl:(length tL)<=maxLen) {n:Nat} (hn:(length tL)<n):nK N tL (length tL:Int) n bF bg (0:Int)= dV (λ(i:Nat) (x:Int) (bg:Int) (next:Int->Option aa)=> Iy N bg x (λ(ah9:Int)=> next ah9)) (λ(bg:Int)=> bF bg) tL 0 bg:=by
 exact gp (f:=λn bg i=>nK N tL (length tL:Int) n bF bg i) (l:=tL) (λn i bg h=>by
  simp only[nK]
  rw[decide_eq_true (show(i:Int)<(length tL:Int) by omega)]
  simp only[cond_true,ai h,toNat_natCast,af _ i h]) (λn bg=>by
  simp only[nK]
  rw[decide_eq_false (by omega)]
  simp only[cond_false]) hl tL 0 n bg rfl (by omega) hn
theorem HA {N:Nat} {AE:(List QL)} {kL:Option aa} {r9:Bool->Option aa} {bg:Int} (hl:(length AE)<=maxLen) {n:Nat} (hn:(length AE)<n):fO N AE (length AE:Int) n kL r9 bg (0:Int)= dV (λ(i:Nat) (x:QL) (bg:Int) (next:Int->Option aa)=> bif (x.1 != (wrap .i64 ((i:Int)+(1:Int)))) then r9 false else aw N x.2.1 (1:Int) (9:Int) (λ(MA:Bool)=> bif (!MA) then r9 false else aw N x.2.2.1 (0:Int) (99:Int) (λ(Zr:Bool)=> bif (!Zr) then r9 false else l4 N bg x (λ(Sv:Int)=> bif (x.2.2.2 != Sv) then r9 false else next x.2.2.2)))) (λ(bg:Int)=> kL) AE 0 bg:=by
 exact gp (f:=λn bg i=>fO N AE (length AE:Int) n kL r9 bg i) (l:=AE) (λn i bg h=>by
  simp only[fO]
  rw[decide_eq_true (show(i:Int)<(length AE:Int) by omega)]
  simp only[cond_true,ai h,toNat_natCast,af _ i h]) (λn bg=>by
  simp only[fO]
  rw[decide_eq_false (by omega)]
  simp only[cond_false]) hl AE 0 n bg rfl (by omega) hn
theorem Qn {cO:Int} {q8:(List Int)} {fh:Int->Option aa} {fZ:Int} (hl:(length q8)<=maxLen) {n:Nat} (hn:(length q8)<n):km cO q8 (length q8:Int) n fh fZ (0:Int)= dV (λ(i:Nat) (x:Int) (fZ:Int) (next:Int->Option aa)=> bif (x==cO) then next (wrap .i64 (fZ+(1:Int))) else next fZ) (λ(fZ:Int)=> fh fZ) q8 0 fZ:=by
 exact gp (f:=λn fZ i=>km cO q8 (length q8:Int) n fh fZ i) (l:=q8) (λn i fZ h=>by
  simp only[km]
  rw[decide_eq_true (show(i:Int)<(length q8:Int) by omega)]
  simp only[cond_true,ai h,toNat_natCast,af _ i h]) (λn fZ=>by
  simp only[km]
  rw[decide_eq_false (by omega)]
  simp only[cond_false]) hl q8 0 n fZ rfl (by omega) hn
theorem I' {N:Nat} {JW:(List QT)} {JX:QT} {WX:(List QT)} {WY:Int} {WZ:Int} {q9:(List Int)} {Dz:Option aa} {rA:Bool->Option aa} (hl:(length q9)<=maxLen) {n:Nat} (hn:(length q9)<n):cJ N JW JX WX WY WZ q9 (length q9:Int) n Dz rA (0:Int)= ud (λ(i:Nat) (x:Int) (next:Option aa)=> bL N JW x (λ(KQ:Int)=> bif (decide (KQ<(0:Int))) then rA false else bif (x==JX.1) then rA false else bif (aD KQ (length JW)) then kM N JX.2.2.2.2.2 x (λ(abX:Int)=> kM N (getD JW (toNat KQ) an).2.2.2.2.2 JX.1 (λ(W2:Int)=> bif (abX != W2) then rA false else next)) else none)) ( Dz) q9 0:=by
 exact cN (f:=λn i=>cJ N JW JX WX WY WZ q9 (length q9:Int) n Dz rA i) (l:=q9) (λn i h=>by
  simp only[cJ]
  rw[decide_eq_true (show(i:Int)<(length q9:Int) by omega)]
  simp only[cond_true,ai h,toNat_natCast,af _ i h]) (λn=>by
  simp only[cJ]
  rw[decide_eq_false (by omega)]
  simp only[cond_false]) hl q9 0 n rfl (by omega) hn
theorem K2 {N:Nat} {ae:(List QT)} {dM:(List QT)} {Fb:Option aa} {b8:Bool->Option aa} (hl:(length dM)<=maxLen) {n:Nat} (hn:(length dM)<n):ga N ae dM (length dM:Int) n Fb b8 (0:Int)= ud (λ(i:Nat) (x:QT) (next:Option aa)=> aw N x.1 (1:Int) (99:Int) (λ(MA:Bool)=> bif (!MA) then b8 false else bif (decide ((i:Int)>(0:Int))) then bif (aD (wrap .i64 ((i:Int) - (1:Int))) (length ae)) then bif (decide (x.1<=(getD ae (toNat (wrap .i64 ((i:Int) - (1:Int)))) an).1)) then b8 false else aw N x.2.1 (1:Int) (99:Int) (λ(aib:Bool)=> bif (!aib) then b8 false else bif (decide ((length x.2.2.2.2.2:Int)>(20:Int))) then b8 false else aw N x.2.2.1 (0:Int) (length x.2.2.2.2.2:Int) (λ(VC:Bool)=> bif (!VC) then b8 false else aw N x.2.2.2.2.1 (0:Int) (length x.2.2.2.2.2:Int) (λ(aic:Bool)=> bif (!aic) then b8 false else aw N x.2.2.2.1 (0:Int) (100000:Int) (λ(abY:Bool)=> bif (!abY) then b8 false else cJ N ae x dM (length dM:Int) (i:Int) x.2.2.2.2.2 (length x.2.2.2.2.2:Int) N next b8 (0:Int))))) else none else aw N x.2.1 (1:Int) (99:Int) (λ(abZ:Bool)=> bif (!abZ) then b8 false else bif (decide ((length x.2.2.2.2.2:Int)>(20:Int))) then b8 false else aw N x.2.2.1 (0:Int) (length x.2.2.2.2.2:Int) (λ(ab0:Bool)=> bif (!ab0) then b8 false else aw N x.2.2.2.2.1 (0:Int) (length x.2.2.2.2.2:Int) (λ(E9:Bool)=> bif (!E9) then b8 false else aw N x.2.2.2.1 (0:Int) (100000:Int) (λ(ab1:Bool)=> bif (!ab1) then b8 false else cJ N ae x dM (length dM:Int) (i:Int) x.2.2.2.2.2 (length x.2.2.2.2.2:Int) N next b8 (0:Int))))))) ( Fb) dM 0:=by
 exact cN (f:=λn i=>ga N ae dM (length dM:Int) n Fb b8 i) (l:=dM) (λn i h=>by
  simp only[ga,qz]
  rw[decide_eq_true (show(i:Int)<(length dM:Int) by omega)]
  simp only[cond_true,ai h,toNat_natCast,af _ i h]) (λn=>by
  simp only[ga,qz]
  rw[decide_eq_false (by omega)]
  simp only[cond_false]) hl dM 0 n rfl (by omega) hn
theorem Ja {N:Nat} {Zt:(List QJ)} {mL:QJ} {Sw:(List QJ)} {Sx:Int} {Sy:Int} {ra:(List Int)} {Fe:Option aa} {z6:Bool->Option aa} (hl:(length ra)<=maxLen) {n:Nat} (hn:(length ra)<n):ca N Zt mL Sw Sx Sy ra (length ra:Int) n Fe z6 (0:Int)= ud (λ(i:Nat) (x:Int) (next:Option aa)=> aw N x (1:Int) (99:Int) (λ(ab3:Bool)=> bif (!ab3) then z6 false else bif (decide ((i:Int)>(0:Int))) then bif (aD (wrap .i64 ((i:Int) - (1:Int))) (length mL.2.2)) then bif (decide (x<=(getD mL.2.2 (toNat (wrap .i64 ((i:Int) - (1:Int)))) (0:Int)))) then z6 false else next else none else next)) ( Fe) ra 0:=by
 exact cN (f:=λn i=>ca N Zt mL Sw Sx Sy ra (length ra:Int) n Fe z6 i) (l:=ra) (λn i h=>by
  simp only[ca]
  rw[decide_eq_true (show(i:Int)<(length ra:Int) by omega)]
  simp only[cond_true,ai h,toNat_natCast,af _ i h]) (λn=>by
  simp only[ca]
  rw[decide_eq_false (by omega)]
  simp only[cond_false]) hl ra 0 n rfl (by omega) hn
theorem Jb {N:Nat} {ae:(List QJ)} {lC:(List QJ)} {Fg:Option aa} {jZ:Bool->Option aa} (hl:(length lC)<=maxLen) {n:Nat} (hn:(length lC)<n):eT N ae lC (length lC:Int) n Fg jZ (0:Int)= ud (λ(i:Nat) (x:QJ) (next:Option aa)=> aw N x.1 (1:Int) (99:Int) (λ(aid:Bool)=> bif (!aid) then jZ false else bif (decide ((i:Int)>(0:Int))) then bif (aD (wrap .i64 ((i:Int) - (1:Int))) (length ae)) then bif (decide (x.1<=(getD ae (toNat (wrap .i64 ((i:Int) - (1:Int)))) dY).1)) then jZ false else aw N x.2.1 (1:Int) (99:Int) (λ(aie:Bool)=> bif (!aie) then jZ false else ca N ae x lC (length lC:Int) (i:Int) x.2.2 (length x.2.2:Int) N next jZ (0:Int)) else none else aw N x.2.1 (1:Int) (99:Int) (λ(Hj:Bool)=> bif (!Hj) then jZ false else ca N ae x lC (length lC:Int) (i:Int) x.2.2 (length x.2.2:Int) N next jZ (0:Int)))) ( Fg) lC 0:=by
 exact cN (f:=λn i=>eT N ae lC (length lC:Int) n Fg jZ i) (l:=lC) (λn i h=>by
  simp only[eT,pw]
  rw[decide_eq_true (show(i:Int)<(length lC:Int) by omega)]
  simp only[cond_true,ai h,toNat_natCast,af _ i h]) (λn=>by
  simp only[eT,pw]
  rw[decide_eq_false (by omega)]
  simp only[cond_false]) hl lC 0 n rfl (by omega) hn
theorem we {ae:(List Int)} {aj:Int} {ON:Option aa} {OO:Int->Option aa} (hl:(length ae)<=maxLen) {n:Nat} (hn:(length ae)<n):eL ae aj (length ae:Int) n ON OO (0:Int)= ud (λ(i:Nat) (x:Int) (next:Option aa)=> bif (aj==x) then OO (i:Int) else next) ( ON) ae 0:=by
 exact cN (f:=λn i=>eL ae aj (length ae:Int) n ON OO i) (l:=ae) (λn i h=>by
  simp only[eL]
  rw[decide_eq_true (show(i:Int)<(length ae:Int) by omega)]
  simp only[cond_true,ai h,toNat_natCast,af _ i h]) (λn=>by
  simp only[eL]
  rw[decide_eq_false (by omega)]
  simp only[cond_false]) hl ae 0 n rfl (by omega) hn
theorem K3 {N:Nat} {VH:(List Int)} {ux:(List QT)} {DA:Option aa} {DB:Bool->Option aa} (hl:(length ux)<=maxLen) {n:Nat} (hn:(length ux)<n):iH N VH ux (length ux:Int) n DA DB (0:Int)= ud (λ(i:Nat) (x:QT) (next:Option aa)=> kM N VH x.1 (λ(ab4:Int)=> bif (ab4 != (1:Int)) then DB false else next)) ( DA) ux 0:=by
 exact cN (f:=λn i=>iH N VH ux (length ux:Int) n DA DB i) (l:=ux) (λn i h=>by
  simp only[iH]
  rw[decide_eq_true (show(i:Int)<(length ux:Int) by omega)]
  simp only[cond_true,ai h,toNat_natCast,af _ i h]) (λn=>by
  simp only[iH]
  rw[decide_eq_false (by omega)]
  simp only[cond_false]) hl ux 0 n rfl (by omega) hn
theorem MM {N:Nat} {ae:(List QT)} {mS:(List bE)} {fh:(List Int)->Option aa} {nF:Bool->Option aa} {fZ:(List Int)} (hl:(length mS)<=maxLen) {n:Nat} (hn:(length mS)<n):jE N ae mS (length mS:Int) n fh nF fZ (0:Int)= dV (λ(i:Nat) (x:bE) (fZ:(List Int)) (next:(List Int)->Option aa)=> nM N ae x.1 x.2 (λ(x9:Bool)=> bif (!x9) then nF false else bif (decide ((length fZ+length [x.1,x.2])*1<=4398046511104)) then next (fZ++[x.1,x.2]) else none)) (λ(fZ:(List Int))=> fh fZ) mS 0 fZ:=by
 exact gp (f:=λn fZ i=>jE N ae mS (length mS:Int) n fh nF fZ i) (l:=mS) (λn i fZ h=>by
  simp only[jE]
  rw[decide_eq_true (show(i:Int)<(length mS:Int) by omega)]
  simp only[cond_true,ai h,toNat_natCast,af _ i h]) (λn fZ=>by
  simp only[jE]
  rw[decide_eq_false (by omega)]
  simp only[cond_false]) hl mS 0 n fZ rfl (by omega) hn
theorem mX {N:Nat} {ae:(List QJ)} {aj:Int} {iY:Option aa} {iZ:Int->Option aa} (hl:(length ae)<=maxLen) {n:Nat} (hn:(length ae)<n):aO N ae aj (length ae:Int) n iY iZ (0:Int)= ud (λ(i:Nat) (x:QJ) (next:Option aa)=> qA N x aj (λ(ja:Bool)=> bif ja then iZ (i:Int) else next)) ( iY) ae 0:=by
 exact cN (f:=λn i=>aO N ae aj (length ae:Int) n iY iZ i) (l:=ae) (λn i h=>by
  simp only[aO]
  rw[decide_eq_true (show(i:Int)<(length ae:Int) by omega)]
  simp only[cond_true,ai h,toNat_natCast,af _ i h]) (λn=>by
  simp only[aO]
  rw[decide_eq_false (by omega)]
  simp only[cond_false]) hl ae 0 n rfl (by omega) hn
theorem K4 {N:Nat} {ae:(List QT)} {fY:QJ} {AF:(List Int)} {CR:Option aa} {xI:Bool->Option aa} (hl:(length AF)<=maxLen) {n:Nat} (hn:(length AF)<n):iI N ae fY AF (length AF:Int) n CR xI (0:Int)= ud (λ(i:Nat) (x:Int) (next:Option aa)=> bL N ae x (λ(x9:Int)=> bif (decide (x9<(0:Int))) then xI false else bif (aD x9 (length ae)) then bif ((getD ae (toNat x9) an).2.1==fY.2.1) then xI false else bp N fY.2.2 x (λ(Hj:Bool)=> bif Hj then xI false else next) else none)) ( CR) AF 0:=by
 exact cN (f:=λn i=>iI N ae fY AF (length AF:Int) n CR xI i) (l:=AF) (λn i h=>by
  simp only[iI]
  rw[decide_eq_true (show(i:Int)<(length AF:Int) by omega)]
  simp only[cond_true,ai h,toNat_natCast,af _ i h]) (λn=>by
  simp only[iI]
  rw[decide_eq_false (by omega)]
  simp only[cond_false]) hl AF 0 n rfl (by omega) hn
theorem Jc {N:Nat} {KM:(List QT)} {sC:(List QJ)} {xd:(List bE)} {tJ:(List Int)} {AG:(List Int)} {IA:Option aa} {xJ:Bool->Option aa} (hl:(length AG)<=maxLen) {n:Nat} (hn:(length AG)<n):gG N KM sC xd tJ AG (length AG:Int) n IA xJ (0:Int)= ud (λ(i:Nat) (x:Int) (next:Option aa)=> bu N sC x (λ(KR:Int)=> bif (decide (KR<(0:Int))) then xJ false else bif (decide ((0:Int)<=(0:Int))&&decide ((0:Int)<=(i:Int))&&decide ((i:Int)<=(length tJ:Int))) then bp N (List.drop (toNat (0:Int)) (List.take (toNat (i:Int)) tJ)) x (λ(OP:Bool)=> bif OP then xJ false else bif (aD KR (length sC)) then bif (aD (i:Int) (length xd)) then kn N KM (getD sC (toNat KR) dY) (getD xd (toNat (i:Int)) ff) (λ(ab5:Bool)=> bif (!ab5) then xJ false else next) else none else none) else none)) ( IA) AG 0:=by
 exact cN (f:=λn i=>gG N KM sC xd tJ AG (length AG:Int) n IA xJ i) (l:=AG) (λn i h=>by
  simp only[gG]
  rw[decide_eq_true (show(i:Int)<(length AG:Int) by omega)]
  simp only[cond_true,ai h,toNat_natCast,af _ i h]) (λn=>by
  simp only[gG]
  rw[decide_eq_false (by omega)]
  simp only[cond_false]) hl AG 0 n rfl (by omega) hn
theorem Jd {cE:(List QT)} {Fh:Int->Option aa} {ao:Int} (hl:(length cE)<=maxLen) {n:Nat} (hn:(length cE)<n):gH cE (length cE:Int) n Fh ao (0:Int)= dV (λ(i:Nat) (x:QT) (ao:Int) (next:Int->Option aa)=> next (wrap .i64 (ao+x.2.2.1))) (λ(ao:Int)=> Fh ao) cE 0 ao:=by
 exact gp (f:=λn ao i=>gH cE (length cE:Int) n Fh ao i) (l:=cE) (λn i ao h=>by
  simp only[gH]
  rw[decide_eq_true (show(i:Int)<(length cE:Int) by omega)]
  simp only[cond_true,ai h,toNat_natCast,af _ i h]) (λn ao=>by
  simp only[gH]
  rw[decide_eq_false (by omega)]
  simp only[cond_false]) hl cE 0 n ao rfl (by omega) hn
theorem OV {N:Nat} {o7:QC} {uA:(List QB)} {Fi:Option aa} {z':Bool->Option aa} (hl:(length uA)<=maxLen) {n:Nat} (hn:(length uA)<n):jc N o7 uA (length uA:Int) n Fi z' (0:Int)= ud (λ(i:Nat) (x:QB) (next:Option aa)=> bif (!((decide ((x.1:Int)=(0:Int)))&&((decide ((x.2.1:Int)=(0:Int)))&&(decide ((x.2.2:Int)=(0:Int)))))) then ko N x (λ(ab6:Bool)=> bif (!ab6) then z' false else bif (aD (i:Int) (length o7.2.2.2.1)) then bif (x.1 != (getD o7.2.2.2.1 (toNat (i:Int)) (0:Int))) then z' false else next else none) else next) ( Fi) uA 0:=by
 exact cN (f:=λn i=>jc N o7 uA (length uA:Int) n Fi z' i) (l:=uA) (λn i h=>by
  simp only[jc]
  rw[decide_eq_true (show(i:Int)<(length uA:Int) by omega)]
  simp only[cond_true,ai h,toNat_natCast,af _ i h]) (λn=>by
  simp only[jc]
  rw[decide_eq_false (by omega)]
  simp only[cond_false]) hl uA 0 n rfl (by omega) hn
theorem K5 {afy:Int} {ak1:Int} {afz:QC} {Zu:QC} {MB:QC} {uC:Int->Option aa} (hl:(length MB.1)<=maxLen) {n:Nat} (hn:(length MB.1)<n):gb afy ak1 afz Zu MB n uC (0:Int)= ud (λ(i:Nat) (x:_) (next:Option aa)=> bif (decide (x.1<afy)) then next else uC (i:Int)) ( uC (length MB.1:Int)) MB.1 0:=by
 exact cN (f:=λn i=>gb afy ak1 afz Zu MB n uC i) (l:=MB.1) (λn i h=>by
  simp only[gb]
  rw[decide_eq_true (show(i:Int)<(length MB.1:Int) by omega)]
  simp only[cond_true,ai h,toNat_natCast,af _ i h]) (λn=>by
  simp only[gb]
  rw[decide_eq_false (by omega)]
  simp only[cond_false]) hl MB.1 0 n rfl (by omega) hn
theorem nS {N:Nat} {ae:(List QJ)} {aj:Int} {iY:Option aa} {iZ:Int->Option aa} (hl:(length ae)<=maxLen) {n:Nat} (hn:(length ae)<n):aT N ae aj (length ae:Int) n iY iZ (0:Int)= ud (λ(i:Nat) (x:QJ) (next:Option aa)=> uD N x aj (λ(ja:Bool)=> bif ja then iZ (i:Int) else next)) ( iY) ae 0:=by
 exact cN (f:=λn i=>aT N ae aj (length ae:Int) n iY iZ i) (l:=ae) (λn i h=>by
  simp only[aT]
  rw[decide_eq_true (show(i:Int)<(length ae:Int) by omega)]
  simp only[cond_true,ai h,toNat_natCast,af _ i h]) (λn=>by
  simp only[aT]
  rw[decide_eq_false (by omega)]
  simp only[cond_false]) hl ae 0 n rfl (by omega) hn
theorem Je {sC:Int} {xd:Int} {tJ:QC} {ak3:QC} {MC:QC} {gI:Int->Option aa} (hl:(length MC.2.1)<=maxLen) {n:Nat} (hn:(length MC.2.1)<n):eU sC xd tJ ak3 MC n gI (0:Int)= ud (λ(i:Nat) (x:_) (next:Option aa)=> bif (decide (x.1<sC)) then next else gI (i:Int)) ( gI (length MC.2.1:Int)) MC.2.1 0:=by
 exact cN (f:=λn i=>eU sC xd tJ ak3 MC n gI i) (l:=MC.2.1) (λn i h=>by
  simp only[eU]
  rw[decide_eq_true (show(i:Int)<(length MC.2.1:Int) by omega)]
  simp only[cond_true,ai h,toNat_natCast,af _ i h]) (λn=>by
  simp only[eU]
  rw[decide_eq_false (by omega)]
  simp only[cond_false]) hl MC.2.1 0 n rfl (by omega) hn
theorem Qo {bg:Int} {tL:(List Int)} {iU:Option aa} {OQ:Int->Option aa} (hl:(length tL)<=maxLen) {n:Nat} (hn:(length tL)<n):l5 bg tL (length tL:Int) n iU OQ (0:Int)= ud (λ(i:Nat) (x:Int) (next:Option aa)=> bif (x != bg) then OQ x else next) ( iU) tL 0:=by
 exact cN (f:=λn i=>l5 bg tL (length tL:Int) n iU OQ i) (l:=tL) (λn i h=>by
  simp only[l5]
  rw[decide_eq_true (show(i:Int)<(length tL:Int) by omega)]
  simp only[cond_true,ai h,toNat_natCast,af _ i h]) (λn=>by
  simp only[l5]
  rw[decide_eq_false (by omega)]
  simp only[cond_false]) hl tL 0 n rfl (by omega) hn
theorem K6 {rB:(List QT)} {OR:(List Int)->Option aa} {eJ:(List Int)} (hl:(length rB)<=maxLen) {n:Nat} (hn:(length rB)<n):iJ rB (length rB:Int) n OR eJ (0:Int)= dV (λ(i:Nat) (x:QT) (eJ:(List Int)) (next:(List Int)->Option aa)=> bif (decide ((length eJ+length [x.1])*1<=4398046511104)) then next (eJ++[x.1]) else none) (λ(eJ:(List Int))=> OR eJ) rB 0 eJ:=by
 exact gp (f:=λn eJ i=>iJ rB (length rB:Int) n OR eJ i) (l:=rB) (λn i eJ h=>by
  simp only[iJ]
  rw[decide_eq_true (show(i:Int)<(length rB:Int) by omega)]
  simp only[cond_true,ai h,toNat_natCast,af _ i h]) (λn eJ=>by
  simp only[iJ]
  rw[decide_eq_false (by omega)]
  simp only[cond_false]) hl rB 0 n eJ rfl (by omega) hn
theorem MN {qB:(List QB)} {bF:(List Int)->Option aa} {bg:(List Int)} (hl:(length qB)<=maxLen) {n:Nat} (hn:(length qB)<n):ik qB (length qB:Int) n bF bg (0:Int)= dV (λ(i:Nat) (x:QB) (bg:(List Int)) (next:(List Int)->Option aa)=> bif ((decide ((x.1:Int)=(0:Int)))&&((decide ((x.2.1:Int)=(0:Int)))&&(decide ((x.2.2:Int)=(0:Int))))) then bif (decide ((length bg+length [(i:Int)])*1<=4398046511104)) then next (bg++[(i:Int)]) else none else next bg) (λ(bg:(List Int))=> bF bg) qB 0 bg:=by
 exact gp (f:=λn bg i=>ik qB (length qB:Int) n bF bg i) (l:=qB) (λn i bg h=>by
  simp only[ik]
  rw[decide_eq_true (show(i:Int)<(length qB:Int) by omega)]
  simp only[cond_true,ai h,toNat_natCast,af _ i h]) (λn bg=>by
  simp only[ik]
  rw[decide_eq_false (by omega)]
  simp only[cond_false]) hl qB 0 n bg rfl (by omega) hn
theorem HB {N:Nat} {ae:(List QB)} {qB:(List QB)} {fi:Option aa} {kN:Bool->Option aa} (hl:(length qB)<=maxLen) {n:Nat} (hn:(length qB)<n):dN N ae qB (length qB:Int) n fi kN (0:Int)= ud (λ(i:Nat) (x:QB) (next:Option aa)=> ko N x (λ(ja:Bool)=> bif (!ja) then kN false else bif (decide ((i:Int)>(0:Int))) then bif (aD (wrap .i64 ((i:Int) - (1:Int))) (length ae)) then bif (decide (x.1<=(getD ae (toNat (wrap .i64 ((i:Int) - (1:Int)))) oO).1)) then kN false else next else none else next)) ( fi) qB 0:=by
 exact cN (f:=λn i=>dN N ae qB (length qB:Int) n fi kN i) (l:=qB) (λn i h=>by
  simp only[dN]
  rw[decide_eq_true (show(i:Int)<(length qB:Int) by omega)]
  simp only[cond_true,ai h,toNat_natCast,af _ i h]) (λn=>by
  simp only[dN]
  rw[decide_eq_false (by omega)]
  simp only[cond_false]) hl qB 0 n rfl (by omega) hn
theorem K7 {N:Nat} {aj:Int} {cL:(List QB)} {gI:Int->Option aa} {aY:Int} (hl:(length cL)<=maxLen) {n:Nat} (hn:(length cL)<n):gf N aj cL (length cL:Int) n gI aY (0:Int)= dV (λ(i:Nat) (x:QB) (aY:Int) (next:Int->Option aa)=> tk N x (λ(ZB:Int)=> bif (ZB==aj) then next (wrap .i64 (aY+(1:Int))) else next aY)) (λ(aY:Int)=> gI aY) cL 0 aY:=by
 exact gp (f:=λn aY i=>gf N aj cL (length cL:Int) n gI aY i) (l:=cL) (λn i aY h=>by
  simp only[gf]
  rw[decide_eq_true (show(i:Int)<(length cL:Int) by omega)]
  simp only[cond_true,ai h,toNat_natCast,af _ i h]) (λn aY=>by
  simp only[gf]
  rw[decide_eq_false (by omega)]
  simp only[cond_false]) hl cL 0 n aY rfl (by omega) hn
theorem xl {aj:Int} {cL:(List QB)} {kL:Int->Option aa} {aY:Int} (hl:(length cL)<=maxLen) {n:Nat} (hn:(length cL)<n):gJ aj cL (length cL:Int) n kL aY (0:Int)= dV (λ(i:Nat) (x:QB) (aY:Int) (next:Int->Option aa)=> bif (aj==(1:Int)) then next (wrap .i64 (aY+x.2.1)) else bif (aj==(2:Int)) then next (wrap .i64 (aY+x.2.2)) else next aY) (λ(aY:Int)=> kL aY) cL 0 aY:=by
 exact gp (f:=λn aY i=>gJ aj cL (length cL:Int) n kL aY i) (l:=cL) (λn i aY h=>by
  simp only[gJ]
  rw[decide_eq_true (show(i:Int)<(length cL:Int) by omega)]
  simp only[cond_true,ai h,toNat_natCast,af _ i h]) (λn aY=>by
  simp only[gJ]
  rw[decide_eq_false (by omega)]
  simp only[cond_false]) hl cL 0 n aY rfl (by omega) hn
theorem Jf {N:Nat} {o7:QC} {Zx:QC} {nN:(List bE)} {IB:QC->Option aa} {IC:QC->Bool->Option aa} {pP:QC} (hl:(length nN)<=maxLen) {n:Nat} (hn:(length nN)<n):gK N o7 Zx nN (length nN:Int) n IB IC pP (0:Int)= dV (λ(i:Nat) (x:bE) (pP:QC) (next:QC->Option aa)=> bif (aD (i:Int) (length o7.2.2.2.2.1)) then oW N [(getD o7.2.2.2.2.1 (toNat (i:Int)) oO)] (λ(SB:Int)=> mU N pP.1 x.1 x.2 SB (getD o7.2.2.2.2.1 (toNat (i:Int)) oO).2.1 (getD o7.2.2.2.2.1 (toNat (i:Int)) oO).2.2 (λ(SC:(List QT)) (SD:Bool)=> bif (!SD) then aF N o7 (λ(SE:QC)=> IC SE false) else bif (aD (i:Int) (length o7.2.2.2.1)) then j8 N pP.2.1 (getD o7.2.2.2.1 (toNat (i:Int)) (0:Int)) (λ(gL:Int)=> bif (aD gL (length pP.2.1)) then bif (decide ((length (getD pP.2.1 (toNat gL) dY).2.2+length [x.1,x.2])*1<=4398046511104)) then acb N ((getD pP.2.1 (toNat gL) dY).2.2++[x.1,x.2]) (λ(SF:(List Int))=> afC N SF (λ(SG:(List Int))=> bif (aD gL (length pP.2.1)) then bif (Nat.beq (toNat gL) (toNat gL)) then next (SC,((List.set pP.2.1 (toNat gL) ((getD pP.2.1 (toNat gL) dY).1,((getD pP.2.1 (toNat gL) dY).2.1,SG))),pP.2.2)) else none else none)) else none else none) else none)) else none) (λ(pP:QC)=> IB pP) nN 0 pP:=by
 exact gp (f:=λn pP i=>gK N o7 Zx nN (length nN:Int) n IB IC pP i) (l:=nN) (λn i pP h=>by
  simp only[gK]
  rw[decide_eq_true (show(i:Int)<(length nN:Int) by omega)]
  simp only[cond_true,ai h,toNat_natCast,af _ i h]) (λn pP=>by
  simp only[gK]
  rw[decide_eq_false (by omega)]
  simp only[cond_false]) hl nN 0 n pP rfl (by omega) hn
theorem DJ {N:Nat} {bR:(List Int)} {bF:(List ByteArray)->Option aa} {bg:(List ByteArray)} (hl:(length bR)<=maxLen) {n:Nat} (hn:(length bR)<n):dt N bR (length bR:Int) n bF bg (0:Int)= dV (λ(i:Nat) (x:Int) (bg:(List ByteArray)) (next:(List ByteArray)->Option aa)=> aM N x (λ(uv:ByteArray)=> bif (decide ((length bg+length [uv])*1<=4398046511104)) then next (bg++[uv]) else none)) (λ(bg:(List ByteArray))=> bF bg) bR 0 bg:=by
 exact gp (f:=λn bg i=>dt N bR (length bR:Int) n bF bg i) (l:=bR) (λn i bg h=>by
  simp only[dt]
  rw[decide_eq_true (show(i:Int)<(length bR:Int) by omega)]
  simp only[cond_true,ai h,toNat_natCast,af _ i h]) (λn bg=>by
  simp only[dt]
  rw[decide_eq_false (by omega)]
  simp only[cond_false]) hl bR 0 n bg rfl (by omega) hn
theorem GD {N:Nat} {bR:(List QT)} {ID:(List ByteArray)->Option aa} {bg:(List ByteArray)} (hl:(length bR)<=maxLen) {n:Nat} (hn:(length bR)<n):eM N bR (length bR:Int) n ID bg (0:Int)= dV (λ(i:Nat) (x:QT) (bg:(List ByteArray)) (next:(List ByteArray)->Option aa)=> aM N x.1 (λ(ja:ByteArray)=> bif (decide (ByteArray.size ja+ByteArray.size uf<=9223372036854775807)) then aM N x.2.2.1 (λ(AJ:ByteArray)=> bif (decide (ByteArray.size (ja++uf)+ByteArray.size AJ<=9223372036854775807)) then bif (decide (ByteArray.size ((ja++uf)++AJ)+ByteArray.size Ay<=9223372036854775807)) then aM N (length x.2.2.2.2.2:Int) (λ(Hs:ByteArray)=> bif (decide (ByteArray.size (((ja++uf)++AJ)++Ay)+ByteArray.size Hs<=9223372036854775807)) then bif (decide (ByteArray.size ((((ja++uf)++AJ)++Ay)++Hs)+ByteArray.size Hg<=9223372036854775807)) then aM N x.2.2.2.1 (λ(SH:ByteArray)=> bif (decide (ByteArray.size (((((ja++uf)++AJ)++Ay)++Hs)++Hg)+ByteArray.size SH<=9223372036854775807)) then bif (decide ((length bg+length [((((((ja++uf)++AJ)++Ay)++Hs)++Hg)++SH)])*1<=4398046511104)) then next (bg++[((((((ja++uf)++AJ)++Ay)++Hs)++Hg)++SH)]) else none else none) else none else none) else none else none) else none)) (λ(bg:(List ByteArray))=> ID bg) bR 0 bg:=by
 exact gp (f:=λn bg i=>eM N bR (length bR:Int) n ID bg i) (l:=bR) (λn i bg h=>by
  simp only[eM]
  rw[decide_eq_true (show(i:Int)<(length bR:Int) by omega)]
  simp only[cond_true,ai h,toNat_natCast,af _ i h]) (λn bg=>by
  simp only[eM]
  rw[decide_eq_false (by omega)]
  simp only[cond_false]) hl bR 0 n bg rfl (by omega) hn
theorem GF {N:Nat} {cO:(List Int)} {cE:(List bE)} {pv:(List ByteArray)->Option aa} {fZ:(List ByteArray)} (hl:(length cE)<=maxLen) {n:Nat} (hn:(length cE)<n):dd N cO cE (length cE:Int) n pv fZ (0:Int)= dV (λ(i:Nat) (x:bE) (fZ:(List ByteArray)) (next:(List ByteArray)->Option aa)=> bif (decide ((i:Int)<(length cO:Int))) then bif (aD (i:Int) (length cO)) then aM N (getD cO (toNat (i:Int)) (0:Int)) (λ(My:ByteArray)=> aM N x.1 (λ(py:ByteArray)=> bif (decide (ByteArray.size py+ByteArray.size oc<=9223372036854775807)) then aM N x.2 (λ(nO:ByteArray)=> bif (decide (ByteArray.size (py++oc)+ByteArray.size nO<=9223372036854775807)) then bif (decide (ByteArray.size ((py++oc)++nO)+ByteArray.size Az<=9223372036854775807)) then bif (decide (ByteArray.size (((py++oc)++nO)++Az)+ByteArray.size My<=9223372036854775807)) then bif (decide ((length fZ+length [((((py++oc)++nO)++Az)++My)])*1<=4398046511104)) then next (fZ++[((((py++oc)++nO)++Az)++My)]) else none else none else none else none) else none)) else none else aM N x.1 (λ(py:ByteArray)=> bif (decide (ByteArray.size py+ByteArray.size oc<=9223372036854775807)) then aM N x.2 (λ(nO:ByteArray)=> bif (decide (ByteArray.size (py++oc)+ByteArray.size nO<=9223372036854775807)) then bif (decide (ByteArray.size ((py++oc)++nO)+ByteArray.size Az<=9223372036854775807)) then bif (decide (ByteArray.size (((py++oc)++nO)++Az)+ByteArray.size PY<=9223372036854775807)) then bif (decide ((length fZ+length [((((py++oc)++nO)++Az)++PY)])*1<=4398046511104)) then next (fZ++[((((py++oc)++nO)++Az)++PY)]) else none else none else none else none) else none)) (λ(fZ:(List ByteArray))=> pv fZ) cE 0 fZ:=by
 exact gp (f:=λn fZ i=>dd N cO cE (length cE:Int) n pv fZ i) (l:=cE) (λn i fZ h=>by
  simp only[dd,my]
  rw[decide_eq_true (show(i:Int)<(length cE:Int) by omega)]
  simp only[cond_true,ai h,toNat_natCast,af _ i h]) (λn fZ=>by
  simp only[dd,my]
  rw[decide_eq_false (by omega)]
  simp only[cond_false]) hl cE 0 n fZ rfl (by omega) hn
theorem GG {ae:(List Int)} {aj:(List Int)} {iK:Option aa} {iL:Bool->Option aa} (hl:(length ae)<=maxLen) {n:Nat} (hn:(length ae)<n):eN ae aj (length ae:Int) n iK iL (0:Int)= ud (λ(i:Nat) (x:Int) (next:Option aa)=> bif (aD (i:Int) (length aj)) then bif (x != (getD aj (toNat (i:Int)) (0:Int))) then iL false else next else none) ( iK) ae 0:=by
 exact cN (f:=λn i=>eN ae aj (length ae:Int) n iK iL i) (l:=ae) (λn i h=>by
  simp only[eN]
  rw[decide_eq_true (show(i:Int)<(length ae:Int) by omega)]
  simp only[cond_true,ai h,toNat_natCast,af _ i h]) (λn=>by
  simp only[eN]
  rw[decide_eq_false (by omega)]
  simp only[cond_false]) hl ae 0 n rfl (by omega) hn
theorem Jg {N:Nat} {Sr:QT} {Mu:(List QT)} {GB:Int} {ad6:Int} {B3:(List Int)} {IE:Option aa} {IF:Bool->Option aa} (hl:(length B3)<=maxLen) {n:Nat} (hn:(length B3)<n):eV N Sr Mu GB ad6 B3 (length B3:Int) n IE IF (0:Int)= ud (λ(i:Nat) (x:Int) (next:Option aa)=> kM N Sr.2.2.2.2.2 x (λ(ach:Int)=> bif (decide (ach>(1:Int))) then IF false else next)) ( IE) B3 0:=by
 exact cN (f:=λn i=>eV N Sr Mu GB ad6 B3 (length B3:Int) n IE IF i) (l:=B3) (λn i h=>by
  simp only[eV]
  rw[decide_eq_true (show(i:Int)<(length B3:Int) by omega)]
  simp only[cond_true,ai h,toNat_natCast,af _ i h]) (λn=>by
  simp only[eV]
  rw[decide_eq_false (by omega)]
  simp only[cond_false]) hl B3 0 n rfl (by omega) hn
theorem Jh {N:Nat} {Fu:(List QT)} {IG:Option aa} {IH:Bool->Option aa} (hl:(length Fu)<=maxLen) {n:Nat} (hn:(length Fu)<n):gM N Fu (length Fu:Int) n IG IH (0:Int)= ud (λ(i:Nat) (x:QT) (next:Option aa)=> eV N x Fu (length Fu:Int) (i:Int) x.2.2.2.2.2 (length x.2.2.2.2.2:Int) N next IH (0:Int)) ( IG) Fu 0:=by
 exact cN (f:=λn i=>gM N Fu (length Fu:Int) n IG IH i) (l:=Fu) (λn i h=>by
  simp only[gM]
  rw[decide_eq_true (show(i:Int)<(length Fu:Int) by omega)]
  simp only[cond_true,ai h,toNat_natCast,af _ i h]) (λn=>by
  simp only[gM]
  rw[decide_eq_false (by omega)]
  simp only[cond_false]) hl Fu 0 n rfl (by omega) hn
theorem GH {N:Nat} {cO:QC} {bR:(List bE)} {Fp:Option aa} {uG:Bool->Option aa} (hl:(length bR)<=maxLen) {n:Nat} (hn:(length bR)<n):eO N cO bR (length bR:Int) n Fp uG (0:Int)= ud (λ(i:Nat) (x:bE) (next:Option aa)=> bif (decide ((i:Int)≥(length cO.2.2.2.1:Int))) then uG false else bif (aD (i:Int) (length cO.2.2.2.1)) then j8 N cO.2.1 (getD cO.2.2.2.1 (toNat (i:Int)) (0:Int)) (λ(SI:Int)=> bif (decide (SI<(0:Int))) then uG false else bif (aD SI (length cO.2.1)) then kn N cO.1 (getD cO.2.1 (toNat SI) dY) x (λ(Mp:Bool)=> bif (!Mp) then uG false else next) else none) else none) ( Fp) bR 0:=by
 exact cN (f:=λn i=>eO N cO bR (length bR:Int) n Fp uG i) (l:=bR) (λn i h=>by
  simp only[eO]
  rw[decide_eq_true (show(i:Int)<(length bR:Int) by omega)]
  simp only[cond_true,ai h,toNat_natCast,af _ i h]) (λn=>by
  simp only[eO]
  rw[decide_eq_false (by omega)]
  simp only[cond_false]) hl bR 0 n rfl (by omega) hn
theorem Ji {aj:QC} {lG:(List QL)} {bz:Int->Option aa} {nQ:Int} (hl:(length lG)<=maxLen) {n:Nat} (hn:(length lG)<n):eW aj lG (length lG:Int) n bz nQ (0:Int)= dV (λ(i:Nat) (x:QL) (nQ:Int) (next:Int->Option aa)=> bif (x.2.1==(4:Int)) then next (wrap .i64 (nQ - (1:Int))) else next nQ) (λ(nQ:Int)=> bz nQ) lG 0 nQ:=by
 exact gp (f:=λn nQ i=>eW aj lG (length lG:Int) n bz nQ i) (l:=lG) (λn i nQ h=>by
  simp only[eW]
  rw[decide_eq_true (show(i:Int)<(length lG:Int) by omega)]
  simp only[cond_true,ai h,toNat_natCast,af _ i h]) (λn nQ=>by
  simp only[eW]
  rw[decide_eq_false (by omega)]
  simp only[cond_false]) hl lG 0 n nQ rfl (by omega) hn
theorem Jj {cO:QC} {Ft:(List QT)} {bz:Int->Int->Int->Option aa} {ao:Int} {bV:Int} {mn:Int} (hl:(length Ft)<=maxLen) {n:Nat} (hn:(length Ft)<n):gN cO Ft (length Ft:Int) n bz ao bV mn (0:Int)= aft (λ(i:Nat) (x:QT) (ao:Int) (bV:Int) (mn:Int) (next:Int->Int->Int->Option aa)=> next (wrap .i64 (ao+x.2.2.1)) (wrap .i64 (bV+x.2.2.2.2.1)) (wrap .i64 (mn+(length x.2.2.2.2.2:Int)))) (λ(ao:Int) (bV:Int) (mn:Int)=> bz ao bV mn) Ft 0 ao bV mn:=by
 exact ahF (f:=λn ao bV mn i=>gN cO Ft (length Ft:Int) n bz ao bV mn i) (l:=Ft) (λn i ao bV mn h=>by
  simp only[gN]
  rw[decide_eq_true (show(i:Int)<(length Ft:Int) by omega)]
  simp only[cond_true,ai h,toNat_natCast,af _ i h]) (λn ao bV mn=>by
  simp only[gN]
  rw[decide_eq_false (by omega)]
  simp only[cond_false]) hl Ft 0 n ao bV mn rfl (by omega) hn
theorem mY {N:Nat} {cO:(List QT)} {lH:(List QT)} {fi:Option aa} {kN:Bool->Option aa} (hl:(length lH)<=maxLen) {n:Nat} (hn:(length lH)<n):aP N cO lH (length lH:Int) n fi kN (0:Int)= ud (λ(i:Nat) (x:QT) (next:Option aa)=> bif (aD (i:Int) (length cO)) then pB N x (getD cO (toNat (i:Int)) an) (λ(SK:Bool)=> bif (!SK) then kN false else next) else none) ( fi) lH 0:=by
 exact cN (f:=λn i=>aP N cO lH (length lH:Int) n fi kN i) (l:=lH) (λn i h=>by
  simp only[aP]
  rw[decide_eq_true (show(i:Int)<(length lH:Int) by omega)]
  simp only[cond_true,ai h,toNat_natCast,af _ i h]) (λn=>by
  simp only[aP]
  rw[decide_eq_false (by omega)]
  simp only[cond_false]) hl lH 0 n rfl (by omega) hn
theorem mo {N:Nat} {cO:(List QJ)} {lH:(List QJ)} {fi:Option aa} {kN:Bool->Option aa} (hl:(length lH)<=maxLen) {n:Nat} (hn:(length lH)<n):aK N cO lH (length lH:Int) n fi kN (0:Int)= ud (λ(i:Nat) (x:QJ) (next:Option aa)=> bif (aD (i:Int) (length cO)) then pC N x (getD cO (toNat (i:Int)) dY) (λ(SK:Bool)=> bif (!SK) then kN false else next) else none) ( fi) lH 0:=by
 exact cN (f:=λn i=>aK N cO lH (length lH:Int) n fi kN i) (l:=lH) (λn i h=>by
  simp only[aK]
  rw[decide_eq_true (show(i:Int)<(length lH:Int) by omega)]
  simp only[cond_true,ai h,toNat_natCast,af _ i h]) (λn=>by
  simp only[aK]
  rw[decide_eq_false (by omega)]
  simp only[cond_false]) hl lH 0 n rfl (by omega) hn
theorem Fx {ae:(List bE)} {aj:(List bE)} {iK:Option aa} {iL:Bool->Option aa} (hl:(length ae)<=maxLen) {n:Nat} (hn:(length ae)<n):dO ae aj (length ae:Int) n iK iL (0:Int)= ud (λ(i:Nat) (x:bE) (next:Option aa)=> bif (aD (i:Int) (length aj)) then bif (!((decide ((x.1:Int)=(getD aj (toNat (i:Int)) ff).1))&&(decide ((x.2:Int)=(getD aj (toNat (i:Int)) ff).2)))) then iL false else next else none) ( iK) ae 0:=by
 exact cN (f:=λn i=>dO ae aj (length ae:Int) n iK iL i) (l:=ae) (λn i h=>by
  simp only[dO]
  rw[decide_eq_true (show(i:Int)<(length ae:Int) by omega)]
  simp only[cond_true,ai h,toNat_natCast,af _ i h]) (λn=>by
  simp only[dO]
  rw[decide_eq_false (by omega)]
  simp only[cond_false]) hl ae 0 n rfl (by omega) hn
theorem CT {ae:(List QB)} {aj:(List QB)} {iK:Option aa} {iL:Bool->Option aa} (hl:(length ae)<=maxLen) {n:Nat} (hn:(length ae)<n):cT ae aj (length ae:Int) n iK iL (0:Int)= ud (λ(i:Nat) (x:QB) (next:Option aa)=> bif (aD (i:Int) (length aj)) then bif (!((decide ((x.1:Int)=(getD aj (toNat (i:Int)) oO).1))&&((decide ((x.2.1:Int)=(getD aj (toNat (i:Int)) oO).2.1))&&(decide ((x.2.2:Int)=(getD aj (toNat (i:Int)) oO).2.2))))) then iL false else next else none) ( iK) ae 0:=by
 exact cN (f:=λn i=>cT ae aj (length ae:Int) n iK iL i) (l:=ae) (λn i h=>by
  simp only[cT]
  rw[decide_eq_true (show(i:Int)<(length ae:Int) by omega)]
  simp only[cond_true,ai h,toNat_natCast,af _ i h]) (λn=>by
  simp only[cT]
  rw[decide_eq_false (by omega)]
  simp only[cond_false]) hl ae 0 n rfl (by omega) hn
theorem Fy {ae:(List QL)} {aj:(List QL)} {iK:Option aa} {iL:Bool->Option aa} (hl:(length ae)<=maxLen) {n:Nat} (hn:(length ae)<n):dP ae aj (length ae:Int) n iK iL (0:Int)= ud (λ(i:Nat) (x:QL) (next:Option aa)=> bif (aD (i:Int) (length aj)) then bif (!((decide ((x.1:Int)=(getD aj (toNat (i:Int)) Od).1))&&((decide ((x.2.1:Int)=(getD aj (toNat (i:Int)) Od).2.1))&&((decide ((x.2.2.1:Int)=(getD aj (toNat (i:Int)) Od).2.2.1))&&(decide ((x.2.2.2:Int)=(getD aj (toNat (i:Int)) Od).2.2.2)))))) then iL false else next else none) ( iK) ae 0:=by
 exact cN (f:=λn i=>dP ae aj (length ae:Int) n iK iL i) (l:=ae) (λn i h=>by
  simp only[dP]
  rw[decide_eq_true (show(i:Int)<(length ae:Int) by omega)]
  simp only[cond_true,ai h,toNat_natCast,af _ i h]) (λn=>by
  simp only[dP]
  rw[decide_eq_false (by omega)]
  simp only[cond_false]) hl ae 0 n rfl (by omega) hn
theorem HC {N:Nat} {B4:(List ByteArray)} {II:(List ByteArray)->Option aa} {mn:QC} {sD:(List ByteArray)} (hl:(length B4)<=maxLen) {n:Nat} (hn:(length B4)<n):fP N B4 (length B4:Int) n II mn sD (0:Int)= WK (λ(i:Nat) (x:ByteArray) (mn:QC) (sD:(List ByteArray)) (next:QC->(List ByteArray)->Option aa)=> bA N mn x (λ(ack:QC) (SL:ByteArray)=> bif (decide ((length sD+length [SL])*1<=4398046511104)) then next ack (sD++[SL]) else none)) (λ(mn:QC) (sD:(List ByteArray))=> II sD) B4 0 mn sD:=by
 exact abJ (f:=λn mn sD i=>fP N B4 (length B4:Int) n II mn sD i) (l:=B4) (λn i mn sD h=>by
  simp only[fP]
  rw[decide_eq_true (show(i:Int)<(length B4:Int) by omega)]
  simp only[cond_true,ai h,toNat_natCast,af _ i h]) (λn mn sD=>by
  simp only[fP]
  rw[decide_eq_false (by omega)]
  simp only[cond_false]) hl B4 0 n mn sD rfl (by omega) hn
theorem ak' {N:Nat} {ak8:(List Int)} {AA:QC} {B5:(List ByteArray)} {IJ:Option aa} {B6:Bool->Option aa} (hl:(length B5)<=maxLen) {n:Nat} (hn:(length B5)<n):J1 N ak8 AA B5 (length B5:Int) n IJ B6 (0:Int)= ud (λ(i:Nat) (x:ByteArray) (next:Option aa)=> bA N AA x (λ(acn:QC) (aco:ByteArray)=> fv N AA acn (λ(acp:Bool)=> bif (!acp) then B6 false else bif (ByteArray.toList aco==ByteArray.toList EY) then B6 false else next))) ( IJ) B5 0:=by
 exact cN (f:=λn i=>J1 N ak8 AA B5 (length B5:Int) n IJ B6 i) (l:=B5) (λn i h=>by
  simp only[J1]
  rw[decide_eq_true (show(i:Int)<(length B5:Int) by omega)]
  simp only[cond_true,ai h,toNat_natCast,af _ i h]) (λn=>by
  simp only[J1]
  rw[decide_eq_false (by omega)]
  simp only[cond_false]) hl B5 0 n rfl (by omega) hn
end Go.Pv.R
