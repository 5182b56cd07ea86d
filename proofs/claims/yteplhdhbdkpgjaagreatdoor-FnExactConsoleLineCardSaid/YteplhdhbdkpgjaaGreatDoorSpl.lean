/- Functions of the library (Spl): what is told of them holds. -/
import Derived.Test.YteplhdhbdkpgjaaGreatDoorItoa
import Derived.Shelf.Strings.Split
import Derived.Shelf.Strings.Cut
set_option linter.unusedSimpArgs false
set_option linter.unusedVariables false
namespace Go.Pv
open List Int IntKind
open Go.Shelf Go.RowKit Go.Proofs
variable {Γ:Gl} {P:Program} {ρ:Ren}
theorem index_one (s:List UInt8) (c:UInt8):Lib.index s [c]=Lib.indexByte s c:=by
 induction s with
 |nil=>rfl
 |cons b l ih=>
 unfold Lib.index Lib.indexByte;rw[ih];simp only[List.isPrefixOf,dd];have e:(c==b)=(b==c):=by apply b9.2;simp only[bY];exact⟨λh=>h.symm,λh=>h.symm⟩
 rw[e]
set_option maxHeartbeats 1000000 in
theorem apL (L:Lays.n146 P ρ) (hi9:(P.info? (ρ.t 9)).map (λi=>(i.zero,i.size,i.bytes))=some (some (.string ByteArray.empty),1,16)) (s:ByteArray) (c:UInt8) (w:World) (hs:s.size<4294967281): Calls P (ρ.f 146) #[.string s,.string ⟨#[c]⟩] w λe w'=> e=.returned (.slice (some ⟨w.heap.size,0,none⟩) (Lib.countB s ⟨#[c]⟩+1) (Lib.countB s ⟨#[c]⟩+1))/\w'=w.alloc (.cells ((Lib.splitB ⟨#[c]⟩ 0 (Lib.countB s ⟨#[c]⟩) s).map Value.string).toArray (ρ.t 9)):=by
 have h1:1<=(⟨#[c]⟩:ByteArray).size:=aR _;have hle:=Lib.countB_le ⟨#[c]⟩ h1 s.size s (aR _);have hlen:=Lib.splitB_all ⟨#[c]⟩ h1 0 _ s rfl;have c0:=Any.strings_genSplit_core (P:=P) (ρ:=ρ) { L with } hi9 s ⟨#[c]⟩ 0 (-1) (Lib.countB s ⟨#[c]⟩+1) w hs h1 (fY _)
  (λx cc hx=>(Any.strings_Index_one { L with } x c _).mono λe w' ⟨he,hw⟩=>⟨by rw[he];show _=Ending.returned (Value.int .i64 (Lib.index x.data.toList [c]));rw[index_one],hw⟩)
  ((Any.strings_Count_one { L with } s c w).mono λe w' ⟨he,hw⟩=>⟨by rw[he];show _=Ending.returned (Value.int .i64 ((Lib.count s.data.toList [c]:Nat):Int));rw[Lib.count_one];rfl,hw⟩)
  (by decide) (by decide) (by rw[aA (by decide)];omega)
 rw[pF,hlen] at c0;have e2:Lib.cellsOf (Lib.splitB ⟨#[c]⟩ 0 (Lib.countB s ⟨#[c]⟩) s) (Lib.countB s ⟨#[c]⟩+1)=((Lib.splitB ⟨#[c]⟩ 0 (Lib.countB s ⟨#[c]⟩) s).map Value.string).toArray:=by rw[←hlen];exact Lib.cellsOf_full _
 rw[e2] at c0;have t3:=L.t3;have t9:=L.t9;have t31:=L.t31;have a3:=L.a3;have a9:=L.a9;have a31:=L.a31;have z3:=L.z3;have v3:=L.v3;have z9:=L.z9;have v9:=L.v9;have z31:=L.z31;have v31:=L.v31;have aES:∀ args w,(callFunc (ρ.f 221) args).run P w=.ok (.enter (ρ.f 221) args) w:=pj L.f221 (by kernel_rfl) rfl;go_enter L.f146,Body.n146_ntmps ρ;go_wp2_with (go_at_fn (ρ.f 221);refine c0.mono ?_;rintro e w' ⟨rfl,hw⟩;rw[hw]);go_ret;exact⟨rfl,rfl⟩
set_option maxHeartbeats 4000000 in
set_option maxRecDepth 100000 in
theorem akb (L:Lays.n146 P ρ) (hi9:(P.info? (ρ.t 9)).map (λi=>(i.zero,i.size,i.bytes))=some (some (.string ByteArray.empty),1,16)):Sound Γ P (ρ.f 146) (cX [.v .str .k,.v .str .k] λx kf=>bif Nat.blt (ByteArray.size x.1) 4294967281&&Nat.beq (ByteArray.size x.2.1) 1 then kf ⟨[⟨.sl .str,.k,D' x.1 x.2.1⟩],[]⟩ else none):=by
 refine⟨?_,λal=>?_⟩
 rotate_left
 ·unfold cX
  split
  ·exact jk.bif _ (jk.pure _) jk.none
  ·exact jk.none
 intro args kf ret w σ fC H B hr mI
 unfold cX at hr
 split at hr
 case h_2=>cases hr
 rename_i x hx
 have:=uM _ args hx
 subst this
 rcases x with⟨(s:ByteArray),(sep:ByteArray),u⟩
 simp only[iS] at mI hr
 cases hc:(Nat.blt (ByteArray.size s) 4294967281&&Nat.beq (ByteArray.size sep) 1) with
 |false=>rw[hc] at hr;cases hr
 |true=>
 rw[hc] at hr
 simp only[ab] at hr
 rw[ai,Nat.blt_eq] at hc
 obtain⟨c,rfl⟩:=Lib.one_byte sep (aw hc.2)
 obtain rfl:=ade mI.len (arg_str mI rfl) (arg_str mI rfl)
 refine .inl ⟨pj L.f146 (by kernel_rfl) rfl _ w,(apL L hi9 s c w hc.1).mono λen w' he=>?_⟩
 obtain⟨rfl,rfl⟩:=he
 have hlen:(D' s ⟨#[c]⟩).length=Lib.countB s ⟨#[c]⟩+1:=Lib.splitB_all ⟨#[c]⟩ (aR _) 0 _ s rfl
 have hle:=Lib.countB_le ⟨#[c]⟩ (aR _) s.size s (aR _)
 have hmx:maxLen=9223372036854775807:=rfl
 obtain⟨o,ho⟩:∃ o,o=Obj.cells ((D' s ⟨#[c]⟩).map Value.string).toArray (ρ.t 9):=⟨_,rfl⟩
 have ho':Obj.cells ((Lib.splitB ⟨#[c]⟩ 0 (Lib.countB s ⟨#[c]⟩) s).map Value.string).toArray (ρ.t 9)=o:=ho.symm
 rw[ho',←hlen]
 refine⟨_,hr,⟨rfl,rfl,rfl,by simp,λg' dU _=>heap_alloc_old w o dU⟩,λ_=>none,[.slice (some ⟨w.heap.size,0,none⟩) (D' s ⟨#[c]⟩).length (D' s ⟨#[c]⟩).length],rfl,rfl,λg' i hg=>(by cases hg),λi b hb=>?_,λd hd=>(by cases hd)⟩
 cases i with
 |succ i=>simp at hb
 |zero=>
  simp only[aE,ah] at hb
  subst hb
  refine⟨_,[.slice (some ⟨w.heap.size,0,none⟩) (D' s ⟨#[c]⟩).length (D' s ⟨#[c]⟩).length],rfl,by simp[a7,isAgg],?_⟩
  simp only[M]
  refine .inr (.inl ⟨rfl,?_⟩)
  simp only[K]
  refine⟨_,_,rfl,aR _,λ_=>⟨w.heap.size,0,((D' s ⟨#[c]⟩).map Value.string).toArray,ρ.t 9,(0,0),rfl,λhx=>?_,by rw[ho];exact ia w _,by simp[Ty.size],λj hj=>?_⟩⟩
  ·rcases hx with⟨q,hq⟩ |hz
   ·cases hq
   ·have:=(mI.old _ hz).2
    omega
  ·have hj':j<(D' s ⟨#[c]⟩).length:=hj
   simp only[Ty.size,nm,aW]
   rw[aY (by simpa using hj')]
   simp
end Go.Pv
