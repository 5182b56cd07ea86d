/- Functions of the library (Spl): what is told of them holds. -/
import Derived.Test.YtpcoilhcgcpjmaaGreatDoorItoa
import Derived.Shelf.Strings.Split
import Derived.Shelf.Strings.Cut
set_option linter.unusedSimpArgs false
set_option linter.unusedVariables false
namespace Go.Pv
open List Int IntKind
open Go.Shelf Go.RowKit Go.Proofs
variable {Γ:Gl} {P:Program} {ρ:Ren}
theorem index_one (s:List UInt8) (c:UInt8):Lib.index s [c]=Lib.indexByte s c:=by
 induction s with
 |nil=>rfl
 |cons b l ih=>
 unfold Lib.index Lib.indexByte;rw[ih];simp only[List.isPrefixOf,cM];have e:(c==b)=(b==c):=by apply b7.2;simp only[bP];exact⟨λh=>h.symm,λh=>h.symm⟩
 rw[e]
set_option maxHeartbeats 1000000 in
theorem apf (L:Lays.n146 P ρ) (hi9:(P.info? (ρ.t 9)).map (λi=>(i.zero,i.size,i.bytes))=some (some (.string ByteArray.empty),1,16)) (s:ByteArray) (c:UInt8) (w:World) (hs:s.size<4294967281): Calls P (ρ.f 146) #[.string s,.string ⟨#[c]⟩] w λe w'=> e=.returned (.slice (some ⟨w.heap.size,0,none⟩) (Lib.countB s ⟨#[c]⟩+1) (Lib.countB s ⟨#[c]⟩+1))/\w'=w.alloc (.cells ((Lib.splitB ⟨#[c]⟩ 0 (Lib.countB s ⟨#[c]⟩) s).map Value.string).toArray (ρ.t 9)):=by
 have h1:1<=(⟨#[c]⟩:ByteArray).size:=aM _;have hle:=Lib.countB_le ⟨#[c]⟩ h1 s.size s (aM _);have hlen:=Lib.splitB_all ⟨#[c]⟩ h1 0 _ s rfl;have c0:=Any.strings_genSplit_core (P:=P) (ρ:=ρ) { L with } hi9 s ⟨#[c]⟩ 0 (-1) (Lib.countB s ⟨#[c]⟩+1) w hs h1 (fL _)
  (λx cc hx=>(Any.strings_Index_one { L with } x c _).mono λe w' ⟨he,hw⟩=>⟨by rw[he];show _=Ending.returned (Value.int .i64 (Lib.index x.data.toList [c]));rw[index_one],hw⟩)
  ((Any.strings_Count_one { L with } s c w).mono λe w' ⟨he,hw⟩=>⟨by rw[he];show _=Ending.returned (Value.int .i64 ((Lib.count s.data.toList [c]:Nat):Int));rw[Lib.count_one];rfl,hw⟩)
  (by decide) (by decide) (by rw[ay (by decide)];omega)
 rw[pn,hlen] at c0;have e2:Lib.cellsOf (Lib.splitB ⟨#[c]⟩ 0 (Lib.countB s ⟨#[c]⟩) s) (Lib.countB s ⟨#[c]⟩+1)=((Lib.splitB ⟨#[c]⟩ 0 (Lib.countB s ⟨#[c]⟩) s).map Value.string).toArray:=by rw[←hlen];exact Lib.cellsOf_full _
 rw[e2] at c0;have t3:=L.t3;have t9:=L.t9;have t31:=L.t31;have a3:=L.a3;have a9:=L.a9;have a31:=L.a31;have z3:=L.z3;have v3:=L.v3;have z9:=L.z9;have v9:=L.v9;have z31:=L.z31;have v31:=L.v31;have aEd:∀ args w,(callFunc (ρ.f 221) args).run P w=.ok (.enter (ρ.f 221) args) w:=oT L.f221 (by kernel_rfl) rfl;go_enter L.f146,Body.n146_ntmps ρ;go_wp2_with (go_at_fn (ρ.f 221);refine c0.mono ?_;rintro e w' ⟨rfl,hw⟩;rw[hw]);go_ret;exact⟨rfl,rfl⟩
set_option maxHeartbeats 4000000 in
set_option maxRecDepth 100000 in
theorem aju (L:Lays.n146 P ρ) (hi9:(P.info? (ρ.t 9)).map (λi=>(i.zero,i.size,i.bytes))=some (some (.string ByteArray.empty),1,16)):Sound Γ P (ρ.f 146) (c9 [.v .str .k,.v .str .k] λx kf=>bif Nat.blt (ByteArray.size x.1) 4294967281&&Nat.beq (ByteArray.size x.2.1) 1 then kf ⟨[⟨.sl .str,.k,Bd x.1 x.2.1⟩],[]⟩ else none):=by
 refine⟨?_,λal=>?_⟩
 rotate_left
 ·unfold c9
  split
  ·exact ja.bif _ (ja.pure _) ja.none
  ·exact ja.none
 intro args kf ret w σ fe H B hr lT
 unfold c9 at hr
 split at hr
 case h_2=>cases hr
 rename_i x hx
 have:=uK _ args hx
 subst this
 rcases x with⟨(s:ByteArray),(sep:ByteArray),u⟩
 simp only[jD] at lT hr
 cases hc:(Nat.blt (ByteArray.size s) 4294967281&&Nat.beq (ByteArray.size sep) 1) with
 |false=>rw[hc] at hr;cases hr
 |true=>
 rw[hc] at hr
 simp only[ab] at hr
 rw[ai,yU] at hc
 obtain⟨c,rfl⟩:=Lib.one_byte sep (aw hc.2)
 obtain rfl:=acU lT.len (arg_str lT rfl) (arg_str lT rfl)
 refine .inl ⟨oT L.f146 (by kernel_rfl) rfl _ w,(apf L hi9 s c w hc.1).mono λen w' he=>?_⟩
 obtain⟨rfl,rfl⟩:=he
 have hlen:(Bd s ⟨#[c]⟩).length=Lib.countB s ⟨#[c]⟩+1:=Lib.splitB_all ⟨#[c]⟩ (aM _) 0 _ s rfl
 have hle:=Lib.countB_le ⟨#[c]⟩ (aM _) s.size s (aM _)
 have hmx:maxLen=9223372036854775807:=rfl
 obtain⟨o,ho⟩:∃ o,o=Obj.cells ((Bd s ⟨#[c]⟩).map Value.string).toArray (ρ.t 9):=⟨_,rfl⟩
 have ho':Obj.cells ((Lib.splitB ⟨#[c]⟩ 0 (Lib.countB s ⟨#[c]⟩) s).map Value.string).toArray (ρ.t 9)=o:=ho.symm
 rw[ho',←hlen]
 refine⟨_,hr,⟨rfl,rfl,rfl,by simp,λg' dH _=>heap_alloc_old w o dH⟩,λ_=>none,[.slice (some ⟨w.heap.size,0,none⟩) (Bd s ⟨#[c]⟩).length (Bd s ⟨#[c]⟩).length],rfl,rfl,λg' i hg=>(by cases hg),λi b hb=>?_,λd hd=>(by cases hd)⟩
 cases i with
 |succ i=>simp at hb
 |zero=>
  simp only[aD,ah] at hb
  subst hb
  refine⟨_,[.slice (some ⟨w.heap.size,0,none⟩) (Bd s ⟨#[c]⟩).length (Bd s ⟨#[c]⟩).length],rfl,by simp[a6,isAgg],?_⟩
  simp only[M]
  refine .inr (.inl ⟨rfl,?_⟩)
  simp only[K]
  refine⟨_,_,rfl,aM _,λ_=>⟨w.heap.size,0,((Bd s ⟨#[c]⟩).map Value.string).toArray,ρ.t 9,(0,0),rfl,λhx=>?_,by rw[ho];exact gW w _,by simp[Ty.size],λj hj=>?_⟩⟩
  ·rcases hx with⟨q,hq⟩ |hz
   ·cases hq
   ·have:=(lT.old _ hz).2
    omega
  ·have hj':j<(Bd s ⟨#[c]⟩).length:=hj
   simp only[Ty.size,nq,aW]
   rw[aT (by simpa using hj')]
   simp
end Go.Pv
