/- Functions of the library (Spl): what is told of them holds. -/
import Derived.Test.YtafpcididdbipaaGreatDoorItoa
import Derived.Shelf.Strings.Split
import Derived.Shelf.Strings.Cut
set_option linter.unusedSimpArgs false
set_option linter.unusedVariables false
namespace Go.Pv
open List Int IntKind
open Go.Shelf Go.RowKit Go.Proofs
variable {Γ:Gl} {P:Program} {ρ:Ren}
theorem index_one (s:List UInt8) (c:UInt8):Lib.index s [c]=Lib.indexByte s c:=by
 induction s with
 |nil=>rfl
 |cons b l ih=>
 unfold Lib.index Lib.indexByte;rw[ih];simp only[List.isPrefixOf,Bool.and_true];have e:(c==b)=(b==c):=by apply Bool.eq_iff_iff.2;simp only[beq_iff_eq];exact⟨λh=>h.symm,λh=>h.symm⟩
 rw[e]
set_option maxHeartbeats 1000000 in
theorem afZ (L:Lays.n146 P ρ) (hi9:(P.info? (ρ.t 9)).map (λi=>(i.zero,i.size,i.bytes))=some (some (.string ByteArray.empty),1,16)) (s:ByteArray) (c:UInt8) (w:World) (hs:s.size<4294967281): Calls P (ρ.f 146) #[.string s,.string ⟨#[c]⟩] w λe w'=> e=.returned (.slice (some ⟨w.heap.size,0,none⟩) (Lib.countB s ⟨#[c]⟩+1) (Lib.countB s ⟨#[c]⟩+1))/\w'=w.alloc (.cells ((Lib.splitB ⟨#[c]⟩ 0 (Lib.countB s ⟨#[c]⟩) s).map Value.string).toArray (ρ.t 9)):=by
 have h1:1<=(⟨#[c]⟩:ByteArray).size:=Nat.le_refl _;have hle:=Lib.countB_le ⟨#[c]⟩ h1 s.size s (Nat.le_refl _);have hlen:=Lib.splitB_all ⟨#[c]⟩ h1 0 _ s rfl;have c0:=Any.strings_genSplit_core (P:=P) (ρ:=ρ) { L with } hi9 s ⟨#[c]⟩ 0 (-1) (Lib.countB s ⟨#[c]⟩+1) w hs h1 (Nat.zero_le _)
  (λx cc hx=>(Any.strings_Index_one { L with } x c _).mono λe w' ⟨he,hw⟩=>⟨by rw[he];show _=Ending.returned (Value.int .i64 (Lib.index x.data.toList [c]));rw[index_one],hw⟩)
  ((Any.strings_Count_one { L with } s c w).mono λe w' ⟨he,hw⟩=>⟨by rw[he];show _=Ending.returned (Value.int .i64 ((Lib.count s.data.toList [c]:Nat):Int));rw[Lib.count_one];rfl,hw⟩)
  (by decide) (by decide) (by rw[if_pos (by decide)];omega)
 rw[Nat.add_sub_cancel,hlen] at c0;have e2:Lib.cellsOf (Lib.splitB ⟨#[c]⟩ 0 (Lib.countB s ⟨#[c]⟩) s) (Lib.countB s ⟨#[c]⟩+1)=((Lib.splitB ⟨#[c]⟩ 0 (Lib.countB s ⟨#[c]⟩) s).map Value.string).toArray:=by rw[←hlen];exact Lib.cellsOf_full _
 rw[e2] at c0;have t3:=L.t3;have t9:=L.t9;have t31:=L.t31;have a3:=L.a3;have a9:=L.a9;have a31:=L.a31;have z3:=L.z3;have v3:=L.v3;have z9:=L.z9;have v9:=L.v9;have z31:=L.z31;have v31:=L.v31;have atX:∀ args w,(callFunc (ρ.f 221) args).run P w=.ok (.enter (ρ.f 221) args) w:=enters_of L.f221 (by kernel_rfl) rfl;go_enter L.f146,Body.n146_ntmps ρ;go_wp2_with (go_at_fn (ρ.f 221);refine c0.mono ?_;rintro e w' ⟨rfl,hw⟩;rw[hw]);go_ret;exact⟨rfl,rfl⟩
set_option maxHeartbeats 4000000 in
set_option maxRecDepth 100000 in
theorem ajv (L:Lays.n220 P ρ) (s:ByteArray) (c:UInt8) (w:World) (hs:s.size<4294967281): Calls P (ρ.f 220) #[.string s,.string ⟨#[c]⟩] w λe w'=>e=.returned (.tuple #[.string ⟨(Lib.cut s.data.toList [c]).1.toArray⟩,.string ⟨(Lib.cut s.data.toList [c]).2.1.toArray⟩,.bool (Lib.cut s.data.toList [c]).2.2])/\∃ n,w'=w.drewN n:=by
 have key:∀ w:World,Calls P (ρ.f 219) #[.string s,.string ⟨#[c]⟩] w λe w'=>e=.returned (.int .i64 (Lib.indexB s ⟨#[c]⟩))/\w'=w:=λw=>
  (Any.stringslite_Index_one { L with } s c w).mono λe w' ⟨he,hw⟩=>⟨by rw[he];show _=Ending.returned (Value.int .i64 (Lib.index s.data.toList [c]));rw[index_one],hw⟩
 rcases Lib.indexB_cases s ⟨#[c]⟩ with hix |⟨i,hix,FV⟩
 ·obtain⟨e1,e2,e3⟩:=Lib.cutB_miss s ⟨#[c]⟩ hix;simp only[] at e1 e2 e3;rw[e1,e2,e3];have t3:=L.t3;have t4:=L.t4;have t9:=L.t9;have a3:∀ w,(Go.isAgg (ρ.t 3)).run P w=.ok false w:=run_isAgg_plain L.t3 rfl;have a4:∀ w,(Go.isAgg (ρ.t 4)).run P w=.ok false w:=run_isAgg_plain L.t4 rfl;have a9:∀ w,(Go.isAgg (ρ.t 9)).run P w=.ok false w:=run_isAgg_plain L.t9 rfl;have atz:∀ args w,(callFunc (ρ.f 219) args).run P w=.ok (.enter (ρ.f 219) args) w:=enters_of L.f219 (by kernel_rfl) rfl;have mixed:=L.mixed;have z3:=L.z3;have v3:=L.v3;have z4:=L.z4;have v4:=L.v4;have z9:=L.z9;have v9:=L.v9;go_enter L.f220,Body.n220_ntmps ρ;go_wp2_with (go_at_fn (ρ.f 219);refine(key _).mono ?_;rintro e w' ⟨rfl,rfl⟩;rw[hix]);go_ret3;exact⟨rfl,0,rfl⟩
 obtain⟨e1,e2,e3⟩:=Lib.cutB_hit s ⟨#[c]⟩ i hix;simp only[] at e1 e2 e3;rw[e1,e2,e3];have c1:(0:Int)<=↑i:=by omega
 have c2:(↑i:Int)<=↑s.size:=by omega
 have pL:(⟨#[c]⟩:ByteArray).size=1:=rfl;have c3:(0:Int)<=↑i+1:=by omega
 have c4:(↑i+1:Int)<=↑s.size:=by omega
 have c5:RowKit.wrap64 ((i:Int)+1)=(i:Int)+1:=by unfold RowKit.wrap64;omega
 rw[pL];have t3:=L.t3;have t4:=L.t4;have t9:=L.t9;have a3:∀ w,(Go.isAgg (ρ.t 3)).run P w=.ok false w:=run_isAgg_plain L.t3 rfl;have a4:∀ w,(Go.isAgg (ρ.t 4)).run P w=.ok false w:=run_isAgg_plain L.t4 rfl;have a9:∀ w,(Go.isAgg (ρ.t 9)).run P w=.ok false w:=run_isAgg_plain L.t9 rfl;have atz:∀ args w,(callFunc (ρ.f 219) args).run P w=.ok (.enter (ρ.f 219) args) w:=enters_of L.f219 (by kernel_rfl) rfl;have mixed:=L.mixed;have z3:=L.z3;have v3:=L.v3;have z4:=L.z4;have v4:=L.v4;have z9:=L.z9;have v9:=L.v9;go_enter L.f220,Body.n220_ntmps ρ;go_wp2_with (go_at_fn (ρ.f 219);refine(key _).mono ?_;rintro e w' ⟨rfl,rfl⟩;rw[hix]);go_region_o;go_wp2;go_ret3;exact⟨rfl,1,rfl⟩
set_option maxHeartbeats 1000000 in
theorem alx (L:Lays.n145 P ρ) (s:ByteArray) (c:UInt8) (w:World) (hs:s.size<4294967281): Calls P (ρ.f 145) #[.string s,.string ⟨#[c]⟩] w λe w'=>e=.returned (.tuple #[.string ⟨(Lib.cut s.data.toList [c]).1.toArray⟩,.string ⟨(Lib.cut s.data.toList [c]).2.1.toArray⟩,.bool (Lib.cut s.data.toList [c]).2.2])/\∃ n,w'=w.drewN n:=by have t4:=L.t4;have t9:=L.t9;have t59:=L.t59;have a4:∀ w,(Go.isAgg (ρ.t 4)).run P w=.ok false w:=run_isAgg_plain L.t4 rfl;have a9:∀ w,(Go.isAgg (ρ.t 9)).run P w=.ok false w:=run_isAgg_plain L.t9 rfl;have a59:∀ w,(Go.isAgg (ρ.t 59)).run P w=.ok false w:=run_isAgg_plain L.t59 rfl;have atY:∀ args w,(callFunc (ρ.f 220) args).run P w=.ok (.enter (ρ.f 220) args) w:=enters_of L.f220 (by kernel_rfl) rfl;have mixed:=L.mixed;have z4:=L.z4;have v4:=L.v4;have z9:=L.z9;have v9:=L.v9;have z59:=L.z59;have v59:=L.v59;go_enter L.f145,Body.n145_ntmps ρ;go_wp2_with (go_at_fn (ρ.f 220);refine(ajv { L with } _ _ _ hs).mono ?_;rintro e w' ⟨rfl,n,rfl⟩);go_ret3;exact⟨rfl,n,rfl⟩
theorem apV (L:Lays.n145 P ρ):Sound Γ P (ρ.f 145) (aV [.v .str .k,.v .str .k] λx kf=>bif Nat.blt (ByteArray.size x.1) 4294967281&&Nat.beq (ByteArray.size x.2.1) 1 then kf ⟨[⟨.str,.k,aqx x.1 x.2.1⟩,⟨.str,.k,aqy x.1 x.2.1⟩,⟨.bool,.k,aqz x.1 x.2.1⟩],[]⟩ else none):=by
 refine⟨?_,λal=>?_⟩
 rotate_left
 ·unfold aV
  split
  ·exact dk.bif _ (dk.pure _) dk.none
  ·exact dk.none
 intro args kf ret w σ bT H B hr gl
 unfold aV at hr
 split at hr
 case h_2=>cases hr
 rename_i x hx
 have:=ly _ args hx
 subst this
 rcases x with⟨(s:ByteArray),(sep:ByteArray),u⟩
 simp only[dF] at gl hr
 cases hc:(Nat.blt (ByteArray.size s) 4294967281&&Nat.beq (ByteArray.size sep) 1) with
 |false=>rw[hc] at hr;cases hr
 |true=>
 rw[hc] at hr
 simp only[cond_true] at hr
 rw[Bool.and_eq_true,Nat.blt_eq] at hc
 obtain⟨c,rfl⟩:=Lib.one_byte sep (Nat.eq_of_beq_eq_true hc.2)
 obtain rfl:=Np gl.len (arg_str gl rfl) (arg_str gl rfl)
 refine .inl ⟨enters_of L.f145 (by kernel_rfl) rfl _ w,(alx L s c w hc.1).mono λen w' he=>?_⟩
 obtain⟨rfl,n,rfl⟩:=he
 refine⟨_,hr,IX (vs:=[_,_,_]) ⟨rfl,rfl,rfl,Nat.le_refl _,λ_ _=>rfl⟩ rfl λi b hi=>?_⟩
 match i,hi with
 |0,hi=>simp only[List.getElem?_cons_zero,Option.some.injEq] at hi;subst hi;exact⟨_,rfl,by simp[ah,isAgg],rfl,λA=>by simp[K,aqx]⟩
 |1,hi=>simp only[List.getElem?_cons_succ,List.getElem?_cons_zero,Option.some.injEq] at hi;subst hi;exact⟨_,rfl,by simp[ah,isAgg],rfl,λA=>by simp[K,aqy]⟩
 |2,hi=>simp only[List.getElem?_cons_succ,List.getElem?_cons_zero,Option.some.injEq] at hi;subst hi;exact⟨_,rfl,by simp[ah,isAgg],rfl,λA=>by simp[K,aqz]⟩
 |i+3,hi=>simp at hi
theorem aat (L:Lays.n146 P ρ) (hi9:(P.info? (ρ.t 9)).map (λi=>(i.zero,i.size,i.bytes))=some (some (.string ByteArray.empty),1,16)):Sound Γ P (ρ.f 146) (aV [.v .str .k,.v .str .k] λx kf=>bif Nat.blt (ByteArray.size x.1) 4294967281&&Nat.beq (ByteArray.size x.2.1) 1 then kf ⟨[⟨.sl .str,.k,w9 x.1 x.2.1⟩],[]⟩ else none):=by
 refine⟨?_,λal=>?_⟩
 rotate_left
 ·unfold aV
  split
  ·exact dk.bif _ (dk.pure _) dk.none
  ·exact dk.none
 intro args kf ret w σ bT H B hr gl
 unfold aV at hr
 split at hr
 case h_2=>cases hr
 rename_i x hx
 have:=ly _ args hx
 subst this
 rcases x with⟨(s:ByteArray),(sep:ByteArray),u⟩
 simp only[dF] at gl hr
 cases hc:(Nat.blt (ByteArray.size s) 4294967281&&Nat.beq (ByteArray.size sep) 1) with
 |false=>rw[hc] at hr;cases hr
 |true=>
 rw[hc] at hr
 simp only[cond_true] at hr
 rw[Bool.and_eq_true,Nat.blt_eq] at hc
 obtain⟨c,rfl⟩:=Lib.one_byte sep (Nat.eq_of_beq_eq_true hc.2)
 obtain rfl:=Np gl.len (arg_str gl rfl) (arg_str gl rfl)
 refine .inl ⟨enters_of L.f146 (by kernel_rfl) rfl _ w,(afZ L hi9 s c w hc.1).mono λen w' he=>?_⟩
 obtain⟨rfl,rfl⟩:=he
 have hlen:(w9 s ⟨#[c]⟩).length=Lib.countB s ⟨#[c]⟩+1:=Lib.splitB_all ⟨#[c]⟩ (Nat.le_refl _) 0 _ s rfl
 have hle:=Lib.countB_le ⟨#[c]⟩ (Nat.le_refl _) s.size s (Nat.le_refl _)
 have hmx:maxLen=9223372036854775807:=rfl
 obtain⟨o,ho⟩:∃ o,o=Obj.cells ((w9 s ⟨#[c]⟩).map Value.string).toArray (ρ.t 9):=⟨_,rfl⟩
 have Rh:Obj.cells ((Lib.splitB ⟨#[c]⟩ 0 (Lib.countB s ⟨#[c]⟩) s).map Value.string).toArray (ρ.t 9)=o:=ho.symm
 rw[Rh,←hlen]
 refine⟨_,hr,⟨rfl,rfl,rfl,by simp,λg' bq _=>heap_alloc_old w o bq⟩,λ_=>none,[.slice (some ⟨w.heap.size,0,none⟩) (w9 s ⟨#[c]⟩).length (w9 s ⟨#[c]⟩).length],rfl,rfl,λg' i hg=>(by cases hg),λi b hb=>?_,λd hd=>(by cases hd)⟩
 cases i with
 |succ i=>simp at hb
 |zero=>
  simp only[List.getElem?_cons_zero,Option.some.injEq] at hb
  subst hb
  refine⟨_,[.slice (some ⟨w.heap.size,0,none⟩) (w9 s ⟨#[c]⟩).length (w9 s ⟨#[c]⟩).length],rfl,by simp[ah,isAgg],?_⟩
  simp only[M]
  refine .inr (.inl ⟨rfl,?_⟩)
  simp only[K]
  refine⟨_,_,rfl,Nat.le_refl _,λ_=>⟨w.heap.size,0,((w9 s ⟨#[c]⟩).map Value.string).toArray,ρ.t 9,(0,0),rfl,λhx=>?_,by rw[ho];exact heap_alloc_new w _,by simp[Ty.size],λj hj=>?_⟩⟩
  ·rcases hx with⟨q,hq⟩ |hz
   ·cases hq
   ·have:=(gl.old _ hz).2
    omega
  ·have hj':j<(w9 s ⟨#[c]⟩).length:=hj
   simp only[Ty.size,Nat.mul_one,Nat.zero_add]
   rw[List.drop_eq_getElem_cons (by simpa using hj')]
   simp
end Go.Pv
