/- A verified evaluator of the program's form over pure values, part 0: what it tells of a function holds. -/
import Derived.Calls
import Derived.KernelRfl
import Derived.Laws.AppendOwn
import Derived.Laws.Sem
import Derived.Orders
set_option linter.unusedSimpArgs false
set_option linter.unusedVariables false
noncomputable section
set_option autoImplicit true
set_option relaxedAutoImplicit true
namespace Go.Pv
open List Int IntKind
abbrev fp:= @Array.getD_eq_getD_getElem?
abbrev cz:= @Array.getElem?_eq_some_iff
abbrev mT:= @Array.getElem?_setIfInBounds
abbrev bK:= @Array.getElem?_toList
abbrev bT:= @Array.length_toList
abbrev ai:= @Bool.and_eq_true
abbrev ee:= @Bool.and_false
abbrev dd:= @Bool.and_true
abbrev fE:= @Bool.false_and
abbrev aO:= @List.all_eq_true
abbrev dB:= @List.any_eq_true
abbrev bA:= @List.append_assoc
abbrev b6:= @List.append_nil
abbrev bF:= @List.cons_append
abbrev ef:= @List.drop_drop
abbrev dy:= @List.drop_left
abbrev iL:= @List.drop_take
abbrev dX:= @List.drop_zero
abbrev de:= @List.ext_getElem?
abbrev aF:= @List.getD_eq_getElem?_getD
abbrev dY:= @List.getElem?_append_left
abbrev cL:= @List.getElem?_append_right
abbrev cG:= @List.getElem?_drop
abbrev aU:= @List.getElem?_eq_getElem
abbrev cA:= @List.getElem?_eq_none
abbrev bR:= @List.getElem?_map
abbrev gw:= @List.getElem?_set
abbrev bQ:= @List.getElem?_take
abbrev au:= @List.length_append
abbrev a8:= @List.length_drop
abbrev br:= @List.length_set
abbrev aH:= @List.length_take
abbrev iG:= @List.length_zipWith
abbrev bd:= @List.mem_append
abbrev xy:= @List.mem_flatten
abbrev bL:= @List.mem_iff_getElem
abbrev sV:= @List.mem_iff_getElem?
abbrev dv:= @List.mem_of_getElem?
abbrev b7:= @List.nil_append
abbrev cg:= @List.size_toArray
abbrev ep:= @List.take_append_drop
abbrev eh:= @List.take_left
abbrev cB:= @List.take_of_length_le
abbrev ni:= @List.take_take
abbrev tX:= @List.take_zero
abbrev b5:= @List.toList_toArray
abbrev fv:= @Nat.add_assoc
abbrev bg:= @Nat.add_mul
abbrev aw:= @Nat.eq_of_beq_eq_true
abbrev aR:= @Nat.le_refl
abbrev kM:= @Nat.min_eq_left
abbrev aD:= @Nat.mul_le_mul_right
abbrev cM:= @Nat.one_mul
abbrev aW:= @Nat.zero_add
abbrev aL:= @Option.bind_some
abbrev aS:= @Option.map_some
abbrev ah:= @Option.some.injEq
abbrev ae:= @cond_false
abbrev ab:= @cond_true
abbrev ax:= @decide_eq_true_eq
abbrev c9:= @if_false
abbrev aq:= @if_neg
abbrev aA:= @if_pos
abbrev dF:= @if_true
inductive Ty where
 |int (k:IntKind) |bool |str |sl (t:Ty) |ptr (t:Ty) |pair (a b:Ty) |unit |arr (n:Nat) (t:Ty) |mp
 deriving DecidableEq,Inhabited
@[reducible] def Ty.I:Ty->Type
 | .int _=>Int | .bool=>Bool | .str=>ByteArray | .sl t=>List t.I | .ptr t=>t.I | .pair a b=>a.I×b.I | .unit=>Unit | .arr _ t=>List t.I | .mp=>List (List Int×Bool)
def Ty.size:Ty->Nat
 | .pair a b=>a.size+b.size | .unit=>0 | .arr n t=>n*t.size |_=>1
def Ty.z:(t:Ty)->t.I
 | .int _=>(0:Int) | .bool=>false | .str=>ByteArray.empty | .sl _=>[] | .ptr t=>t.z | .pair a b=>(a.z,b.z) | .unit=>() | .arr n t=>List.replicate n t.z | .mp=>[]
inductive Md where
 |k |o (T:TypeId) (tag:Option Nat) (m:Md) |p (a b:Md)
 deriving DecidableEq,Inhabited
def Md.fu:Md->Bool
 | .k=>true | .o ..=>false | .p a b=>a.fu&&b.fu
inductive Step where
 |deref |fst |snd |idx (i:Nat)
 deriving DecidableEq,Inhabited
abbrev Path:=List Step
def sub (s:Step) (hs:List Path):List Path:=hs.filterMap λp=>match p with
 |s'::r=>if s'=s then some r else none
 |[]=>none
def Mu (k:List Int):Value:=.agg (k.map (Value.int .i64)).toArray
def ZE (k:List Int):Bool:=Nat.beq k.length 2&&k.all λn=>decide (-9223372036854775808<=n)&&decide (n<=9223372036854775807)
def aaQ (es:Array MapEntry) (x:List (List Int×Bool)):Prop:=es.toList.map (λe=>(e.key,e.val))=x.map (λq=>(Mu q.1,Value.bool q.2))/\(x.map (·.1)).Nodup/\∀ q∈x,ZE q.1=true
section
variable (w:World) (Wr:Nat->Prop)
def K:(t:Ty)->t.I->List Value->Prop
 | .int k,n,cs=>cs=[.int k n]
 | .bool,b,cs=>cs=[.bool b]
 | .str,s,cs=>cs=[.string s]
 | .unit,_,cs=>cs=[]
 | .pair a b,x,cs=>∃ c0 c1,cs=c0++c1/\K a x.1 c0/\K b x.2 c1
 | .arr n t,xs,cs=>∃ sr:List (List Value),cs=sr.flatten/\sr.length=n/\xs.length=n/\∀ j (h:j<xs.length) (h':j<sr.length),K t xs[j] sr[j]
 | .mp,x,cs=>∃ g es n,cs=[.map (some g)]/\ ¬Wr g/\w.heap[g]?=some (.map es n)/\aaQ es x
 | .sl t,xs,cs=>∃ A c,cs=[.slice A xs.length c]/\xs.length<=c/\(0<xs.length->∃ g off cur T fr,A=some ⟨g,off,none⟩/\ ¬Wr g/\w.heap[g]?=some (.cells cur T fr)/\off+xs.length*t.size<=cur.size/\∀ j (h:j<xs.length),K t xs[j] ((cur.toList.drop (off+j*t.size)).take t.size))
 | .ptr t,x,cs=>∃ g off cur T fr,cs=[.pointer (some ⟨g,off,none⟩)]/\ ¬Wr g/\w.heap[g]?=some (.cells cur T fr)/\off+t.size<=cur.size/\K t x ((cur.toList.drop off).take t.size)
def M (H:Nat->Value):(t:Ty)->(m:Md)->t.I->List Value->(Nat->Prop)->List Path->Prop
 | .sl t,m,xs,cs,ow,hs=>([]∈hs/\m.fu=false/\∃ A c,cs=[.slice A xs.length c])∨(m.fu=true/\K w Wr (.sl t) xs cs)∨ ∃ T tag me A c,m=.o T tag me/\cs=[.slice A xs.length c]/\xs.length<=c/\(∀ h,tag=some h->H h=.slice A xs.length c)/\ ((xs=[]/\c=0)∨∃ g cur,∃ τ:Nat->Nat,A=some ⟨g,0,none⟩/\ow g/\w.heap[g]?=some (.cells cur T (0,0))/\cur.size=c*t.size/\c<=maxLen/\ ∀ j (h:j<xs.length),M H t me xs[j] ((cur.toList.drop (j*t.size)).take t.size) (λg'=>ow g'/\g'≠g/\τ g'=j) (sub (.idx j) hs))
 | .ptr t,m,x,cs,ow,hs=>([]∈hs/\m.fu=false/\cs.length=1/\∀ u∈cs,u.oneCell'=true)∨(m.fu=true/\K w Wr (.ptr t) x cs)∨ ∃ T tag me g cur,m=.o T tag me/\cs=[.pointer (some ⟨g,0,none⟩)]/\(∀ h,tag=some h->H h=.pointer (some ⟨g,0,none⟩))/\ow g/\w.heap[g]?=some (.cells cur T (0,0))/\ M H t me x cur.toList (λg'=>ow g'/\g'≠g) (sub .deref hs)
 | .pair a b,m,x,cs,ow,hs=>([]∈hs/\m.fu=false/\cs.length=a.size+b.size/\∀ u∈cs,u.oneCell'=true)∨(m.fu=true/\K w Wr (.pair a b) x cs)∨ ∃ ma mb c0 c1,∃ s:Nat->Prop,m=.p ma mb/\cs=c0++c1/\M H a ma x.1 c0 (λg'=>ow g'/\s g') (sub .fst hs)/\M H b mb x.2 c1 (λg'=>ow g'/\ ¬s g') (sub .snd hs)
 | .int k,m,x,cs,_,_=>m.fu=true/\K w Wr (.int k) x cs
 | .bool,m,x,cs,_,_=>m.fu=true/\K w Wr .bool x cs
 | .str,m,x,cs,_,_=>m.fu=true/\K w Wr .str x cs
 | .unit,m,x,cs,_,_=>m.fu=true/\K w Wr .unit x cs
 | .arr n t,m,x,cs,_,_=>m.fu=true/\K w Wr (.arr n t) x cs
 | .mp,m,x,cs,ow,hs=>([]∈hs/\m.fu=false/\cs.length=1/\∀ u∈cs,u.oneCell'=true)∨(m.fu=true/\K w Wr .mp x cs)∨ ∃ T tag g es n,m=.o T tag .k/\cs=[.map (some g)]/\(∀ h,tag=some h->H h=.map (some g))/\ow g/\w.heap[g]?=some (.map es n)/\aaQ es x
end
end Go.Pv
namespace Go.Pv
open List Int IntKind
structure TV where
 t:Ty
 m:Md
 x:t.I
inductive Cap where
 |pl (t:Ty) (s:Nat) (p:Path)
 |kv (a:TV)
inductive AV where
 |dead
 |undef
 |v (a:TV) (ex:List Path)
 |PJ (l:List (Option TV))
 |al (t:Ty) (s:Nat) (p:Path)
 |ad (t:Ty) (s:Nat) (p:Path)
 |cut (t:Ty) (s:Nat) (p:Path) (lo hi:Nat)
 |EY (f:FuncId) (kE:List Cap)
abbrev St:=List AV
structure TI where
 T:TypeId
 ty:Ty
 e:TypeId
 fs:List TypeId
abbrev nh:=List TI
def nh.find (Θ:nh) (T:TypeId):Option TI:=match Θ with
 |[]=>none
 |i::r=>bif Nat.beq i.T T then some i else nh.find r T
def Md.inn:Md->Md
 | .o _ _ m=>m |_=>.k
def Md.l:Md->Md
 | .p a _=>a |m=>m
def Md.r:Md->Md
 | .p _ b=>b |m=>m
def mkM (a b:Md):Md:=bif a.fu&&b.fu then .k else .p a b
def dP:Path->(t:Ty)->Md->t.I->Option TV
 |[],t,m,x=>some ⟨t,m,x⟩
 | .deref::p,.ptr t,m,x=>dP p t m.inn x
 | .fst::p,.pair a _,m,x=>dP p a m.l x.1
 | .snd::p,.pair _ b,m,x=>dP p b m.r x.2
 | .idx i::p,.sl t,m,xs=>dP p t m.inn (xs.getD i t.z)
 |_::_,_,_,_=>none
def v7 (b:TV):Path->(t:Ty)->Md->t.I->Option (Md×t.I)
 |[],t,_,_=>if h:b.t=t then some (b.m,h▸b.x) else none
 | .deref::p,.ptr t,.o T tag me,x=>match v7 b p t me x with
  |some r=>some (.o T tag r.1,r.2)
  |none=>none
 | .fst::p,.pair t u,m,x=>match v7 b p t m.l x.1 with
  |some r=>some (mkM r.1 m.r,(r.2,x.2))
  |none=>none
 | .snd::p,.pair t u,m,x=>match v7 b p u m.r x.2 with
  |some r=>some (mkM m.l r.1,(x.1,r.2))
  |none=>none
 | .idx i::p,.sl t,.o T tag me,xs=>match v7 b p t me (xs.getD i t.z) with
  |some r=>if r.1=me then some (.o T tag me,xs.set i r.2) else none
  |none=>none
 |_::_,_,_,_=>none
def v8:Path->Path->Bool
 |[],_=>true
 |_,[]=>true
 | .idx _::p,.idx _::q=>v8 p q
 |s::p,s'::q=>if s=s' then v8 p q else false
def under:Path->Path->Bool
 |[],[]=>false
 |[],_::_=>true
 |_::_,[]=>false
 | .idx _::p,.idx _::q=>under p q
 |s::p,s'::q=>if s=s' then under p q else false
def pre:Path->Path->Bool
 |[],_=>true
 | .deref::p,.deref::q=>pre p q
 | .fst::p,.fst::q=>pre p q
 | .snd::p,.snd::q=>pre p q
 |_,_=>false
def Mv:Path->Path->Bool
 |[],_=>true
 |_,[]=>true
 | .idx i::p,.idx j::q=>Mv p q&&Nat.beq i j
 |s::p,s'::q=>if s=s' then Mv p q else false
def vh:Path->Path->Bool
 |[],[]=>true
 | .idx _::p,.idx _::q=>vh p q
 | .deref::p,.deref::q=>vh p q
 | .fst::p,.fst::q=>vh p q
 | .snd::p,.snd::q=>vh p q
 |_,_=>false
def Y0:Path->Path->Bool
 | .idx i::p,.idx j::q=>Y0 p q&&Nat.beq i j
 |_::p,_::q=>Y0 p q
 |_,_=>true
def qc (p:Path):List Path->Bool×List Path
 |[]=>(true,[])
 |h::r=>bif vh p h then(Y0 p h,r) else((qc p r).1,h::(qc p r).2)
def depth:Path->Nat
 |[]=>0 | .deref::p=>depth p+1 | .idx _::p=>depth p+1 |_::p=>depth p
def AV.refs (d:Nat):AV->Bool
 | .al _ s _=>Nat.beq s d | .ad _ s _=>Nat.beq s d | .cut _ s _ _ _=>Nat.beq s d
 | .EY _ kE=>kE.any λc=>match c with
  | .pl _ s _=>Nat.beq s d
  | .kv _=>false
 |_=>false
def AV.qE (d:Nat):AV->Bool
 | .al _ s p=>Nat.beq s d&&match p with
  |[]=>false
  |_=>true
 | .ad _ s p=>Nat.beq s d&&Nat.ble 2 (depth p)
 | .cut _ s _ _ _=>Nat.beq s d
 | .EY _ kE=>kE.any λc=>match c with
  | .pl _ s (_::_)=>Nat.beq s d
  |_=>false
 |_=>false
def St.at (S:St) (i:Nat):AV:=S.getD i .dead
def St.kill (S:St) (d:Nat):St:=S.map λa=>bif a.refs d then .dead else a
def St.weaken (S:St) (d:Nat):St:=S.map λa=>bif a.qE d then .dead else a
def St.cover (S:St) (d:Nat) (p:Path):St:=S.map λa=>match a with
 | .ad t s q=>bif Nat.beq s d&&under p q then .dead else .ad t s q
 |a=>a
def AV.TK:AV->Bool
 | .v ..=>true |_=>false
def St.put (S:St) (dst:Option Nat) (a:AV):St:=match dst with
 |none=>S
 |some d=>(bif (S.at d).TK then S.kill d else S).set d (bif a.refs d then .dead else a)
def Xe (s:Nat) (t':Ty) (a b:AV):AV:=match a,b with
 | .al t q [],.dead=>bif Nat.beq q s&&decide (t=t') then .al t q [] else .dead
 |_,b=>b
def St.again (S S2:St) (s:Nat):St:=match S2.at s with
 | .v r _=>List.zipWith (Xe s r.t) S S2
 |_=>S2
def kTV (a:TV):TV:=⟨a.t,.k,a.x⟩
def JZ (Θ:nh) (T:TypeId):Value->Option TV
 | .int k n=>some ⟨.int k,.k,n⟩
 | .bool b=>some ⟨.bool,.k,b⟩
 | .string s=>some ⟨.str,.k,s⟩
 | .slice none 0 0=>match Θ.find T with
  |some i=>match i.ty with
   | .sl t=>some ⟨.sl t,.o i.e none .k,[]⟩
   |_=>none
  |none=>none
 |_=>none
def St.place (S:St) (s:Nat) (p:Path):Option TV:=match S.at s with
 | .v a ex=>bif ex.all (λh=>!v8 h p) then dP p a.t a.m a.x else none
 |_=>none
def St.ki (S:St) (s:Nat) (p:Path):Option TV:=match S.at s with
 | .v a ex=>bif ex.all (λh=>!under h p) then dP p a.t a.m a.x else none
 |_=>none
def St.pT (Θ:nh) (S:St) (T:TypeId):Operand->Option AV
 | .tmp i=>some (S.at i)
 | .const c=>match JZ Θ T c with
  |some a=>some (.v a [])
  |none=>none
 | .func f=>some (.EY f [])
 | .global _=>none
def St.PK (S:St):AV->Option TV
 | .v a []=>some a
 | .al _ s p=>S.place s p
 | .cut _ s p lo hi=>match S.place s p with
  |some ⟨.sl t,m,xs⟩=>some ⟨.sl t,m,(xs.take hi).drop lo⟩
  |_=>none
 |_=>none
def St.rd (Θ:nh) (S:St) (T:TypeId) (x:Operand):Option TV:=match S.pT Θ T x with
 |some a=>S.PK a
 |none=>none
def St.G1 (Θ:nh) (S:St) (x:Operand):Option Int:=match S.rd Θ 0 x with
 |some ⟨.int _,_,n⟩=>some n
 |_=>none
def St.pL (S:St) (x:Operand):AV->Option (TV×St)
 | .v a ex=>bif a.m.fu then some (a,S) else match ex,x with
  |[],.tmp i=>some (a,S.put (some i) .dead)
  |[],_=>some (a,S)
  |_,_=>none
 | .al _ s p=>match S.place s p with
  |some a=>bif a.m.fu then some (a,S) else match p,S.at s with
   |[],_=>some (a,S.put (some s) .dead)
   |_,.v r ex=>some (a,((S.weaken s).cover s p).set s (.v r (ex++[p])))
   |_,_=>none
  |none=>none
 | .cut _ s [] lo hi=>match S.place s [] with
  |some ⟨.sl t,.o T _ me,xs⟩=>bif Nat.beq lo 0 then some (⟨.sl t,.o T none me,xs.take hi⟩,S.put (some s) .dead) else none
  |_=>none
 |_=>none
def St.take (Θ:nh) (S:St) (T:TypeId) (x:Operand):Option (TV×St):=match S.pT Θ T x with
 |some a=>S.pL x a
 |none=>none
def St.copy (S:St) (x:Operand):AV->Option AV
 | .v a ex=>bif a.m.fu then some (.v a []) else match x with
  | .tmp i=>some (.al a.t i [])
  |_=>match ex with
   |[]=>some (.v a [])
   |_=>none
 | .PJ _=>none
 | .dead=>none
 |a=>some a
def J0 (i n:Nat):Path:=bif Nat.beq (i+1) n then(bif Nat.beq n 1 then [.fst] else List.replicate i .snd) else List.replicate i .snd++[.fst]
def zgo (f:TypeId->Md):List TypeId->Md
 |[]=>.k
 |[a]=>f a
 |a::r=>mkM (f a) (zgo f r)
def ahM (Θ:nh):Nat->TypeId->Md
 |0,_=>.k
 |n+1,T=>match Θ.find T with
  |none=>.k
  |some i=>match i.ty with
   | .sl _=>.o i.e none (ahM Θ n i.e)
   | .pair _ _=>zgo (ahM Θ n) i.fs
   |_=>.k
def zN:Ty->Bool
 | .ptr _=>false | .arr _ t=>zN t | .mp=>false | .pair a b=>zN a&&zN b |_=>true
def RY:Ty->Md->Bool
 | .pair a b,.p ma mb=>(RY a ma&&RY b mb)||(ma.fu&&mb.fu&&zN a&&zN b)
 | .sl _,.o _ none _=>true
 |t,m=>m.fu&&zN t
inductive Tgt where
 |k (a:TV)
 |pl (t:Ty) (s:Nat) (p:Path)
def Tgt.ty:Tgt->Ty
 | .k a=>a.t
 | .pl t _ _=>t
def St.RZ (S:St) (x:Operand):AV->Option Tgt
 | .v ⟨.ptr t,m,y⟩ []=>match m,x with
  | .k,_=>some (.k ⟨t,.k,y⟩)
  | .o ..,.tmp i=>some (.pl t i [.deref])
  |_,_=>none
 | .v ⟨.ptr t,.o ..,_⟩ _=>match x with
  | .tmp i=>some (.pl t i [.deref])
  |_=>none
 | .al (.ptr t) s p=>match S.ki s p with
  |some ⟨.ptr t',.k,y⟩=>some (.k ⟨t',.k,y⟩)
  |some ⟨.ptr _,.o ..,_⟩=>some (.pl t s (p++[.deref]))
  |_=>none
 | .ad t s p=>some (.pl t s p)
 |_=>none
def St.loadAt (S:St):Tgt->Option AV
 | .k a=>some (.v (kTV a) [])
 | .pl t s p=>match S.ki s p with
  |some a=>bif a.m.fu then(match S.place s p with
   |some a=>some (.v (kTV a) [])
   |none=>none) else some (.al t s p)
  |none=>none
def bt (s:ByteArray) (i:Int):Int:=if h:i.toNat<s.size then((s[i.toNat]'h).toNat:Int) else 0
def auT (op:BinOp) (k:IntKind) (x y:Int):Option (Bool×TV):=match op with
 | .add=>some (true,⟨.int k,.k,k.wrap (x+y)⟩)
 | .sub=>some (true,⟨.int k,.k,k.wrap (x - y)⟩)
 | .mul=>some (true,⟨.int k,.k,k.wrap (x*y)⟩)
 | .quo=>some (!decide (y=0),⟨.int k,.k,k.wrap (x.tdiv y)⟩)
 | .rem=>some (!decide (y=0),⟨.int k,.k,x.tmod y⟩)
 | .and=>some (true,⟨.int k,.k,k.wrap (BitVec.ofInt k.bits x&&&BitVec.ofInt k.bits y).toNat⟩)
 | .or=>some (true,⟨.int k,.k,k.wrap (BitVec.ofInt k.bits x|||BitVec.ofInt k.bits y).toNat⟩)
 | .xor=>some (true,⟨.int k,.k,k.wrap (BitVec.ofInt k.bits x^^^BitVec.ofInt k.bits y).toNat⟩)
 | .eql=>some (true,⟨.bool,.k,x==y⟩)
 | .neq=>some (true,⟨.bool,.k,x != y⟩)
 | .lss=>some (true,⟨.bool,.k,decide (x<y)⟩)
 | .leq=>some (true,⟨.bool,.k,decide (x<=y)⟩)
 | .gtr=>some (true,⟨.bool,.k,decide (x>y)⟩)
 | .geq=>some (true,⟨.bool,.k,decide (x≥y)⟩)
 | .shl=>some (decide (0<=y),⟨.int k,.k,k.wrap (x*2^(min y.toNat k.bits))⟩)
 | .shr=>some (decide (0<=y),⟨.int k,.k,x.fdiv (2^(min y.toNat k.bits))⟩)
 |_=>none
def auU (op:BinOp) (x y:ByteArray):Option (Bool×TV):=match op with
 | .add=>some (decide (x.size+y.size<=9223372036854775807),⟨.str,.k,x++y⟩)
 | .eql=>some (true,⟨.bool,.k,x.toList==y.toList⟩)
 | .neq=>some (true,⟨.bool,.k,!(x.toList==y.toList)⟩)
 |_=>none
def eqV:(t:Ty)->t.I->t.I->Option Bool
 | .int _,x,y=>some (decide ((x:Int)=y))
 | .bool,x,y=>some ((x:Bool)==y)
 | .str,x,y=>some ((x:ByteArray)==y)
 | .pair a b,x,y=>match eqV a x.1 y.1,eqV b x.2 y.2 with
  |some p,some q=>some (p&&q)
  |_,_=>none
 | .unit,_,_=>some true
 |_,_,_=>none
def xl (op:BinOp) (a b:TV):Option (Bool×TV):=match a,b with
 |⟨.int k,_,x⟩,⟨.int k',_,y⟩=>if k=k'∨op=.shl∨op=.shr then auT op k x y else none
 |⟨.str,_,x⟩,⟨.str,_,y⟩=>auU op x y
 |⟨.bool,_,x⟩,⟨.bool,_,y⟩=>match op with
  | .eql=>some (true,⟨.bool,.k,x==y⟩)
  | .neq=>some (true,⟨.bool,.k,!(x==y)⟩)
  |_=>none
 |⟨.pair t u,_,x⟩,⟨t',_,y⟩=>if h:t'=.pair t u then match op,eqV (.pair t u) x (h▸y) with
   | .eql,some r=>some (true,⟨.bool,.k,r⟩)
   | .neq,some r=>some (true,⟨.bool,.k,!r⟩)
   |_,_=>none
  else none
 |_,_=>none
def auV (op:UnOp) (a:TV):Option TV:=match op,a with
 | .not,⟨.bool,_,x⟩=>some ⟨.bool,.k,!x⟩
 | .neg,⟨.int k,_,x⟩=>some ⟨.int k,.k,k.wrap (0 - x)⟩
 | .xor,⟨.int k,_,x⟩=>some ⟨.int k,.k,k.wrap (BitVec.ofInt k.bits (if k.signed then -1 else k.max)^^^BitVec.ofInt k.bits x).toNat⟩
 |_,_=>none
def mkS:List TV->TV
 |[]=>⟨.unit,.k,()⟩
 |[a]=>a
 |a::r=>⟨.pair a.t (mkS r).t,mkM a.m (mkS r).m,(a.x,(mkS r).x)⟩
def qd (l:List TV):TV:=match l with
 |[a]=>⟨.pair a.t .unit,mkM a.m .k,(a.x,())⟩
 |l=>mkS l
def Ob (Θ:nh) (T:TypeId):Option TV:=match Θ.find T with
 |some i=>bif RY i.ty (ahM Θ 9 T) then some ⟨i.ty,ahM Θ 9 T,i.ty.z⟩ else none
 |none=>none
def St.parts (Θ:nh) (S:St) (ps:List (Nat×Operand)):List TypeId->Nat->Option (List TV×St)
 |[],_=>some ([],S)
 |T::r,j=>match ps.find? (λq=>Nat.beq q.1 j) with
  |some q=>match S.take Θ T q.2 with
   |some (a,S1)=>match S1.parts Θ ps r (j+1) with
    |some (l,S2)=>some (a::l,S2)
    |none=>none
   |none=>none
  |none=>match Ob Θ T with
   |some a=>match S.parts Θ ps r (j+1) with
    |some (l,S2)=>some (a::l,S2)
    |none=>none
   |none=>none
def EZ (n:Nat):List (Nat×Operand)->Bool
 |[]=>true
 |q::r=>Nat.blt q.1 n&& !(r.any λq'=>Nat.beq q'.1 q.1)&&EZ n r
def Oc (t:Ty) (m:Md):List TV->Option (List t.I)
 |[]=>some []
 |a::r=>if h:a.t=t then(if a.m=m then match Oc t m r with
  |some l=>some ((h▸a.x)::l)
  |none=>none else none) else none
abbrev Hn:=List (Nat×Md)
def Hn.find (h:Hn) (d:Option Nat) (m:Md):Md:=match d with
 |none=>m
 |some d=>match h with
  |[]=>m
  |q::r=>bif Nat.beq q.1 d then q.2 else Hn.find r (some d) m
def Hn.aoF (h:Hn) (d:Option Nat):Bool:=match h.find d (.o 0 none .k) with
 | .k=>true
 |_=>false
def nh.is (Θ:nh) (T:TypeId) (t:Ty):Bool:=match Θ.find T with
 |some i=>decide (i.ty=t)
 |none=>false
abbrev R0:=Option (Bool×St)
def Mw (Θ:nh) (S:St) (dst:Option Nat) (T:TypeId) (x:Operand):R0:=match S.pT Θ T x with
 |some (.PJ l)=>(match dst,x with
  |some d,.tmp i=>bif Nat.beq d i|| !Nat.blt d S.length then none else some (true,(S.put (some i) .dead).put (some d) (.PJ l))
  |_,_=>none)
 |some a=>match S.copy x a with
  |some a=>some (true,S.put dst a)
  |none=>none
 |none=>none
def aaR (Θ:nh) (S:St) (dst:Option Nat) (T:TypeId) (x:Operand):R0:=match S.pT Θ T x with
 |some a=>match dst,x,a with
  |some d,.tmp i,.v a ex=>bif a.m.fu then some (true,S.put dst (.v a [])) else match ex with
   |[]=>bif Nat.beq d i|| !Nat.blt d S.length then none else some (true,(St.put (S.put (some i) .dead) dst (.v a [])).set i (.al a.t d []))
   |_=>none
  |_,_,.v a ex=>bif a.m.fu then some (true,S.put dst (.v a [])) else match ex,x with
   |[],.const _=>some (true,S.put dst (.v a []))
   |_,_=>none
  |some d,_,.al t s []=>bif Nat.beq s d then none else some (true,S.put dst (.al t s []))
  |some d,_,.EY f c=>bif AV.refs d (.EY f c) then none else some (true,S.put dst (.EY f c))
  |_,_,.undef=>some (true,S.put dst .undef)
  |_,_,a=>match S.pL x a with
   |some (a,S1)=>some (true,S1.put dst (.v a []))
   |none=>none
 |none=>match x with
  | .const _=>some (true,S.put dst .dead)
  |_=>none
def akG (Θ:nh) (S:St) (dst:Option Nat) (T:TypeId) (c a b:Operand):R0:=match S.rd Θ 0 c with
 |some ⟨.bool,_,q⟩=>match S.pT Θ T a,S.pT Θ T b with
  |some (.v ⟨.bool,_,x⟩ _),some (.v ⟨.bool,_,y⟩ _)=>some (true,S.put dst (.v ⟨.bool,.k,bif q then x else y⟩ []))
  |some p,some r=>match (bif q then S.copy a p else S.copy b r) with
   |some a=>some (true,S.put dst a)
   |none=>none
  |_,_=>none
 |_=>none
def My (Θ:nh) (hn:Hn) (S:St) (dst:Option Nat) (T:TypeId):R0:=match Ob Θ T with
 |some z=>bif RY z.t (hn.find dst z.m) then some (true,S.put dst (.v ⟨.ptr z.t,.o T none (hn.find dst z.m),z.t.z⟩ [])) else none
 |none=>none
def ap1 (Θ:nh) (S:St) (dst:Option Nat) (T:TypeId) (x:Operand):R0:=match S.take Θ T x with
 |some (a,S1)=>bif Θ.is T a.t then some (true,S1.put dst (.v ⟨.ptr a.t,.o T none a.m,a.x⟩ [])) else none
 |none=>none
def TN (Θ:nh) (S:St) (dst:Option Nat) (T:TypeId) (ps:List (Nat×Operand)):R0:=match Θ.find T with
 |some i=>match S.parts Θ ps i.fs 0 with
  |some (l,S1)=>bif decide ((qd l).t=i.ty)&&ap2 i.ty&&EZ l.length ps then some (true,S1.put dst (.v (qd l) [])) else none
  |none=>none
 |none=>none
 where ap2:Ty->Bool
 | .pair _ _=>true
 |_=>false
def fw (Θ:nh) (hn:Hn) (S:St) (dst:Option Nat) (T:TypeId) (n:Nat) (ps:List (Nat×Operand)):R0:=match Θ.find T with
 |some ⟨_,.sl t,e,_⟩=>bif EZ n ps&&Nat.ble n 1800 then(match S.parts Θ ps (List.replicate n e) 0 with
  |some (l,S1)=>(match l with
   |[]=>some (true,S1.put dst (.v ⟨.sl t,bif hn.aoF dst then .k else .o e none (hn.find dst .k),[]⟩ []))
   |a::_=>match Oc t a.m l with
    |some xs=>some (true,S1.put dst (.v ⟨.sl t,bif hn.aoF dst&&a.m.fu then .k else .o e none a.m,xs⟩ []))
    |none=>none)
  |none=>none) else none
 |_=>none
def Ty.flat:Ty->Bool
 | .int _=>true | .bool=>true | .str=>true |_=>false
def ahN (t:Ty):AV->Bool
 | .al ..=>!t.flat
 |_=>true
def tY (Θ:nh) (S:St) (dst:Option Nat) (T:TypeId) (x:Operand):R0:=match S.pT Θ 0 x with
 |some a=>match S.RZ x a with
  |some g=>match S.loadAt g with
   |some r=>bif ahN g.ty r&&Θ.is T g.ty then some (true,S.put dst r) else none
   |none=>none
  |none=>none
 |none=>none
def E0 (Θ:nh) (S:St) (T:TypeId) (x y:Operand):R0:=match S.pT Θ 0 x with
 |some a=>match S.RZ x a with
  |some (.pl _ s p)=>match S.take Θ T y with
   |some (b,S1)=>bif Θ.is T b.t then(match S1.at s with
    | .v r ex=>match v7 b p r.t r.m r.x with
     |some (m,z)=>bif ex.all (λh=>!under h p) then some ((qc p (ex.filter λh=>!pre p h)).1,(S1.weaken s).set s (.v ⟨r.t,m,z⟩ (qc p (ex.filter λh=>!pre p h)).2)) else none
     |none=>none
    |_=>none) else none
   |none=>none
  |_=>none
 |none=>none
def Mz (Θ:nh) (S S1:St) (T:TypeId) (y:Operand):St:=match S.pT Θ T y with
 |some (.al _ s [])=>(match S.at s,S1.at s with
  | .v ⟨.sl t,m,xs⟩ [],.dead=>bif m.fu then S1 else S1.set s (.v ⟨.sl t,m,xs⟩ [[]])
  |_,_=>S1)
 |_=>S1
def R2 (Θ:nh) (S:St) (dst:Option Nat) (x:Operand):R0:=match S.pT Θ 0 x with
 |some a=>match S.RZ x a with
  |some g=>match S.copy x a,(match g with
   | .k _=>some ()
   | .pl _ s p=>match S.ki s p with
    |some _=>some ()
    |none=>none) with
   |some a,some _=>some (true,S.put dst a)
   |_,_=>none
  |none=>none
 |none=>none
def wa (Θ:nh) (S:St) (dst:Option Nat) (T:TypeId) (x:Operand) (f:Nat):R0:=match S.pT Θ 0 x,Θ.find T with
 |some a,some i=>bif Nat.blt f i.fs.length then(match S.RZ x a with
  |some (.k ⟨t,m,y⟩)=>bif decide (i.ty=t) then(match dP (J0 f i.fs.length) t .k y with
   |some b=>some (true,S.put dst (.v ⟨.ptr b.t,.k,b.x⟩ []))
   |none=>none) else none
  |some (.pl t s p)=>bif decide (i.ty=t) then(match S.ki s (p++J0 f i.fs.length) with
   |some b=>some (true,S.put dst (.ad b.t s (p++J0 f i.fs.length)))
   |none=>none) else none
  |none=>none) else none
 |_,_=>none
def afR (Θ:nh) (S:St) (dst:Option Nat) (T:TypeId) (x:Operand) (f:Nat):R0:=match S.pT Θ 0 x,Θ.find T with
 |some (.v a ex),some i=>bif Nat.blt f i.fs.length&&decide (i.ty=a.t) then(match x with
  | .tmp j=>match dP (J0 f i.fs.length) a.t a.m a.x with
   |some b=>bif b.m.fu then(match ex with
    |[]=>some (true,S.put dst (.v (kTV b) []))
    |_=>none) else(match S.ki j (J0 f i.fs.length) with
    |some _=>some (true,S.put dst (.al b.t j (J0 f i.fs.length)))
    |none=>none)
   |none=>none
  |_=>none) else none
 |_,_=>none
def bj (n:Int) (len:Nat):Bool:=decide (0<=n)&&decide (n<(len:Int))
def iM (Θ:nh) (S:St) (dst:Option Nat) (T:TypeId) (x ix:Operand):R0:=match S.pT Θ 0 x,S.G1 Θ ix with
 |some (.v ⟨.sl t,m,xs⟩ ex),some n=>bif Θ.is T (.sl t) then(match m,x with
  | .k,_=>some (bj n xs.length,S.put dst (.v ⟨.ptr t,.k,xs.getD n.toNat t.z⟩ []))
  | .o ..,.tmp j=>match S.ki j [.idx n.toNat] with
   |some _=>some (bj n xs.length,S.put dst (.ad t j [.idx n.toNat]))
   |none=>none
  |_,_=>none) else none
 |some (.al (.sl t) s p),some n=>bif Θ.is T (.sl t) then(match S.ki s p with
  |some ⟨.sl t',.k,xs⟩=>some (bj n xs.length,S.put dst (.v ⟨.ptr t',.k,xs.getD n.toNat t'.z⟩ []))
  |some ⟨.sl t',.o ..,xs⟩=>match S.ki s (p++[.idx n.toNat]) with
   |some _=>some (bj n xs.length,S.put dst (.ad t' s (p++[.idx n.toNat])))
   |none=>none
  |_=>none) else none
 |_,_=>none
def afS (Θ:nh) (S:St) (dst:Option Nat) (T:TypeId) (x ix:Operand):R0:=match S.rd Θ 0 x,S.G1 Θ ix with
 |some ⟨.str,_,s⟩,some n=>bif Θ.is T .str then some (bj n s.size,S.put dst (.v ⟨.int .u8,.k,bt s n⟩ [])) else none
 |_,_=>none
def uZ (S:St) (dst:Option Nat) (x:Operand) (j:Nat):R0:=match x with
 | .tmp i=>match S.at i with
  | .PJ l=>match l.getD j none with
   |some a=>bif a.m.fu then some (true,S.put dst (.v a [])) else(match dst with
    |some d=>bif Nat.beq d i then none else some (true,St.put (S.set i (.PJ (l.set j none))) (some d) (.v a []))
    |none=>none)
   |none=>none
  |_=>none
 |_=>none
def xz (Θ:nh) (S:St) (d:Int):Option Operand->Option Int
 |none=>some d
 |some x=>S.G1 Θ x
def qZ (Θ:nh) (S:St) (dst:Option Nat) (T:TypeId) (x:Operand) (lo hi mx:Option Operand):R0:=match S.pT Θ 0 x,S.rd Θ 0 x,xz Θ S 0 lo with
 |some a,some ⟨.str,_,s⟩,some l=>match mx,xz Θ S (s.size:Int) hi with
  |none,some h=>bif Θ.is T .str then some (decide (0<=l)&&decide (l<=h)&&decide (h<=(s.size:Int)),S.put dst (.v ⟨.str,.k,s.extract l.toNat h.toNat⟩ [])) else none
  |_,_=>none
 |some a,some ⟨.sl t,m,xs⟩,some l=>bif Θ.is T (.sl t) then(match xz Θ S (xs.length:Int) hi,mx,Θ.find T with
  |some h,none,_=>match m,a,x with
   | .k,_,_=>some (decide (0<=l)&&decide (l<=h)&&decide (h<=(xs.length:Int)),S.put dst (.v ⟨.sl t,.k,(xs.take h.toNat).drop l.toNat⟩ []))
   |_,.v ..,.tmp i=>some (decide (0<=l)&&decide (l<=h)&&decide (h<=(xs.length:Int)),S.put dst (.cut (.sl t) i [] l.toNat h.toNat))
   |_,.al _ s p,_=>some (decide (0<=l)&&decide (l<=h)&&decide (h<=(xs.length:Int)),S.put dst (.cut (.sl t) s p l.toNat h.toNat))
   |_,_,_=>none
  |some h,some z,some i=>match S.G1 Θ z,hi with
   |some c,some _=>some (decide (l=0)&&decide (h=0)&&decide (c=0),S.put dst (.v ⟨.sl t,.o i.e none .k,[]⟩ []))
   |_,_=>none
  |_,_,_=>none) else none
 |_,_,_=>none
def bytesOf (xs:List Int):ByteArray:=xs.foldl (λr n=>r.push (UInt8.ofNat n.toNat)) ByteArray.empty
def wT (Θ:nh) (S:St) (dst:Option Nat) (T T':TypeId) (x:Operand):R0:=match S.rd Θ 0 x,Θ.find T,Θ.find T' with
 |some ⟨.int _,_,n⟩,some _,some ⟨_,.int k,_,_⟩=>some (true,S.put dst (.v ⟨.int k,.k,k.wrap n⟩ []))
 |some ⟨.sl (.int .u8),_,xs⟩,some ⟨_,.sl (.int .u8),_,_⟩,some ⟨_,.str,_,_⟩=>some (true,S.put dst (.v ⟨.str,.k,bytesOf xs⟩ []))
 |_,_,_=>none
def aaS (Θ:nh) (S:St) (dst:Option Nat) (op:BinOp) (T:TypeId) (x y:Operand):R0:=match S.rd Θ T x,S.rd Θ T y with
 |some a,some b=>match a.t with
  | .bool=>bif Θ.is T .bool then(match xl op a b with
   |some (g,r)=>some (g,S.put dst (.v r []))
   |none=>none) else none
  | .pair _ _=>bif Θ.is T a.t then(match xl op a b with
   |some (g,r)=>some (g,S.put dst (.v r []))
   |none=>none) else none
  |_=>match xl op a b with
   |some (g,r)=>some (g,S.put dst (.v r []))
   |none=>none
 |_,_=>none
def aym (Θ:nh) (S:St) (dst:Option Nat) (op:UnOp) (x:Operand):R0:=match S.rd Θ 0 x with
 |some a=>match auV op a with
  |some r=>some (true,S.put dst (.v r []))
  |none=>none
 |none=>none
def wb (Θ:nh) (S:St) (dst:Option Nat) (T:TypeId) (l c:Operand):R0:=match Θ.find T,S.G1 Θ l,S.G1 Θ c with
 |some ⟨_,.sl t,e,_⟩,some n,some n'=>match Ob Θ e with
  |some z=>if z.t=t then some (decide (n=n')&&decide (0<=n)&&decide (n<=1099511627776),S.put dst (.v ⟨.sl t,.o e none z.m,List.replicate n.toNat t.z⟩ [])) else none
  |none=>none
 |_,_,_=>none
def axn (S:St):Operand->Option Cap
 | .tmp i=>match S.at i with
  | .v ⟨.ptr t,.o ..,_⟩ _=>some (Cap.pl t i [])
  | .v ⟨.ptr t,.k,y⟩ _=>some (Cap.kv ⟨.ptr t,.k,y⟩)
  | .al (.ptr t) s p=>some (Cap.pl t s p)
  |_=>none
 |_=>none
def aaT (S:St):List Operand->Option (List Cap)
 |[]=>some []
 |x::r=>match axn S x,aaT S r with
  |some c,some l=>some (c::l)
  |_,_=>none
def R3 (S:St) (dst:Option Nat) (f:FuncId) (first kE:List Operand):R0:=match first,aaT S kE with
 |[],some l=>match dst with
  |some d=>bif AV.refs d (.EY f l) then none else some (true,S.put dst (.EY f l))
  |none=>none
 |_,_=>none
def axo:TV->Option Int
 |⟨.sl _,_,xs⟩=>some (xs.length:Int)
 |⟨.str,_,b⟩=>some (b.size:Int)
 |_=>none
def ap3 (Θ:nh) (S:St) (dst:Option Nat) (ts:List TypeId) (as:List Operand):R0:=match as,ts with
 |[x],[T]=>match (match S.pT Θ 0 x with
   |some (.v a ex)=>bif ex.any List.isEmpty then none else some a
   |some (.al t s p)=>(match S.place s p with
    |some b=>some b
    |none=>match S.ki s p with
     |some ⟨.sl t,m,xs⟩=>some ⟨.sl t,m,xs⟩
     |_=>none)
   |some a=>S.PK a
   |none=>none) with
  |some b=>bif Θ.is T b.t then(match axo b with
   |some n=>some (true,S.put dst (.v ⟨.int .i64,.k,n⟩ []))
   |none=>none) else none
  |none=>none
 |_,_=>none
def iN (Θ:nh) (S:St) (dst:Option Nat) (ts:List TypeId) (as:List Operand):R0:=match as,ts with
 |[x,y],[T,T']=>match S.take Θ T x,Θ.find T with
  |some (⟨.sl t,.o e _ me,xs⟩,S1),some i=>bif decide (i.ty=.sl t)&&Nat.beq i.e e&&Θ.is T' (.sl t) then
    (bif me.fu then(match S1.rd Θ T' y with
     |some ⟨.sl t',m',ys⟩=>bif m'.inn.fu then(if h:t'=t then
       some (decide ((xs.length+ys.length)*t.size<=4398046511104),S1.put dst (.v ⟨.sl t,.o e none me,xs++(h▸ys)⟩ [])) else none) else none
     |_=>none)
    else(match S1.take Θ T' y with
     |some (⟨.sl t',m',ys⟩,S2)=>if h:t'=t then
       (if m'.inn=me then some (decide ((xs.length+ys.length)*t.size<=4398046511104),S2.put dst (.v ⟨.sl t,.o e none me,xs++(h▸ys)⟩ [])) else none) else none
     |_=>none)) else none
  |_,_=>none
 |_,_=>none
def u5 (Θ:nh) (S:St) (dst:Option Nat) (ts:List TypeId) (as:List Operand):R0:=match as,ts with
 |[x,y],[T,T']=>match S.pT Θ T x with
  |some (.al _ s (st::pp))=>(match S.at s with
   | .v r ex=>(match dP (st::pp) r.t r.m r.x,Θ.find T with
    |some ⟨.sl t,.o e _ me,xs⟩,some i=>bif decide (i.ty=.sl t)&&Nat.beq i.e e&&Θ.is T' (.sl t)&&me.fu then
      (match St.rd Θ (((S.weaken s).cover s (st::pp)).set s (.v r (ex++[st::pp]))) T' y with
      |some ⟨.sl t',m',ys⟩=>bif m'.inn.fu then(if h:t'=t then
        some (ex.all (λh=>!Mv h (st::pp))&&decide ((xs.length+ys.length)*t.size<=4398046511104),St.put (((S.weaken s).cover s (st::pp)).set s (.v r (ex++[st::pp]))) dst (.v ⟨.sl t,.o e none me,xs++(h▸ys)⟩ [])) else none) else none
      |_=>none) else none
    |_,_=>none)
   |_=>none)
  |_=>none
 |_,_=>none
def AL:List (List Int×Bool)->List Int->Bool->List (List Int×Bool)
 |[],k,v=>[(k,v)]
 |q::r,k,v=>bif decide (q.1=k) then(k,v)::r else q::AL r k v
def xA:List (List Int×Bool)->List Int->Option Bool
 |[],_=>none
 |q::r,k=>bif decide (q.1=k) then some q.2 else xA r k
def Xf (S:St) (dst:Option Nat) (T:TypeId) (r:Option Operand):R0:=match r with
 |none=>some (true,S.put dst (.v ⟨.mp,.o T none .k,[]⟩ []))
 |some _=>none
def aaU (Θ:nh) (S:St) (dst:Option Nat) (T:TypeId) (x y:Operand) (ok:Bool):R0:=match ok,S.rd Θ 0 x,S.rd Θ 0 y with
 |true,some ⟨.mp,_,xs⟩,some ⟨.arr _ (.int .i64),_,k⟩=>bif Θ.is T .mp then some (ZE k,S.put dst (.PJ [some ⟨.bool,.k,(xA xs k).getD false⟩,some ⟨.bool,.k,(xA xs k).isSome⟩])) else none
 |_,_,_=>none
def Od (Θ:nh) (S:St) (T:TypeId) (x y z:Operand):R0:=match S.pT Θ 0 x,S.rd Θ 0 y,S.rd Θ 0 z with
 |some (.al .mp s []),some ⟨.arr _ (.int .i64),_,k⟩,some ⟨.bool,_,b⟩=>(match S.at s with
  | .v ⟨.mp,.o T' tag me,xs⟩ []=>bif Θ.is T .mp then some (ZE k,(S.weaken s).set s (.v ⟨.mp,.o T' tag me,AL xs k b⟩ [])) else none
  |_=>none)
 |_,_,_=>none
def TO (Θ:nh) (S:St) (dst:Option Nat) (T:TypeId) (ps:List (Nat×Operand)):R0:=match ps,Θ.find T with
 |[(0,x),(1,y)],some i=>bif decide (i.ty=.arr 2 (.int .i64)) then(match S.rd Θ i.e x,S.rd Θ i.e y with
  |some ⟨.int .i64,_,n⟩,some ⟨.int .i64,_,k⟩=>some (true,S.put dst (.v ⟨.arr 2 (.int .i64),.k,[n,k]⟩ []))
  |_,_=>none) else none
 |_,_=>none
def ev (Θ:nh) (hn:Hn) (S:St) (o:Oper):R0:=match o.op with
 | .move x=>Mw Θ S o.dst o.type x
 | .assign x=>aaR Θ S o.dst o.type x
 | .pick c a b=>akG Θ S o.dst o.type c a b
 | .alloc T=>My Θ hn S o.dst T
 | .box T x=>ap1 Θ S o.dst T x
 | .build T ps=>match TN Θ S o.dst T ps.toList with
  |some r=>some r
  |none=>TO Θ S o.dst T ps.toList
 | .buildSlice T n ps=>fw Θ hn S o.dst T n ps.toList
 | .load T x=>tY Θ S o.dst T x
 | .store T x y=>match o.dst with
  |none=>(match E0 Θ S T x y with
   |some (g,S1)=>some (g,Mz Θ S S1 T y)
   |none=>none)
  |some _=>none
 | .nilCheck x=>R2 Θ S o.dst x
 | .fieldAddr T x f=>wa Θ S o.dst T x f
 | .field T x f=>afR Θ S o.dst T x f
 | .indexAddr T x ix=>iM Θ S o.dst T x ix
 | .index T x ix=>afS Θ S o.dst T x ix
 | .extract x j=>uZ S o.dst x j
 | .slice T x lo hi mx=>qZ Θ S o.dst T x lo hi mx
 | .convert T T' x=>wT Θ S o.dst T T' x
 | .binOp op T x y _=>aaS Θ S o.dst op T x y
 | .unOp op _ x=>aym Θ S o.dst op x
 | .makeSlice T l c=>wb Θ S o.dst T l c
 | .makeFunc (.func f) first kE=>R3 S o.dst f first.toList kE.toList
 | .call { callee:=.builtin .len,args:=as,argTypes:=ts }=>ap3 Θ S o.dst ts.toList as.toList
 | .call { callee:=.builtin .append,args:=as,argTypes:=ts }=>match iN Θ S o.dst ts.toList as.toList with
  |some r=>some r
  |none=>u5 Θ S o.dst ts.toList as.toList
 | .makeMap T r=>Xf S o.dst T r
 | .lookup T x y ok=>aaU Θ S o.dst T x y ok
 | .mapUpdate T x y z=>match o.dst with
  |none=>Od Θ S T x y z
  |some _=>none
 |_=>none
variable {w w':World} {Wr Nh:Nat->Prop} {H:Nat->Value}
theorem Fp {α:Type} (n:Nat):∀ {sr:List (List α)},(∀ c∈sr,c.length=n)->sr.flatten.length=sr.length*n
 |[],_=>by simp
 |c::r,h=>by have h1:=h c (by simp);have h2:=Fp n (sr:=r) λc hc=>h c (by simp[hc]);simp[h1,h2,bg,Nat.add_comm]
theorem Fq:∀ (t:Ty) {x:t.I} {cs:List Value},K w Wr t x cs->cs.length=t.size/\∀ u∈cs,u.oneCell'=true
 | .int k,n,cs,h=>by simp only[K] at h;subst h;exact⟨rfl,by simp[Value.oneCell']⟩
 | .bool,n,cs,h=>by simp only[K] at h;subst h;exact⟨rfl,by simp[Value.oneCell']⟩
 | .str,n,cs,h=>by simp only[K] at h;subst h;exact⟨rfl,by simp[Value.oneCell']⟩
 | .unit,n,cs,h=>by simp only[K] at h;subst h;exact⟨rfl,by simp⟩
 | .pair a b,x,cs,h=>by
  simp only[K] at h;obtain⟨c0,c1,rfl,h0,h1⟩:=h;obtain⟨l0,o0⟩:=Fq a h0;obtain⟨l1,o1⟩:=Fq b h1;refine⟨by simp[l0,l1,Ty.size],λu hu=>?_⟩;rcases bd.1 hu with hu |hu
  ·exact o0 u hu
  exact o1 u hu
 | .arr n t,xs,cs,h=>by
  simp only[K] at h;obtain⟨sr,rfl,hl,hx,hj⟩:=h;have tZ:∀ c∈sr,c.length=t.size/\∀ u∈c,u.oneCell'=true:=by intro c hc;obtain⟨j,hj1,rfl⟩:=bL.1 hc;exact Fq t (hj j (by omega) hj1)
  refine⟨by rw[Fp t.size λc hc=>(tZ c hc).1,hl];rfl,λu hu=>?_⟩;obtain⟨c,hc,hu⟩:=xy.1 hu;exact(tZ c hc).2 u hu
 | .sl t,xs,cs,h=>by simp only[K] at h;obtain⟨A,c,rfl,_⟩:=h;exact⟨rfl,by simp[Value.oneCell']⟩
 | .ptr t,xs,cs,h=>by simp only[K] at h;obtain⟨g,off,cur,T,fr,rfl,_⟩:=h;exact⟨rfl,by simp[Value.oneCell']⟩
 | .mp,x,cs,h=>by simp only[K] at h;obtain⟨g,es,n,rfl,_⟩:=h;exact⟨rfl,by simp[Value.oneCell']⟩
structure cR (w w':World) (Wr Nh:Nat->Prop):Prop where
 same:∀ g,¬Wr g->g<w.heap.size->w'.heap[g]?=w.heap[g]?
 wr:∀ g,g<w.heap.size->Nh g->Wr g
theorem cR.refl (w:World) (Wr:Nat->Prop):cR w w Wr Wr:=⟨λ_ _ _=>rfl,λ_ _ h=>h⟩
theorem dz {α:Type} {a:Array α} {g:Nat} {o:α} (h:a[g]?=some o):g<a.size:=(cz.1 h).1
theorem fR (hs:cR w w' Wr Nh):∀ (t:Ty) {x:t.I} {cs:List Value},K w Wr t x cs->K w' Nh t x cs
 | .int k,n,cs,h=>h
 | .bool,n,cs,h=>h
 | .str,n,cs,h=>h
 | .unit,n,cs,h=>h
 | .pair a b,x,cs,h=>by simp only[K] at h ⊢;obtain⟨c0,c1,rfl,h0,h1⟩:=h;exact⟨c0,c1,rfl,fR hs a h0,fR hs b h1⟩
 | .arr n t,xs,cs,h=>by simp only[K] at h ⊢;obtain⟨sr,rfl,hl,hx,hj⟩:=h;exact⟨sr,rfl,hl,hx,λj h1 h2=>fR hs t (hj j h1 h2)⟩
 | .sl t,xs,cs,h=>by simp only[K] at h ⊢;obtain⟨A,c,rfl,hc,h⟩:=h;refine⟨A,c,rfl,hc,λhp=>?_⟩;obtain⟨g,off,cur,T,fr,rfl,hg,hw,ho,hj⟩:=h hp;have gU:=dz hw;exact⟨g,off,cur,T,fr,rfl,λdU=>hg (hs.wr g gU dU),(hs.same g hg gU).trans hw,ho,λj hj1=>fR hs t (hj j hj1)⟩
 | .ptr t,x,cs,h=>by simp only[K] at h ⊢;obtain⟨g,off,cur,T,fr,rfl,hg,hw,ho,hj⟩:=h;have gU:=dz hw;exact⟨g,off,cur,T,fr,rfl,λdU=>hg (hs.wr g gU dU),(hs.same g hg gU).trans hw,ho,fR hs t hj⟩
 | .mp,x,cs,h=>by simp only[K] at h ⊢;obtain⟨g,es,n,rfl,hg,hw,hm⟩:=h;have gU:=dz hw;exact⟨g,es,n,rfl,λdU=>hg (hs.wr g gU dU),(hs.same g hg gU).trans hw,hm⟩
theorem rK:∀ (t:Ty) {m:Md} {x:t.I} {cs:List Value} {ow:Nat->Prop} {hs:List Path},M w Wr H t m x cs ow hs->cs.length=t.size/\∀ u∈cs,u.oneCell'=true
 | .int k,m,n,cs,_,_,h=>Fq (.int k) (by simp only[M] at h;exact h.2)
 | .bool,m,n,cs,_,_,h=>Fq .bool (by simp only[M] at h;exact h.2)
 | .str,m,n,cs,_,_,h=>Fq .str (by simp only[M] at h;exact h.2)
 | .unit,m,n,cs,_,_,h=>Fq .unit (by simp only[M] at h;exact h.2)
 | .arr n t,m,_,cs,_,_,h=>Fq (.arr n t) (by simp only[M] at h;exact h.2)
 | .pair a b,m,x,cs,ow,hs,h=>by
  simp only[M] at h;rcases h with⟨_,_,h⟩ |⟨_,h⟩ |⟨ma,mb,c0,c1,s,_,rfl,h0,h1⟩
  ·exact h
  ·exact Fq _ h
  obtain⟨l0,o0⟩:=rK a h0;obtain⟨l1,o1⟩:=rK b h1;refine⟨by simp[l0,l1,Ty.size],λu hu=>?_⟩;rcases bd.1 hu with hu |hu
  ·exact o0 u hu
  exact o1 u hu
 | .sl t,m,xs,cs,ow,hs,h=>by
  simp only[M] at h;rcases h with⟨_,_,A,c,rfl⟩ |⟨_,h⟩ |⟨T,tag,me,A,c,_,rfl,_⟩
  ·exact⟨rfl,by simp[Value.oneCell']⟩
  ·exact Fq _ h
  exact⟨rfl,by simp[Value.oneCell']⟩
 | .ptr t,m,xs,cs,ow,hs,h=>by
  simp only[M] at h;rcases h with⟨_,_,h⟩ |⟨_,h⟩ |⟨T,tag,me,g,cur,_,rfl,_⟩
  ·exact h
  ·exact Fq _ h
  exact⟨rfl,by simp[Value.oneCell']⟩
 | .mp,m,x,cs,ow,hs,h=>by
  simp only[M] at h;rcases h with⟨_,_,h⟩ |⟨_,h⟩ |⟨T,tag,g,es,n,_,rfl,_⟩
  ·exact h
  ·exact Fq _ h
  exact⟨rfl,by simp[Value.oneCell']⟩
theorem n9 :p∈sub s hs↔(s::p)∈hs:=by
 unfold sub;rw[List.mem_filterMap];constructor
 ·rintro⟨q,hq,h⟩;cases q with
  |nil=>simp at h
  |cons a r=>by_cases e:a=s<;>simp[e] at h;subst h e;exact hq
 intro h;exact⟨_,h,by simp⟩
theorem Ip (h:∀ p∈hs,p∈J1):∀ p∈sub s hs,p∈sub s J1:=λp hp=>n9.2 (h _ (n9.1 hp))
theorem ca (gy:cR w w' Wr Nh):∀ (t:Ty) {m:Md} {x:t.I} {cs:List Value} {ow kF:Nat->Prop} {hs J1:List Path},(∀ g,ow g->g<w.heap.size->w'.heap[g]?=w.heap[g]?)->(∀ g,ow g->g<w.heap.size->kF g)->(∀ p∈hs,p∈J1)->M w Wr H t m x cs ow hs->M w' Nh H t m x cs kF J1
 | .int k,m,n,cs,_,_,_,_,_,_,_,h=>by simp only[M] at h ⊢;exact h
 | .bool,m,n,cs,_,_,_,_,_,_,_,h=>by simp only[M] at h ⊢;exact h
 | .str,m,n,cs,_,_,_,_,_,_,_,h=>by simp only[M] at h ⊢;exact h
 | .unit,m,n,cs,_,_,_,_,_,_,_,h=>by simp only[M] at h ⊢;exact h
 | .arr n t,m,_,cs,_,_,_,_,_,_,_,h=>by simp only[M] at h ⊢;exact⟨h.1,fR gy _ h.2⟩
 | .pair a b,m,x,cs,ow,kF,hs,J1,hb,ho,hp,h=>by
  simp only[M] at h ⊢;rcases h with⟨h1,h⟩ |⟨h1,h⟩ |⟨ma,mb,c0,c1,s,e,rfl,h0,h1⟩
  ·exact .inl ⟨hp _ h1,h⟩
  ·exact .inr (.inl ⟨h1,fR gy _ h⟩)
  exact .inr (.inr ⟨ma,mb,c0,c1,s,e,rfl,ca gy a (λg hg=>hb g hg.1) (λg hg hl=>⟨ho g hg.1 hl,hg.2⟩) (Ip hp) h0,
   ca gy b (λg hg=>hb g hg.1) (λg hg hl=>⟨ho g hg.1 hl,hg.2⟩) (Ip hp) h1⟩)
 | .sl t,m,xs,cs,ow,kF,hs,J1,hb,ho,hp,h=>by
  simp only[M] at h ⊢;rcases h with⟨h1,h⟩ |⟨h1,h⟩ |⟨T,tag,me,A,c,e,rfl,hc,ht,h⟩
  ·exact .inl ⟨hp _ h1,h⟩
  ·exact .inr (.inl ⟨h1,fR gy _ h⟩)
  refine .inr (.inr ⟨T,tag,me,A,c,e,rfl,hc,ht,?_⟩);rcases h with h |⟨g,cur,τ,rfl,hg,hw,sW,hm,hj⟩
  ·exact .inl h
  have gU:=dz hw;exact .inr ⟨g,cur,τ,rfl,ho g hg gU,(hb g hg gU).trans hw,sW,hm,λj hj1=>ca gy t (λg' dU=>hb g' dU.1) (λg' dU hl=>⟨ho g' dU.1 hl,dU.2⟩) (Ip hp) (hj j hj1)⟩
 | .ptr t,m,x,cs,ow,kF,hs,J1,hb,ho,hp,h=>by
  simp only[M] at h ⊢;rcases h with⟨h1,h⟩ |⟨h1,h⟩ |⟨T,tag,me,g,cur,e,rfl,ht,hg,hw,h⟩
  ·exact .inl ⟨hp _ h1,h⟩
  ·exact .inr (.inl ⟨h1,fR gy _ h⟩)
  have gU:=dz hw;exact .inr (.inr ⟨T,tag,me,g,cur,e,rfl,ht,ho g hg gU,(hb g hg gU).trans hw,ca gy t (λg' dU=>hb g' dU.1) (λg' dU hl=>⟨ho g' dU.1 hl,dU.2⟩) (Ip hp) h⟩)
 | .mp,m,x,cs,ow,kF,hs,J1,hb,ho,hp,h=>by
  simp only[M] at h ⊢;rcases h with⟨h1,h⟩ |⟨h1,h⟩ |⟨T,tag,g,es,n,e,rfl,ht,hg,hw,hm⟩
  ·exact .inl ⟨hp _ h1,h⟩
  ·exact .inr (.inl ⟨h1,fR gy _ h⟩)
  have gU:=dz hw;exact .inr (.inr ⟨T,tag,g,es,n,e,rfl,ht,ho g hg gU,(hb g hg gU).trans hw,hm⟩)
theorem M_K (hw:∀ g,g<w.heap.size->Nh g->Wr g):∀ (t:Ty) {m:Md} {x:t.I} {cs:List Value} {ow:Nat->Prop} {hs:List Path},hs=[]->(∀ g,ow g->¬Nh g)->M w Wr H t m x cs ow hs->K w Nh t x cs
 | .int k,m,n,cs,_,_,_,_,h=>by simp only[M] at h;exact h.2
 | .bool,m,n,cs,_,_,_,_,h=>by simp only[M] at h;exact h.2
 | .str,m,n,cs,_,_,_,_,h=>by simp only[M] at h;exact h.2
 | .unit,m,n,cs,_,_,_,_,h=>by simp only[M] at h;exact h.2
 | .arr n t,m,_,cs,_,_,_,_,h=>by simp only[M] at h;exact fR ⟨λ_ _ _=>rfl,hw⟩ _ h.2
 | .pair a b,m,x,cs,ow,hs,e,hn,h=>by
  subst e;simp only[M] at h;rcases h with⟨h1,h⟩ |⟨h1,h⟩ |⟨ma,mb,c0,c1,s,e,rfl,h0,h1⟩
  ·simp at h1
  ·exact fR ⟨λ_ _ _=>rfl,hw⟩ _ h
  simp only[K];exact⟨c0,c1,rfl,M_K hw a rfl (λg hg=>hn g hg.1) h0,M_K hw b rfl (λg hg=>hn g hg.1) h1⟩
 | .sl t,m,xs,cs,ow,hs,e,hn,h=>by
  subst e;simp only[M] at h;rcases h with⟨h1,h⟩ |⟨h1,h⟩ |⟨T,tag,me,A,c,e,rfl,hc,ht,h⟩
  ·simp at h1
  ·exact fR ⟨λ_ _ _=>rfl,hw⟩ _ h
  simp only[K];refine⟨A,c,rfl,hc,λhp=>?_⟩;rcases h with⟨rfl,_⟩ |⟨g,cur,τ,rfl,hg,hh,sW,hm,hj⟩
  ·simp at hp
  exact⟨g,0,cur,T,(0,0),rfl,hn g hg,hh,by rw[sW];have:=aD t.size hc;omega,λj hj1=>by
   rw[aW];exact M_K hw t rfl (λg' dU=>hn g' dU.1) (hj j hj1)⟩
 | .ptr t,m,x,cs,ow,hs,e,hn,h=>by
  subst e;simp only[M] at h;rcases h with⟨h1,h⟩ |⟨h1,h⟩ |⟨T,tag,me,g,cur,e,rfl,ht,hg,hh,h⟩
  ·simp at h1
  ·exact fR ⟨λ_ _ _=>rfl,hw⟩ _ h
  have hl:=(rK t h).1;simp only[K];refine⟨g,0,cur,T,(0,0),rfl,hn g hg,hh,by rw[←hl];simp,?_⟩;rw[dX,cB (by omega)];exact M_K hw t rfl (λg' dU=>hn g' dU.1) h
 | .mp,m,x,cs,ow,hs,e,hn,h=>by
  subst e;simp only[M] at h;rcases h with⟨h1,h⟩ |⟨h1,h⟩ |⟨T,tag,g,es,n,e,rfl,ht,hg,hh,hm⟩
  ·simp at h1
  ·exact fR ⟨λ_ _ _=>rfl,hw⟩ _ h
  simp only[K];exact⟨g,es,n,rfl,hn g hg,hh,hm⟩
end Go.Pv
namespace Go.Pv
open List Int IntKind
variable {w w':World} {Wr Nh:Nat->Prop} {H:Nat->Value}
theorem ua:∀ (t:Ty) {x:t.I} {cs:List Value} {ow:Nat->Prop} {hs:List Path},K w Wr t x cs->M w Wr H t .k x cs ow hs
 | .int _,_,_,_,_,h=>by simp only[M];exact⟨rfl,h⟩
 | .bool,_,_,_,_,h=>by simp only[M];exact⟨rfl,h⟩
 | .str,_,_,_,_,h=>by simp only[M];exact⟨rfl,h⟩
 | .unit,_,_,_,_,h=>by simp only[M];exact⟨rfl,h⟩
 | .arr _ _,_,_,_,_,h=>by simp only[M];exact⟨rfl,h⟩
 | .mp,_,_,_,_,h=>by simp only[M];exact .inr (.inl ⟨rfl,h⟩)
 | .pair _ _,_,_,_,_,h=>by simp only[M];exact .inr (.inl ⟨rfl,h⟩)
 | .sl _,_,_,_,_,h=>by simp only[M];exact .inr (.inl ⟨rfl,h⟩)
 | .ptr _,_,_,_,_,h=>by simp only[M];exact .inr (.inl ⟨rfl,h⟩)
theorem tJ:∀ (t:Ty) {m:Md} {x:t.I} {cs:List Value} {ow:Nat->Prop} {hs:List Path},m.fu=true->M w Wr H t m x cs ow hs->K w Wr t x cs
 | .int _,_,_,_,_,_,_,h=>by simp only[M] at h;exact h.2
 | .bool,_,_,_,_,_,_,h=>by simp only[M] at h;exact h.2
 | .str,_,_,_,_,_,_,h=>by simp only[M] at h;exact h.2
 | .unit,_,_,_,_,_,_,h=>by simp only[M] at h;exact h.2
 | .arr _ _,_,_,_,_,_,_,h=>by simp only[M] at h;exact h.2
 | .mp,m,_,_,_,_,hk,h=>by
  simp only[M] at h;rcases h with⟨_,h,_⟩ |⟨_,h⟩ |⟨T,tag,g,es,n,rfl,_⟩
  ·rw[hk] at h;cases h
  ·exact h
  simp[Md.fu] at hk
 | .sl _,m,_,_,_,_,hk,h=>by
  simp only[M] at h;rcases h with⟨_,h,_⟩ |⟨_,h⟩ |⟨T,tag,me,A,c,rfl,_⟩
  ·rw[hk] at h;cases h
  ·exact h
  simp[Md.fu] at hk
 | .ptr _,m,_,_,_,_,hk,h=>by
  simp only[M] at h;rcases h with⟨_,h,_⟩ |⟨_,h⟩ |⟨T,tag,me,g,cur,rfl,_⟩
  ·rw[hk] at h;cases h
  ·exact h
  simp[Md.fu] at hk
 | .pair a b,m,_,_,_,_,hk,h=>by
  simp only[M] at h;rcases h with⟨_,h,_⟩ |⟨_,h⟩ |⟨ma,mb,c0,c1,s,rfl,rfl,h0,h1⟩
  ·rw[hk] at h;cases h
  ·exact h
  simp[Md.fu] at hk;simp only[K];exact⟨c0,c1,rfl,tJ a hk.1 h0,tJ b hk.2 h1⟩
theorem KO {ow:Nat->Prop} (hk:m.fu=true) (h:K w Wr t x cs):M w Wr H t m x cs ow hs:=by cases t<;>simp only[M]<;>first |exact⟨hk,h⟩ |exact .inr (.inl ⟨hk,h⟩)
theorem MA {m:Md} (h:m.fu=true):m.inn.fu=true:=by cases m<;>simp_all [Md.fu,Md.inn]
theorem ahO {m:Md} (h:m.fu=true):m.l.fu=true:=by cases m<;>simp_all [Md.fu,Md.l]
theorem ahP {m:Md} (h:m.fu=true):m.r.fu=true:=by cases m<;>simp_all [Md.fu,Md.r]
theorem TP {ow s:Nat->Prop} (h0:M w Wr H a ma x c0 (λg=>ow g/\s g) (sub .fst hs)) (h1:M w Wr H b mb y c1 (λg=>ow g/\ ¬s g) (sub .snd hs)): M w Wr H (.pair a b) (mkM ma mb) (x,y) (c0++c1) ow hs:=by
 unfold mkM;cases h:ma.fu&&mb.fu with
 |false=>simp only[ae,M];exact .inr (.inr ⟨ma,mb,c0,c1,s,rfl,rfl,h0,h1⟩)
 |true=>simp at h;exact ua _ (by simp only[K];exact⟨c0,c1,rfl,tJ a h.1 h0,tJ b h.2 h1⟩)
def rowAt (w:World) (g off n:Nat):Option (List Value):=match w.heap[g]? with
 |some (.cells cur _ _)=>if off+n<=cur.size then some ((cur.toList.drop off).take n) else none
 |_=>none
def cD (w:World):Path->(t:Ty)->List Value->Option (List Value)
 |[],_,cs=>some cs
 | .deref::p,.ptr t,[.pointer (some ⟨g,off,none⟩)]=>(rowAt w g off t.size).bind (cD w p t)
 | .fst::p,.pair a _,cs=>cD w p a (cs.take a.size)
 | .snd::p,.pair a b,cs=>cD w p b (cs.drop a.size)
 | .idx i::p,.sl t,[.slice (some ⟨g,off,none⟩) _ _]=>(rowAt w g (off+i*t.size) t.size).bind (cD w p t)
 |_::_,_,_=>none
def addrAt (w:World):Path->(t:Ty)->List Value->Option (Nat×Nat)->Option (Nat×Nat)
 |[],_,_,l=>l
 | .deref::p,.ptr t,[.pointer (some ⟨g,off,none⟩)],_=>(rowAt w g off t.size).bind λcs=>addrAt w p t cs (some (g,off))
 | .fst::p,.pair a _,cs,l=>addrAt w p a (cs.take a.size) l
 | .snd::p,.pair a b,cs,l=>addrAt w p b (cs.drop a.size) (l.map λq=>(q.1,q.2+a.size))
 | .idx i::p,.sl t,[.slice (some ⟨g,off,none⟩) _ _],_=>(rowAt w g (off+i*t.size) t.size).bind λcs=>addrAt w p t cs (some (g,off+i*t.size))
 |_::_,_,_,_=>none
def valid:Path->(t:Ty)->t.I->Prop
 |[],_,_=>True
 | .deref::p,.ptr t,x=>valid p t x
 | .fst::p,.pair a _,x=>valid p a x.1
 | .snd::p,.pair _ b,x=>valid p b x.2
 | .idx i::p,.sl t,xs=>i<xs.length/\valid p t (xs.getD i t.z)
 |_::_,_,_=>False
def TQ:Path->List Path->List Path
 |[],hs=>hs
 |s::p,hs=>TQ p (sub s hs)
theorem aaV:∀ {hs:List Path},q∈TQ p hs↔(p++q)∈hs:=by
 induction p with
 |nil=>intro hs;rfl
 |cons s p ih=>intro hs;simp only[TQ,ih,n9,bF]
def open_ (p:Path) (hs:List Path):Prop:=∀ h∈hs,∀ s r,p≠h++s::r
theorem open_.sub {s:Step} {p:Path} {hs:List Path} (h:open_ (s::p) hs):open_ p (sub s hs):=λq hq s' r e=>h _ (n9.1 hq) s' r (by rw[e];rfl)
theorem open_.not_nil {s:Step} {p:Path} {hs:List Path} (h:open_ (s::p) hs):[]∉hs:=λhn=>h [] hn s p rfl
theorem eT (h:w.heap[g]?=some (.cells cur T fr)) (hl:off+n<=cur.size):rowAt w g off n=some ((cur.toList.drop off).take n):=by simp[rowAt,h,hl]
theorem focus:∀ (p:Path) {t:Ty} {m:Md} {x:t.I} {cs:List Value} {ow:Nat->Prop} {hs:List Path} {b:TV},M w Wr H t m x cs ow hs->open_ p hs->valid p t x->dP p t m x=some b-> ∃ kY kF,cD w p t cs=some kY/\(∀ g,kF g->ow g)/\M w Wr H b.t b.m b.x kY kF (TQ p hs)
 |[],t,m,x,cs,ow,hs,b,h,ho,hv,hg=>by simp only[dP,ah] at hg;subst hg;exact⟨cs,ow,rfl,λ_ h=>h,h⟩
 | .deref::p,.ptr t,m,x,cs,ow,hs,b,h,ho,hv,hg=>by
  simp only[dP] at hg;simp only[valid] at hv;simp only[M] at h;rcases h with⟨hn,_⟩ |⟨hk,h⟩ |⟨T,tag,me,g,cur,rfl,rfl,ht,Ni,hw,h⟩
  ·exact absurd hn ho.not_nil
  ·simp only[K] at h;obtain⟨g,off,cur,T,fr,rfl,hng,hw,hl,h⟩:=h;obtain⟨kY,kF,h1,h2,h3⟩:=focus p (ow:=λ_=>False) (KO (MA hk) h) ho.sub hv hg
   exact⟨kY,kF,by simp only[cD,eT hw hl,aL];exact h1,λg hg=>(h2 g hg).elim,h3⟩
  have hlen:=(rK t h).1;obtain⟨kY,kF,h1,h2,h3⟩:=focus p h ho.sub hv hg
  refine⟨kY,kF,?_,λg hg=>(h2 g hg).1,h3⟩;have sW:0+t.size<=cur.size:=(by rw[←hlen];simp);simp only[cD,eT hw sW,aL,dX];rw[cB (by omega)];exact h1
 | .fst::p,.pair a b',m,x,cs,ow,hs,b,h,ho,hv,hg=>by
  simp only[dP] at hg;simp only[valid] at hv;simp only[M] at h;rcases h with⟨hn,_⟩ |⟨hk,h⟩ |⟨ma,mb,c0,c1,s,rfl,rfl,h0,h1⟩
  ·exact absurd hn ho.not_nil
  ·simp only[K] at h;obtain⟨c0,c1,rfl,h0,h1⟩:=h;obtain⟨kY,kF,k1,k2,k3⟩:=focus p (ow:=λ_=>False) (KO (ahO hk) h0) ho.sub hv hg
   exact⟨kY,kF,by simp only[cD];rw[←(Fq a h0).1,eh];exact k1,λg hg=>(k2 g hg).elim,k3⟩
  obtain⟨kY,kF,k1,k2,k3⟩:=focus p h0 ho.sub hv hg
  exact⟨kY,kF,by simp only[cD];rw[←(rK a h0).1,eh];exact k1,λg hg=>(k2 g hg).1,k3⟩
 | .snd::p,.pair a b',m,x,cs,ow,hs,b,h,ho,hv,hg=>by
  simp only[dP] at hg;simp only[valid] at hv;simp only[M] at h;rcases h with⟨hn,_⟩ |⟨hk,h⟩ |⟨ma,mb,c0,c1,s,rfl,rfl,h0,h1⟩
  ·exact absurd hn ho.not_nil
  ·simp only[K] at h;obtain⟨c0,c1,rfl,h0,h1⟩:=h;obtain⟨kY,kF,k1,k2,k3⟩:=focus p (ow:=λ_=>False) (KO (ahP hk) h1) ho.sub hv hg
   exact⟨kY,kF,by simp only[cD];rw[←(Fq a h0).1,dy];exact k1,λg hg=>(k2 g hg).elim,k3⟩
  obtain⟨kY,kF,k1,k2,k3⟩:=focus p h1 ho.sub hv hg
  exact⟨kY,kF,by simp only[cD];rw[←(rK a h0).1,dy];exact k1,λg hg=>(k2 g hg).1,k3⟩
 | .idx i::p,.sl t,m,xs,cs,ow,hs,b,h,ho,hv,hg=>by
  simp only[dP] at hg;simp only[valid] at hv;obtain⟨hi,hv⟩:=hv;have sB:(show List t.I from xs).getD i t.z=(show List t.I from xs)[i]:=by simp[aF,aU hi]
  simp only[M] at h;rcases h with⟨hn,_⟩ |⟨hk,h⟩ |⟨T,tag,me,A,c,rfl,rfl,hc,ht,h⟩
  ·exact absurd hn ho.not_nil
  ·simp only[K] at h;obtain⟨A,c,rfl,hc,h⟩:=h;obtain⟨g,off,cur,T,fr,rfl,hng,hw,hl,h⟩:=h (by omega);have hbound:off+i*t.size+t.size<=cur.size:=by have:=aD t.size (show i+1<=xs.length from hi);rw[bg,cM] at this;omega
   have hK:=h i hi;rw[←sB] at hK;obtain⟨kY,kF,h1,h2,h3⟩:=focus p (ow:=λ_=>False) (KO (MA hk) hK) ho.sub hv hg
   exact⟨kY,kF,by simp only[cD,eT hw hbound,aL];exact h1,λg hg=>(h2 g hg).elim,h3⟩
  rcases h with⟨rfl,_⟩ |⟨g,cur,τ,rfl,Ni,hw,sW,hm,h⟩
  ·simp at hi
  have hbound:i*t.size+t.size<=cur.size:=(by have h1:=aD t.size (show i+1<=xs.length from hi);have h2:=aD t.size hc;rw[bg,cM] at h1;omega);have hM:=h i hi;rw[←sB] at hM;obtain⟨kY,kF,h1,h2,h3⟩:=focus p hM ho.sub hv hg
  exact⟨kY,kF,by simp only[cD,aW,eT hw hbound,aL];exact h1,λg hg=>(h2 g hg).1,h3⟩
end Go.Pv
namespace Go.Pv
open List Int IntKind
variable {w w':World} {Wr Nh:Nat->Prop} {H:Nat->Value}
def putCells (cur:List Value) (off:Nat) (c:List Value):List Value:=cur.take off++c++cur.drop (off+c.length)
theorem yJ (cur c:List Value) (off k:Nat) (h:off+c.length<=cur.length): (putCells cur off c)[k]?=if k<off then cur[k]? else if k<off+c.length then c[k - off]? else cur[k]?:=by
 unfold putCells;have hl:(cur.take off).length=off:=by rw[aH];omega
 by_cases h1:k<off
 ·rw[aA h1,bA,dY (by omega),bQ,aA h1]
 rw[aq h1];by_cases h2:k<off+c.length
 ·rw[aA h2,bA,cL (by omega),hl,dY (by omega)]
 rw[aq h2,cL (by rw[au];omega),au,hl,cG];congr 1;omega
theorem yK (cur c:List Value) (off:Nat) (h:off+c.length<=cur.length):(putCells cur off c).length=cur.length:=by unfold putCells;simp only[au,aH,a8];omega
theorem ayn (cur c:List Value) (a off n:Nat) (h1:off+c.length<=n) (h2:a+n<=cur.length): ((putCells cur (a+off) c).drop a).take n=putCells ((cur.drop a).take n) off c:=by
 apply de;intro k;have hl:((cur.drop a).take n).length=n:=by simp;omega
 rw[yJ _ _ _ _ (by omega)];by_cases hk:k<n
 ·rw[bQ,aA hk,cG,yJ _ _ _ _ (by omega)];simp only[bQ,aA hk,cG];by_cases h3:k<off
  ·rw[aA h3,aA (by omega)]
  rw[aq h3,aq (by omega)];by_cases h4:k<off+c.length
  ·rw[aA h4,aA (by omega)];congr 1;omega
  rw[aq h4,aq (by omega)]
 rw[bQ,aq hk,aq (by omega),aq (by omega),bQ,aq hk]
theorem auW (cur c:List Value) (o a n:Nat) (h:o+c.length<=cur.length) (hd:a+n<=o∨o+c.length<=a): ((putCells cur o c).drop a).take n=(cur.drop a).take n:=by
 apply de;intro k;by_cases hk:k<n
 ·simp only[bQ,aA hk,cG];rw[yJ _ _ _ _ h];by_cases h3:a+k<o
  ·rw[aA h3]
  rw[aq h3,aq (by omega)]
 simp only[bQ,aq hk]
def cu:Path->Bool
 |[]=>true
 | .fst::p=>cu p
 | .snd::p=>cu p
 |_::_=>false
def cE:Path->Ty->Nat
 | .fst::p,.pair a _=>cE p a
 | .snd::p,.pair a b=>a.size+cE p b
 |_,_=>0
def MB:Path->Ty->List Value->List Value->List Value
 |[],_,_,c=>c
 | .fst::p,.pair a _,cs,c=>MB p a (cs.take a.size) c++cs.drop a.size
 | .snd::p,.pair a b,cs,c=>cs.take a.size++MB p b (cs.drop a.size) c
 |_,_,cs,_=>cs
def Gn (w w':World) (loc:Option (Nat×Nat)) (c:List Value) (g:Nat):Prop:=match loc with
 |some q=>if g=q.1 then ∃ cur T,w.heap[g]?=some (.cells cur T (0,0))/\w'.heap[g]?=some (.cells (putCells cur.toList q.2 c).toArray T (0,0)) else w'.heap[g]?=w.heap[g]?
 |none=>w'.heap[g]?=w.heap[g]?
theorem q7:∀ (p:Path) {t:Ty} {m:Md} {x:t.I} {b:TV},cu p=true->dP p t m x=some b->cE p t+b.t.size<=t.size
 |[],t,m,x,b,_,hg=>by simp only[dP,ah] at hg;subst hg;simp[cE]
 | .fst::p,.pair a b',m,x,b,hm,hg=>by simp only[dP] at hg;have:=q7 p (by simpa[cu] using hm) hg;simp only[cE,Ty.size];omega
 | .snd::p,.pair a b',m,x,b,hm,hg=>by simp only[dP] at hg;have:=q7 p (by simpa[cu] using hm) hg;simp only[cE,Ty.size];omega
theorem q8:∀ (p:Path) {t:Ty} {cs:List Value},cu p=true->addrAt w p t cs none=none
 |[],_,_,_=>rfl
 | .fst::p,.pair a b,cs,h=>by simp only[addrAt];exact q8 p (by simpa[cu] using h)
 | .snd::p,.pair a b,cs,h=>by simp only[addrAt,Option.map_none];exact q8 p (by simpa[cu] using h)
 | .fst::p,.int _,_,_ | .fst::p,.bool,_,_ | .fst::p,.str,_,_ | .fst::p,.sl _,_,_ | .fst::p,.ptr _,_,_ | .fst::p,.unit,_,_ | .fst::p,.arr _ _,_,_ | .fst::p,.mp,_,_=>by simp[addrAt]
 | .snd::p,.int _,_,_ | .snd::p,.bool,_,_ | .snd::p,.str,_,_ | .snd::p,.sl _,_,_ | .snd::p,.ptr _,_,_ | .snd::p,.unit,_,_ | .snd::p,.arr _ _,_,_ | .snd::p,.mp,_,_=>by simp[addrAt]
theorem AM:∀ (p:Path) {t:Ty} {m:Md} {x:t.I} {cs:List Value} {b:TV} {g o:Nat},cu p=true->dP p t m x=some b->addrAt w p t cs (some (g,o))=some (g,o+cE p t)
 |[],_,_,_,_,_,_,_,_,_=>by simp[addrAt,cE]
 | .fst::p,.pair a b,m,x,cs,_,_,_,h,hg=>by simp only[dP] at hg;simp only[addrAt,cE];exact AM p (by simpa[cu] using h) hg
 | .snd::p,.pair a b,m,x,cs,_,g,o,h,hg=>by simp only[dP] at hg;simp only[addrAt,cE,aS];rw[AM p (by simpa[cu] using h) hg,fv]
theorem J2:∀ (p:Path) {t:Ty} {cs:List Value} (l l':Option (Nat×Nat)),cu p=false->addrAt w p t cs l=addrAt w p t cs l'
 |[],_,_,_,_,h=>by simp[cu] at h
 | .fst::p,.pair a b,cs,l,l',h=>by simp only[addrAt];exact J2 p _ _ (by simpa[cu] using h)
 | .snd::p,.pair a b,cs,l,l',h=>by simp only[addrAt];exact J2 p _ _ (by simpa[cu] using h)
 | .deref::p,.ptr t,cs,l,l',h=>by unfold addrAt;split<;>simp_all
 | .idx i::p,.sl t,cs,l,l',h=>by unfold addrAt;split<;>simp_all
 | .fst::p,.int _,_,_,_,_ | .fst::p,.bool,_,_,_,_ | .fst::p,.str,_,_,_,_ | .fst::p,.sl _,_,_,_,_ | .fst::p,.ptr _,_,_,_,_ | .fst::p,.unit,_,_,_,_ | .fst::p,.arr _ _,_,_,_,_ | .fst::p,.mp,_,_,_,_=>by simp[addrAt]
 | .snd::p,.int _,_,_,_,_ | .snd::p,.bool,_,_,_,_ | .snd::p,.str,_,_,_,_ | .snd::p,.sl _,_,_,_,_ | .snd::p,.ptr _,_,_,_,_ | .snd::p,.unit,_,_,_,_ | .snd::p,.arr _ _,_,_,_,_ | .snd::p,.mp,_,_,_,_=>by simp[addrAt]
 | .deref::p,.int _,_,_,_,_ | .deref::p,.bool,_,_,_,_ | .deref::p,.str,_,_,_,_ | .deref::p,.sl _,_,_,_,_ | .deref::p,.pair _ _,_,_,_,_ | .deref::p,.unit,_,_,_,_ | .deref::p,.arr _ _,_,_,_,_ | .deref::p,.mp,_,_,_,_=>by simp[addrAt]
 | .idx _::p,.int _,_,_,_,_ | .idx _::p,.bool,_,_,_,_ | .idx _::p,.str,_,_,_,_ | .idx _::p,.ptr _,_,_,_,_ | .idx _::p,.pair _ _,_,_,_,_ | .idx _::p,.unit,_,_,_,_ | .idx _::p,.arr _ _,_,_,_,_ | .idx _::p,.mp,_,_,_,_=>by simp[addrAt]
theorem rL:∀ (p:Path) {t:Ty} {m:Md} {x:t.I} {cs:List Value} {b:TV},cu p=true->dP p t m x=some b->cs.length=t.size->cD w p t cs=some ((cs.drop (cE p t)).take b.t.size)
 |[],t,m,x,cs,b,_,hg,hl=>by simp only[dP,ah] at hg;subst hg;simp only[cD,cE,dX];rw[cB (by show cs.length<=t.size;omega)]
 | .fst::p,.pair a b',m,x,cs,b,h,hg,hl=>by simp only[dP] at hg;simp only[Ty.size] at hl;have hf:=q7 p (by simpa[cu] using h) hg;simp only[cD,cE];rw[rL p (by simpa[cu] using h) hg (by rw[aH];omega),iL,ni];congr 2;omega
 | .snd::p,.pair a b',m,x,cs,b,h,hg,hl=>by simp only[dP] at hg;simp only[Ty.size] at hl;simp only[cD,cE];rw[rL p (by simpa[cu] using h) hg (by rw[a8];omega),ef]
theorem Fs:∀ (p:Path) {t:Ty} {m:Md} {x:t.I} {cs c:List Value} {b:TV},cu p=true->dP p t m x=some b->cs.length=t.size->c.length=b.t.size->MB p t cs c=putCells cs (cE p t) c
 |[],t,m,x,cs,c,b,_,hg,hl,hc=>by simp only[dP,ah] at hg;subst hg;simp only[MB,cE,putCells,tX,b7,aW];rw[List.drop_of_length_le (by have hc':c.length=t.size:=hc;omega),b6]
 | .fst::p,.pair a b',m,x,cs,c,b,h,hg,hl,hc=>by simp only[dP] at hg;simp only[Ty.size] at hl;have hf:=q7 p (by simpa[cu] using h) hg;simp only[MB,cE];rw[Fs p (by simpa[cu] using h) hg (by rw[aH];omega) hc];unfold putCells;rw[ni,kM (by omega),bA,bA,bA,iL];congr 2;rw[show cs.drop a.size=(cs.drop (cE p a+c.length)).drop (a.size - (cE p a+c.length)) from by rw[ef];congr 1;omega,ep]
 | .snd::p,.pair a b',m,x,cs,c,b,h,hg,hl,hc=>by simp only[dP] at hg;simp only[Ty.size] at hl;simp only[MB,cE];rw[Fs p (by simpa[cu] using h) hg (by rw[a8];omega) hc];unfold putCells;rw[←bA,←bA,←List.take_add,ef];congr 2;omega
theorem DZ:∀ (p:Path) {t:Ty} {cs c:List Value},cu p=false->MB p t cs c=cs
 |[],_,_,_,h=>by simp[cu] at h
 | .fst::p,.pair a b,cs,c,h=>by simp only[MB];rw[DZ p (by simpa[cu] using h),ep]
 | .snd::p,.pair a b,cs,c,h=>by simp only[MB];rw[DZ p (by simpa[cu] using h),ep]
 | .deref::p,t,cs,c,h=>by simp[MB]
 | .idx i::p,t,cs,c,h=>by simp[MB]
 | .fst::p,.int _,_,_,_ | .fst::p,.bool,_,_,_ | .fst::p,.str,_,_,_ | .fst::p,.sl _,_,_,_ | .fst::p,.ptr _,_,_,_ | .fst::p,.unit,_,_,_ | .fst::p,.arr _ _,_,_,_ | .fst::p,.mp,_,_,_=>by simp[MB]
 | .snd::p,.int _,_,_,_ | .snd::p,.bool,_,_,_ | .snd::p,.str,_,_,_ | .snd::p,.sl _,_,_,_ | .snd::p,.ptr _,_,_,_ | .snd::p,.unit,_,_,_ | .snd::p,.arr _ _,_,_,_ | .snd::p,.mp,_,_,_=>by simp[MB]
end Go.Pv
namespace Go.Pv
open List Int IntKind
variable {w w':World} {Wr Nh:Nat->Prop} {H:Nat->Value}
def aDA (w:World) (Wr:Nat->Prop) (H:Nat->Value) (p:Path) (t:Ty) (m:Md) (x:t.I) (cs:List Value) (ow kF:Nat->Prop) (hs:List Path) (b:TV) (kY:List Value):Prop:=∀ (b2:TV) (r:Md×t.I),b2.t=b.t->v7 b2 p t m x=some r-> (∀ g off,addrAt w p t cs none=some (g,off)->ow g/\ ¬kF g/\∃ cur T,w.heap[g]?=some (.cells cur T (0,0))/\off+b.t.size<=cur.size/\kY=(cur.toList.drop off).take b.t.size)/\ ∀ (w':World) (Nh:Nat->Prop) (c:List Value) (D0:Nat->Prop) (J1:List Path),cR w w' Wr Nh->c.length=b.t.size-> (∀ g,ow g->¬kF g->g<w.heap.size->Gn w w' (addrAt w p t cs none) c g)->M w' Nh H b2.t b2.m b2.x c D0 (TQ p J1)-> (∀ g,D0 g->g<w.heap.size->ow g->kF g)->(∀ h,(∀ q,h≠p++q)->h∈hs->h∈J1)-> M w' Nh H t r.1 r.2 (MB p t cs c) (λg=>(ow g/\ ¬kF g)∨D0 g) J1
theorem Ih {s:Step} {p:Path} {hs J1:List Path} (h:∀ h,(∀ q,h≠s::p++q)->h∈hs->h∈J1):∀ h,(∀ q,h≠p++q)->h∈sub s hs->h∈sub s J1:=λq hq hm=>
 n9.2 (h _ (λr e=>hq r (by rw[bF] at e;injection e)) (n9.1 hm))
theorem Oe {s s':Step} (xB:s'≠s) {p:Path} {hs J1:List Path} (h:∀ h,(∀ q,h≠s::p++q)->h∈hs->h∈J1):∀ q∈sub s' hs,q∈sub s' J1:=λq hq=>
 n9.2 (h _ (λr e=>by rw[bF] at e;injection e with e _;exact xB e) (n9.1 hq))
theorem aaW {b2:TV} {i:Nat} {p:Path} {t:Ty} {T:TypeId} {tag:Option Nat} {me:Md} {xs:List t.I} {r:Md×List t.I} (h:v7 b2 (.idx i::p) (.sl t) (.o T tag me) xs=some r): ∃ r1,v7 b2 p t me (getD xs i t.z)=some r1/\r1.1=me/\r=(.o T tag me,List.set xs i r1.2):=by
 unfold v7 at h;split at h
 ·rename_i r1 h1;split at h
  ·rename_i h2;injection h with h;exact⟨r1,h1,h2,h.symm⟩
  cases h
 cases h
theorem Xg:∀ (p:Path) {t:Ty} {m:Md} {x:t.I} {cs:List Value} {ow:Nat->Prop} {hs:List Path} {b:TV},M w Wr H t m x cs ow hs->open_ p hs->valid p t x->dP p t m x=some b-> ∃ kY kF,cD w p t cs=some kY/\(∀ g,kF g->ow g)/\M w Wr H b.t b.m b.x kY kF (TQ p hs)/\aDA w Wr H p t m x cs ow kF hs b kY
 |[],t,m,x,cs,ow,hs,b,h,ho,hv,hg=>by simp only[dP,ah] at hg;subst hg;refine⟨cs,ow,rfl,λ_ h=>h,h,λb2 r ht hr=>⟨λg off e=>by simp[addrAt] at e,λw' Nh c D0 J1 gy hc hb hm N8 hh=>?_⟩⟩;obtain⟨t2,m2,x2⟩:=b2;simp only at ht;subst ht;simp only[v7,dite_true,ah] at hr;subst hr;exact ca (cR.refl _ _) t2 (λ_ _ _=>rfl) (λg hg _=>.inr hg) (λ_ h=>h) hm
 | .deref::p,.ptr t,m,x,cs,ow,hs,b,h,ho,hv,hg=>by
  simp only[dP] at hg;simp only[valid] at hv;simp only[M] at h;rcases h with⟨hn,_⟩ |⟨hk,h⟩ |⟨T,tag,me,g,cur,rfl,rfl,ht,Ni,hw,h⟩
  ·exact absurd hn ho.not_nil
  ·obtain⟨kY,kF,h1,h2,h3⟩:=focus (H:=H) (ow:=ow) (.deref::p) (KO (t:=.ptr t) hk h) ho hv (by simpa only[dP] using hg)
   exact⟨kY,kF,h1,h2,h3,λb2 r _ hr=>by cases m<;>simp[v7,Md.fu] at hr hk⟩
  have hlen:=(rK t h).1;obtain⟨kY,kF,h1,h2,h3,h4⟩:=Xg p h ho.sub hv hg;have sW:0+t.size<=cur.size:=(by rw[←hlen];simp);have wc:rowAt w g 0 t.size=some cur.toList:=(by rw[eT hw sW,dX,cB (by omega)]);refine⟨kY,kF,?_,λg hg=>(h2 g hg).1,h3,λb2 r Qg hr=>?_⟩
  ·simp only[cD,wc,aL];exact h1
  simp only[v7] at hr;cases hr1:v7 b2 p t me x with
  |none=>simp[hr1] at hr
  |some r1=>
  simp only[hr1,ah] at hr;subst hr;obtain⟨ha,Ft⟩:=h4 b2 r1 Qg hr1;have J3:addrAt w (.deref::p) (.ptr t) [.pointer (some ⟨g,0,none⟩)] none=addrAt w p t cur.toList (some (g,0)):=by simp only[addrAt,wc,aL]
  cases hml:cu p with
  |true=>
  have nM:=AM (w:=w) (cs:=cur.toList) (g:=g) (o:=0) p hml hg;have R4:=q7 p hml hg;have C1:=rL (w:=w) p hml hg hlen;rw[h1] at C1;injection C1 with C1;rw[J3,nM];refine⟨λg' off e=>?_,λw' Nh c D0 J1 gy hc hb hm N8 hh=>?_⟩
  ·injection e with e;injection e with e1 e2;subst e1 e2;exact⟨Ni,λhx=>(h2 g hx).2 rfl,cur,T,hw,by rw[←hlen] at R4;simp at R4 ⊢;omega,by rw[aW];exact C1⟩
  have gU:=dz hw;have dU:=hb g Ni (λhx=>(h2 g hx).2 rfl) gU;simp only[Gn,dF,aW] at dU;obtain⟨vW,T2,e2,MC⟩:=dU;rw[hw] at e2;injection e2 with e2;injection e2 with e2 e3;subst e2 e3;have hM:=Ft w' Nh c D0 (sub .deref J1) gy hc (λg' rJ MD hl=>by
   rw[q8 p hml]
   have:=hb g' rJ.1 MD hl
   simp only[Gn,rJ.2,c9] at this
   exact this) hm (λg' rJ hl MD=>N8 g' rJ hl MD.1) (Ih hh)
  rw[Fs p hml hg hlen hc] at hM;simp only[MB,M];refine .inr (.inr ⟨T,tag,r1.1,g,_,rfl,rfl,ht,.inl ⟨Ni,λhx=>(h2 g hx).2 rfl⟩,MC,?_⟩);refine ca (cR.refl _ _) t (λ_ _ _=>rfl) (λg' rJ hl=>?_) (λ_ h=>h) hM;rcases rJ with⟨⟨a1,a2⟩,a3⟩ |a
  ·exact⟨.inl ⟨a1,a3⟩,a2⟩
  refine⟨.inr a,λe=>?_⟩;subst e;exact(h2 g' (N8 g' a gU Ni)).2 rfl
  |false=>
  have nM:=J2 (w:=w) (t:=t) (cs:=cur.toList) p (some (g,0)) none hml;rw[J3,nM];refine⟨λg' off e=>?_,λw' Nh c D0 J1 gy hc hb hm N8 hh=>?_⟩
  ·obtain⟨a1,a2,a3⟩:=ha g' off e;exact⟨a1.1,a2,a3⟩
  have gU:=dz hw;have hM:=Ft w' Nh c D0 (sub .deref J1) gy hc (λg' rJ MD hl=>hb g' rJ.1 MD hl) hm (λg' rJ hl MD=>N8 g' rJ hl MD.1) (Ih hh);rw[DZ p hml] at hM;have MC:w'.heap[g]?=some (.cells cur T (0,0)):=by
   have dU:=hb g Ni (λhx=>(h2 g hx).2 rfl) gU;cases ME:addrAt w p t cur.toList none with
   |none=>rw[ME] at dU;exact dU.trans hw
   |some q=>rw[ME] at dU;have xB:g≠q.1:=λe=>(ha q.1 q.2 ME).1.2 e.symm;simp only[Gn,xB,c9] at dU;exact dU.trans hw
  simp only[MB,M];refine .inr (.inr ⟨T,tag,r1.1,g,_,rfl,rfl,ht,.inl ⟨Ni,λhx=>(h2 g hx).2 rfl⟩,MC,?_⟩);refine ca (cR.refl _ _) t (λ_ _ _=>rfl) (λg' rJ hl=>?_) (λ_ h=>h) hM;rcases rJ with⟨⟨a1,a2⟩,a3⟩ |a
  ·exact⟨.inl ⟨a1,a3⟩,a2⟩
  refine⟨.inr a,λe=>?_⟩;subst e;exact(h2 g' (N8 g' a gU Ni)).2 rfl
 | .fst::p,.pair a b',m,x,cs,ow,hs,b,h,ho,hv,hg=>by
  simp only[dP] at hg;simp only[valid] at hv;have D1:∃ c0 c1,∃ s:Nat->Prop,cs=c0++c1/\M w Wr H a m.l x.1 c0 (λg=>ow g/\s g) (sub .fst hs)/\M w Wr H b' m.r x.2 c1 (λg=>ow g/\ ¬s g) (sub .snd hs):=by
   simp only[M] at h;rcases h with⟨hn,_⟩ |⟨hk,h⟩ |⟨ma,mb,c0,c1,s,rfl,rfl,h0,h1⟩
   ·exact absurd hn ho.not_nil
   ·simp only[K] at h;obtain⟨c0,c1,rfl,h0,h1⟩:=h;exact⟨c0,c1,λ_=>True,rfl,KO (ahO hk) h0,KO (ahP hk) h1⟩
   exact⟨c0,c1,s,rfl,h0,h1⟩
  obtain⟨c0,c1,s,rfl,h0,h1⟩:=D1;obtain⟨kY,kF,k1,k2,k3,k4⟩:=Xg p h0 ho.sub hv hg;have l0:=(rK a h0).1;have ht:(c0++c1).take a.size=c0:=(by rw[←l0,eh]);have hd:(c0++c1).drop a.size=c1:=(by rw[←l0,dy]);refine⟨kY,kF,by simp only[cD,ht];exact k1,λg hg=>(k2 g hg).1,k3,λb2 r Qg hr=>?_⟩;simp only[v7] at hr;cases hr1:v7 b2 p a m.l x.1 with
  |none=>simp[hr1] at hr
  |some r1=>
  simp only[hr1,ah] at hr;subst hr;obtain⟨ha,Ft⟩:=k4 b2 r1 Qg hr1;have J3:addrAt w (.fst::p) (.pair a b') (c0++c1) none=addrAt w p a c0 none:=by simp only[addrAt,ht]
  rw[J3];refine⟨λg' off e=>?_,λw' Nh c D0 J1 gy hc hb hm N8 hh=>?_⟩
  ·obtain⟨a1,a2,a3⟩:=ha g' off e;exact⟨a1.1,a2,a3⟩
  have hM:=Ft w' Nh c D0 (sub .fst J1) gy hc (λg' rJ MD hl=>hb g' rJ.1 MD hl) hm (λg' rJ hl MD=>N8 g' rJ hl MD.1) (Ih hh);simp only[MB,ht,hd];refine TP (s:=λg=>(s g/\ow g)∨D0 g) ?_ ?_
  ·refine ca (cR.refl _ _) a (λ_ _ _=>rfl) (λg' rJ hl=>?_) (λ_ h=>h) hM;rcases rJ with⟨⟨a1,a2⟩,a3⟩ |q
   ·exact⟨.inl ⟨a1,a3⟩,.inl ⟨a2,a1⟩⟩
   exact⟨.inr q,.inr q⟩
  refine ca gy b' (λg' rJ hl=>?_) (λg' rJ hl=>⟨.inl ⟨rJ.1,λhx=>rJ.2 (k2 g' hx).2⟩,λhx=>?_⟩) (Oe (by decide) hh) h1
  ·have dU:=hb g' rJ.1 (λhx=>rJ.2 (k2 g' hx).2) hl;cases ME:addrAt w p a c0 none with
   |none=>rw[ME] at dU;exact dU
   |some q=>rw[ME] at dU;have xB:g'≠q.1:=λe=>rJ.2 (by rw[e];exact(ha q.1 q.2 ME).1.2);simp only[Gn,xB,c9] at dU;exact dU
  rcases hx with hx |hx
  ·exact rJ.2 hx.1
  exact rJ.2 (k2 g' (N8 g' hx hl rJ.1)).2
 | .snd::p,.pair a b',m,x,cs,ow,hs,b,h,ho,hv,hg=>by
  simp only[dP] at hg;simp only[valid] at hv;have D1:∃ c0 c1,∃ s:Nat->Prop,cs=c0++c1/\M w Wr H a m.l x.1 c0 (λg=>ow g/\s g) (sub .fst hs)/\M w Wr H b' m.r x.2 c1 (λg=>ow g/\ ¬s g) (sub .snd hs):=by
   simp only[M] at h;rcases h with⟨hn,_⟩ |⟨hk,h⟩ |⟨ma,mb,c0,c1,s,rfl,rfl,h0,h1⟩
   ·exact absurd hn ho.not_nil
   ·simp only[K] at h;obtain⟨c0,c1,rfl,h0,h1⟩:=h;exact⟨c0,c1,λ_=>True,rfl,KO (ahO hk) h0,KO (ahP hk) h1⟩
   exact⟨c0,c1,s,rfl,h0,h1⟩
  obtain⟨c0,c1,s,rfl,h0,h1⟩:=D1;obtain⟨kY,kF,k1,k2,k3,k4⟩:=Xg p h1 ho.sub hv hg;have l0:=(rK a h0).1;have ht:(c0++c1).take a.size=c0:=(by rw[←l0,eh]);have hd:(c0++c1).drop a.size=c1:=(by rw[←l0,dy]);refine⟨kY,kF,by simp only[cD,hd];exact k1,λg hg=>(k2 g hg).1,k3,λb2 r Qg hr=>?_⟩;simp only[v7] at hr;cases hr1:v7 b2 p b' m.r x.2 with
  |none=>simp[hr1] at hr
  |some r1=>
  simp only[hr1,ah] at hr;subst hr;obtain⟨ha,Ft⟩:=k4 b2 r1 Qg hr1;have J3:addrAt w (.snd::p) (.pair a b') (c0++c1) none=addrAt w p b' c1 none:=by simp only[addrAt,hd,Option.map_none]
  rw[J3];refine⟨λg' off e=>?_,λw' Nh c D0 J1 gy hc hb hm N8 hh=>?_⟩
  ·obtain⟨a1,a2,a3⟩:=ha g' off e;exact⟨a1.1,a2,a3⟩
  have hM:=Ft w' Nh c D0 (sub .snd J1) gy hc (λg' rJ MD hl=>hb g' rJ.1 MD hl) hm (λg' rJ hl MD=>N8 g' rJ hl MD.1) (Ih hh);simp only[MB,ht,hd];refine TP (s:=λg=>(s g/\ow g)/\ ¬D0 g) ?_ ?_
  ·refine ca gy a (λg' rJ hl=>?_) (λg' rJ hl=>⟨.inl ⟨rJ.1,λhx=>(k2 g' hx).2 rJ.2⟩,⟨rJ.2,rJ.1⟩,λhx=>(k2 g' (N8 g' hx hl rJ.1)).2 rJ.2⟩) (Oe (by decide) hh) h0;have dU:=hb g' rJ.1 (λhx=>(k2 g' hx).2 rJ.2) hl;cases ME:addrAt w p b' c1 none with
   |none=>rw[ME] at dU;exact dU
   |some q=>rw[ME] at dU;have xB:g'≠q.1:=λe=>(ha q.1 q.2 ME).1.2 (by rw[←e];exact rJ.2);simp only[Gn,xB,c9] at dU;exact dU
  refine ca (cR.refl _ _) b' (λ_ _ _=>rfl) (λg' rJ hl=>?_) (λ_ h=>h) hM;rcases rJ with⟨⟨a1,a2⟩,a3⟩ |q
  ·exact⟨.inl ⟨a1,a3⟩,λhx=>a2 hx.1.1⟩
  exact⟨.inr q,λhx=>hx.2 q⟩
 | .idx i::p,.sl t,m,xs,cs,ow,hs,b,h,ho,hv,hg=>by
  simp only[dP] at hg;have hv0:=hv;simp only[valid] at hv;obtain⟨hi,hv⟩:=hv;have sB:getD xs i t.z=xs[i]:=by simp[aF,aU hi]
  simp only[M] at h;rcases h with⟨hn,_⟩ |⟨hk,h⟩ |⟨T,tag,me,A,c,rfl,rfl,hc,ht,h⟩
  ·exact absurd hn ho.not_nil
  ·obtain⟨kY,kF,h1,h2,h3⟩:=focus (H:=H) (ow:=ow) (.idx i::p) (KO (t:=.sl t) hk h) ho hv0 (by simpa only[dP] using hg)
   exact⟨kY,kF,h1,h2,h3,λb2 r _ hr=>by cases m<;>simp[v7,Md.fu] at hr hk⟩
  rcases h with⟨rfl,_⟩ |⟨g,cur,τ,rfl,Ni,hw,sW,hm,h⟩
  ·simp at hi
  ·have aAX:i*t.size+t.size<=cur.size:=by
    have h1:=aD t.size (show i+1<=xs.length from hi)
    have h2:=aD t.size hc
    rw[bg,cM] at h1
    omega
   have hM0:=h i hi
   rw[←sB] at hM0
   have hlen:=(rK t hM0).1
   obtain⟨kY,kF,h1,h2,h3,h4⟩:=Xg p hM0 ho.sub hv hg
   have wc:rowAt w g (0+i*t.size) t.size=some ((cur.toList.drop (i*t.size)).take t.size):=by rw[aW,eT hw aAX]
   refine⟨kY,kF,?_,λg hg=>(h2 g hg).1,h3,λb2 r Qg hr=>?_⟩
   ·simp only[cD,wc,aL];exact h1
   obtain⟨r1,hr1,hme,rfl⟩:=aaW hr
   obtain⟨ha,Ft⟩:=h4 b2 r1 Qg hr1
   have J3:addrAt w (.idx i::p) (.sl t) [.slice (some ⟨g,0,none⟩) xs.length c] none=addrAt w p t ((cur.toList.drop (i*t.size)).take t.size) (some (g,i*t.size)):=by
    simp only[addrAt];rw[wc];simp only[aL,aW]
   -- the other elements,and this one,behind the change
   have gU:=dz hw
   have rest:∀ (w':World) (Nh:Nat->Prop) (c2:List Value) (D0:Nat->Prop) (J1:List Path) (vW:Array Value),cR w w' Wr Nh->
     (∀ g',ow g'->g'≠g->¬kF g'->(∀ q,addrAt w p t ((cur.toList.drop (i*t.size)).take t.size) none=some q->g'≠q.1)->g'<w.heap.size->w'.heap[g']?=w.heap[g']?)->
     w'.heap[g]?=some (.cells vW T (0,0))->vW.size=cur.size->
     (∀ j,j<xs.length->j≠i->(vW.toList.drop (j*t.size)).take t.size=(cur.toList.drop (j*t.size)).take t.size)->
     M w' Nh H t r1.1 r1.2 ((vW.toList.drop (i*t.size)).take t.size) (λg'=>((ow g'/\g'≠g/\τ g'=i)/\ ¬kF g')∨D0 g') (sub (.idx i) J1)->
     (∀ g',D0 g'->g'<w.heap.size->ow g'->kF g')->(∀ h,(∀ q,h≠ .idx i::p++q)->h∈hs->h∈J1)->
     M w' Nh H (.sl t) (.o T tag me) (List.set xs i r1.2) [.slice (some ⟨g,0,none⟩) xs.length c] (λg'=>(ow g'/\ ¬kF g')∨D0 g') J1:=by
    intro w' Nh c2 D0 J1 vW gy xm MC aDB Gp hM N8 hh
    have hng: ¬kF g:=λhx=>(h2 g hx).2.1 rfl
    simp only[M]
    refine .inr (.inr ⟨T,tag,me,some ⟨g,0,none⟩,c,rfl,by rw[br],by rw[br];exact hc,λh hh=>by rw[br];exact ht h hh,.inr ⟨g,vW,λg'=>open Classical in if D0 g' then i else τ g',rfl,.inl ⟨Ni,hng⟩,MC,by rw[aDB,sW],hm,λj hj=>?_⟩⟩)
    rw[br] at hj
    by_cases HE:j=i
    ·subst HE
     rw[List.getElem_set_self,←hme]
     refine ca (cR.refl _ _) t (λ_ _ _=>rfl) (λg' rJ hl=>?_) (λ_ h=>h) hM
     rcases rJ with⟨⟨a1,a2,a3⟩,a4⟩ |a
     ·exact⟨.inl ⟨a1,a4⟩,a2,by simp only;split<;>first |rfl |exact a3⟩
     ·refine⟨.inr a,λe=>?_,by simp only;rw[aA a]⟩
      subst e
      exact hng (N8 g' a gU Ni)
    ·rw[List.getElem_set_ne (λe=>HE e.symm),Gp j hj HE]
     have aAY:∀ g',(ow g'/\g'≠g/\τ g'=j)->g'<w.heap.size->¬D0 g':=λg' rJ hl hx=>HE (by rw[←rJ.2.2];exact(h2 g' (N8 g' hx hl rJ.1)).2.2)
     have aAZ:∀ g',(ow g'/\g'≠g/\τ g'=j)->¬kF g':=λg' rJ hx=>HE (by rw[←rJ.2.2];exact(h2 g' hx).2.2)
     refine ca gy t (λg' rJ hl=>xm g' rJ.1 rJ.2.1 (aAZ g' rJ) (λq hq e=>?_) hl) (λg' rJ hl=>⟨.inl ⟨rJ.1,aAZ g' rJ⟩,rJ.2.1,?_⟩) (Oe (by intro e;injection e with e;exact HE e) hh) (h j hj)
     ·have:=(ha q.1 q.2 hq).1.2.2
      rw[←e,rJ.2.2] at this
      exact HE this
     ·simp only
      rw[aq (aAY g' rJ hl)]
      exact rJ.2.2
   cases hml:cu p with
   |true=>
    have nM:=AM (w:=w) (cs:=(cur.toList.drop (i*t.size)).take t.size) (g:=g) (o:=i*t.size) p hml hg
    have R4:=q7 p hml hg
    have C1:=rL (w:=w) p hml hg hlen
    rw[h1] at C1
    injection C1 with C1
    rw[J3,nM]
    refine⟨λg' off e=>?_,λw' Nh c2 D0 J1 gy hc2 hb hm2 N8 hh=>?_⟩
    ·injection e with e
     injection e with e1 e2
     subst e1 e2
     refine⟨Ni,λhx=>(h2 g hx).2.1 rfl,cur,T,hw,by omega,?_⟩
     rw[C1,iL,ef,ni]
     congr 1
     omega
    ·have dU:=hb g Ni (λhx=>(h2 g hx).2.1 rfl) gU
     simp only[Gn,dF] at dU
     obtain⟨vW,T2,e2,MC⟩:=dU
     rw[hw] at e2
     injection e2 with e2
     injection e2 with e2 e3
     subst e2 e3
     have aA0:i*t.size+cE p t+c2.length<=cur.toList.length:=by rw[hc2,bT];omega
     have hM:=Ft w' Nh c2 D0 (sub (.idx i) J1) gy hc2 (λg' rJ MD hl=>by
      rw[q8 p hml]
      have:=hb g' rJ.1 MD hl
      simp only[Gn,rJ.2.1,c9] at this
      exact this) hm2 (λg' rJ hl MD=>N8 g' rJ hl MD.1) (Ih hh)
     rw[Fs p hml hg hlen hc2] at hM
     refine rest w' Nh c2 D0 J1 _ gy (λg' rJ MD hg3 _ hl=>?_) MC (by rw[cg,yK _ _ _ aA0,bT]) (λj hj HE=>?_) ?_ N8 hh
     ·have:=hb g' rJ hg3 hl
      simp only[Gn,MD,c9] at this
      exact this
     ·rw[b5]
      refine auW _ _ _ _ _ aA0 ?_
      rcases Nat.lt_or_gt_of_ne HE with ayo |ayo
      ·left
       have:=aD t.size (show j+1<=i from ayo)
       rw[bg,cM] at this
       omega
      ·right
       have:=aD t.size (show i+1<=j from ayo)
       rw[bg,cM] at this
       rw[hc2]
       omega
     ·rw[b5,ayn _ _ _ _ _ (by rw[hc2];omega) (by rw[bT];omega)]
      exact hM
   |false=>
    have nM:=J2 (w:=w) (t:=t) (cs:=(cur.toList.drop (i*t.size)).take t.size) p (some (g,i*t.size)) none hml
    rw[J3,nM]
    refine⟨λg' off e=>?_,λw' Nh c2 D0 J1 gy hc2 hb hm2 N8 hh=>?_⟩
    ·obtain⟨a1,a2,a3⟩:=ha g' off e
     exact⟨a1.1,a2,a3⟩
    ·have hM:=Ft w' Nh c2 D0 (sub (.idx i) J1) gy hc2 (λg' rJ MD hl=>hb g' rJ.1 MD hl) hm2 (λg' rJ hl MD=>N8 g' rJ hl MD.1) (Ih hh)
     rw[DZ p hml] at hM
     have same:∀ g',ow g'->¬kF g'->(∀ q,addrAt w p t ((cur.toList.drop (i*t.size)).take t.size) none=some q->g'≠q.1)->g'<w.heap.size->w'.heap[g']?=w.heap[g']?:=by
      intro g' rJ MD hq hl
      have dU:=hb g' rJ MD hl
      cases ME:addrAt w p t ((cur.toList.drop (i*t.size)).take t.size) none with
      |none=>rw[ME] at dU;exact dU
      |some q=>
       rw[ME] at dU
       simp only[Gn,hq q ME,c9] at dU
       exact dU
     have MC:w'.heap[g]?=some (.cells cur T (0,0)):=(same g Ni (λhx=>(h2 g hx).2.1 rfl) (λq hq e=>(ha q.1 q.2 hq).1.2.1 e.symm) gU).trans hw
     exact rest w' Nh c2 D0 J1 cur gy (λg' rJ _ hg3 hq hl=>same g' rJ hg3 hq hl) MC rfl (λj hj HE=>rfl) hM N8 hh
end Go.Pv
namespace Go.Pv
open List Int IntKind
structure jD where
 res:List TV
 refs:List TV
inductive Arg where
 |tv (a:TV)
 |fn (f:FuncId) (kE:List TV)
inductive Pass where
 |val |take |Gq
 deriving DecidableEq
structure vi where
 sig:FuncId->List Pass
 run:FuncId->List Arg->(jD->Option jD)->Option jD
structure Entry where
 f:FuncId
 sig:List Pass
 run:List Arg->(jD->Option jD)->Option jD
def entry:List Entry->FuncId->Option Entry
 |[],_=>none
 |e::r,f=>bif Nat.beq e.f f then some e else entry r f
def vi.of (l:List Entry):vi where
 sig f:=match entry l f with
  |some e=>e.sig
  |none=>[]
 run f:=match entry l f with
  |some e=>e.run
  |none=>λ_ _=>none
inductive Ex where
 |n |x (id:Nat) |r
inductive CK where
 |kv (t:Ty) |pl (t:Ty) (s:Nat) (p:Path)
@[reducible] def aaX:List CK->Type
 |[]=>Unit
 | .kv t::r=>t.I×aaX r
 | .pl _ _ _::r=>aaX r
def Iq:(cs:List CK)->aaX cs->List Cap
 |[],_=>[]
 | .kv t::r,x=>.kv ⟨t,.k,x.1⟩::Iq r x.2
 | .pl t s p::r,x=>.pl t s p::Iq r x
def Of:(cs:List CK)->List Cap->Option (aaX cs)
 |[],[]=>some ()
 | .kv t::r,.kv ⟨t',m',x⟩::S=>if h:t'=t then(if m'=.k then match Of r S with
  |some y=>some (h▸x,y)
  |none=>none else none) else none
 | .pl t s p::r,.pl t' s' p'::S=>if t'=t then(bif Nat.beq s' s then(if p'=p then Of r S else none) else none) else none
 |_,_=>none
inductive Kd where
 |dead |v (t:Ty) (m:Md) |al (t:Ty) (s:Nat) |EY (f:FuncId) (cs:List CK)
@[reducible] def Fu:List Kd->Type
 |[]=>Unit
 | .v t _::r=>t.I×Fu r
 | .dead::r=>Fu r
 | .al _ _::r=>Fu r
 | .EY _ cs::r=>aaX cs×Fu r
def shape:(ks:List Kd)->Fu ks->St
 |[],_=>[]
 | .v t m::r,x=>.v ⟨t,m,x.1⟩ []::shape r x.2
 | .dead::r,x=>.dead::shape r x
 | .al t s::r,x=>.al t s []::shape r x
 | .EY f cs::r,x=>.EY f (Iq cs x.1)::shape r x.2
def proj:(ks:List Kd)->St->Option (Fu ks)
 |[],[]=>some ()
 | .v t m::r,.v ⟨t',m',x⟩ []::S=>if h:t'=t then(if m'=m then match proj r S with
  |some y=>some (h▸x,y)
  |none=>none else none) else none
 | .dead::r,_::S=>proj r S
 | .al t s::r,.al t' s' []::S=>if t'=t then(bif Nat.beq s' s then proj r S else none) else none
 | .EY f cs::r,.EY f' kE::S=>bif Nat.beq f' f then(match Of cs kE,proj r S with
  |some y,some z=>some (y,z)
  |_,_=>none) else none
 |_,_=>none
def wU (all:List Kd):List Kd->Bool
 |[]=>true
 | .al _ s::r=>(match all[s]? with
  |some (.v _ _)=>true
  |_=>false)&&wU all r
 | .EY _ cs::r=>(cs.all λc=>match c with
  | .kv _=>true
  | .pl _ s _=>match all[s]? with
   |some (.v _ _)=>true
   |_=>false)&&wU all r
 |_::r=>wU all r
inductive OT where
 |done |one (i:Nat) (t:OT) |any (l:List Nat) (t:OT) |par (l:List Nat) (ds:List (List Nat)) (t:OT) |own (d:Nat) (t:OT) |cut (ks:List Kd) (t:OT) |fz (q:Nat×Path) (t:OT)
def OT.seq:List Nat->OT->OT
 |[],t=>t
 |i::r,t=>.one i (OT.seq r t)
structure Hint where
 tab:nh
 hn:Hn:=[]
 loops:List (Nat×List Kd):=[]
 outs:List (Nat×Nat×List Kd):=[]
 dA:List (Nat×OT):=[]
 nH:Option (Nat×Bool):=none
 G2:List (Nat×List (Nat×Path)):=[]
 keep:List Nat:=[]
def ahQ:Path->Bool
 |[]=>true | .idx _::_=>false |_::p=>ahQ p
def St.auX (S:St) (q:Nat×Path):St:=match S.at q.1 with
 | .v r []=>match dP q.2 r.t r.m r.x with
  |some b=>bif b.m.fu|| !ahQ q.2 then S else(match q.2 with
   |[]=>S.put (some q.1) (.v (kTV r) [])
   |_=>(match v7 (kTV b) q.2 r.t r.m r.x with
    |some (m,z)=>St.put (((S.weaken q.1).cover q.1 q.2).set q.1 (.v r [q.2])) (some q.1) (.v ⟨r.t,m,z⟩ [])
    |none=>S))
  |none=>S
 |_=>S
def akH:List (Nat×List (Nat×Path))->Nat->St->St
 |[],_,S=>S
 |q::r,id,S=>bif Nat.beq q.1 id then q.2.foldl St.auX S else akH r id S
def AN:List (Nat×List Kd)->Nat->Option (List Kd)
 |[],_=>none
 |q::r,k=>bif Nat.beq q.1 k then some q.2 else AN r k
def auY (S:St) (i:Nat):Kd->St
 | .v _ m=>bif m.fu then S else match S.at i with
  | .al t s []=>(match S.pL (.tmp i) (.al t s []) with
   |some (a,S1)=>S1.put (some i) (.v a [])
   |none=>S)
  |_=>S
 |_=>S
def akI:List Kd->Nat->St->St
 |[],_,S=>S
 |k::r,i,S=>akI r (i+1) (auY S i k)
def J4 (ks:List Kd) (S:St):Option St:=bif wU ks ks then(match proj ks (akI ks 0 S) with
  |some x=>some (shape ks x)
  |none=>none) else none
def Hint.clean (h:Hint) (key:Nat) (S:St):Option St:=match AN h.loops key with
 |some ks=>J4 ks S
 |none=>none
def Ex.num:Ex->Nat
 | .n=>0 | .r=>1 | .x id=>id+2
def axp:List (Nat×Nat×List Kd)->Nat->Nat->Option (List Kd)
 |[],_,_=>none
 |q::r,k,e=>bif Nat.beq q.1 k&&Nat.beq q.2.1 e then some q.2.2 else axp r k e
def aen (S:St):Cap->Option TV
 | .pl _ s p=>match S.place s p with
  |some a=>some (kTV a)
  |none=>none
 | .kv a=>some a
def MF (S:St):List Cap->Option (List TV)
 |[]=>some []
 |c::r=>match aen S c,MF S r with
  |some a,some l=>some (a::l)
  |_,_=>none
def vC (Θ:nh):St->List Operand->List TypeId->List Pass->Option (List (Option TV)×St)
 |S,[],_,_=>some ([],S)
 |S,x::xs,T::Ts,p::ps=>match p with
  | .val=>match vC Θ S xs Ts ps with
   |some r=>some (none::r.1,r.2)
   |none=>none
  | .take=>match S.take Θ T x with
   |some (a,S1)=>match vC Θ S1 xs Ts ps with
    |some r=>some (some a::r.1,r.2)
    |none=>none
   |none=>none
  | .Gq=>none
 |_,_,_,_=>none
def reads (Θ:nh) (S:St):List Operand->List TypeId->List (Option TV)->Option (List Arg)
 |[],_,_=>some []
 |x::xs,T::Ts,p::ps=>match p with
  |some a=>match reads Θ S xs Ts ps with
   |some r=>some (.tv a::r)
   |none=>none
  |none=>match S.pT Θ T x with
   |some (.EY f kE)=>match MF S kE,reads Θ S xs Ts ps with
    |some l,some r=>some (.fn f l::r)
    |_,_=>none
   |some av=>match S.PK av,reads Θ S xs Ts ps with
    |some a,some r=>some (.tv (kTV a)::r)
    |_,_=>none
   |none=>none
 |_,_,_=>none
def aeo:List TV->AV
 |[a]=>.v a []
 |l=>.PJ (l.map some)
def am7 (a:TV):Bool:=match a.t with
 | .ptr _=>a.m.fu
 |_=>false
def Og (S:St) (f:FuncId):Option Nat->Option (List TV)
 |none=>some []
 |some i=>match S.at i with
  | .EY f' kE=>bif Nat.beq f' f then(match MF S kE with
   |some l=>bif l.all am7 then some l else none
   |none=>none) else none
  |_=>none
def J5:Md->Bool
 | .k=>true | .o _ tag m=>(match tag with
  |none=>true
  |some _=>false)&&J5 m
 | .p a b=>J5 a&&J5 b
def ub:Ty->Bool
 | .sl _=>false | .ptr _=>false | .pair a b=>ub a&&ub b | .arr _ t=>ub t | .mp=>false |_=>true
def uK:Ty->Md->Bool
 | .sl t,.o _ _ m=>uK t m
 | .ptr t,.o _ _ m=>uK t m
 | .pair a b,.p m n=>uK a m&&uK b n
 |t,m=>m.fu&&ub t
def Rp (S:St):Operand->Bool
 | .tmp i=>(match S.at i with
  | .v b []=>b.m.fu
  |_=>false)
 | .const _=>true
 |_=>false
def xS (S:St):List Operand->List (Option TV)->List Arg->Bool
 |[],_,_=>true
 |x::xs,p::ps,r::rs=>((match p with
  |some _=>true
  |none=>false)||(match r with
  | .tv b=>uK b.t b.m||Rp S x
  | .fn _ cs=>cs.isEmpty))&&xS S xs ps rs
 |_,_,_=>false
def xC (h:Hint) (O:vi) (o:Oper) (f:FuncId) (cal:Option Nat) (args:List Operand) (ts:List TypeId) (S:St) (K:St->Option jD):Option jD:=
 match vC h.tab S args ts (O.sig f) with
 |some (l,S1)=>match reads h.tab S1 args ts l,Og S1 f cal with
  |some as,some cs=>O.run f (as++cs.map .tv) λret=>match ret.refs with
   |[]=>bif ret.res.all (λd=>uK d.t d.m)||(cs.isEmpty&&xS S1 args l as) then K (S1.put o.dst (aeo ret.res)) else none
   |_::_=>none
  |_,_=>none
 |none=>none
def sX:Ty->Md->Bool
 | .sl _,.o _ _ m=>J5 m
 | .ptr _,.o _ _ m=>J5 m
 | .mp,.o _ _ m=>J5 m
 | .pair a b,.p m n=>sX a m&&sX b n
 |_,m=>m.fu
def Oh:Ty->Md->Bool
 | .sl t,.o _ _ m=>uK t m
 | .ptr t,.o _ _ m=>uK t m
 | .mp,.o ..=>true
 | .pair a b,.p m n=>Oh a m&&Oh b n
 |_,m=>m.fu
def xD:Ty->Md->Nat->Md
 | .sl _,.o T _ m,n=>.o T (some n) m
 | .ptr _,.o T _ m,n=>.o T (some n) m
 | .mp,.o T _ m,n=>.o T (some n) m
 | .pair a b,.p ma mb,n=>.p (xD a ma n) (xD b mb (n+a.size))
 |_,m,_=>m
def rM:(t:Ty)->Md->t.I->t.I->t.I
 | .sl _,.o ..,_,y=>y
 | .ptr _,.o ..,_,y=>y
 | .mp,.o ..,_,y=>y
 | .pair a b,.p ma mb,x,y=>(rM a ma x.1 y.1,rM b mb x.2 y.2)
 |_,_,x,_=>x
def R5:List Pass->Nat->Option Nat
 |[],_=>none
 | .Gq::_,j=>some j
 |_::r,j=>R5 r (j+1)
def D2 (x:Operand):AV->Option (Nat×Path)
 | .v _ _=>match x with
  | .tmp i=>some (i,[])
  |_=>none
 | .al _ s p=>some (s,p)
 |_=>none
def St.MG (S:St) (s:Nat) (b:TV):Path->Option St
 |[]=>some (S.put (some s) (.v b []))
 |p=>match S.at s with
  | .v r ex=>match v7 b p r.t r.m r.x with
   |some (m,z)=>some (S.put (some s) (.v ⟨r.t,m,z⟩ ex.dropLast))
   |none=>none
  |_=>none
def Oi (h:Hint) (O:vi) (o:Oper) (f:FuncId) (j:Nat) (args:List Operand) (ts:List TypeId) (S:St) (K:St->Option jD):Option jD:=
 match args[j]?,ts[j]? with
 |some x,some T=>match S.pT h.tab T x with
  |some av=>match D2 x av,S.pL x av with
   |some (s,p),some (b,S1)=>bif !b.m.fu&&sX b.t b.m then
     (match reads h.tab S1 args ts ((List.replicate args.length none).set j (some ⟨b.t,xD b.t b.m 0,b.x⟩)) with
     |some as=>bif Oh b.t b.m||xS S1 args ((List.replicate args.length none).set j (some ⟨b.t,xD b.t b.m 0,b.x⟩)) as then O.run f as λret=>match ret.refs with
      |[c]=>bif ret.res.all (λd=>J5 d.m&&(uK d.t d.m||xS S1 args ((List.replicate args.length none).set j (some ⟨b.t,xD b.t b.m 0,b.x⟩)) as)) then(if hc:c.t=b.t then(if c.m=xD b.t b.m 0 then
        (match S1.MG s ⟨b.t,b.m,rM b.t b.m b.x (hc▸c.x)⟩ p with
        |some S2=>K ((S.again S2 s).put o.dst (aeo ret.res))
        |none=>none) else none) else none) else none
      |_=>none else none
     |none=>none) else none
   |_,_=>none
  |none=>none
 |_,_=>none
def both (a b:Option jD):Option jD:=open Classical in if a=b then a else none
theorem Ii (a:Option jD):both a a=a:=by simp[both]
theorem aoG (h:both a b=some r):a=some r/\b=some r:=by
 unfold both at h;split at h
 ·rename_i e;exact⟨h,by rw[←e];exact h⟩
 cases h
def am8 (h:Hint) (dst:Option Nat) (T:TypeId) (eq:Bool) (x:Operand) (S:St) (K:St->Option jD):Option jD:=match S.rd h.tab 0 x with
 |some ⟨.sl t,_,xs⟩=>bif h.tab.is T (.sl t) then(bif List.isEmpty xs then both (K (S.put dst (.v ⟨.bool,.k,true⟩ []))) (K (S.put dst (.v ⟨.bool,.k,false⟩ []))) else K (S.put dst (.v ⟨.bool,.k,!eq⟩ []))) else none
 |_=>none
def MH:Op->Bool
 | .binOp _ _ _ (.const (.slice none _ _)) _=>true
 |_=>false
def wV (h:Hint) (O:vi) (o:Oper) (S:St) (K:St->Option jD):Option jD:=match o.op with
 | .call { callee:=.value (.func f),args:=as,argTypes:=ts }=>match R5 (O.sig f) 0 with
  |some j=>Oi h O o f j as.toList ts.toList S K
  |none=>xC h O o f none as.toList ts.toList S K
 | .call { callee:=.value (.tmp i),args:=as,argTypes:=ts }=>match S.at i with
  | .EY f _=>xC h O o f (some i) as.toList ts.toList S K
  |_=>none
 | .binOp .eql T x (.const (.slice none 0 0)) _=>am8 h o.dst T true x S K
 | .binOp .neq T x (.const (.slice none 0 0)) _=>am8 h o.dst T false x S K
 |_=>match ev h.tab h.hn S o with
  |some (g,S1)=>bif g then K S1 else none
  |none=>none
def cV (h:Hint) (O:vi) (ops:Array Oper) (i:Nat) (S:St) (K:St->Option jD):Option jD:=match ops[i]? with
 |none=>none
 |some o=>match o.guard with
  |none=>wV h O o S K
  |some (j,want)=>match (ops[j]?).bind (·.dst) with
   |some d=>match S.at d with
    | .v ⟨.bool,m,q⟩ ex=>bif q then
      (bif want then wV h O o (S.set d (.v ⟨.bool,m,true⟩ ex)) K else K (St.put (S.set d (.v ⟨.bool,m,true⟩ ex)) o.dst .undef))
     else(bif want then K (St.put (S.set d (.v ⟨.bool,m,false⟩ ex)) o.dst .undef) else wV h O o (S.set d (.v ⟨.bool,m,false⟩ ex)) K)
    | .undef=>K (S.put o.dst .undef)
    |_=>none
   |none=>none
def J6 (h:Hint) (O:vi) (ops:Array Oper):List Nat->St->(St->Option jD)->Option jD
 |[],S,K=>K S
 |i::r,S,K=>cV h O ops i S (λS1=>J6 h O ops r S1 K)
def xT (S:St):Operand->Bool
 | .tmp i=>(match S.at i with
  | .v _ []=>true
  |_=>false)
 | .const _=>true
 |_=>false
def opK (S:St):Operand->Bool
 | .tmp i=>(match S.at i with
  | .v ⟨_,.k,_⟩ []=>true
  |_=>false)
 | .const _=>true
 |_=>false
def Y1 (S:St):Option Operand->Bool
 |none=>true
 |some x=>xT S x
def ap4 (O:vi) (f:FuncId):Bool:=(O.sig f).all λp=>match p with
 | .val=>true
 |_=>false
def ap5 (ops:Array Oper) (x:Nat):Option Nat:=ops.toList.findSome? λo=>match o.dst,o.op with
 |some d,.fieldAddr _ (.tmp s) _=>bif Nat.beq d x then some s else none
 |_,_=>none
def C5 (O:vi) (ops:Array Oper) (S:St) (o:Oper):Bool:=(match o.guard with
  |none=>true
  |some _=>false)&&(match o.dst with
  |some d=>!(S.at d).TK&&Nat.blt d S.length
  |none=>false)&&(match o.op with
  | .call { callee:=.value (.func f),args:=as,.. }=>ap4 O f&&as.toList.all (xT S)
  | .call { callee:=.builtin .append,args:=as,.. }=>as.toList.all (xT S)
  | .buildSlice _ _ ps=>ps.toList.all λq=>xT S q.2
  | .load _ (.tmp x)=>(match ap5 ops x,S.at x with
   |some s,.ad _ s' p=>Nat.beq s' s&&(match S.ki s p with
    |some a=>a.m.fu
    |none=>false)
   |none,.v ⟨.ptr _,.k,_⟩ []=>true
   |none,.v ⟨.ptr _,.o ..,_⟩ []=>(match S.ki x [.deref] with
    |some a=>a.m.fu
    |none=>false)
   |_,_=>false)
  | .slice _ x lo hi none=>opK S x&&(Y1 S lo&&Y1 S hi)
  | .indexAddr _ x ix=>opK S x&&xT S ix
  |_=>false)
def J7 (h:Hint) (O:vi) (ops:Array Oper):List Nat->St->(St->Option jD)->Option jD
 |[],S,K=>K S
 |i::r,S,K=>match ops[i]? with
  |some o=>bif C5 O ops S o then cV h O ops i S (λS1=>J7 h O ops r S1 K) else none
  |none=>none
def slotsOf:AV->List Nat
 | .al _ s _=>[s] | .ad _ s _=>[s] | .cut _ s _ _ _=>[s]
 | .EY _ kE=>kE.filterMap λc=>match c with
  | .pl _ s _=>some s
  | .kv _=>none
 |_=>[]
def vD (Δ:Nat->Bool):St->Nat->Bool
 |[],_=>true
 |a::r,i=>((slotsOf a).all λs=>Δ i==Δ s)&&vD Δ r (i+1)
def Ij (Δ:Nat->Bool):Operand->Bool
 | .tmp i=>Δ i
 | .const _=>true
 | .func _=>true
 | .global _=>false
def auZ (Δ:Nat->Bool) (o:Oper):Bool:=match o.dst,o.op with
 |some d,.store ..=>false
 |some d,_=>Δ d
 |none,.store ..=>true
 |none,_=>false
def sE (Δ:Nat->Bool) (o:Oper):Bool:=(match o.guard with
  |none=>true
  |some _=>false)&&auZ Δ o&&(match o.op with
 | .store _ x y=>Ij Δ x&&Ij Δ y
 | .makeSlice _ l c=>Ij Δ l&&Ij Δ c
 | .alloc _=>true
 | .buildSlice _ _ ps=>ps.toList.all λq=>Ij Δ q.2
 | .load _ x=>Ij Δ x
 | .move x=>Ij Δ x
 | .extract x _=>Ij Δ x
 | .binOp _ _ x y _=>Ij Δ x&&(Ij Δ y&& !MH o.op)
 | .fieldAddr _ x _=>Ij Δ x
 | .indexAddr _ x ix=>Ij Δ x&&Ij Δ ix
 | .convert _ _ x=>Ij Δ x
 | .call { callee:=.builtin .append,args:=as,.. }=>as.toList.all (Ij Δ)
 | .call { callee:=.value (.func _),args:=as,.. }=>as.toList.all (Ij Δ)
 |_=>false)
def R6 (l:List Nat) (i:Nat):Bool:=l.any (Nat.beq i)
def aoH (l:List Nat) (i:Nat):Bool:=!R6 l i
def Ir (ds:List (List Nat)) (S:St):Bool:=ds.all λd=>vD (R6 d) S 0
def aA1 (ds:List (List Nat)) (oi oj:Oper):Bool:=ds.any λd=>(sE (R6 d) oi&&sE (aoH d) oj)||(sE (aoH d) oi&&sE (R6 d) oj)
def exB (oi oj:Oper):Bool:=match oi.guard,oj.guard,oi.dst,oj.dst,oi.op,oj.op with
 |none,none,some a,some b,.extract (.tmp x) p,.extract (.tmp y) q=>Nat.beq x y&&(!Nat.beq p q&&(!Nat.beq a b&&(!Nat.beq a x&& !Nat.beq b x)))
 |_,_,_,_,_,_=>false
def ldB (oi oj:Oper):Bool:=match oi.guard,oj.guard,oi.dst,oj.dst,oi.op,oj.op with
 |none,none,some a,some b,.load _ (.tmp x),.load _ (.tmp y)=>!Nat.beq a b&&(!Nat.beq a x&&(!Nat.beq a y&&(!Nat.beq b x&& !Nat.beq b y)))
 |_,_,_,_,_,_=>false
def ap6 (o:Oper):List Nat:=match o.dst with
 |some d=>[d]
 |none=>[]
def ap7 (Θ:nh) (o:Oper):Bool:=match o.guard,o.dst,o.op with
 |none,some _,.load T (.tmp _)=>(match Θ.find T with
  |some i=>i.ty.flat
  |none=>false)
 |_,_,_=>false
def Oj (Θ:nh) (d:List Nat) (o:Oper):Bool:=sE (R6 d) o||(sE (aoH d) o||ap7 Θ o)
def eqN:List Nat->List Nat->Bool
 |[],[]=>true
 |a::r,b::s=>Nat.beq a b&&eqN r s
 |_,_=>false
def am9 (us:List (List Nat)) (d:List Nat):Bool:=us.any (eqN d)
def TR (us:List (List Nat)) (oi oj:Oper):Bool:=exB oi oj||((ldB oi oj&&(am9 us (ap6 oi)&&am9 us (ap6 oj)))||aA1 us oi oj)
def am' (S:St) (d:Nat):Option (Bool×St):=match S.at d with
 | .al _ s (st::pp)=>(match S.at s with
  | .v r ex=>(match dP (st::pp) r.t r.m r.x with
   |some b=>bif b.m.fu then none else some (ex.all (λh=>!Mv h (st::pp)),St.put (((S.weaken s).cover s (st::pp)).set s (.v r (ex++[st::pp]))) (some d) (.v b []))
   |none=>none)
  |_=>none)
 |_=>none
def kj (h:Hint) (O:vi) (ops:Array Oper):OT->St->(St->Option jD)->Option jD
 | .done,S,K=>K S
 | .one i t,S,K=>cV h O ops i S (λS1=>kj h O ops t S1 K)
 | .any l t,S,K=>J7 h O ops l S (λS1=>kj h O ops t S1 K)
 | .own d t,S,K=>match am' S d with
  |some (g,S1)=>bif g then kj h O ops t S1 K else none
  |none=>none
 | .cut ks t,S,K=>match J4 ks S with
  |some S1=>kj h O ops t S1 K
  |none=>none
 | .fz q t,S,K=>kj h O ops t (S.auX q) K
 | .par l ds t,S,K=>bif Ir ds S then J6 h O ops l S (λS1=>kj h O ops t S1 K) else none
def quiet:Op->Bool
 | .move _=>true | .assign _=>true | .pick ..=>true | .build ..=>true | .load ..=>true | .nilCheck _=>true | .fieldAddr ..=>true | .field ..=>true | .indexAddr ..=>true | .index ..=>true
 | .extract ..=>true | .slice ..=>true | .convert ..=>true | .binOp ..=>true | .unOp ..=>true | .makeFunc ..=>true | .call { callee:=.builtin .len,.. }=>true |_=>false
def ZF (O:vi):Op->Bool
 | .alloc _=>true | .box ..=>true | .buildSlice ..=>true | .makeSlice ..=>true | .makeMap ..=>true
 | .call { callee:=.value (.func f),.. }=>(O.sig f).all λp=>match p with
  | .val=>true
  |_=>false
 |o=>quiet o
def still:Op->Bool
 | .extract ..=>true | .indexAddr ..=>true | .binOp ..=>true | .slice ..=>true | .move _=>true | .convert ..=>true | .fieldAddr ..=>true | .build ..=>true | .call { callee:=.builtin .len,.. }=>true |_=>false
def Xh (Θ:nh) (o:Op):Bool:=still o&& !MH o&&(match o with
 | .convert _ T' _=>(match Θ.find T' with
  |some i=>(match i.ty with
   | .int _=>true
   |_=>false)
  |none=>false)
 |_=>true)
def D3 (ops:Array Oper) (oi:Oper) (rest:Nat):List Oper->Nat->Bool
 |[],_=>true
 |oj::r,j=>(bif Nat.testBit rest j then oi.apart ops oj else true)&&D3 ops oi rest r (j+1)
def dH (o:Oper):Nat:=o.after.toList.foldr (λe m=>bif Region.binds .any e then m|||2^e.on else m) 0
def dG (i:Nat):List Nat->Nat->Nat->Nat
 |[],_,acc=>acc
 |m::r,j,acc=>dG i r (j+1) (bif Nat.beq j i|| !(Nat.beq (m&&&acc) 0) then acc|||2^j else acc)
def TS (O:vi) (ops:Array Oper) (oi:Oper) (rest:Nat):List Oper->Nat->Bool
 |[],_=>true
 |oj::r,j=>(bif Nat.testBit rest j then oi.apart ops oj&&ZF O oj.op else true)&&TS O ops oi rest r (j+1)
def ap8 (Θ:nh) (O:vi) (ops:Array Oper) (as:List Nat) (full L i:Nat):Bool:=match as[i]?,ops[i]? with
 |some m,some oi=>!Nat.testBit L i&&Nat.beq (m&&&L) m&&Nat.beq (dG i as 0 0&&&L) 0&&(Nat.beq (full^^^(dG i as 0 0|||L)) 0||(quiet oi.op&&(!MH oi.op&&TS O ops oi (full^^^(dG i as 0 0|||L)) ops.toList 0))||(Xh Θ oi.op&&D3 ops oi (full^^^(dG i as 0 0|||L)) ops.toList 0))
 |_,_=>false
def cJ:Operand->List Nat
 | .tmp i=>[i]
 |_=>[]
def sY:Option Operand->List Nat
 |none=>[]
 |some x=>cJ x
def cW (ops:Array Oper) (o:Oper):List Nat:=match o.op with
 | .call c=>c.args.toList.flatMap cJ
 | .buildSlice _ _ ps=>ps.toList.flatMap λq=>cJ q.2
 | .load _ (.tmp x)=>(match ap5 ops x with
  |some s=>[x,s]
  |none=>[x])
 | .slice _ x lo hi _=>cJ x++(sY lo++sY hi)
 | .indexAddr _ x ix=>cJ x++cJ ix
 |_=>[]
def C6 (o:Oper):Bool:=match o.op with
 | .call { callee:=.value (.func _),.. }=>true
 | .load ..=>true
 | .slice ..=>true
 | .indexAddr ..=>true
 |_=>false
def aep (ops:Array Oper) (oi oj:Oper):Bool:=(match oi.dst,oj.dst with
  |some a,some b=>!Nat.beq a b&& !(cW ops oj).any (Nat.beq a)&& !(cW ops oi).any (Nat.beq b)
  |_,_=>false)&&((C6 oi&&C6 oj)|| !(cW ops oi).any λr=>(cW ops oj).any (Nat.beq r))
def aaY (ops:Array Oper) (as:List Nat):List Nat->Bool
 |[]=>true
 |i::r=>(r.all λj=>match as[j]?,ops[i]?,ops[j]? with
  |some m,some oi,some oj=>!Nat.beq i j&&(Nat.testBit m i||aep ops oi oj)
  |_,_,_=>false)&&aaY ops as r
def qG (l:List Nat):Nat:=l.foldr (λi m=>m|||2^i) 0
def Is (as:List Nat):Nat->List Nat->Bool
 |_,[]=>true
 |L,i::r=>(match as[i]? with
  |some m=>Nat.beq (m&&&L) m
  |none=>false)&&Is as (L|||2^i) r
def au0 (ops:Array Oper) (as:List Nat) (full L:Nat) (l:List Nat):Bool:=!l.isEmpty&&(l.all λi=>Nat.blt i ops.size&& !Nat.testBit L i&&Nat.beq (dG i as 0 0&&&L) 0&&Nat.beq (full^^^(dG i as 0 0|||L|||qG l)) 0)&&aaY ops as l&&Is as L l
def afT (Θ:nh) (ops:Array Oper) (as:List Nat) (l:List Nat) (i j:Nat) (d:List Nat):Bool:=l.all λz=>Nat.beq z i||(Nat.beq z j||(Nat.testBit (dG i as 0 0) z||(Nat.testBit (dG j as 0 0) z||(match ops[z]? with
 |some oz=>Oj Θ d oz
 |none=>false))))
def Lj (Θ:nh) (ops:Array Oper) (as:List Nat) (ds:List (List Nat)) (l:List Nat):List Nat->Bool
 |[]=>true
 |i::r=>(r.all λj=>match ops[i]?,ops[j]? with
  |some oi,some oj=>!Nat.beq i j&&(!Nat.testBit (dG j as 0 0) i&&(Nat.testBit (dG i as 0 0) j||TR (ds.filter (afT Θ ops as l i j)) oi oj))
  |_,_=>false)&&Lj Θ ops as ds l r
def ap9 (Θ:nh) (ops:Array Oper) (as:List Nat) (full L i:Nat):Bool:=match ops[i]? with
 |some oi=>Xh Θ oi.op&&D3 ops oi (full^^^(full&&&(dG i as 0 0|||L|||dH oi))) ops.toList 0
 |none=>false
def au1 (Θ:nh) (ops:Array Oper) (as:List Nat) (full L:Nat) (l:List Nat) (ds:List (List Nat)):Bool:=
 !l.isEmpty&&(l.all λi=>Nat.blt i ops.size&& !Nat.testBit L i&&Nat.beq (dG i as 0 0&&&L) 0&&(Nat.beq (full^^^(dG i as 0 0|||L|||qG l)) 0||ap9 Θ ops as full L i))&&Lj Θ ops as ds l l&&Is as L l&&l.all λi=>match ops[i]? with
  |some o=>!MH o.op
  |none=>false
def qe (Θ:nh) (O:vi) (ops:Array Oper) (as:List Nat) (full:Nat):Nat->OT->Bool
 |L,.done=>Nat.beq L full
 |L,.one i t=>ap8 Θ O ops as full L i&&qe Θ O ops as full (L|||2^i) t
 |L,.any l t=>au0 ops as full L l&&qe Θ O ops as full (L|||qG l) t
 |L,.own _ t=>qe Θ O ops as full L t
 |L,.cut _ t=>qe Θ O ops as full L t
 |L,.fz _ t=>qe Θ O ops as full L t
 |L,.par l ds t=>au1 Θ ops as full L l ds&&qe Θ O ops as full (L|||qG l) t
def OT.len:OT->Nat
 | .done=>0 | .one _ t=>t.len+1 | .any l t=>t.len+l.length | .par l _ t=>t.len+l.length | .own _ t=>t.len | .cut _ t=>t.len | .fz _ t=>t.len
def ayp (Θ:nh) (O:vi) (ops:Array Oper) (l:OT):Bool:=Region.noSelect ops&&Nat.ble l.len ops.size&&qe Θ O ops (ops.toList.map dH) (2^ops.size - 1) 0 l
def aeq (S:St):St:=S.map λa=>match a with
 | .al t s []=>.al t s []
 | .al ..=>.dead
 | .ad ..=>.dead
 | .cut ..=>.dead
 |a=>a
def PL (ks:List Nat):Nat->St->St
 |_,[]=>[]
 |i,a::r=>(bif R6 ks i then a else match a with
  | .al t s []=>.al t s []
  | .al ..=>.dead
  | .ad ..=>.dead
  | .cut ..=>.dead
  |a=>a)::PL ks (i+1) r
def aaZ (ks:List Nat) (S:St):St:=match ks with
 |[]=>aeq S
 |_=>PL ks 0 S
def OT.line:OT->Option (List Nat)
 | .done=>some []
 | .one j t=>t.line.map (j:: ·)
 | .cut _ t=>t.line
 | .fz _ t=>t.line
 |_=>none
def axq (l:OT) (n:Nat):Bool:=match l.line with
 |some q=>eqN q (List.range n)
 |none=>false
def ahR:List (Nat×OT)->Nat->Option OT
 |[],_=>none
 |q::r,k=>bif Nat.beq q.1 k then some q.2 else ahR r k
def py (h:Hint) (O:vi):Code->Bool
 | .region id ops true=>(match ahR h.dA id with
  |some l=>ayp h.tab O ops l
  |none=>true)
 | .region id ops false=>(match ahR h.dA id with
  |some l=>axq l ops.size
  |none=>true)
 | .seq a b=>py h O a&&py h O b
 | .cond _ a b=>py h O a&&py h O b
 | .block _ c=>py h O c
 | .loop c=>py h O c
 |_=>true
def keyOf:Code->Nat
 | .region id _ _=>id
 | .seq a _=>keyOf a
 | .block _ c=>keyOf c
 | .loop c=>keyOf c
 |_=>0
def Lk (ops:Array Oper):Bool:=ops.toList.all λo=>!MH o.op
def rO:Code->Bool
 | .region _ ops _=>Lk ops
 | .seq a b=>rO a&&rO b
 | .cond _ a b=>rO a&&rO b
 | .block _ c=>rO c
 | .loop c=>rO c
 |_=>true
abbrev Ks:=Ex->St->Option jD
def Hint.nc (h:Hint) (key:Nat) (K:Ks):Ks:=λe S=>match axp h.outs key e.num with
 |some ks=>(match J4 ks S with
  |some S1=>K e S1
  |none=>none)
 |none=>none
def pe (h:Hint) (O:vi) (L:Nat->St->Ks->Option jD):Code->St->Ks->Option jD
 | .skip,S,K=>K .n S
 | .region id ops false,S,K=>match ahR h.dA id with
  |some l=>kj h O ops l S (λS1=>K .n (akH h.G2 id (aaZ h.keep S1)))
  |none=>J6 h O ops (List.range ops.size) S (λS1=>K .n (akH h.G2 id (aaZ h.keep S1)))
 | .region id ops true,S,K=>match ahR h.dA id with
  |some l=>kj h O ops l S (λS1=>K .n (akH h.G2 id (aaZ h.keep S1)))
  |none=>none
 | .seq a b,S,K=>pe h O L a S (λe S1=>match e with
  | .n=>pe h O L b S1 K
  |e=>K e S1)
 | .cond c x y,S,K=>match S.rd h.tab 0 c with
  |some ⟨.bool,_,q⟩=>bif q then pe h O L x S K else pe h O L y S K
  |_=>none
 | .block id c,S,K=>pe h O L c S (λe S1=>match e with
  | .x id'=>bif Nat.beq id' id then K .n S1 else K (.x id') S1
  |e=>K e S1)
 | .loop c,S,K=>match h.clean (keyOf c) S with
  |some S1=>L (keyOf c) S1 (h.nc (keyOf c) K)
  |none=>none
 | .exit id,S,K=>K (.x id) S
 | .ret,S,K=>K .r S
 |_,_,_=>none
def JU (Lf:Nat->Nat->St->Ks->Option jD) (N n aDC:Nat):Nat->St->Ks->Option jD:=λkey S K=>bif Nat.beq key aDC then Lf n key S K else Lf N key S K
def sF (h:Hint) (O:vi) (L:Nat->St->Ks->Option jD) (c:Code) (S:St) (K:Ks):Option jD:=
 pe h O L c S (λe S1=>match e with
  | .n=>(match h.clean (keyOf c) S1 with
   |some S2=>L (keyOf c) S2 K
   |none=>none)
  |e=>K e S1)
def KP (Θ:nh) (S:St):List ResultVar->Option (List TV×St)
 |[]=>some ([],S)
 | .tmp t::r=>match S.pL (.tmp t) (S.at t) with
  |some (a,S1)=>match KP Θ S1 r with
   |some (l,S2)=>some (a::l,S2)
   |none=>none
  |none=>none
 | .cell t T::r=>match S.at t with
  | .v ⟨.ptr ty,.o _ _ me,x⟩ []=>match KP Θ (S.put (some t) .dead) r with
   |some (l,S2)=>bif Θ.is T ty then some (⟨ty,me,x⟩::l,S2) else none
   |none=>none
  |_=>none
def axr:Arg->AV
 | .tv a=>.v a []
 | .fn f kE=>.EY f (kE.map .kv)
def start (fn:Func) (args:List Arg):St:=args.map axr++List.replicate (fn.ntmps - args.length) .undef
def aa0:Bool->TV->Option TV
 |false,b=>some b
 |true,⟨.ptr t,.o _ _ me,x⟩=>some ⟨t,me,x⟩
 |true,_=>none
def rP (h:Hint) (O:vi) (L:Nat->St->Ks->Option jD) (fn:Func) (args:List Arg) (K:jD->Option jD):Option jD:=
 match fn.body with
 |some c=>pe h O L c (start fn args) (λe S=>match e with
  | .x _=>none
  |_=>match KP h.tab S fn.results.toList with
   |some (l,S1)=>(match h.nH with
    |none=>K ⟨l,[]⟩
    |some q=>match S1.at q.1 with
     | .v b []=>(match aa0 q.2 b with
      |some c=>K ⟨l,[c]⟩
      |none=>none)
     |_=>none)
   |none=>none)
 |none=>none
def jk {σ:Type} (X:(σ->Option jD)->Option jD):Prop:=∃ o:Option σ,∀ K,X K=o.bind K
theorem jk.none {σ:Type}:jk (σ:=σ) λ_=>none:=⟨.none,λ_=>rfl⟩
theorem jk.pure {σ:Type} (s:σ):jk λK=>K s:=⟨some s,λ_=>rfl⟩
theorem jk.bind {σ τ:Type} {X:(σ->Option jD)->Option jD} {Y:σ->(τ->Option jD)->Option jD} (h:jk X) (hy:∀ s,jk (Y s)):jk λK=>X λs=>Y s K:=by
 obtain⟨o,ho⟩:=h;cases o with
 |none=>exact⟨.none,λK=>ho _⟩
 |some s=>obtain⟨o',ho'⟩:=hy s;exact⟨o',λK=>(ho _).trans (ho' K)⟩
theorem jk.bif {σ:Type} {X Y:(σ->Option jD)->Option jD} (c:Bool) (hx:jk X) (hy:jk Y):jk λK=>bif c then X K else Y K:=by cases c<;>assumption
def Ll (O:vi):Prop:=∀ f as,jk (O.run f as)
def oO (X:Ks->Option jD):Prop:=∃ o:Option (Ex×St),∀ K,X K=o.bind λq=>K q.1 q.2
theorem oO.none:oO λ_=>none:=⟨.none,λ_=>rfl⟩
theorem oO.pure (e:Ex) (S:St):oO λK=>K e S:=⟨some (e,S),λ_=>rfl⟩
theorem oO.bind {X:Ks->Option jD} {Y:Ex->St->Ks->Option jD} (h:oO X) (hy:∀ e S,oO (Y e S)):oO λK=>X λe S=>Y e S K:=by
 obtain⟨o,ho⟩:=h;cases o with
 |none=>exact⟨.none,λK=>ho _⟩
 |some s=>obtain⟨o',ho'⟩:=hy s.1 s.2;exact⟨o',λK=>(ho _).trans (ho' K)⟩
theorem oO.of {X:(St->Option jD)->Option jD} {Y:St->Ks->Option jD} (h:jk X) (hy:∀ S,oO (Y S)):oO λK=>X λS=>Y S K:=by
 obtain⟨o,ho⟩:=h;cases o with
 |none=>exact⟨.none,λK=>ho _⟩
 |some s=>obtain⟨o',ho'⟩:=hy s;exact⟨o',λK=>(ho _).trans (ho' K)⟩
theorem oO.to {X:Ks->Option jD} {Y:Ex->St->(jD->Option jD)->Option jD} (h:oO X) (hy:∀ e S,jk (Y e S)):jk λK=>X λe S=>Y e S K:=by
 obtain⟨o,ho⟩:=h;cases o with
 |none=>exact⟨.none,λK=>ho _⟩
 |some s=>obtain⟨o',ho'⟩:=hy s.1 s.2;exact⟨o',λK=>(ho _).trans (ho' K)⟩
variable {h:Hint} {O:vi} {ops:Array Oper}
theorem aa1 (hO:Ll O) (o:Oper) (f:FuncId) (cal:Option Nat) (as:List Operand) (ts:List TypeId) (S:St):jk (xC h O o f cal as ts S):=by
 unfold xC;split
 ·split
  ·refine(hO f _).bind λret=>?_;split
   ·exact jk.bif _ (jk.pure _) jk.none
   exact jk.none
  exact jk.none
 exact jk.none
theorem akJ (hO:Ll O) (o:Oper) (f:FuncId) (j:Nat) (as:List Operand) (ts:List TypeId) (S:St):jk (Oi h O o f j as ts S):=by
 unfold Oi;split
 ·split
  ·split
   ·refine jk.bif _ ?_ jk.none;split
    ·refine jk.bif _ ?_ jk.none;refine(hO f _).bind λret=>?_;split
     ·refine jk.bif _ ?_ jk.none;split
      ·split
       ·split
        ·exact jk.pure _
        exact jk.none
       exact jk.none
      exact jk.none
     exact jk.none
    exact jk.none
   exact jk.none
  exact jk.none
 exact jk.none
theorem aa2 (hO:Ll O) (o:Oper) (hn:MH o.op=false) (S:St):jk (wV h O o S):=by
 unfold wV;split
 ·split
  ·exact akJ hO ..
  exact aa1 hO ..
 ·split
  ·exact aa1 hO ..
  exact jk.none
 ·rename_i ho;rw[ho] at hn;cases hn
 ·rename_i ho;rw[ho] at hn;cases hn
 split
 ·exact jk.bif _ (jk.pure _) jk.none
 exact jk.none
theorem y8 (hO:Ll O) (i:Nat) (hn:∀ o,ops[i]?=some o->MH o.op=false) (S:St):jk (cV h O ops i S):=by
 unfold cV;split
 ·exact jk.none
 rename_i o ho;have hn:=hn o ho;split
 ·exact aa2 hO _ hn _
 split
 ·split
  ·exact jk.bif _ (jk.bif _ (aa2 hO _ hn _) (jk.pure _)) (jk.bif _ (jk.pure _) (aa2 hO _ hn _))
  ·exact jk.pure _
  exact jk.none
 exact jk.none
theorem aa3 (hp:Lk ops=true) (i:Nat) (o:Oper) (ho:ops[i]?=some o):MH o.op=false:=by unfold Lk at hp;have:=aO.1 hp o (by rw[←bK] at ho;exact dv ho);simpa using this
theorem Xi (hO:Ll O) (hp:Lk ops=true):∀ (l:List Nat) (S:St),jk (J6 h O ops l S)
 |[],S=>jk.pure S
 |i::r,S=>(y8 hO i (aa3 hp i) S).bind λS1=>Xi hO hp r S1
theorem aer (hO:Ll O) (hp:Lk ops=true):∀ (l:List Nat) (S:St),jk (J7 h O ops l S)
 |[],S=>jk.pure S
 |i::r,S=>by
  simp only[show J7 h O ops (i::r) S=λK=>J7 h O ops (i::r) S K from rfl,J7];split
  ·exact jk.bif _ ((y8 hO i (aa3 hp i) S).bind λS1=>aer hO hp r S1) jk.none
  exact jk.none
theorem we (hO:Ll O) (hp:Lk ops=true):∀ (t:OT) (S:St),jk (kj h O ops t S)
 | .done,S=>jk.pure S
 | .one i t,S=>(y8 hO i (aa3 hp i) S).bind λS1=>we hO hp t S1
 | .any l t,S=>(aer hO hp l S).bind λS1=>we hO hp t S1
 | .own d t,S=>by
  show jk λK=>kj h O ops (.own d t) S K;simp only[kj];cases am' S d with
  |none=>exact jk.none
  |some q=>exact jk.bif _ (we hO hp t q.2) jk.none
 | .cut ks t,S=>by
  show jk λK=>kj h O ops (.cut ks t) S K;simp only[kj];cases J4 ks S with
  |none=>exact jk.none
  |some S1=>exact we hO hp t S1
 | .fz q t,S=>by show jk λK=>kj h O ops (.fz q t) S K;simp only[kj];exact we hO hp t _
 | .par l ds t,S=>jk.bif _ ((Xi hO hp l S).bind λS1=>we hO hp t S1) jk.none
def aoI (h:Hint) (L:Nat->St->Ks->Option jD) (key:Nat):Prop:=∀ (ks:List Kd) (x:Fu ks),AN h.loops key=some ks->oO λK=>L key (shape ks x) (h.nc key K)
def rQ:Code->List Nat
 | .seq a b=>rQ a++rQ b
 | .cond _ a b=>rQ a++rQ b
 | .block _ c=>rQ c
 | .loop c=>keyOf c::rQ c
 |_=>[]
theorem TT (e:h.clean key S=some S1):∃ ks x,AN h.loops key=some ks/\S1=shape ks x:=by
 unfold Hint.clean at e;split at e;case h_2=>cases e
 rename_i ks Xd;unfold J4 at e;cases hk:wU ks ks with
 |false=>rw[hk] at e;cases e
 |true=>
 rw[hk] at e;simp only[ab] at e;split at e;case h_2=>cases e
 rename_i x hx;injection e with e;exact⟨ks,x,Xd,e.symm⟩
theorem R7 (hO:Ll O) {L:Nat->St->Ks->Option jD}:∀ (c:Code) (S:St),rO c=true->(∀ k∈rQ c,aoI h L k)->oO (pe h O L c S)
 | .skip,S,_,_=>oO.pure _ _
 | .region id ops false,S,hp,_=>by
  show oO λK=>pe h O L (.region id ops false) S K;simp only[pe];split
  ·exact oO.of (we hO hp _ S) λS1=>oO.pure _ _
  exact oO.of (Xi hO hp _ S) λS1=>oO.pure _ _
 | .region id ops true,S,hp,_=>by
  show oO λK=>pe h O L (.region id ops true) S K;simp only[pe];split
  ·exact oO.of (we hO hp _ S) λS1=>oO.pure _ _
  exact oO.none
 | .seq a b,S,hp,hL=>by
  simp only[rO,ai] at hp;show oO λK=>pe h O L (.seq a b) S K;simp only[pe];refine oO.bind (R7 hO a S hp.1 λk hk=>hL k (by simp[rQ,hk])) λe S1=>?_;cases e with
  |n=>exact R7 hO b S1 hp.2 λk hk=>hL k (by simp[rQ,hk])
  |x id=>exact oO.pure _ _
  |r=>exact oO.pure _ _
 | .cond c x y,S,hp,hL=>by
  simp only[rO,ai] at hp;show oO λK=>pe h O L (.cond c x y) S K;simp only[pe];split
  ·rename_i q _;cases q with
   |true=>exact R7 hO x S hp.1 λk hk=>hL k (by simp[rQ,hk])
   |false=>exact R7 hO y S hp.2 λk hk=>hL k (by simp[rQ,hk])
  exact oO.none
 | .block id c,S,hp,hL=>by
  simp only[rO] at hp;show oO λK=>pe h O L (.block id c) S K;simp only[pe];refine oO.bind (R7 hO c S hp λk hk=>hL k (by simpa[rQ] using hk)) λe S1=>?_;cases e with
  |n=>exact oO.pure _ _
  |x id'=>
   cases h:Nat.beq id' id with
   |true=>exact⟨some (.n,S1),λK=>by simp[h]⟩
   |false=>exact⟨some (.x id',S1),λK=>by simp[h]⟩
  |r=>exact oO.pure _ _
 | .loop c,S,_,hL=>by
  show oO λK=>pe h O L (.loop c) S K;simp only[pe];split
  ·rename_i S1 hS1;obtain⟨ks,x,hk,rfl⟩:=TT hS1;exact hL (keyOf c) (by simp[rQ]) ks x hk
  exact oO.none
 | .exit id,S,_,_=>oO.pure _ _
 | .ret,S,_,_=>oO.pure _ _
 | .rangeFunc ..,S,_,_=>oO.none
 | .scope _,S,_,_=>oO.none
 | .label _,S,_,_=>oO.none
 | .goto _,S,_,_=>oO.none
 | .refuse _,S,_,_=>oO.none
theorem aes (h:Hint) (key:Nat) (e:Ex) (S:St):oO λK=>h.nc key K e S:=by
 unfold Hint.nc;split
 ·split
  ·exact oO.pure _ _
  exact oO.none
 exact oO.none
theorem aa4 (fn:Func) (S:St):jk λ(K:jD->Option jD)=>(match KP h.tab S fn.results.toList with
   |some (l,S1)=>(match h.nH with
    |none=>K ⟨l,[]⟩
    |some q=>match S1.at q.1 with
     | .v b []=>(match aa0 q.2 b with
      |some c=>K ⟨l,[c]⟩
      |none=>none)
     |_=>none)
   |none=>none):=by
 split
 ·split
  ·exact jk.pure _
  ·split
   ·split
    ·exact jk.pure _
    ·exact jk.none
   ·exact jk.none
 ·exact jk.none
theorem akK (hO:Ll O) {L:Nat->St->Ks->Option jD} (hb:fn.body=some body) (hp:rO body=true) (hL:∀ k∈rQ body,aoI h L k) (args:List Arg):jk (rP h O L fn args):=by
 unfold rP;rw[hb];simp only;refine oO.to (R7 hO body _ hp hL) λe S=>?_;cases e with
 |n=>exact aa4 fn S
 |x id=>exact jk.none
 |r=>exact aa4 fn S
end Go.Pv
namespace Go.Pv
open List Int IntKind
def isAgg:Ty->Bool
 | .pair _ _=>true | .unit=>true | .arr _ _=>true |_=>false
def a7 (t:Ty) (v:Value) (cs:List Value):Prop:=if isAgg t=true then v=.agg cs.toArray else cs=[v]
section
variable (w:World) (Av:Nat->Prop) (H:Nat->Value) (tm:Nat->Value) (S:St)
structure Ref (t:Ty) (s:Nat) (p:Path) (r:TV) (lB:List Value):Prop where
 at_:∃ ex,S.at s=.v r ex/\open_ p ex
 val:valid p r.t r.x
 get:∃ b,dP p r.t r.m r.x=some b/\b.t=t
 mat:a7 r.t (tm s) lB
def It:Cap->Value->Prop
 | .kv a,u=>K w Av a.t a.x [u]
 | .pl t s p,u=>∃ r lB cs,Ref tm S (.ptr t) s p r lB/\cD w p r.t lB=some cs/\a7 (.ptr t) u cs
def Holds (own:Nat->Prop):AV->Value->Prop
 | .dead,_=>True
 | .undef,v=>v=undef
 | .v a ex,v=>∃ cs,a7 a.t v cs/\M w Av H a.t a.m a.x cs own ex
 | .PJ l,v=>∃ (vs:List Value) (τ:Nat->Nat),v=.tuple vs.toArray/\vs.length=l.length/\ ∀ (j:Nat) (a:TV),l[j]?=some (some a)->∃ u cs,vs[j]?=some u/\a7 a.t u cs/\M w Av H a.t a.m a.x cs (λg=>own g/\τ g=j) []
 | .al t s p,v=>∃ r lB cs,Ref tm S t s p r lB/\cD w p r.t lB=some cs/\a7 t v cs
 | .ad t s p,v=>∃ r lB g off,Ref tm S t s p r lB/\addrAt w p r.t lB none=some (g,off)/\v=.pointer (some ⟨g,off,none⟩)
 | .cut t s p lo hi,v=>∃ r lB t' A n c,Ref tm S t s p r lB/\t=.sl t'/\cD w p r.t lB=some [.slice A n c]/\lo<=hi/\hi<=n/\
  v=.slice (if c=lo then A else A.map (·.add (lo*t'.size))) (hi - lo) (c - lo)
 | .EY f kE,v=>∃ vs:List Value,v=.func (.func f) #[] vs.toArray/\vs.length=kE.length/\∀ (j:Nat) (c:Cap),kE[j]?=some c->∃ u,vs[j]?=some u/\It w Av tm S c u
end
structure Fr (w0:World) (W0:Nat->Prop) (w:World):Prop where
 os:w.os=w0.os
 tape:w.tape=w0.tape
 output:w.output=w0.output
 size:w0.heap.size<=w.heap.size
 block:∀ g,g<w0.heap.size->¬W0 g->w.heap[g]?=w0.heap[g]?
def Av (σ:Nat->Option Nat) (Z:Nat->Prop) (g:Nat):Prop:=(∃ i,σ g=some i)∨Z g
def gV (a:Act) (i:Nat):Value:=a.tmps.getD i undef
structure dp (σ:Nat->Option Nat) (w0:World) (W0 Z:Nat->Prop) (H:Nat->Value) (S:St) (a:Act) (w:World):Prop where
 len:S.length=a.tmps.size
 defers:a.defers=[]
 fr:Fr w0 W0 w
 new:∀ g i,σ g=some i->w0.heap.size<=g∨W0 g
 lt:∀ g i,σ g=some i->g<w.heap.size
 old:∀ g,Z g->σ g=none/\g<w0.heap.size
 holds:∀ i,Holds w (Av σ Z) H (gV a) S (λg=>σ g=some i) (S.at i) (gV a i)
def Rel (w0:World) (W0 Z:Nat->Prop) (H:Nat->Value) (S:St) (a:Act) (w:World):Prop:=∃ σ,dp σ w0 W0 Z H S a w
theorem rR {Wr Nh:Nat->Prop} (gy:cR w w' Wr Nh):∀ (p:Path) {t:Ty} {m:Md} {x:t.I} {cs:List Value} {ow:Nat->Prop} {hs:List Path} (l:Option (Nat×Nat)),M w Wr H t m x cs ow hs->(∀ g,ow g->g<w.heap.size->w'.heap[g]?=w.heap[g]?)->open_ p hs->valid p t x->cD w' p t cs=cD w p t cs/\addrAt w' p t cs l=addrAt w p t cs l
 |[],_,_,_,_,_,_,_,_,_,_,_=>⟨rfl,rfl⟩
 | .deref::p,.ptr t,m,x,cs,ow,hs,l,h,hb,ho,hv=>by
  simp only[valid] at hv;simp only[M] at h;rcases h with⟨hn,_⟩ |⟨hk,h⟩ |⟨T,tag,me,g,cur,rfl,rfl,ht,Ni,hw,h⟩
  ·exact absurd hn ho.not_nil
  ·simp only[K] at h;obtain⟨g,off,cur,T,fr,rfl,hng,hw,hl,h⟩:=h;have hw':=(gy.same g hng (dz hw)).trans hw;have ih:=rR gy p (H:=H) (some (g,off)) (ua (ow:=λ_=>False) (hs:=sub .deref hs) t h) (λ_ h=>h.elim) ho.sub hv;simp only[cD,addrAt,eT hw hl,eT hw' hl,aL];exact ih
  have hw':=(hb g Ni (dz hw)).trans hw;have sW:0+t.size<=cur.size:=(by rw[←(rK t h).1];simp);have wc:(cur.toList.drop 0).take t.size=cur.toList:=(by rw[dX,cB (by rw[(rK t h).1];exact aR _)]);have ih:=rR gy p (some (g,0)) h (λg hg=>hb g hg.1) ho.sub hv;simp only[cD,addrAt,eT hw sW,eT hw' sW,aL,wc];exact ih
 | .fst::p,.pair a b',m,x,cs,ow,hs,l,h,hb,ho,hv=>by
  simp only[valid] at hv;simp only[M] at h;simp only[cD,addrAt];rcases h with⟨hn,_⟩ |⟨hk,h⟩ |⟨ma,mb,c0,c1,s,rfl,rfl,h0,h1⟩
  ·exact absurd hn ho.not_nil
  ·simp only[K] at h;obtain⟨c0,c1,rfl,h0,h1⟩:=h;rw[←(Fq a h0).1,eh];exact rR gy p (H:=H) l (ua (ow:=λ_=>False) (hs:=sub .fst hs) a h0) (λ_ h=>h.elim) ho.sub hv
  rw[←(rK a h0).1,eh];exact rR gy p l h0 (λg hg=>hb g hg.1) ho.sub hv
 | .snd::p,.pair a b',m,x,cs,ow,hs,l,h,hb,ho,hv=>by
  simp only[valid] at hv;simp only[M] at h;simp only[cD,addrAt];rcases h with⟨hn,_⟩ |⟨hk,h⟩ |⟨ma,mb,c0,c1,s,rfl,rfl,h0,h1⟩
  ·exact absurd hn ho.not_nil
  ·simp only[K] at h;obtain⟨c0,c1,rfl,h0,h1⟩:=h;rw[←(Fq a h0).1,dy];exact rR gy p (H:=H) _ (ua (ow:=λ_=>False) (hs:=sub .snd hs) b' h1) (λ_ h=>h.elim) ho.sub hv
  rw[←(rK a h0).1,dy];exact rR gy p _ h1 (λg hg=>hb g hg.1) ho.sub hv
 | .idx i::p,.sl t,m,xs,cs,ow,hs,l,h,hb,ho,hv=>by
  simp only[valid] at hv;obtain⟨hi,hv⟩:=hv;have sB:getD xs i t.z=xs[i]:=by simp[aF,aU hi]
  simp only[M] at h;rcases h with⟨hn,_⟩ |⟨hk,h⟩ |⟨T,tag,me,A,c,rfl,rfl,hc,ht,h⟩
  ·exact absurd hn ho.not_nil
  ·simp only[K] at h;obtain⟨A,c,rfl,hc,h⟩:=h;obtain⟨g,off,cur,T,fr,rfl,hng,hw,hl,h⟩:=h (by omega);have hw':=(gy.same g hng (dz hw)).trans hw;have hbound:off+i*t.size+t.size<=cur.size:=by have:=aD t.size (show i+1<=xs.length from hi);rw[bg,cM] at this;omega
   have hK:=h i hi;rw[←sB] at hK;have ih:=rR gy p (H:=H) (some (g,off+i*t.size)) (ua (ow:=λ_=>False) (hs:=sub (.idx i) hs) t hK) (λ_ h=>h.elim) ho.sub hv;simp only[cD,addrAt,eT hw hbound,eT hw' hbound,aL];exact ih
  rcases h with⟨rfl,_⟩ |⟨g,cur,τ,rfl,Ni,hw,sW,hm,h⟩
  ·simp at hi
  have hw':=(hb g Ni (dz hw)).trans hw;have hbound:i*t.size+t.size<=cur.size:=(by have h1:=aD t.size (show i+1<=xs.length from hi);have h2:=aD t.size hc;rw[bg,cM] at h1;omega);have hM:=h i hi;rw[←sB] at hM;have ih:=rR gy p (some (g,i*t.size)) hM (λg hg=>hb g hg.1) ho.sub hv;simp only[cD,addrAt,aW,eT hw hbound,eT hw' hbound,aL];exact ih
variable {w w':World} {A A':Nat->Prop} {H:Nat->Value} {tm Nj:Nat->Value} {S S':St}
structure Kept (w w':World) (A:Nat->Prop) (H:Nat->Value) (tm Nj:Nat->Value) (S S':St) (s:Nat):Prop where
 at_:∀ r ex,S.at s=.v r ex->S'.at s=.v r ex
 tm_:Nj s=tm s
 hold:∃ own,Holds w A H tm S own (S.at s) (tm s)/\∀ g,own g->g<w.heap.size->w'.heap[g]?=w.heap[g]?
theorem oP (h:a7 t v cs) (h':a7 t v kY):cs=kY:=by
 unfold a7 at*;split at h
 ·rename_i ha;rw[aA ha] at h';rw[h] at h';injection h' with h';simpa using h'
 rename_i ha;rw[aq ha] at h';rw[h,h']
theorem Ref.kept (gy:cR w w' A A') (hk:Kept w w' A H tm Nj S S' s) (h:Ref tm S t s p r lB): Ref Nj S' t s p r lB/\∀ l,cD w' p r.t lB=cD w p r.t lB/\addrAt w' p r.t lB l=addrAt w p r.t lB l:=by obtain⟨⟨ex,h1,h2⟩,h3,h4,h5⟩:=h;refine⟨⟨⟨ex,hk.at_ _ _ h1,h2⟩,h3,h4,by rw[hk.tm_];exact h5⟩,λl=>?_⟩;obtain⟨own,hh,hb⟩:=hk.hold;rw[h1] at hh;obtain⟨cs,hm,hM⟩:=hh;obtain rfl:=oP h5 hm;exact rR gy p l hM hb h2 h3
theorem It.kept (gy:cR w w' A A') (hk:∀ t s p,c=.pl t s p->Kept w w' A H tm Nj S S' s) (h:It w A tm S c u):It w' A' Nj S' c u:=by
 cases c with
 |kv a=>exact fR gy _ h
 |pl t s p=>obtain⟨r,lB,cs,hr,hc,hm⟩:=h;obtain⟨h1,h2⟩:=hr.kept gy (hk t s p rfl);exact⟨r,lB,cs,h1,by rw[(h2 none).1];exact hc,hm⟩
theorem Holds.kept {own afU:Nat->Prop} (gy:cR w w' A A') (ho:∀ g,own g->g<w.heap.size->w'.heap[g]?=w.heap[g]? /\afU g) (hk:∀ s,a.refs s=true->Kept w w' A H tm Nj S S' s) (h:Holds w A H tm S own a v):Holds w' A' H Nj S' afU a v:=by
 cases a with
 |dead=>trivial
 |undef=>exact h
 |v a ex=>obtain⟨cs,h1,h2⟩:=h;exact⟨cs,h1,ca gy _ (λg hg hl=>(ho g hg hl).1) (λg hg hl=>(ho g hg hl).2) (λ_ h=>h) h2⟩
 |PJ l=>obtain⟨vs,τ,h1,h2,h3⟩:=h;refine⟨vs,τ,h1,h2,λj a hj=>?_⟩;obtain⟨u,cs,k1,k2,k3⟩:=h3 j a hj;exact⟨u,cs,k1,k2,ca gy _ (λg hg hl=>(ho g hg.1 hl).1) (λg hg hl=>⟨(ho g hg.1 hl).2,hg.2⟩) (λ_ h=>h) k3⟩
 |al t s p=>obtain⟨r,lB,cs,hr,hc,hm⟩:=h;obtain⟨h1,h2⟩:=hr.kept gy (hk s (by simp[AV.refs]));exact⟨r,lB,cs,h1,by rw[(h2 none).1];exact hc,hm⟩
 |ad t s p=>obtain⟨r,lB,g,off,hr,hc,hm⟩:=h;obtain⟨h1,h2⟩:=hr.kept gy (hk s (by simp[AV.refs]));exact⟨r,lB,g,off,h1,by rw[(h2 none).2];exact hc,hm⟩
 |cut t s p lo hi=>obtain⟨r,lB,t',A1,n,c,hr,ht,hc,hm⟩:=h;obtain⟨h1,h2⟩:=hr.kept gy (hk s (by simp[AV.refs]));exact⟨r,lB,t',A1,n,c,h1,ht,by rw[(h2 none).1];exact hc,hm⟩
 |EY f kE=>obtain⟨vs,h1,h2,h3⟩:=h;refine⟨vs,h1,h2,λj c hj=>?_⟩;obtain⟨u,k1,k2⟩:=h3 j c hj;refine⟨u,k1,k2.kept gy (λt s p e=>hk s ?_)⟩;subst e;simp only[AV.refs,dB];exact⟨_,dv hj,by simp⟩
theorem kN (S:St) (d:Nat) (a:AV) (i:Nat):St.at (S.set d a) i=if i=d/\d<S.length then a else S.at i:=by
 unfold St.at;rw[aF,aF,gw];by_cases h:d=i
 ·subst h;by_cases hl:d<S.length
  ·simp[hl]
  simp[hl]
 have h': ¬i=d:=λe=>h e.symm;simp[h,h']
theorem aa5 (S:St) (f:AV->AV) (hf:f .dead=.dead) (i:Nat):St.at (S.map f) i=f (S.at i):=by
 unfold St.at;rw[aF,aF,bR];cases S[i]? with
 |none=>simp[hf]
 |some a=>rfl
theorem au2 (S:St) (d i:Nat):(S.kill d).at i=bif (S.at i).refs d then .dead else S.at i:=aa5 S _ (by simp[AV.refs]) i
theorem zO (S:St) (d i:Nat):(S.weaken d).at i=bif (S.at i).qE d then .dead else S.at i:=aa5 S _ (by simp[AV.qE]) i
theorem ap' (S:St) (d:Nat):(S.kill d).length=S.length:=by simp[St.kill]
theorem nj (S:St) (d:Nat) (a:AV) (i:Nat):(S.put (some d) a).at i=if i=d/\d<S.length then(bif a.refs d then .dead else a) else bif (S.at i).refs d&&(S.at d).TK then .dead else S.at i:=by
 simp only[St.put];cases (S.at d).TK
 ·simp only[ae,kN,ee]
 simp only[ab,kN,ap',au2,dd]
theorem eO (S:St) (dst:Option Nat) (a:AV):(S.put dst a).length=S.length:=by
 cases dst with
 |none=>rfl
 |some d=>simp only[St.put];cases (S.at d).TK<;>simp[St.kill]
theorem aqa {own:Nat->Prop} {A:Nat->Prop} (h:Holds w A H tm S own av v) (hr:av.refs d=true):(S.at d).TK=true:=by
 cases av with
 |dead=>cases hr
 |undef=>cases hr
 |v a ex=>cases hr
 |PJ l=>cases hr
 |al t s p=>obtain rfl:s=d:=aw hr;obtain⟨r,lB,cs,h1,_⟩:=h;obtain⟨ex,h2,_⟩:=h1.at_;rw[h2];rfl
 |ad t s p=>obtain rfl:s=d:=aw hr;obtain⟨r,lB,g,off,h1,_⟩:=h;obtain⟨ex,h2,_⟩:=h1.at_;rw[h2];rfl
 |cut t s p lo hi=>obtain rfl:s=d:=aw hr;obtain⟨r,lB,t',A,n,c,h1,_⟩:=h;obtain⟨ex,h2,_⟩:=h1.at_;rw[h2];rfl
 |EY f kE=>
 simp only[AV.refs,dB] at hr;obtain⟨c,hc,hr⟩:=hr;obtain⟨vs,_,_,h3⟩:=h;obtain⟨j,hj⟩:=sV.1 hc;obtain⟨u,_,h4⟩:=h3 j c hj;cases c with
 |kv a=>cases hr
 |pl t s p=>obtain rfl:s=d:=aw hr;obtain⟨r,lB,cs,h1,_⟩:=h4;obtain⟨ex,h2,_⟩:=h1.at_;rw[h2];rfl
theorem Xj (a:Act) (d:Nat) (v:Value) (i:Nat):gV (a.put (some d) v) i=if i=d/\d<a.tmps.size then v else gV a i:=by
 unfold gV Act.put;simp only[fp,mT];by_cases h:d=i
 ·subst h;by_cases hl:d<a.tmps.size
  ·simp[hl]
  simp[hl]
 have h': ¬i=d:=λe=>h e.symm;simp[h,h']
theorem aqb (a:Act) (dst:Option Nat) (v:Value):(a.put dst v).tmps.size=a.tmps.size:=by cases dst<;>simp[Act.put]
theorem put_defers (a:Act) (dst:Option Nat) (v:Value):(a.put dst v).defers=a.defers:=by cases dst<;>rfl
theorem dp.put {W0 Z:Nat->Prop} (h:dp σ w0 W0 Z H S a w)
  (gy:cR w w' (Av σ Z) (Av nK Z)) (Ms:Fr w0 W0 w') (aoJ:∀ g i,nK g=some i->(w0.heap.size<=g∨W0 g)/\g<w'.heap.size) (hold:∀ g,Z g->nK g=none)
  (Gp:∀ i g,i<S.length->dst≠some i->σ g=some i->w'.heap[g]?=w.heap[g]? /\nK g=some i)
  (Fv:∀ d,dst=some d->d<S.length->av.refs d=false->Holds w' (Av nK Z) H (gV (a.put dst v)) (S.put dst av) (λg=>nK g=some d) av v):
  dp nK w0 W0 Z H (S.put dst av) (a.put dst v) w':=by
 have Nk:∀ i,¬i<S.length->S.at i=.dead:=λi hl=>by
  unfold St.at
  rw[aF,cA (by omega)]
  rfl
 refine⟨by rw[eO,aqb];exact h.len,by rw[put_defers];exact h.defers,Ms,λg i hg=>(aoJ g i hg).1,λg i hg=>(aoJ g i hg).2,λg hg=>⟨hold g hg,(h.old g hg).2⟩,λi=>?_⟩
 by_cases hil:i<S.length
 rotate_left
 ·have:(S.put dst av).at i=.dead:=by
   unfold St.at
   rw[aF,cA (by rw[eO];omega)]
   rfl
  rw[this]
  trivial
 cases dst with
 |none=>
  have hk:∀ s,Kept w w' (Av σ Z) H (gV a) (gV a) S S s:=λs=>by
   by_cases hs:s<S.length
   ·exact⟨λ_ _ h=>h,rfl,_,h.holds s,λg hg _=>(Gp s g hs (by simp) hg).1⟩
   ·exact⟨λ_ _ h=>h,rfl,λ_=>False,by rw[Nk s hs];trivial,λ_ h=>h.elim⟩
  exact(h.holds i).kept gy (λg hg _=>Gp i g hil (by simp) hg) (λs _=>hk s)
 |some d=>
  by_cases hi:i=d/\d<S.length
  ·obtain⟨rfl,hl⟩:=hi
   rw[nj,aA ⟨rfl,hl⟩,Xj,aA ⟨rfl,by rw[←h.len];exact hl⟩]
   cases hr:av.refs i with
   |true=>simp[Holds]
   |false=>exact Fv i rfl hl hr
  ·have hi': ¬(i=d/\d<a.tmps.size):=by rw[←h.len];exact hi
   rw[nj,aq hi,Xj,aq hi']
   cases hr:(S.at i).refs d with
   |true=>rw[aqa (h.holds i) hr];simp[Holds]
   |false=>
    simp only[fE,ae]
    by_cases hd:i=d
    ·subst hd
     rw[Nk i (λhl=>hi ⟨rfl,hl⟩)]
     trivial
    ·refine(h.holds i).kept gy (λg hg _=>Gp i g hil (by simpa using λe=>hd e.symm) hg) (λs hs=>?_)
     have Xk:s≠d:=λe=>by subst e;rw[hr] at hs;cases hs
     refine⟨?_,?_,?_⟩
     ·intro r ex hv
      rw[nj,aq (λe=>Xk e.1),hv]
      rfl
     ·rw[Xj,aq (λe=>Xk e.1)]
     ·by_cases hs:s<S.length
      ·exact⟨_,h.holds s,λg hg _=>(Gp s g hs (by simpa using λe=>Xk e.symm) hg).1⟩
      ·exact⟨λ_=>False,by rw[Nk s hs];trivial,λ_ h=>h.elim⟩
def release (σ:Nat->Option Nat) (dst:Option Nat) (g:Nat):Option Nat:=if dst.isSome=true/\σ g=dst then none else σ g
theorem q9 (h:release σ dst g=some i):σ g=some i/\dst≠some i:=by
 unfold release at h;split at h
 ·cases h
 rename_i hn;refine⟨h,λe=>hn ⟨by rw[e];rfl,by rw[h,e]⟩⟩
theorem HF (hd:dst≠some i) (h:σ g=some i):release σ dst g=some i:=by unfold release;rw[aq (λe=>hd (by rw[←e.2,h])),h]
theorem R8 {Z:Nat->Prop} (h:Av (release σ dst) Z g):Av σ Z g:=by
 rcases h with⟨i,h⟩ |h
 ·exact .inl ⟨i,(q9 h).1⟩
 exact .inr h
theorem dp.pure {W0 Z:Nat->Prop} (h:dp σ w0 W0 Z H S a w) (hv:Holds w (Av σ Z) H (gV a) S (λ_=>False) av v):dp (release σ dst) w0 W0 Z H (S.put dst av) (a.put dst v) w:=by
 have gy:cR w w (Av σ Z) (Av (release σ dst) Z):=⟨λ_ _ _=>rfl,λg _ hg=>R8 hg⟩;refine h.put gy h.fr (λg i hg=>⟨h.new g i (q9 hg).1,h.lt g i (q9 hg).1⟩) (λg hg=>by unfold release;split<;>first |rfl |exact(h.old g hg).1) (λi g _ hd hg=>⟨rfl,HF hd hg⟩) (λd hd hl hr=>?_);subst hd;refine hv.kept gy (λ_ h _=>h.elim) (λs hs=>?_);have Xk:s≠d:=λe=>by subst e;rw[hr] at hs;cases hs
 refine⟨λr ex hv=>?_,by rw[Xj,aq (λe=>Xk e.1)],_,h.holds s,λ_ _ _=>rfl⟩;rw[nj,aq (λe=>Xk e.1),hv];rfl
def axs (σ:Nat->Option Nat) (x:Operand) (g:Nat):Prop:=∃ i,x=.tmp i/\σ g=some i
theorem eU {W0 Z:Nat->Prop} (h:dp σ w0 W0 Z H S a w) (he:S.pT Θ T x=some av): Holds w (Av σ Z) H (gV a) S (axs σ x) av (a.eval x):=by
 cases x with
 |tmp i=>simp only[St.pT,ah] at he;subst he;refine(h.holds i).kept (cR.refl _ _) (λg hg _=>⟨rfl,i,rfl,hg⟩) (λs _=>⟨λ_ _ h=>h,rfl,_,h.holds s,λ_ _ _=>rfl⟩)
 |const c=>
 simp only[St.pT] at he;split at he
 ·rename_i b hb;injection he with he;subst he;unfold JZ at hb;split at hb
  ·injection hb with hb;subst hb;exact⟨[a.eval (.const _)],by simp only[a7,isAgg];rfl,by simp[M,K,Act.eval,Md.fu]⟩
  ·injection hb with hb;subst hb;exact⟨[a.eval (.const _)],by simp only[a7,isAgg];rfl,by simp[M,K,Act.eval,Md.fu]⟩
  ·injection hb with hb;subst hb;exact⟨[a.eval (.const _)],by simp only[a7,isAgg];rfl,by simp[M,K,Act.eval,Md.fu]⟩
  ·split at hb
   ·rename_i i hi;split at hb
    ·rename_i t ht;injection hb with hb;subst hb;refine⟨[.slice none 0 0],by simp[a7,isAgg,Act.eval],?_⟩;simp only[M];exact .inr (.inr ⟨_,_,_,none,0,rfl,rfl,aR _,λh hh=>(by cases hh),.inl (by simp)⟩)
    cases hb
   cases hb
  cases hb
 cases he
 |func f=>simp only[St.pT,ah] at he;subst he;exact⟨[],by simp[Act.eval],rfl,λj c hj=>by simp at hj⟩
 |global g=>simp[St.pT] at he
theorem akL {own:Nat->Prop} (h:M w A H t m x cs own []):K w (λ_=>False) t x cs:=M_K (λ_ _ h=>h.elim) t rfl (λ_ _ h=>h) h
theorem afV (h:a7 t v cs) (h1:∀ u∈cs,u.oneCell'=true):v.cells.toList=cs:=by
 unfold a7 at h;split at h
 ·subst h;rfl
 subst h;have:=h1 v (by simp);cases v<;>first |rfl |(simp[Value.oneCell'] at this)
theorem Lm:∀ (q r:Path),v8 q (q++r)=true
 |[],_=>by simp[v8]
 | .idx i::q,r=>by simp[v8];exact Lm q r
 | .deref::q,r=>by simp[v8];exact Lm q r
 | .fst::q,r=>by simp[v8];exact Lm q r
 | .snd::q,r=>by simp[v8];exact Lm q r
theorem Ln:∀ (q r:Path),v8 (q++r) q=true
 |[],[]=>by simp[v8]
 |[],_::_=>by simp[v8]
 | .idx i::q,r=>by simp[v8];exact Ln q r
 | .deref::q,r=>by simp[v8];exact Ln q r
 | .fst::q,r=>by simp[v8];exact Ln q r
 | .snd::q,r=>by simp[v8];exact Ln q r
theorem Rq (h:∀ q∈ex,v8 q p=false):open_ p ex:=λq hq s r e=>by have:=h q hq;rw[e,Lm] at this;cases this
theorem Rr (h:∀ q∈ex,v8 q p=false):TQ p ex=[]:=by
 cases hs:TQ p ex with
 |nil=>rfl
 |cons q r=>have:q∈TQ p ex:=(by rw[hs];simp);have:=h _ (aaV.1 this);rw[Ln] at this;cases this
theorem akM (h:S.length<=i):S.at i=.dead:=by unfold St.at;rw[aF,cA h];rfl
theorem again_at (hl:S2.length=S.length) (i:Nat):(S.again S2 s).at i=S2.at i∨∃ t r ex,S.at i=.al t s []/\S2.at s=.v r ex/\t=r.t/\S2.at i=.dead/\(S.again S2 s).at i=.al t s []:=by
 unfold St.again;split;case h_2=>exact .inl rfl
 rename_i r ex hs;have hz:St.at (List.zipWith (Xe s r.t) S S2) i=Xe s r.t (S.at i) (S2.at i):=by
  by_cases hi:i<S.length
  ·unfold St.at;rw[aF,aF,aF,List.getElem?_zipWith,aU hi,aU (by omega:i<S2.length)];rfl
  rw[akM (S:=S) (by omega),akM (S:=S2) (by omega),akM (by rw[iG];omega)];rfl
 rw[hz];unfold Xe;split;case h_2=>exact .inl rfl
 rename_i t q ha hb;cases hq:Nat.beq q s&&decide (t=r.t) with
 |false=>rw[hb];exact .inl rfl
 |true=>simp only[ai,ax] at hq;obtain rfl:=aw hq.1;exact .inr ⟨t,r,ex,ha,hs,hq.2,hb,rfl⟩
end Go.Pv
