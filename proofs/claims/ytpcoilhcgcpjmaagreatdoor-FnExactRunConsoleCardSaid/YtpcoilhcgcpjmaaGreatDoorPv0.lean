/- A verified evaluator of the program's form over pure values, part 0: what it tells of a function holds. -/
import Derived.Calls
import Derived.KernelRfl
import Derived.Laws.AppendOwn
import Derived.Laws.Sem
import Derived.Orders
set_option linter.unusedSimpArgs false
set_option linter.unusedVariables false
noncomputable section
namespace Go.Pv
open List Int IntKind
abbrev eW:= @Array.getD_eq_getD_getElem?
abbrev cu:= @Array.getElem?_eq_some_iff
abbrev mV:= @Array.getElem?_setIfInBounds
abbrev bI:= @Array.getElem?_toList
abbrev bQ:= @Array.length_toList
abbrev ai:= @Bool.and_eq_true
abbrev dN:= @Bool.and_false
abbrev cM:= @Bool.and_true
abbrev fi:= @Bool.false_and
abbrev aJ:= @List.all_eq_true
abbrev dk:= @List.any_eq_true
abbrev bu:= @List.append_assoc
abbrev b6:= @List.append_nil
abbrev bD:= @List.cons_append
abbrev dO:= @List.drop_drop
abbrev df:= @List.drop_left
abbrev iE:= @List.drop_take
abbrev dJ:= @List.drop_zero
abbrev cU:= @List.ext_getElem?
abbrev aG:= @List.getD_eq_getElem?_getD
abbrev dL:= @List.getElem?_append_left
abbrev cG:= @List.getElem?_append_right
abbrev cr:= @List.getElem?_drop
abbrev aN:= @List.getElem?_eq_getElem
abbrev cv:= @List.getElem?_eq_none
abbrev bO:= @List.getElem?_map
abbrev iF:= @List.getElem?_set
abbrev bM:= @List.getElem?_take
abbrev ax:= @List.length_append
abbrev aX:= @List.length_drop
abbrev bF:= @List.length_set
abbrev aH:= @List.length_take
abbrev iy:= @List.length_zipWith
abbrev a8:= @List.mem_append
abbrev xK:= @List.mem_flatten
abbrev bo:= @List.mem_iff_getElem
abbrev sI:= @List.mem_iff_getElem?
abbrev da:= @List.mem_of_getElem?
abbrev bU:= @List.nil_append
abbrev cd:= @List.size_toArray
abbrev dS:= @List.take_append_drop
abbrev dP:= @List.take_left
abbrev cw:= @List.take_of_length_le
abbrev nk:= @List.take_take
abbrev tP:= @List.take_zero
abbrev b5:= @List.toList_toArray
abbrev fa:= @Nat.add_assoc
abbrev bc:= @Nat.add_mul
abbrev aw:= @Nat.eq_of_beq_eq_true
abbrev aM:= @Nat.le_refl
abbrev kQ:= @Nat.min_eq_left
abbrev aC:= @Nat.mul_le_mul_right
abbrev cH:= @Nat.one_mul
abbrev aW:= @Nat.zero_add
abbrev aI:= @Option.bind_some
abbrev aP:= @Option.map_some
abbrev ah:= @Option.some.injEq
abbrev ae:= @cond_false
abbrev ab:= @cond_true
abbrev au:= @decide_eq_true_eq
abbrev cT:= @if_false
abbrev ar:= @if_neg
abbrev ay:= @if_pos
abbrev dy:= @if_true
end Go.Pv
namespace Go.Pv
open List Int IntKind
inductive Ty where
 |int (k:IntKind) |bool |str |sl (t:Ty) |ptr (t:Ty) |pair (a b:Ty) |unit |arr (n:Nat) (t:Ty) |mp
 deriving DecidableEq,Inhabited
@[reducible] def Ty.I:Ty->Type
 | .int _=>Int | .bool=>Bool | .str=>ByteArray | .sl t=>List t.I | .ptr t=>t.I | .pair a b=>a.I×b.I | .unit=>Unit | .arr _ t=>List t.I | .mp=>List (List Int×Bool)
def Ty.size:Ty->Nat
 | .pair a b=>a.size+b.size | .unit=>0 | .arr n t=>n*t.size |_=>1
def Ty.z:(t:Ty)->t.I
 | .int _=>(0:Int) | .bool=>false | .str=>ByteArray.empty | .sl _=>[] | .ptr t=>t.z | .pair a b=>(a.z,b.z) | .unit=>() | .arr n t=>List.replicate n t.z | .mp=>[]
inductive Md where
 |k |o (T:TypeId) (tag:Option Nat) (m:Md) |p (a b:Md)
 deriving DecidableEq,Inhabited
def Md.eY:Md->Bool
 | .k=>true | .o ..=>false | .p a b=>a.eY&&b.eY
inductive Step where
 |deref |fst |snd |idx (i:Nat)
 deriving DecidableEq,Inhabited
abbrev Path:=List Step
def sub (s:Step) (hs:List Path):List Path:=hs.filterMap λp=>match p with
 |s'::r=>if s'=s then some r else none
 |[]=>none
def M' (k:List Int):Value:=.agg (k.map (Value.int .i64)).toArray
def ZP (k:List Int):Bool:=Nat.beq k.length 2&&k.all λn=>decide (-9223372036854775808<=n)&&decide (n<=9223372036854775807)
def aaB (es:Array MapEntry) (x:List (List Int×Bool)):Prop:=es.toList.map (λe=>(e.key,e.val))=x.map (λq=>(M' q.1,Value.bool q.2))/\(x.map (·.1)).Nodup/\∀ q∈x,ZP q.1=true
section
variable (w:World) (Wr:Nat->Prop)
def K:(t:Ty)->t.I->List Value->Prop
 | .int k,n,cs=>cs=[.int k n]
 | .bool,b,cs=>cs=[.bool b]
 | .str,s,cs=>cs=[.string s]
 | .unit,_,cs=>cs=[]
 | .pair a b,x,cs=>∃ c0 c1,cs=c0++c1/\K a x.1 c0/\K b x.2 c1
 | .arr n t,xs,cs=>∃ rX:List (List Value),cs=rX.flatten/\rX.length=n/\xs.length=n/\∀ j (h:j<xs.length) (h':j<rX.length),K t xs[j] rX[j]
 | .mp,x,cs=>∃ g es n,cs=[.map (some g)]/\ ¬Wr g/\w.heap[g]?=some (.map es n)/\aaB es x
 | .sl t,xs,cs=>∃ A c,cs=[.slice A xs.length c]/\xs.length<=c/\(0<xs.length->∃ g off cur T fr,A=some ⟨g,off,none⟩/\ ¬Wr g/\w.heap[g]?=some (.cells cur T fr)/\off+xs.length*t.size<=cur.size/\∀ j (h:j<xs.length),K t xs[j] ((cur.toList.drop (off+j*t.size)).take t.size))
 | .ptr t,x,cs=>∃ g off cur T fr,cs=[.pointer (some ⟨g,off,none⟩)]/\ ¬Wr g/\w.heap[g]?=some (.cells cur T fr)/\off+t.size<=cur.size/\K t x ((cur.toList.drop off).take t.size)
def M (H:Nat->Value):(t:Ty)->(m:Md)->t.I->List Value->(Nat->Prop)->List Path->Prop
 | .sl t,m,xs,cs,ow,hs=>([]∈hs/\m.eY=false/\∃ A c,cs=[.slice A xs.length c])∨(m.eY=true/\K w Wr (.sl t) xs cs)∨ ∃ T tag me A c,m=.o T tag me/\cs=[.slice A xs.length c]/\xs.length<=c/\(∀ h,tag=some h->H h=.slice A xs.length c)/\ ((xs=[]/\c=0)∨∃ g cur,∃ τ:Nat->Nat,A=some ⟨g,0,none⟩/\ow g/\w.heap[g]?=some (.cells cur T (0,0))/\cur.size=c*t.size/\c<=maxLen/\ ∀ j (h:j<xs.length),M H t me xs[j] ((cur.toList.drop (j*t.size)).take t.size) (λg'=>ow g'/\g'≠g/\τ g'=j) (sub (.idx j) hs))
 | .ptr t,m,x,cs,ow,hs=>([]∈hs/\m.eY=false/\cs.length=1/\∀ u∈cs,u.oneCell'=true)∨(m.eY=true/\K w Wr (.ptr t) x cs)∨ ∃ T tag me g cur,m=.o T tag me/\cs=[.pointer (some ⟨g,0,none⟩)]/\(∀ h,tag=some h->H h=.pointer (some ⟨g,0,none⟩))/\ow g/\w.heap[g]?=some (.cells cur T (0,0))/\ M H t me x cur.toList (λg'=>ow g'/\g'≠g) (sub .deref hs)
 | .pair a b,m,x,cs,ow,hs=>([]∈hs/\m.eY=false/\cs.length=a.size+b.size/\∀ u∈cs,u.oneCell'=true)∨(m.eY=true/\K w Wr (.pair a b) x cs)∨ ∃ ma mb c0 c1,∃ s:Nat->Prop,m=.p ma mb/\cs=c0++c1/\M H a ma x.1 c0 (λg'=>ow g'/\s g') (sub .fst hs)/\M H b mb x.2 c1 (λg'=>ow g'/\ ¬s g') (sub .snd hs)
 | .int k,m,x,cs,_,_=>m.eY=true/\K w Wr (.int k) x cs
 | .bool,m,x,cs,_,_=>m.eY=true/\K w Wr .bool x cs
 | .str,m,x,cs,_,_=>m.eY=true/\K w Wr .str x cs
 | .unit,m,x,cs,_,_=>m.eY=true/\K w Wr .unit x cs
 | .arr n t,m,x,cs,_,_=>m.eY=true/\K w Wr (.arr n t) x cs
 | .mp,m,x,cs,ow,hs=>([]∈hs/\m.eY=false/\cs.length=1/\∀ u∈cs,u.oneCell'=true)∨(m.eY=true/\K w Wr .mp x cs)∨ ∃ T tag g es n,m=.o T tag .k/\cs=[.map (some g)]/\(∀ h,tag=some h->H h=.map (some g))/\ow g/\w.heap[g]?=some (.map es n)/\aaB es x
end
end Go.Pv
namespace Go.Pv
open List Int IntKind
structure TV where
 t:Ty
 m:Md
 x:t.I
inductive Cap where
 |pl (t:Ty) (s:Nat) (p:Path)
 |kv (a:TV)
inductive AV where
 |dead
 |undef
 |v (a:TV) (ex:List Path)
 |QU (l:List (Option TV))
 |al (t:Ty) (s:Nat) (p:Path)
 |ad (t:Ty) (s:Nat) (p:Path)
 |cut (t:Ty) (s:Nat) (p:Path) (lo hi:Nat)
 |EL (f:FuncId) (kn:List Cap)
abbrev St:=List AV
structure TI where
 T:TypeId
 ty:Ty
 e:TypeId
 fs:List TypeId
abbrev kR:=List TI
def kR.find (Θ:kR) (T:TypeId):Option TI:=match Θ with
 |[]=>none
 |i::r=>bif Nat.beq i.T T then some i else kR.find r T
def Md.inn:Md->Md
 | .o _ _ m=>m |_=>.k
def Md.l:Md->Md
 | .p a _=>a |m=>m
def Md.r:Md->Md
 | .p _ b=>b |m=>m
def mkM (a b:Md):Md:=bif a.eY&&b.eY then .k else .p a b
def dA:Path->(t:Ty)->Md->t.I->Option TV
 |[],t,m,x=>some ⟨t,m,x⟩
 | .deref::p,.ptr t,m,x=>dA p t m.inn x
 | .fst::p,.pair a _,m,x=>dA p a m.l x.1
 | .snd::p,.pair _ b,m,x=>dA p b m.r x.2
 | .idx i::p,.sl t,m,xs=>dA p t m.inn (xs.getD i t.z)
 |_::_,_,_,_=>none
def wk (b:TV):Path->(t:Ty)->Md->t.I->Option (Md×t.I)
 |[],t,_,_=>if h:b.t=t then some (b.m,h▸b.x) else none
 | .deref::p,.ptr t,.o T tag me,x=>match wk b p t me x with
  |some r=>some (.o T tag r.1,r.2)
  |none=>none
 | .fst::p,.pair t u,m,x=>match wk b p t m.l x.1 with
  |some r=>some (mkM r.1 m.r,(r.2,x.2))
  |none=>none
 | .snd::p,.pair t u,m,x=>match wk b p u m.r x.2 with
  |some r=>some (mkM m.l r.1,(x.1,r.2))
  |none=>none
 | .idx i::p,.sl t,.o T tag me,xs=>match wk b p t me (xs.getD i t.z) with
  |some r=>if r.1=me then some (.o T tag me,xs.set i r.2) else none
  |none=>none
 |_::_,_,_,_=>none
def wm:Path->Path->Bool
 |[],_=>true
 |_,[]=>true
 | .idx _::p,.idx _::q=>wm p q
 |s::p,s'::q=>if s=s' then wm p q else false
def under:Path->Path->Bool
 |[],[]=>false
 |[],_::_=>true
 |_::_,[]=>false
 | .idx _::p,.idx _::q=>under p q
 |s::p,s'::q=>if s=s' then under p q else false
def pre:Path->Path->Bool
 |[],_=>true
 | .deref::p,.deref::q=>pre p q
 | .fst::p,.fst::q=>pre p q
 | .snd::p,.snd::q=>pre p q
 |_,_=>false
def Na:Path->Path->Bool
 |[],_=>true
 |_,[]=>true
 | .idx i::p,.idx j::q=>Na p q&&Nat.beq i j
 |s::p,s'::q=>if s=s' then Na p q else false
def vi:Path->Path->Bool
 |[],[]=>true
 | .idx _::p,.idx _::q=>vi p q
 | .deref::p,.deref::q=>vi p q
 | .fst::p,.fst::q=>vi p q
 | .snd::p,.snd::q=>vi p q
 |_,_=>false
def Zc:Path->Path->Bool
 | .idx i::p,.idx j::q=>Zc p q&&Nat.beq i j
 |_::p,_::q=>Zc p q
 |_,_=>true
def pU (p:Path):List Path->Bool×List Path
 |[]=>(true,[])
 |h::r=>bif vi p h then(Zc p h,r) else((pU p r).1,h::(pU p r).2)
def depth:Path->Nat
 |[]=>0 | .deref::p=>depth p+1 | .idx _::p=>depth p+1 |_::p=>depth p
def AV.refs (d:Nat):AV->Bool
 | .al _ s _=>Nat.beq s d | .ad _ s _=>Nat.beq s d | .cut _ s _ _ _=>Nat.beq s d
 | .EL _ kn=>kn.any λc=>match c with
  | .pl _ s _=>Nat.beq s d
  | .kv _=>false
 |_=>false
def AV.qq (d:Nat):AV->Bool
 | .al _ s p=>Nat.beq s d&&match p with
  |[]=>false
  |_=>true
 | .ad _ s p=>Nat.beq s d&&Nat.ble 2 (depth p)
 | .cut _ s _ _ _=>Nat.beq s d
 | .EL _ kn=>kn.any λc=>match c with
  | .pl _ s (_::_)=>Nat.beq s d
  |_=>false
 |_=>false
def St.at (S:St) (i:Nat):AV:=S.getD i .dead
def St.kill (S:St) (d:Nat):St:=S.map λa=>bif a.refs d then .dead else a
def St.weaken (S:St) (d:Nat):St:=S.map λa=>bif a.qq d then .dead else a
def St.cover (S:St) (d:Nat) (p:Path):St:=S.map λa=>match a with
 | .ad t s q=>bif Nat.beq s d&&under p q then .dead else .ad t s q
 |a=>a
def AV.UX:AV->Bool
 | .v ..=>true |_=>false
def St.put (S:St) (dst:Option Nat) (a:AV):St:=match dst with
 |none=>S
 |some d=>(bif (S.at d).UX then S.kill d else S).set d (bif a.refs d then .dead else a)
def XF (s:Nat) (t':Ty) (a b:AV):AV:=match a,b with
 | .al t q [],.dead=>bif Nat.beq q s&&decide (t=t') then .al t q [] else .dead
 |_,b=>b
def St.again (S S2:St) (s:Nat):St:=match S2.at s with
 | .v r _=>List.zipWith (XF s r.t) S S2
 |_=>S2
def kTV (a:TV):TV:=⟨a.t,.k,a.x⟩
def JH (Θ:kR) (T:TypeId):Value->Option TV
 | .int k n=>some ⟨.int k,.k,n⟩
 | .bool b=>some ⟨.bool,.k,b⟩
 | .string s=>some ⟨.str,.k,s⟩
 | .slice none 0 0=>match Θ.find T with
  |some i=>match i.ty with
   | .sl t=>some ⟨.sl t,.o i.e none .k,[]⟩
   |_=>none
  |none=>none
 |_=>none
def St.place (S:St) (s:Nat) (p:Path):Option TV:=match S.at s with
 | .v a ex=>bif ex.all (λh=>!wm h p) then dA p a.t a.m a.x else none
 |_=>none
def St.ko (S:St) (s:Nat) (p:Path):Option TV:=match S.at s with
 | .v a ex=>bif ex.all (λh=>!under h p) then dA p a.t a.m a.x else none
 |_=>none
def St.pJ (Θ:kR) (S:St) (T:TypeId):Operand->Option AV
 | .tmp i=>some (S.at i)
 | .const c=>match JH Θ T c with
  |some a=>some (.v a [])
  |none=>none
 | .func f=>some (.EL f [])
 | .global _=>none
def St.QV (S:St):AV->Option TV
 | .v a []=>some a
 | .al _ s p=>S.place s p
 | .cut _ s p lo hi=>match S.place s p with
  |some ⟨.sl t,m,xs⟩=>some ⟨.sl t,m,(xs.take hi).drop lo⟩
  |_=>none
 |_=>none
def St.rd (Θ:kR) (S:St) (T:TypeId) (x:Operand):Option TV:=match S.pJ Θ T x with
 |some a=>S.QV a
 |none=>none
def St.GI (Θ:kR) (S:St) (x:Operand):Option Int:=match S.rd Θ 0 x with
 |some ⟨.int _,_,n⟩=>some n
 |_=>none
def St.pA (S:St) (x:Operand):AV->Option (TV×St)
 | .v a ex=>bif a.m.eY then some (a,S) else match ex,x with
  |[],.tmp i=>some (a,S.put (some i) .dead)
  |[],_=>some (a,S)
  |_,_=>none
 | .al _ s p=>match S.place s p with
  |some a=>bif a.m.eY then some (a,S) else match p,S.at s with
   |[],_=>some (a,S.put (some s) .dead)
   |_,.v r ex=>some (a,((S.weaken s).cover s p).set s (.v r (ex++[p])))
   |_,_=>none
  |none=>none
 | .cut _ s [] lo hi=>match S.place s [] with
  |some ⟨.sl t,.o T _ me,xs⟩=>bif Nat.beq lo 0 then some (⟨.sl t,.o T none me,xs.take hi⟩,S.put (some s) .dead) else none
  |_=>none
 |_=>none
def St.take (Θ:kR) (S:St) (T:TypeId) (x:Operand):Option (TV×St):=match S.pJ Θ T x with
 |some a=>S.pA x a
 |none=>none
def St.copy (S:St) (x:Operand):AV->Option AV
 | .v a ex=>bif a.m.eY then some (.v a []) else match x with
  | .tmp i=>some (.al a.t i [])
  |_=>match ex with
   |[]=>some (.v a [])
   |_=>none
 | .QU _=>none
 | .dead=>none
 |a=>some a
def JI (i n:Nat):Path:=bif Nat.beq (i+1) n then(bif Nat.beq n 1 then [.fst] else List.replicate i .snd) else List.replicate i .snd++[.fst]
def zgo (f:TypeId->Md):List TypeId->Md
 |[]=>.k
 |[a]=>f a
 |a::r=>mkM (f a) (zgo f r)
def ag9 (Θ:kR):Nat->TypeId->Md
 |0,_=>.k
 |n+1,T=>match Θ.find T with
  |none=>.k
  |some i=>match i.ty with
   | .sl _=>.o i.e none (ag9 Θ n i.e)
   | .pair _ _=>zgo (ag9 Θ n) i.fs
   |_=>.k
def z8:Ty->Bool
 | .ptr _=>false | .arr _ t=>z8 t | .mp=>false | .pair a b=>z8 a&&z8 b |_=>true
def Ti:Ty->Md->Bool
 | .pair a b,.p ma mb=>(Ti a ma&&Ti b mb)||(ma.eY&&mb.eY&&z8 a&&z8 b)
 | .sl _,.o _ none _=>true
 |t,m=>m.eY&&z8 t
inductive Tgt where
 |k (a:TV)
 |pl (t:Ty) (s:Nat) (p:Path)
def Tgt.ty:Tgt->Ty
 | .k a=>a.t
 | .pl t _ _=>t
def St.Tj (S:St) (x:Operand):AV->Option Tgt
 | .v ⟨.ptr t,m,y⟩ []=>match m,x with
  | .k,_=>some (.k ⟨t,.k,y⟩)
  | .o ..,.tmp i=>some (.pl t i [.deref])
  |_,_=>none
 | .v ⟨.ptr t,.o ..,_⟩ _=>match x with
  | .tmp i=>some (.pl t i [.deref])
  |_=>none
 | .al (.ptr t) s p=>match S.ko s p with
  |some ⟨.ptr t',.k,y⟩=>some (.k ⟨t',.k,y⟩)
  |some ⟨.ptr _,.o ..,_⟩=>some (.pl t s (p++[.deref]))
  |_=>none
 | .ad t s p=>some (.pl t s p)
 |_=>none
def St.loadAt (S:St):Tgt->Option AV
 | .k a=>some (.v (kTV a) [])
 | .pl t s p=>match S.ko s p with
  |some a=>bif a.m.eY then(match S.place s p with
   |some a=>some (.v (kTV a) [])
   |none=>none) else some (.al t s p)
  |none=>none
def bt (s:ByteArray) (i:Int):Int:=if h:i.toNat<s.size then((s[i.toNat]'h).toNat:Int) else 0
def auv (op:BinOp) (k:IntKind) (x y:Int):Option (Bool×TV):=match op with
 | .add=>some (true,⟨.int k,.k,k.wrap (x+y)⟩)
 | .sub=>some (true,⟨.int k,.k,k.wrap (x - y)⟩)
 | .mul=>some (true,⟨.int k,.k,k.wrap (x*y)⟩)
 | .quo=>some (!decide (y=0),⟨.int k,.k,k.wrap (x.tdiv y)⟩)
 | .rem=>some (!decide (y=0),⟨.int k,.k,x.tmod y⟩)
 | .and=>some (true,⟨.int k,.k,k.wrap (BitVec.ofInt k.bits x&&&BitVec.ofInt k.bits y).toNat⟩)
 | .or=>some (true,⟨.int k,.k,k.wrap (BitVec.ofInt k.bits x|||BitVec.ofInt k.bits y).toNat⟩)
 | .xor=>some (true,⟨.int k,.k,k.wrap (BitVec.ofInt k.bits x^^^BitVec.ofInt k.bits y).toNat⟩)
 | .eql=>some (true,⟨.bool,.k,x==y⟩)
 | .neq=>some (true,⟨.bool,.k,x != y⟩)
 | .lss=>some (true,⟨.bool,.k,decide (x<y)⟩)
 | .leq=>some (true,⟨.bool,.k,decide (x<=y)⟩)
 | .gtr=>some (true,⟨.bool,.k,decide (x>y)⟩)
 | .geq=>some (true,⟨.bool,.k,decide (x≥y)⟩)
 | .shl=>some (decide (0<=y),⟨.int k,.k,k.wrap (x*2^(min y.toNat k.bits))⟩)
 | .shr=>some (decide (0<=y),⟨.int k,.k,x.fdiv (2^(min y.toNat k.bits))⟩)
 |_=>none
def auw (op:BinOp) (x y:ByteArray):Option (Bool×TV):=match op with
 | .add=>some (decide (x.size+y.size<=9223372036854775807),⟨.str,.k,x++y⟩)
 | .eql=>some (true,⟨.bool,.k,x.toList==y.toList⟩)
 | .neq=>some (true,⟨.bool,.k,!(x.toList==y.toList)⟩)
 |_=>none
def eqV:(t:Ty)->t.I->t.I->Option Bool
 | .int _,x,y=>some (decide ((x:Int)=y))
 | .bool,x,y=>some ((x:Bool)==y)
 | .str,x,y=>some ((x:ByteArray)==y)
 | .pair a b,x,y=>match eqV a x.1 y.1,eqV b x.2 y.2 with
  |some p,some q=>some (p&&q)
  |_,_=>none
 | .unit,_,_=>some true
 |_,_,_=>none
def xA (op:BinOp) (a b:TV):Option (Bool×TV):=match a,b with
 |⟨.int k,_,x⟩,⟨.int k',_,y⟩=>if k=k'∨op=.shl∨op=.shr then auv op k x y else none
 |⟨.str,_,x⟩,⟨.str,_,y⟩=>auw op x y
 |⟨.bool,_,x⟩,⟨.bool,_,y⟩=>match op with
  | .eql=>some (true,⟨.bool,.k,x==y⟩)
  | .neq=>some (true,⟨.bool,.k,!(x==y)⟩)
  |_=>none
 |⟨.pair t u,_,x⟩,⟨t',_,y⟩=>if h:t'=.pair t u then match op,eqV (.pair t u) x (h▸y) with
   | .eql,some r=>some (true,⟨.bool,.k,r⟩)
   | .neq,some r=>some (true,⟨.bool,.k,!r⟩)
   |_,_=>none
  else none
 |_,_=>none
def auy (op:UnOp) (a:TV):Option TV:=match op,a with
 | .not,⟨.bool,_,x⟩=>some ⟨.bool,.k,!x⟩
 | .neg,⟨.int k,_,x⟩=>some ⟨.int k,.k,k.wrap (0 - x)⟩
 | .xor,⟨.int k,_,x⟩=>some ⟨.int k,.k,k.wrap (BitVec.ofInt k.bits (if k.signed then -1 else k.max)^^^BitVec.ofInt k.bits x).toNat⟩
 |_,_=>none
def mkS:List TV->TV
 |[]=>⟨.unit,.k,()⟩
 |[a]=>a
 |a::r=>⟨.pair a.t (mkS r).t,mkM a.m (mkS r).m,(a.x,(mkS r).x)⟩
def pV (l:List TV):TV:=match l with
 |[a]=>⟨.pair a.t .unit,mkM a.m .k,(a.x,())⟩
 |l=>mkS l
def Pj (Θ:kR) (T:TypeId):Option TV:=match Θ.find T with
 |some i=>bif Ti i.ty (ag9 Θ 9 T) then some ⟨i.ty,ag9 Θ 9 T,i.ty.z⟩ else none
 |none=>none
def St.parts (Θ:kR) (S:St) (ps:List (Nat×Operand)):List TypeId->Nat->Option (List TV×St)
 |[],_=>some ([],S)
 |T::r,j=>match ps.find? (λq=>Nat.beq q.1 j) with
  |some q=>match S.take Θ T q.2 with
   |some (a,S1)=>match S1.parts Θ ps r (j+1) with
    |some (l,S2)=>some (a::l,S2)
    |none=>none
   |none=>none
  |none=>match Pj Θ T with
   |some a=>match S.parts Θ ps r (j+1) with
    |some (l,S2)=>some (a::l,S2)
    |none=>none
   |none=>none
def EM (n:Nat):List (Nat×Operand)->Bool
 |[]=>true
 |q::r=>Nat.blt q.1 n&& !(r.any λq'=>Nat.beq q'.1 q.1)&&EM n r
def Pl (t:Ty) (m:Md):List TV->Option (List t.I)
 |[]=>some []
 |a::r=>if h:a.t=t then(if a.m=m then match Pl t m r with
  |some l=>some ((h▸a.x)::l)
  |none=>none else none) else none
abbrev Hn:=List (Nat×Md)
def Hn.find (h:Hn) (d:Option Nat) (m:Md):Md:=match d with
 |none=>m
 |some d=>match h with
  |[]=>m
  |q::r=>bif Nat.beq q.1 d then q.2 else Hn.find r (some d) m
def Hn.an9 (h:Hn) (d:Option Nat):Bool:=match h.find d (.o 0 none .k) with
 | .k=>true
 |_=>false
def kR.is (Θ:kR) (T:TypeId) (t:Ty):Bool:=match Θ.find T with
 |some i=>decide (i.ty=t)
 |none=>false
abbrev Tk:=Option (Bool×St)
def Nb (Θ:kR) (S:St) (dst:Option Nat) (T:TypeId) (x:Operand):Tk:=match S.pJ Θ T x with
 |some (.QU l)=>(match dst,x with
  |some d,.tmp i=>bif Nat.beq d i|| !Nat.blt d S.length then none else some (true,(S.put (some i) .dead).put (some d) (.QU l))
  |_,_=>none)
 |some a=>match S.copy x a with
  |some a=>some (true,S.put dst a)
  |none=>none
 |none=>none
def aaC (Θ:kR) (S:St) (dst:Option Nat) (T:TypeId) (x:Operand):Tk:=match S.pJ Θ T x with
 |some a=>match dst,x,a with
  |some d,.tmp i,.v a ex=>bif a.m.eY then some (true,S.put dst (.v a [])) else match ex with
   |[]=>bif Nat.beq d i|| !Nat.blt d S.length then none else some (true,(St.put (S.put (some i) .dead) dst (.v a [])).set i (.al a.t d []))
   |_=>none
  |_,_,.v a ex=>bif a.m.eY then some (true,S.put dst (.v a [])) else match ex,x with
   |[],.const _=>some (true,S.put dst (.v a []))
   |_,_=>none
  |some d,_,.al t s []=>bif Nat.beq s d then none else some (true,S.put dst (.al t s []))
  |some d,_,.EL f c=>bif AV.refs d (.EL f c) then none else some (true,S.put dst (.EL f c))
  |_,_,.undef=>some (true,S.put dst .undef)
  |_,_,a=>match S.pA x a with
   |some (a,S1)=>some (true,S1.put dst (.v a []))
   |none=>none
 |none=>match x with
  | .const _=>some (true,S.put dst .dead)
  |_=>none
def aj3 (Θ:kR) (S:St) (dst:Option Nat) (T:TypeId) (c a b:Operand):Tk:=match S.rd Θ 0 c with
 |some ⟨.bool,_,q⟩=>match S.pJ Θ T a,S.pJ Θ T b with
  |some (.v ⟨.bool,_,x⟩ _),some (.v ⟨.bool,_,y⟩ _)=>some (true,S.put dst (.v ⟨.bool,.k,bif q then x else y⟩ []))
  |some p,some r=>match (bif q then S.copy a p else S.copy b r) with
   |some a=>some (true,S.put dst a)
   |none=>none
  |_,_=>none
 |_=>none
def Nc (Θ:kR) (hn:Hn) (S:St) (dst:Option Nat) (T:TypeId):Tk:=match Pj Θ T with
 |some z=>bif Ti z.t (hn.find dst z.m) then some (true,S.put dst (.v ⟨.ptr z.t,.o T none (hn.find dst z.m),z.t.z⟩ [])) else none
 |none=>none
def apx (Θ:kR) (S:St) (dst:Option Nat) (T:TypeId) (x:Operand):Tk:=match S.take Θ T x with
 |some (a,S1)=>bif Θ.is T a.t then some (true,S1.put dst (.v ⟨.ptr a.t,.o T none a.m,a.x⟩ [])) else none
 |none=>none
def U0 (Θ:kR) (S:St) (dst:Option Nat) (T:TypeId) (ps:List (Nat×Operand)):Tk:=match Θ.find T with
 |some i=>match S.parts Θ ps i.fs 0 with
  |some (l,S1)=>bif decide ((pV l).t=i.ty)&&apy i.ty&&EM l.length ps then some (true,S1.put dst (.v (pV l) [])) else none
  |none=>none
 |none=>none
 where apy:Ty->Bool
 | .pair _ _=>true
 |_=>false
def fb (Θ:kR) (hn:Hn) (S:St) (dst:Option Nat) (T:TypeId) (n:Nat) (ps:List (Nat×Operand)):Tk:=match Θ.find T with
 |some ⟨_,.sl t,e,_⟩=>bif EM n ps&&Nat.ble n 1800 then(match S.parts Θ ps (List.replicate n e) 0 with
  |some (l,S1)=>(match l with
   |[]=>some (true,S1.put dst (.v ⟨.sl t,bif hn.an9 dst then .k else .o e none (hn.find dst .k),[]⟩ []))
   |a::_=>match Pl t a.m l with
    |some xs=>some (true,S1.put dst (.v ⟨.sl t,bif hn.an9 dst&&a.m.eY then .k else .o e none a.m,xs⟩ []))
    |none=>none)
  |none=>none) else none
 |_=>none
def Ty.flat:Ty->Bool
 | .int _=>true | .bool=>true | .str=>true |_=>false
def ag' (t:Ty):AV->Bool
 | .al ..=>!t.flat
 |_=>true
def tQ (Θ:kR) (S:St) (dst:Option Nat) (T:TypeId) (x:Operand):Tk:=match S.pJ Θ 0 x with
 |some a=>match S.Tj x a with
  |some g=>match S.loadAt g with
   |some r=>bif ag' g.ty r&&Θ.is T g.ty then some (true,S.put dst r) else none
   |none=>none
  |none=>none
 |none=>none
def EN (Θ:kR) (S:St) (T:TypeId) (x y:Operand):Tk:=match S.pJ Θ 0 x with
 |some a=>match S.Tj x a with
  |some (.pl _ s p)=>match S.take Θ T y with
   |some (b,S1)=>bif Θ.is T b.t then(match S1.at s with
    | .v r ex=>match wk b p r.t r.m r.x with
     |some (m,z)=>bif ex.all (λh=>!under h p) then some ((pU p (ex.filter λh=>!pre p h)).1,(S1.weaken s).set s (.v ⟨r.t,m,z⟩ (pU p (ex.filter λh=>!pre p h)).2)) else none
     |none=>none
    |_=>none) else none
   |none=>none
  |_=>none
 |none=>none
def Nd (Θ:kR) (S S1:St) (T:TypeId) (y:Operand):St:=match S.pJ Θ T y with
 |some (.al _ s [])=>(match S.at s,S1.at s with
  | .v ⟨.sl t,m,xs⟩ [],.dead=>bif m.eY then S1 else S1.set s (.v ⟨.sl t,m,xs⟩ [[]])
  |_,_=>S1)
 |_=>S1
def Tl (Θ:kR) (S:St) (dst:Option Nat) (x:Operand):Tk:=match S.pJ Θ 0 x with
 |some a=>match S.Tj x a with
  |some g=>match S.copy x a,(match g with
   | .k _=>some ()
   | .pl _ s p=>match S.ko s p with
    |some _=>some ()
    |none=>none) with
   |some a,some _=>some (true,S.put dst a)
   |_,_=>none
  |none=>none
 |none=>none
def wo (Θ:kR) (S:St) (dst:Option Nat) (T:TypeId) (x:Operand) (f:Nat):Tk:=match S.pJ Θ 0 x,Θ.find T with
 |some a,some i=>bif Nat.blt f i.fs.length then(match S.Tj x a with
  |some (.k ⟨t,m,y⟩)=>bif decide (i.ty=t) then(match dA (JI f i.fs.length) t .k y with
   |some b=>some (true,S.put dst (.v ⟨.ptr b.t,.k,b.x⟩ []))
   |none=>none) else none
  |some (.pl t s p)=>bif decide (i.ty=t) then(match S.ko s (p++JI f i.fs.length) with
   |some b=>some (true,S.put dst (.ad b.t s (p++JI f i.fs.length)))
   |none=>none) else none
  |none=>none) else none
 |_,_=>none
def afg (Θ:kR) (S:St) (dst:Option Nat) (T:TypeId) (x:Operand) (f:Nat):Tk:=match S.pJ Θ 0 x,Θ.find T with
 |some (.v a ex),some i=>bif Nat.blt f i.fs.length&&decide (i.ty=a.t) then(match x with
  | .tmp j=>match dA (JI f i.fs.length) a.t a.m a.x with
   |some b=>bif b.m.eY then(match ex with
    |[]=>some (true,S.put dst (.v (kTV b) []))
    |_=>none) else(match S.ko j (JI f i.fs.length) with
    |some _=>some (true,S.put dst (.al b.t j (JI f i.fs.length)))
    |none=>none)
   |none=>none
  |_=>none) else none
 |_,_=>none
def bp (n:Int) (len:Nat):Bool:=decide (0<=n)&&decide (n<(len:Int))
def iG (Θ:kR) (S:St) (dst:Option Nat) (T:TypeId) (x ix:Operand):Tk:=match S.pJ Θ 0 x,S.GI Θ ix with
 |some (.v ⟨.sl t,m,xs⟩ ex),some n=>bif Θ.is T (.sl t) then(match m,x with
  | .k,_=>some (bp n xs.length,S.put dst (.v ⟨.ptr t,.k,xs.getD n.toNat t.z⟩ []))
  | .o ..,.tmp j=>match S.ko j [.idx n.toNat] with
   |some _=>some (bp n xs.length,S.put dst (.ad t j [.idx n.toNat]))
   |none=>none
  |_,_=>none) else none
 |some (.al (.sl t) s p),some n=>bif Θ.is T (.sl t) then(match S.ko s p with
  |some ⟨.sl t',.k,xs⟩=>some (bp n xs.length,S.put dst (.v ⟨.ptr t',.k,xs.getD n.toNat t'.z⟩ []))
  |some ⟨.sl t',.o ..,xs⟩=>match S.ko s (p++[.idx n.toNat]) with
   |some _=>some (bp n xs.length,S.put dst (.ad t' s (p++[.idx n.toNat])))
   |none=>none
  |_=>none) else none
 |_,_=>none
def afh (Θ:kR) (S:St) (dst:Option Nat) (T:TypeId) (x ix:Operand):Tk:=match S.rd Θ 0 x,S.GI Θ ix with
 |some ⟨.str,_,s⟩,some n=>bif Θ.is T .str then some (bp n s.size,S.put dst (.v ⟨.int .u8,.k,bt s n⟩ [])) else none
 |_,_=>none
def u7 (S:St) (dst:Option Nat) (x:Operand) (j:Nat):Tk:=match x with
 | .tmp i=>match S.at i with
  | .QU l=>match l.getD j none with
   |some a=>bif a.m.eY then some (true,S.put dst (.v a [])) else(match dst with
    |some d=>bif Nat.beq d i then none else some (true,St.put (S.set i (.QU (l.set j none))) (some d) (.v a []))
    |none=>none)
   |none=>none
  |_=>none
 |_=>none
def xL (Θ:kR) (S:St) (d:Int):Option Operand->Option Int
 |none=>some d
 |some x=>S.GI Θ x
def qQ (Θ:kR) (S:St) (dst:Option Nat) (T:TypeId) (x:Operand) (lo hi mx:Option Operand):Tk:=match S.pJ Θ 0 x,S.rd Θ 0 x,xL Θ S 0 lo with
 |some a,some ⟨.str,_,s⟩,some l=>match mx,xL Θ S (s.size:Int) hi with
  |none,some h=>bif Θ.is T .str then some (decide (0<=l)&&decide (l<=h)&&decide (h<=(s.size:Int)),S.put dst (.v ⟨.str,.k,s.extract l.toNat h.toNat⟩ [])) else none
  |_,_=>none
 |some a,some ⟨.sl t,m,xs⟩,some l=>bif Θ.is T (.sl t) then(match xL Θ S (xs.length:Int) hi,mx,Θ.find T with
  |some h,none,_=>match m,a,x with
   | .k,_,_=>some (decide (0<=l)&&decide (l<=h)&&decide (h<=(xs.length:Int)),S.put dst (.v ⟨.sl t,.k,(xs.take h.toNat).drop l.toNat⟩ []))
   |_,.v ..,.tmp i=>some (decide (0<=l)&&decide (l<=h)&&decide (h<=(xs.length:Int)),S.put dst (.cut (.sl t) i [] l.toNat h.toNat))
   |_,.al _ s p,_=>some (decide (0<=l)&&decide (l<=h)&&decide (h<=(xs.length:Int)),S.put dst (.cut (.sl t) s p l.toNat h.toNat))
   |_,_,_=>none
  |some h,some z,some i=>match S.GI Θ z,hi with
   |some c,some _=>some (decide (l=0)&&decide (h=0)&&decide (c=0),S.put dst (.v ⟨.sl t,.o i.e none .k,[]⟩ []))
   |_,_=>none
  |_,_,_=>none) else none
 |_,_,_=>none
def bytesOf (xs:List Int):ByteArray:=xs.foldl (λr n=>r.push (UInt8.ofNat n.toNat)) ByteArray.empty
def xc (Θ:kR) (S:St) (dst:Option Nat) (T T':TypeId) (x:Operand):Tk:=match S.rd Θ 0 x,Θ.find T,Θ.find T' with
 |some ⟨.int _,_,n⟩,some _,some ⟨_,.int k,_,_⟩=>some (true,S.put dst (.v ⟨.int k,.k,k.wrap n⟩ []))
 |some ⟨.sl (.int .u8),_,xs⟩,some ⟨_,.sl (.int .u8),_,_⟩,some ⟨_,.str,_,_⟩=>some (true,S.put dst (.v ⟨.str,.k,bytesOf xs⟩ []))
 |_,_,_=>none
def aaD (Θ:kR) (S:St) (dst:Option Nat) (op:BinOp) (T:TypeId) (x y:Operand):Tk:=match S.rd Θ T x,S.rd Θ T y with
 |some a,some b=>match a.t with
  | .bool=>bif Θ.is T .bool then(match xA op a b with
   |some (g,r)=>some (g,S.put dst (.v r []))
   |none=>none) else none
  | .pair _ _=>bif Θ.is T a.t then(match xA op a b with
   |some (g,r)=>some (g,S.put dst (.v r []))
   |none=>none) else none
  |_=>match xA op a b with
   |some (g,r)=>some (g,S.put dst (.v r []))
   |none=>none
 |_,_=>none
def axR (Θ:kR) (S:St) (dst:Option Nat) (op:UnOp) (x:Operand):Tk:=match S.rd Θ 0 x with
 |some a=>match auy op a with
  |some r=>some (true,S.put dst (.v r []))
  |none=>none
 |none=>none
def wq (Θ:kR) (S:St) (dst:Option Nat) (T:TypeId) (l c:Operand):Tk:=match Θ.find T,S.GI Θ l,S.GI Θ c with
 |some ⟨_,.sl t,e,_⟩,some n,some n'=>match Pj Θ e with
  |some z=>if z.t=t then some (decide (n=n')&&decide (0<=n)&&decide (n<=1099511627776),S.put dst (.v ⟨.sl t,.o e none z.m,List.replicate n.toNat t.z⟩ [])) else none
  |none=>none
 |_,_,_=>none
def awU (S:St):Operand->Option Cap
 | .tmp i=>match S.at i with
  | .v ⟨.ptr t,.o ..,_⟩ _=>some (Cap.pl t i [])
  | .v ⟨.ptr t,.k,y⟩ _=>some (Cap.kv ⟨.ptr t,.k,y⟩)
  | .al (.ptr t) s p=>some (Cap.pl t s p)
  |_=>none
 |_=>none
def aaE (S:St):List Operand->Option (List Cap)
 |[]=>some []
 |x::r=>match awU S x,aaE S r with
  |some c,some l=>some (c::l)
  |_,_=>none
def Tm (S:St) (dst:Option Nat) (f:FuncId) (first kn:List Operand):Tk:=match first,aaE S kn with
 |[],some l=>match dst with
  |some d=>bif AV.refs d (.EL f l) then none else some (true,S.put dst (.EL f l))
  |none=>none
 |_,_=>none
def awV:TV->Option Int
 |⟨.sl _,_,xs⟩=>some (xs.length:Int)
 |⟨.str,_,b⟩=>some (b.size:Int)
 |_=>none
def apz (Θ:kR) (S:St) (dst:Option Nat) (ts:List TypeId) (as:List Operand):Tk:=match as,ts with
 |[x],[T]=>match (match S.pJ Θ 0 x with
   |some (.v a ex)=>bif ex.any List.isEmpty then none else some a
   |some (.al t s p)=>(match S.place s p with
    |some b=>some b
    |none=>match S.ko s p with
     |some ⟨.sl t,m,xs⟩=>some ⟨.sl t,m,xs⟩
     |_=>none)
   |some a=>S.QV a
   |none=>none) with
  |some b=>bif Θ.is T b.t then(match awV b with
   |some n=>some (true,S.put dst (.v ⟨.int .i64,.k,n⟩ []))
   |none=>none) else none
  |none=>none
 |_,_=>none
def iH (Θ:kR) (S:St) (dst:Option Nat) (ts:List TypeId) (as:List Operand):Tk:=match as,ts with
 |[x,y],[T,T']=>match S.take Θ T x,Θ.find T with
  |some (⟨.sl t,.o e _ me,xs⟩,S1),some i=>bif decide (i.ty=.sl t)&&Nat.beq i.e e&&Θ.is T' (.sl t) then
    (bif me.eY then(match S1.rd Θ T' y with
     |some ⟨.sl t',m',ys⟩=>bif m'.inn.eY then(if h:t'=t then
       some (decide ((xs.length+ys.length)*t.size<=4398046511104),S1.put dst (.v ⟨.sl t,.o e none me,xs++(h▸ys)⟩ [])) else none) else none
     |_=>none)
    else(match S1.take Θ T' y with
     |some (⟨.sl t',m',ys⟩,S2)=>if h:t'=t then
       (if m'.inn=me then some (decide ((xs.length+ys.length)*t.size<=4398046511104),S2.put dst (.v ⟨.sl t,.o e none me,xs++(h▸ys)⟩ [])) else none) else none
     |_=>none)) else none
  |_,_=>none
 |_,_=>none
def u9 (Θ:kR) (S:St) (dst:Option Nat) (ts:List TypeId) (as:List Operand):Tk:=match as,ts with
 |[x,y],[T,T']=>match S.pJ Θ T x with
  |some (.al _ s (st::pp))=>(match S.at s with
   | .v r ex=>(match dA (st::pp) r.t r.m r.x,Θ.find T with
    |some ⟨.sl t,.o e _ me,xs⟩,some i=>bif decide (i.ty=.sl t)&&Nat.beq i.e e&&Θ.is T' (.sl t)&&me.eY then
      (match St.rd Θ (((S.weaken s).cover s (st::pp)).set s (.v r (ex++[st::pp]))) T' y with
      |some ⟨.sl t',m',ys⟩=>bif m'.inn.eY then(if h:t'=t then
        some (ex.all (λh=>!Na h (st::pp))&&decide ((xs.length+ys.length)*t.size<=4398046511104),St.put (((S.weaken s).cover s (st::pp)).set s (.v r (ex++[st::pp]))) dst (.v ⟨.sl t,.o e none me,xs++(h▸ys)⟩ [])) else none) else none
      |_=>none) else none
    |_,_=>none)
   |_=>none)
  |_=>none
 |_,_=>none
def AU:List (List Int×Bool)->List Int->Bool->List (List Int×Bool)
 |[],k,v=>[(k,v)]
 |q::r,k,v=>bif decide (q.1=k) then(k,v)::r else q::AU r k v
def xM:List (List Int×Bool)->List Int->Option Bool
 |[],_=>none
 |q::r,k=>bif decide (q.1=k) then some q.2 else xM r k
def XG (S:St) (dst:Option Nat) (T:TypeId) (r:Option Operand):Tk:=match r with
 |none=>some (true,S.put dst (.v ⟨.mp,.o T none .k,[]⟩ []))
 |some _=>none
def aaF (Θ:kR) (S:St) (dst:Option Nat) (T:TypeId) (x y:Operand) (ok:Bool):Tk:=match ok,S.rd Θ 0 x,S.rd Θ 0 y with
 |true,some ⟨.mp,_,xs⟩,some ⟨.arr _ (.int .i64),_,k⟩=>bif Θ.is T .mp then some (ZP k,S.put dst (.QU [some ⟨.bool,.k,(xM xs k).getD false⟩,some ⟨.bool,.k,(xM xs k).isSome⟩])) else none
 |_,_,_=>none
def Pm (Θ:kR) (S:St) (T:TypeId) (x y z:Operand):Tk:=match S.pJ Θ 0 x,S.rd Θ 0 y,S.rd Θ 0 z with
 |some (.al .mp s []),some ⟨.arr _ (.int .i64),_,k⟩,some ⟨.bool,_,b⟩=>(match S.at s with
  | .v ⟨.mp,.o T' tag me,xs⟩ []=>bif Θ.is T .mp then some (ZP k,(S.weaken s).set s (.v ⟨.mp,.o T' tag me,AU xs k b⟩ [])) else none
  |_=>none)
 |_,_,_=>none
def U1 (Θ:kR) (S:St) (dst:Option Nat) (T:TypeId) (ps:List (Nat×Operand)):Tk:=match ps,Θ.find T with
 |[(0,x),(1,y)],some i=>bif decide (i.ty=.arr 2 (.int .i64)) then(match S.rd Θ i.e x,S.rd Θ i.e y with
  |some ⟨.int .i64,_,n⟩,some ⟨.int .i64,_,k⟩=>some (true,S.put dst (.v ⟨.arr 2 (.int .i64),.k,[n,k]⟩ []))
  |_,_=>none) else none
 |_,_=>none
def ev (Θ:kR) (hn:Hn) (S:St) (o:Oper):Tk:=match o.op with
 | .move x=>Nb Θ S o.dst o.type x
 | .assign x=>aaC Θ S o.dst o.type x
 | .pick c a b=>aj3 Θ S o.dst o.type c a b
 | .alloc T=>Nc Θ hn S o.dst T
 | .box T x=>apx Θ S o.dst T x
 | .build T ps=>match U0 Θ S o.dst T ps.toList with
  |some r=>some r
  |none=>U1 Θ S o.dst T ps.toList
 | .buildSlice T n ps=>fb Θ hn S o.dst T n ps.toList
 | .load T x=>tQ Θ S o.dst T x
 | .store T x y=>match o.dst with
  |none=>(match EN Θ S T x y with
   |some (g,S1)=>some (g,Nd Θ S S1 T y)
   |none=>none)
  |some _=>none
 | .nilCheck x=>Tl Θ S o.dst x
 | .fieldAddr T x f=>wo Θ S o.dst T x f
 | .field T x f=>afg Θ S o.dst T x f
 | .indexAddr T x ix=>iG Θ S o.dst T x ix
 | .index T x ix=>afh Θ S o.dst T x ix
 | .extract x j=>u7 S o.dst x j
 | .slice T x lo hi mx=>qQ Θ S o.dst T x lo hi mx
 | .convert T T' x=>xc Θ S o.dst T T' x
 | .binOp op T x y _=>aaD Θ S o.dst op T x y
 | .unOp op _ x=>axR Θ S o.dst op x
 | .makeSlice T l c=>wq Θ S o.dst T l c
 | .makeFunc (.func f) first kn=>Tm S o.dst f first.toList kn.toList
 | .call { callee:=.builtin .len,args:=as,argTypes:=ts }=>apz Θ S o.dst ts.toList as.toList
 | .call { callee:=.builtin .append,args:=as,argTypes:=ts }=>match iH Θ S o.dst ts.toList as.toList with
  |some r=>some r
  |none=>u9 Θ S o.dst ts.toList as.toList
 | .makeMap T r=>XG S o.dst T r
 | .lookup T x y ok=>aaF Θ S o.dst T x y ok
 | .mapUpdate T x y z=>match o.dst with
  |none=>Pm Θ S T x y z
  |some _=>none
 |_=>none
end Go.Pv
namespace Go.Pv
open List Int IntKind
variable {w w':World} {Wr N8:Nat->Prop} {H:Nat->Value}
theorem E9 {α:Type} (n:Nat):∀ {rX:List (List α)},(∀ c∈rX,c.length=n)->rX.flatten.length=rX.length*n
 |[],_=>by simp
 |c::r,h=>by have h1:=h c (by simp);have h2:=E9 n (rX:=r) λc hc=>h c (by simp[hc]);simp[h1,h2,bc,Nat.add_comm]
theorem Fa:∀ (t:Ty) {x:t.I} {cs:List Value},K w Wr t x cs->cs.length=t.size/\∀ u∈cs,u.oneCell'=true
 | .int k,n,cs,h=>by simp only[K] at h;subst h;exact⟨rfl,by simp[Value.oneCell']⟩
 | .bool,n,cs,h=>by simp only[K] at h;subst h;exact⟨rfl,by simp[Value.oneCell']⟩
 | .str,n,cs,h=>by simp only[K] at h;subst h;exact⟨rfl,by simp[Value.oneCell']⟩
 | .unit,n,cs,h=>by simp only[K] at h;subst h;exact⟨rfl,by simp⟩
 | .pair a b,x,cs,h=>by
  simp only[K] at h;obtain⟨c0,c1,rfl,h0,h1⟩:=h;obtain⟨l0,o0⟩:=Fa a h0;obtain⟨l1,o1⟩:=Fa b h1;refine⟨by simp[l0,l1,Ty.size],λu hu=>?_⟩;rcases a8.1 hu with hu |hu
  ·exact o0 u hu
  exact o1 u hu
 | .arr n t,xs,cs,h=>by
  simp only[K] at h;obtain⟨rX,rfl,hl,hx,hj⟩:=h;have tR:∀ c∈rX,c.length=t.size/\∀ u∈c,u.oneCell'=true:=by intro c hc;obtain⟨j,hj1,rfl⟩:=bo.1 hc;exact Fa t (hj j (by omega) hj1)
  refine⟨by rw[E9 t.size λc hc=>(tR c hc).1,hl];rfl,λu hu=>?_⟩;obtain⟨c,hc,hu⟩:=xK.1 hu;exact(tR c hc).2 u hu
 | .sl t,xs,cs,h=>by simp only[K] at h;obtain⟨A,c,rfl,_⟩:=h;exact⟨rfl,by simp[Value.oneCell']⟩
 | .ptr t,xs,cs,h=>by simp only[K] at h;obtain⟨g,off,cur,T,fr,rfl,_⟩:=h;exact⟨rfl,by simp[Value.oneCell']⟩
 | .mp,x,cs,h=>by simp only[K] at h;obtain⟨g,es,n,rfl,_⟩:=h;exact⟨rfl,by simp[Value.oneCell']⟩
structure cN (w w':World) (Wr N8:Nat->Prop):Prop where
 same:∀ g,¬Wr g->g<w.heap.size->w'.heap[g]?=w.heap[g]?
 wr:∀ g,g<w.heap.size->N8 g->Wr g
theorem cN.refl (w:World) (Wr:Nat->Prop):cN w w Wr Wr:=⟨λ_ _ _=>rfl,λ_ _ h=>h⟩
theorem dh {α:Type} {a:Array α} {g:Nat} {o:α} (h:a[g]?=some o):g<a.size:=(cu.1 h).1
theorem fA (hs:cN w w' Wr N8):∀ (t:Ty) {x:t.I} {cs:List Value},K w Wr t x cs->K w' N8 t x cs
 | .int k,n,cs,h=>h
 | .bool,n,cs,h=>h
 | .str,n,cs,h=>h
 | .unit,n,cs,h=>h
 | .pair a b,x,cs,h=>by simp only[K] at h ⊢;obtain⟨c0,c1,rfl,h0,h1⟩:=h;exact⟨c0,c1,rfl,fA hs a h0,fA hs b h1⟩
 | .arr n t,xs,cs,h=>by simp only[K] at h ⊢;obtain⟨rX,rfl,hl,hx,hj⟩:=h;exact⟨rX,rfl,hl,hx,λj h1 h2=>fA hs t (hj j h1 h2)⟩
 | .sl t,xs,cs,h=>by simp only[K] at h ⊢;obtain⟨A,c,rfl,hc,h⟩:=h;refine⟨A,c,rfl,hc,λhp=>?_⟩;obtain⟨g,off,cur,T,fr,rfl,hg,hw,ho,hj⟩:=h hp;have gC:=dh hw;exact⟨g,off,cur,T,fr,rfl,λdH=>hg (hs.wr g gC dH),(hs.same g hg gC).trans hw,ho,λj hj1=>fA hs t (hj j hj1)⟩
 | .ptr t,x,cs,h=>by simp only[K] at h ⊢;obtain⟨g,off,cur,T,fr,rfl,hg,hw,ho,hj⟩:=h;have gC:=dh hw;exact⟨g,off,cur,T,fr,rfl,λdH=>hg (hs.wr g gC dH),(hs.same g hg gC).trans hw,ho,fA hs t hj⟩
 | .mp,x,cs,h=>by simp only[K] at h ⊢;obtain⟨g,es,n,rfl,hg,hw,hm⟩:=h;have gC:=dh hw;exact⟨g,es,n,rfl,λdH=>hg (hs.wr g gC dH),(hs.same g hg gC).trans hw,hm⟩
theorem rB:∀ (t:Ty) {m:Md} {x:t.I} {cs:List Value} {ow:Nat->Prop} {hs:List Path},M w Wr H t m x cs ow hs->cs.length=t.size/\∀ u∈cs,u.oneCell'=true
 | .int k,m,n,cs,_,_,h=>Fa (.int k) (by simp only[M] at h;exact h.2)
 | .bool,m,n,cs,_,_,h=>Fa .bool (by simp only[M] at h;exact h.2)
 | .str,m,n,cs,_,_,h=>Fa .str (by simp only[M] at h;exact h.2)
 | .unit,m,n,cs,_,_,h=>Fa .unit (by simp only[M] at h;exact h.2)
 | .arr n t,m,_,cs,_,_,h=>Fa (.arr n t) (by simp only[M] at h;exact h.2)
 | .pair a b,m,x,cs,ow,hs,h=>by
  simp only[M] at h;rcases h with⟨_,_,h⟩ |⟨_,h⟩ |⟨ma,mb,c0,c1,s,_,rfl,h0,h1⟩
  ·exact h
  ·exact Fa _ h
  obtain⟨l0,o0⟩:=rB a h0;obtain⟨l1,o1⟩:=rB b h1;refine⟨by simp[l0,l1,Ty.size],λu hu=>?_⟩;rcases a8.1 hu with hu |hu
  ·exact o0 u hu
  exact o1 u hu
 | .sl t,m,xs,cs,ow,hs,h=>by
  simp only[M] at h;rcases h with⟨_,_,A,c,rfl⟩ |⟨_,h⟩ |⟨T,tag,me,A,c,_,rfl,_⟩
  ·exact⟨rfl,by simp[Value.oneCell']⟩
  ·exact Fa _ h
  exact⟨rfl,by simp[Value.oneCell']⟩
 | .ptr t,m,xs,cs,ow,hs,h=>by
  simp only[M] at h;rcases h with⟨_,_,h⟩ |⟨_,h⟩ |⟨T,tag,me,g,cur,_,rfl,_⟩
  ·exact h
  ·exact Fa _ h
  exact⟨rfl,by simp[Value.oneCell']⟩
 | .mp,m,x,cs,ow,hs,h=>by
  simp only[M] at h;rcases h with⟨_,_,h⟩ |⟨_,h⟩ |⟨T,tag,g,es,n,_,rfl,_⟩
  ·exact h
  ·exact Fa _ h
  exact⟨rfl,by simp[Value.oneCell']⟩
theorem nY {s:Step} {p:Path} {hs:List Path}:p∈sub s hs↔(s::p)∈hs:=by
 unfold sub;rw[List.mem_filterMap];constructor
 ·rintro⟨q,hq,h⟩;cases q with
  |nil=>simp at h
  |cons a r=>by_cases e:a=s<;>simp[e] at h;subst h e;exact hq
 intro h;exact⟨_,h,by simp⟩
theorem H9 {s:Step} {hs JD:List Path} (h:∀ p∈hs,p∈JD):∀ p∈sub s hs,p∈sub s JD:=λp hp=>nY.2 (h _ (nY.1 hp))
theorem b8 (fZ:cN w w' Wr N8):∀ (t:Ty) {m:Md} {x:t.I} {cs:List Value} {ow kH:Nat->Prop} {hs JD:List Path},(∀ g,ow g->g<w.heap.size->w'.heap[g]?=w.heap[g]?)->(∀ g,ow g->g<w.heap.size->kH g)->(∀ p∈hs,p∈JD)->M w Wr H t m x cs ow hs->M w' N8 H t m x cs kH JD
 | .int k,m,n,cs,_,_,_,_,_,_,_,h=>by simp only[M] at h ⊢;exact h
 | .bool,m,n,cs,_,_,_,_,_,_,_,h=>by simp only[M] at h ⊢;exact h
 | .str,m,n,cs,_,_,_,_,_,_,_,h=>by simp only[M] at h ⊢;exact h
 | .unit,m,n,cs,_,_,_,_,_,_,_,h=>by simp only[M] at h ⊢;exact h
 | .arr n t,m,_,cs,_,_,_,_,_,_,_,h=>by simp only[M] at h ⊢;exact⟨h.1,fA fZ _ h.2⟩
 | .pair a b,m,x,cs,ow,kH,hs,JD,hb,ho,hp,h=>by
  simp only[M] at h ⊢;rcases h with⟨h1,h⟩ |⟨h1,h⟩ |⟨ma,mb,c0,c1,s,e,rfl,h0,h1⟩
  ·exact .inl ⟨hp _ h1,h⟩
  ·exact .inr (.inl ⟨h1,fA fZ _ h⟩)
  exact .inr (.inr ⟨ma,mb,c0,c1,s,e,rfl,b8 fZ a (λg hg=>hb g hg.1) (λg hg hl=>⟨ho g hg.1 hl,hg.2⟩) (H9 hp) h0,
   b8 fZ b (λg hg=>hb g hg.1) (λg hg hl=>⟨ho g hg.1 hl,hg.2⟩) (H9 hp) h1⟩)
 | .sl t,m,xs,cs,ow,kH,hs,JD,hb,ho,hp,h=>by
  simp only[M] at h ⊢;rcases h with⟨h1,h⟩ |⟨h1,h⟩ |⟨T,tag,me,A,c,e,rfl,hc,ht,h⟩
  ·exact .inl ⟨hp _ h1,h⟩
  ·exact .inr (.inl ⟨h1,fA fZ _ h⟩)
  refine .inr (.inr ⟨T,tag,me,A,c,e,rfl,hc,ht,?_⟩);rcases h with h |⟨g,cur,τ,rfl,hg,hw,rz,hm,hj⟩
  ·exact .inl h
  have gC:=dh hw;exact .inr ⟨g,cur,τ,rfl,ho g hg gC,(hb g hg gC).trans hw,rz,hm,λj hj1=>b8 fZ t (λg' dH=>hb g' dH.1) (λg' dH hl=>⟨ho g' dH.1 hl,dH.2⟩) (H9 hp) (hj j hj1)⟩
 | .ptr t,m,x,cs,ow,kH,hs,JD,hb,ho,hp,h=>by
  simp only[M] at h ⊢;rcases h with⟨h1,h⟩ |⟨h1,h⟩ |⟨T,tag,me,g,cur,e,rfl,ht,hg,hw,h⟩
  ·exact .inl ⟨hp _ h1,h⟩
  ·exact .inr (.inl ⟨h1,fA fZ _ h⟩)
  have gC:=dh hw;exact .inr (.inr ⟨T,tag,me,g,cur,e,rfl,ht,ho g hg gC,(hb g hg gC).trans hw,b8 fZ t (λg' dH=>hb g' dH.1) (λg' dH hl=>⟨ho g' dH.1 hl,dH.2⟩) (H9 hp) h⟩)
 | .mp,m,x,cs,ow,kH,hs,JD,hb,ho,hp,h=>by
  simp only[M] at h ⊢;rcases h with⟨h1,h⟩ |⟨h1,h⟩ |⟨T,tag,g,es,n,e,rfl,ht,hg,hw,hm⟩
  ·exact .inl ⟨hp _ h1,h⟩
  ·exact .inr (.inl ⟨h1,fA fZ _ h⟩)
  have gC:=dh hw;exact .inr (.inr ⟨T,tag,g,es,n,e,rfl,ht,ho g hg gC,(hb g hg gC).trans hw,hm⟩)
theorem M_K (hw:∀ g,g<w.heap.size->N8 g->Wr g):∀ (t:Ty) {m:Md} {x:t.I} {cs:List Value} {ow:Nat->Prop} {hs:List Path},hs=[]->(∀ g,ow g->¬N8 g)->M w Wr H t m x cs ow hs->K w N8 t x cs
 | .int k,m,n,cs,_,_,_,_,h=>by simp only[M] at h;exact h.2
 | .bool,m,n,cs,_,_,_,_,h=>by simp only[M] at h;exact h.2
 | .str,m,n,cs,_,_,_,_,h=>by simp only[M] at h;exact h.2
 | .unit,m,n,cs,_,_,_,_,h=>by simp only[M] at h;exact h.2
 | .arr n t,m,_,cs,_,_,_,_,h=>by simp only[M] at h;exact fA ⟨λ_ _ _=>rfl,hw⟩ _ h.2
 | .pair a b,m,x,cs,ow,hs,e,hn,h=>by
  subst e;simp only[M] at h;rcases h with⟨h1,h⟩ |⟨h1,h⟩ |⟨ma,mb,c0,c1,s,e,rfl,h0,h1⟩
  ·simp at h1
  ·exact fA ⟨λ_ _ _=>rfl,hw⟩ _ h
  simp only[K];exact⟨c0,c1,rfl,M_K hw a rfl (λg hg=>hn g hg.1) h0,M_K hw b rfl (λg hg=>hn g hg.1) h1⟩
 | .sl t,m,xs,cs,ow,hs,e,hn,h=>by
  subst e;simp only[M] at h;rcases h with⟨h1,h⟩ |⟨h1,h⟩ |⟨T,tag,me,A,c,e,rfl,hc,ht,h⟩
  ·simp at h1
  ·exact fA ⟨λ_ _ _=>rfl,hw⟩ _ h
  simp only[K];refine⟨A,c,rfl,hc,λhp=>?_⟩;rcases h with⟨rfl,_⟩ |⟨g,cur,τ,rfl,hg,hh,rz,hm,hj⟩
  ·simp at hp
  exact⟨g,0,cur,T,(0,0),rfl,hn g hg,hh,by rw[rz];have:=aC t.size hc;omega,λj hj1=>by
   rw[aW];exact M_K hw t rfl (λg' dH=>hn g' dH.1) (hj j hj1)⟩
 | .ptr t,m,x,cs,ow,hs,e,hn,h=>by
  subst e;simp only[M] at h;rcases h with⟨h1,h⟩ |⟨h1,h⟩ |⟨T,tag,me,g,cur,e,rfl,ht,hg,hh,h⟩
  ·simp at h1
  ·exact fA ⟨λ_ _ _=>rfl,hw⟩ _ h
  have hl:=(rB t h).1;simp only[K];refine⟨g,0,cur,T,(0,0),rfl,hn g hg,hh,by rw[←hl];simp,?_⟩;rw[dJ,cw (by omega)];exact M_K hw t rfl (λg' dH=>hn g' dH.1) h
 | .mp,m,x,cs,ow,hs,e,hn,h=>by
  subst e;simp only[M] at h;rcases h with⟨h1,h⟩ |⟨h1,h⟩ |⟨T,tag,g,es,n,e,rfl,ht,hg,hh,hm⟩
  ·simp at h1
  ·exact fA ⟨λ_ _ _=>rfl,hw⟩ _ h
  simp only[K];exact⟨g,es,n,rfl,hn g hg,hh,hm⟩
end Go.Pv
namespace Go.Pv
open List Int IntKind
variable {w w':World} {Wr N8:Nat->Prop} {H:Nat->Value}
theorem tS:∀ (t:Ty) {x:t.I} {cs:List Value} {ow:Nat->Prop} {hs:List Path},K w Wr t x cs->M w Wr H t .k x cs ow hs
 | .int _,_,_,_,_,h=>by simp only[M];exact⟨rfl,h⟩
 | .bool,_,_,_,_,h=>by simp only[M];exact⟨rfl,h⟩
 | .str,_,_,_,_,h=>by simp only[M];exact⟨rfl,h⟩
 | .unit,_,_,_,_,h=>by simp only[M];exact⟨rfl,h⟩
 | .arr _ _,_,_,_,_,h=>by simp only[M];exact⟨rfl,h⟩
 | .mp,_,_,_,_,h=>by simp only[M];exact .inr (.inl ⟨rfl,h⟩)
 | .pair _ _,_,_,_,_,h=>by simp only[M];exact .inr (.inl ⟨rfl,h⟩)
 | .sl _,_,_,_,_,h=>by simp only[M];exact .inr (.inl ⟨rfl,h⟩)
 | .ptr _,_,_,_,_,h=>by simp only[M];exact .inr (.inl ⟨rfl,h⟩)
theorem tD:∀ (t:Ty) {m:Md} {x:t.I} {cs:List Value} {ow:Nat->Prop} {hs:List Path},m.eY=true->M w Wr H t m x cs ow hs->K w Wr t x cs
 | .int _,_,_,_,_,_,_,h=>by simp only[M] at h;exact h.2
 | .bool,_,_,_,_,_,_,h=>by simp only[M] at h;exact h.2
 | .str,_,_,_,_,_,_,h=>by simp only[M] at h;exact h.2
 | .unit,_,_,_,_,_,_,h=>by simp only[M] at h;exact h.2
 | .arr _ _,_,_,_,_,_,_,h=>by simp only[M] at h;exact h.2
 | .mp,m,_,_,_,_,hk,h=>by
  simp only[M] at h;rcases h with⟨_,h,_⟩ |⟨_,h⟩ |⟨T,tag,g,es,n,rfl,_⟩
  ·rw[hk] at h;cases h
  ·exact h
  simp[Md.eY] at hk
 | .sl _,m,_,_,_,_,hk,h=>by
  simp only[M] at h;rcases h with⟨_,h,_⟩ |⟨_,h⟩ |⟨T,tag,me,A,c,rfl,_⟩
  ·rw[hk] at h;cases h
  ·exact h
  simp[Md.eY] at hk
 | .ptr _,m,_,_,_,_,hk,h=>by
  simp only[M] at h;rcases h with⟨_,h,_⟩ |⟨_,h⟩ |⟨T,tag,me,g,cur,rfl,_⟩
  ·rw[hk] at h;cases h
  ·exact h
  simp[Md.eY] at hk
 | .pair a b,m,_,_,_,_,hk,h=>by
  simp only[M] at h;rcases h with⟨_,h,_⟩ |⟨_,h⟩ |⟨ma,mb,c0,c1,s,rfl,rfl,h0,h1⟩
  ·rw[hk] at h;cases h
  ·exact h
  simp[Md.eY] at hk;simp only[K];exact⟨c0,c1,rfl,tD a hk.1 h0,tD b hk.2 h1⟩
theorem KU {t:Ty} {m:Md} {x:t.I} {cs:List Value} {ow:Nat->Prop} {hs:List Path} (hk:m.eY=true) (h:K w Wr t x cs):M w Wr H t m x cs ow hs:=by cases t<;>simp only[M]<;>first |exact⟨hk,h⟩ |exact .inr (.inl ⟨hk,h⟩)
theorem Nf {m:Md} (h:m.eY=true):m.inn.eY=true:=by cases m<;>simp_all [Md.eY,Md.inn]
theorem aha {m:Md} (h:m.eY=true):m.l.eY=true:=by cases m<;>simp_all [Md.eY,Md.l]
theorem ahb {m:Md} (h:m.eY=true):m.r.eY=true:=by cases m<;>simp_all [Md.eY,Md.r]
theorem U2 {a b:Ty} {ma mb:Md} {x:a.I} {y:b.I} {c0 c1:List Value} {ow s:Nat->Prop} {hs:List Path} (h0:M w Wr H a ma x c0 (λg=>ow g/\s g) (sub .fst hs)) (h1:M w Wr H b mb y c1 (λg=>ow g/\ ¬s g) (sub .snd hs)): M w Wr H (.pair a b) (mkM ma mb) (x,y) (c0++c1) ow hs:=by
 unfold mkM;cases h:ma.eY&&mb.eY with
 |false=>simp only[ae,M];exact .inr (.inr ⟨ma,mb,c0,c1,s,rfl,rfl,h0,h1⟩)
 |true=>simp at h;exact tS _ (by simp only[K];exact⟨c0,c1,rfl,tD a h.1 h0,tD b h.2 h1⟩)
def rowAt (w:World) (g off n:Nat):Option (List Value):=match w.heap[g]? with
 |some (.cells cur _ _)=>if off+n<=cur.size then some ((cur.toList.drop off).take n) else none
 |_=>none
def cz (w:World):Path->(t:Ty)->List Value->Option (List Value)
 |[],_,cs=>some cs
 | .deref::p,.ptr t,[.pointer (some ⟨g,off,none⟩)]=>(rowAt w g off t.size).bind (cz w p t)
 | .fst::p,.pair a _,cs=>cz w p a (cs.take a.size)
 | .snd::p,.pair a b,cs=>cz w p b (cs.drop a.size)
 | .idx i::p,.sl t,[.slice (some ⟨g,off,none⟩) _ _]=>(rowAt w g (off+i*t.size) t.size).bind (cz w p t)
 |_::_,_,_=>none
def addrAt (w:World):Path->(t:Ty)->List Value->Option (Nat×Nat)->Option (Nat×Nat)
 |[],_,_,l=>l
 | .deref::p,.ptr t,[.pointer (some ⟨g,off,none⟩)],_=>(rowAt w g off t.size).bind λcs=>addrAt w p t cs (some (g,off))
 | .fst::p,.pair a _,cs,l=>addrAt w p a (cs.take a.size) l
 | .snd::p,.pair a b,cs,l=>addrAt w p b (cs.drop a.size) (l.map λq=>(q.1,q.2+a.size))
 | .idx i::p,.sl t,[.slice (some ⟨g,off,none⟩) _ _],_=>(rowAt w g (off+i*t.size) t.size).bind λcs=>addrAt w p t cs (some (g,off+i*t.size))
 |_::_,_,_,_=>none
def valid:Path->(t:Ty)->t.I->Prop
 |[],_,_=>True
 | .deref::p,.ptr t,x=>valid p t x
 | .fst::p,.pair a _,x=>valid p a x.1
 | .snd::p,.pair _ b,x=>valid p b x.2
 | .idx i::p,.sl t,xs=>i<xs.length/\valid p t (xs.getD i t.z)
 |_::_,_,_=>False
def U3:Path->List Path->List Path
 |[],hs=>hs
 |s::p,hs=>U3 p (sub s hs)
theorem aaG {p q:Path}:∀ {hs:List Path},q∈U3 p hs↔(p++q)∈hs:=by
 induction p with
 |nil=>intro hs;rfl
 |cons s p ih=>intro hs;simp only[U3,ih,nY,bD]
def open_ (p:Path) (hs:List Path):Prop:=∀ h∈hs,∀ s r,p≠h++s::r
theorem open_.sub {s:Step} {p:Path} {hs:List Path} (h:open_ (s::p) hs):open_ p (sub s hs):=λq hq s' r e=>h _ (nY.1 hq) s' r (by rw[e];rfl)
theorem open_.not_nil {s:Step} {p:Path} {hs:List Path} (h:open_ (s::p) hs):[]∉hs:=λhn=>h [] hn s p rfl
theorem eG {cur:Array Value} {T:TypeId} {fr:Nat×Nat} {g off n:Nat} (h:w.heap[g]?=some (.cells cur T fr)) (hl:off+n<=cur.size):rowAt w g off n=some ((cur.toList.drop off).take n):=by simp[rowAt,h,hl]
theorem focus:∀ (p:Path) {t:Ty} {m:Md} {x:t.I} {cs:List Value} {ow:Nat->Prop} {hs:List Path} {b:TV},M w Wr H t m x cs ow hs->open_ p hs->valid p t x->dA p t m x=some b-> ∃ kS kH,cz w p t cs=some kS/\(∀ g,kH g->ow g)/\M w Wr H b.t b.m b.x kS kH (U3 p hs)
 |[],t,m,x,cs,ow,hs,b,h,ho,hv,hg=>by simp only[dA,ah] at hg;subst hg;exact⟨cs,ow,rfl,λ_ h=>h,h⟩
 | .deref::p,.ptr t,m,x,cs,ow,hs,b,h,ho,hv,hg=>by
  simp only[dA] at hg;simp only[valid] at hv;simp only[M] at h;rcases h with⟨hn,_⟩ |⟨hk,h⟩ |⟨T,tag,me,g,cur,rfl,rfl,ht,N9,hw,h⟩
  ·exact absurd hn ho.not_nil
  ·simp only[K] at h;obtain⟨g,off,cur,T,fr,rfl,hng,hw,hl,h⟩:=h;obtain⟨kS,kH,h1,h2,h3⟩:=focus p (ow:=λ_=>False) (KU (Nf hk) h) ho.sub hv hg
   exact⟨kS,kH,by simp only[cz,eG hw hl,aI];exact h1,λg hg=>(h2 g hg).elim,h3⟩
  have hlen:=(rB t h).1;obtain⟨kS,kH,h1,h2,h3⟩:=focus p h ho.sub hv hg
  refine⟨kS,kH,?_,λg hg=>(h2 g hg).1,h3⟩;have rz:0+t.size<=cur.size:=(by rw[←hlen];simp);simp only[cz,eG hw rz,aI,dJ];rw[cw (by omega)];exact h1
 | .fst::p,.pair a b',m,x,cs,ow,hs,b,h,ho,hv,hg=>by
  simp only[dA] at hg;simp only[valid] at hv;simp only[M] at h;rcases h with⟨hn,_⟩ |⟨hk,h⟩ |⟨ma,mb,c0,c1,s,rfl,rfl,h0,h1⟩
  ·exact absurd hn ho.not_nil
  ·simp only[K] at h;obtain⟨c0,c1,rfl,h0,h1⟩:=h;obtain⟨kS,kH,k1,k2,k3⟩:=focus p (ow:=λ_=>False) (KU (aha hk) h0) ho.sub hv hg
   exact⟨kS,kH,by simp only[cz];rw[←(Fa a h0).1,dP];exact k1,λg hg=>(k2 g hg).elim,k3⟩
  obtain⟨kS,kH,k1,k2,k3⟩:=focus p h0 ho.sub hv hg
  exact⟨kS,kH,by simp only[cz];rw[←(rB a h0).1,dP];exact k1,λg hg=>(k2 g hg).1,k3⟩
 | .snd::p,.pair a b',m,x,cs,ow,hs,b,h,ho,hv,hg=>by
  simp only[dA] at hg;simp only[valid] at hv;simp only[M] at h;rcases h with⟨hn,_⟩ |⟨hk,h⟩ |⟨ma,mb,c0,c1,s,rfl,rfl,h0,h1⟩
  ·exact absurd hn ho.not_nil
  ·simp only[K] at h;obtain⟨c0,c1,rfl,h0,h1⟩:=h;obtain⟨kS,kH,k1,k2,k3⟩:=focus p (ow:=λ_=>False) (KU (ahb hk) h1) ho.sub hv hg
   exact⟨kS,kH,by simp only[cz];rw[←(Fa a h0).1,df];exact k1,λg hg=>(k2 g hg).elim,k3⟩
  obtain⟨kS,kH,k1,k2,k3⟩:=focus p h1 ho.sub hv hg
  exact⟨kS,kH,by simp only[cz];rw[←(rB a h0).1,df];exact k1,λg hg=>(k2 g hg).1,k3⟩
 | .idx i::p,.sl t,m,xs,cs,ow,hs,b,h,ho,hv,hg=>by
  simp only[dA] at hg;simp only[valid] at hv;obtain⟨hi,hv⟩:=hv;have sj:(show List t.I from xs).getD i t.z=(show List t.I from xs)[i]:=by simp[aG,aN hi]
  simp only[M] at h;rcases h with⟨hn,_⟩ |⟨hk,h⟩ |⟨T,tag,me,A,c,rfl,rfl,hc,ht,h⟩
  ·exact absurd hn ho.not_nil
  ·simp only[K] at h;obtain⟨A,c,rfl,hc,h⟩:=h;obtain⟨g,off,cur,T,fr,rfl,hng,hw,hl,h⟩:=h (by omega);have hbound:off+i*t.size+t.size<=cur.size:=by have:=aC t.size (show i+1<=xs.length from hi);rw[bc,cH] at this;omega
   have hK:=h i hi;rw[←sj] at hK;obtain⟨kS,kH,h1,h2,h3⟩:=focus p (ow:=λ_=>False) (KU (Nf hk) hK) ho.sub hv hg
   exact⟨kS,kH,by simp only[cz,eG hw hbound,aI];exact h1,λg hg=>(h2 g hg).elim,h3⟩
  rcases h with⟨rfl,_⟩ |⟨g,cur,τ,rfl,N9,hw,rz,hm,h⟩
  ·simp at hi
  have hbound:i*t.size+t.size<=cur.size:=(by have h1:=aC t.size (show i+1<=xs.length from hi);have h2:=aC t.size hc;rw[bc,cH] at h1;omega);have hM:=h i hi;rw[←sj] at hM;obtain⟨kS,kH,h1,h2,h3⟩:=focus p hM ho.sub hv hg
  exact⟨kS,kH,by simp only[cz,aW,eG hw hbound,aI];exact h1,λg hg=>(h2 g hg).1,h3⟩
end Go.Pv
namespace Go.Pv
open List Int IntKind
variable {w w':World} {Wr N8:Nat->Prop} {H:Nat->Value}
def putCells (cur:List Value) (off:Nat) (c:List Value):List Value:=cur.take off++c++cur.drop (off+c.length)
theorem yS (cur c:List Value) (off k:Nat) (h:off+c.length<=cur.length): (putCells cur off c)[k]?=if k<off then cur[k]? else if k<off+c.length then c[k - off]? else cur[k]?:=by
 unfold putCells;have hl:(cur.take off).length=off:=by rw[aH];omega
 by_cases h1:k<off
 ·rw[ay h1,bu,dL (by omega),bM,ay h1]
 rw[ar h1];by_cases h2:k<off+c.length
 ·rw[ay h2,bu,cG (by omega),hl,dL (by omega)]
 rw[ar h2,cG (by rw[ax];omega),ax,hl,cr];congr 1;omega
theorem yT (cur c:List Value) (off:Nat) (h:off+c.length<=cur.length):(putCells cur off c).length=cur.length:=by unfold putCells;simp only[ax,aH,aX];omega
theorem axS (cur c:List Value) (a off n:Nat) (h1:off+c.length<=n) (h2:a+n<=cur.length): ((putCells cur (a+off) c).drop a).take n=putCells ((cur.drop a).take n) off c:=by
 apply cU;intro k;have hl:((cur.drop a).take n).length=n:=by simp;omega
 rw[yS _ _ _ _ (by omega)];by_cases hk:k<n
 ·rw[bM,ay hk,cr,yS _ _ _ _ (by omega)];simp only[bM,ay hk,cr];by_cases h3:k<off
  ·rw[ay h3,ay (by omega)]
  rw[ar h3,ar (by omega)];by_cases h4:k<off+c.length
  ·rw[ay h4,ay (by omega)];congr 1;omega
  rw[ar h4,ar (by omega)]
 rw[bM,ar hk,ar (by omega),ar (by omega),bM,ar hk]
theorem auz (cur c:List Value) (o a n:Nat) (h:o+c.length<=cur.length) (hd:a+n<=o∨o+c.length<=a): ((putCells cur o c).drop a).take n=(cur.drop a).take n:=by
 apply cU;intro k;by_cases hk:k<n
 ·simp only[bM,ay hk,cr];rw[yS _ _ _ _ h];by_cases h3:a+k<o
  ·rw[ay h3]
  rw[ar h3,ar (by omega)]
 simp only[bM,ar hk]
def cp:Path->Bool
 |[]=>true
 | .fst::p=>cp p
 | .snd::p=>cp p
 |_::_=>false
def cA:Path->Ty->Nat
 | .fst::p,.pair a _=>cA p a
 | .snd::p,.pair a b=>a.size+cA p b
 |_,_=>0
def Ng:Path->Ty->List Value->List Value->List Value
 |[],_,_,c=>c
 | .fst::p,.pair a _,cs,c=>Ng p a (cs.take a.size) c++cs.drop a.size
 | .snd::p,.pair a b,cs,c=>cs.take a.size++Ng p b (cs.drop a.size) c
 |_,_,cs,_=>cs
def F6 (w w':World) (loc:Option (Nat×Nat)) (c:List Value) (g:Nat):Prop:=match loc with
 |some q=>if g=q.1 then ∃ cur T,w.heap[g]?=some (.cells cur T (0,0))/\w'.heap[g]?=some (.cells (putCells cur.toList q.2 c).toArray T (0,0)) else w'.heap[g]?=w.heap[g]?
 |none=>w'.heap[g]?=w.heap[g]?
theorem qR:∀ (p:Path) {t:Ty} {m:Md} {x:t.I} {b:TV},cp p=true->dA p t m x=some b->cA p t+b.t.size<=t.size
 |[],t,m,x,b,_,hg=>by simp only[dA,ah] at hg;subst hg;simp[cA]
 | .fst::p,.pair a b',m,x,b,hm,hg=>by simp only[dA] at hg;have:=qR p (by simpa[cp] using hm) hg;simp only[cA,Ty.size];omega
 | .snd::p,.pair a b',m,x,b,hm,hg=>by simp only[dA] at hg;have:=qR p (by simpa[cp] using hm) hg;simp only[cA,Ty.size];omega
theorem qS:∀ (p:Path) {t:Ty} {cs:List Value},cp p=true->addrAt w p t cs none=none
 |[],_,_,_=>rfl
 | .fst::p,.pair a b,cs,h=>by simp only[addrAt];exact qS p (by simpa[cp] using h)
 | .snd::p,.pair a b,cs,h=>by simp only[addrAt,Option.map_none];exact qS p (by simpa[cp] using h)
 | .fst::p,.int _,_,_ | .fst::p,.bool,_,_ | .fst::p,.str,_,_ | .fst::p,.sl _,_,_ | .fst::p,.ptr _,_,_ | .fst::p,.unit,_,_ | .fst::p,.arr _ _,_,_ | .fst::p,.mp,_,_=>by simp[addrAt]
 | .snd::p,.int _,_,_ | .snd::p,.bool,_,_ | .snd::p,.str,_,_ | .snd::p,.sl _,_,_ | .snd::p,.ptr _,_,_ | .snd::p,.unit,_,_ | .snd::p,.arr _ _,_,_ | .snd::p,.mp,_,_=>by simp[addrAt]
theorem AW:∀ (p:Path) {t:Ty} {m:Md} {x:t.I} {cs:List Value} {b:TV} {g o:Nat},cp p=true->dA p t m x=some b->addrAt w p t cs (some (g,o))=some (g,o+cA p t)
 |[],_,_,_,_,_,_,_,_,_=>by simp[addrAt,cA]
 | .fst::p,.pair a b,m,x,cs,_,_,_,h,hg=>by simp only[dA] at hg;simp only[addrAt,cA];exact AW p (by simpa[cp] using h) hg
 | .snd::p,.pair a b,m,x,cs,_,g,o,h,hg=>by simp only[dA] at hg;simp only[addrAt,cA,aP];rw[AW p (by simpa[cp] using h) hg,fa]
theorem JJ:∀ (p:Path) {t:Ty} {cs:List Value} (l l':Option (Nat×Nat)),cp p=false->addrAt w p t cs l=addrAt w p t cs l'
 |[],_,_,_,_,h=>by simp[cp] at h
 | .fst::p,.pair a b,cs,l,l',h=>by simp only[addrAt];exact JJ p _ _ (by simpa[cp] using h)
 | .snd::p,.pair a b,cs,l,l',h=>by simp only[addrAt];exact JJ p _ _ (by simpa[cp] using h)
 | .deref::p,.ptr t,cs,l,l',h=>by unfold addrAt;split<;>simp_all
 | .idx i::p,.sl t,cs,l,l',h=>by unfold addrAt;split<;>simp_all
 | .fst::p,.int _,_,_,_,_ | .fst::p,.bool,_,_,_,_ | .fst::p,.str,_,_,_,_ | .fst::p,.sl _,_,_,_,_ | .fst::p,.ptr _,_,_,_,_ | .fst::p,.unit,_,_,_,_ | .fst::p,.arr _ _,_,_,_,_ | .fst::p,.mp,_,_,_,_=>by simp[addrAt]
 | .snd::p,.int _,_,_,_,_ | .snd::p,.bool,_,_,_,_ | .snd::p,.str,_,_,_,_ | .snd::p,.sl _,_,_,_,_ | .snd::p,.ptr _,_,_,_,_ | .snd::p,.unit,_,_,_,_ | .snd::p,.arr _ _,_,_,_,_ | .snd::p,.mp,_,_,_,_=>by simp[addrAt]
 | .deref::p,.int _,_,_,_,_ | .deref::p,.bool,_,_,_,_ | .deref::p,.str,_,_,_,_ | .deref::p,.sl _,_,_,_,_ | .deref::p,.pair _ _,_,_,_,_ | .deref::p,.unit,_,_,_,_ | .deref::p,.arr _ _,_,_,_,_ | .deref::p,.mp,_,_,_,_=>by simp[addrAt]
 | .idx _::p,.int _,_,_,_,_ | .idx _::p,.bool,_,_,_,_ | .idx _::p,.str,_,_,_,_ | .idx _::p,.ptr _,_,_,_,_ | .idx _::p,.pair _ _,_,_,_,_ | .idx _::p,.unit,_,_,_,_ | .idx _::p,.arr _ _,_,_,_,_ | .idx _::p,.mp,_,_,_,_=>by simp[addrAt]
theorem rC:∀ (p:Path) {t:Ty} {m:Md} {x:t.I} {cs:List Value} {b:TV},cp p=true->dA p t m x=some b->cs.length=t.size->cz w p t cs=some ((cs.drop (cA p t)).take b.t.size)
 |[],t,m,x,cs,b,_,hg,hl=>by simp only[dA,ah] at hg;subst hg;simp only[cz,cA,dJ];rw[cw (by show cs.length<=t.size;omega)]
 | .fst::p,.pair a b',m,x,cs,b,h,hg,hl=>by simp only[dA] at hg;simp only[Ty.size] at hl;have hf:=qR p (by simpa[cp] using h) hg;simp only[cz,cA];rw[rC p (by simpa[cp] using h) hg (by rw[aH];omega),iE,nk];congr 2;omega
 | .snd::p,.pair a b',m,x,cs,b,h,hg,hl=>by simp only[dA] at hg;simp only[Ty.size] at hl;simp only[cz,cA];rw[rC p (by simpa[cp] using h) hg (by rw[aX];omega),dO]
theorem Fb:∀ (p:Path) {t:Ty} {m:Md} {x:t.I} {cs c:List Value} {b:TV},cp p=true->dA p t m x=some b->cs.length=t.size->c.length=b.t.size->Ng p t cs c=putCells cs (cA p t) c
 |[],t,m,x,cs,c,b,_,hg,hl,hc=>by simp only[dA,ah] at hg;subst hg;simp only[Ng,cA,putCells,tP,bU,aW];rw[List.drop_of_length_le (by have hc':c.length=t.size:=hc;omega),b6]
 | .fst::p,.pair a b',m,x,cs,c,b,h,hg,hl,hc=>by simp only[dA] at hg;simp only[Ty.size] at hl;have hf:=qR p (by simpa[cp] using h) hg;simp only[Ng,cA];rw[Fb p (by simpa[cp] using h) hg (by rw[aH];omega) hc];unfold putCells;rw[nk,kQ (by omega),bu,bu,bu,iE];congr 2;rw[show cs.drop a.size=(cs.drop (cA p a+c.length)).drop (a.size - (cA p a+c.length)) from by rw[dO];congr 1;omega,dS]
 | .snd::p,.pair a b',m,x,cs,c,b,h,hg,hl,hc=>by simp only[dA] at hg;simp only[Ty.size] at hl;simp only[Ng,cA];rw[Fb p (by simpa[cp] using h) hg (by rw[aX];omega) hc];unfold putCells;rw[←bu,←bu,←List.take_add,dO];congr 2;omega
theorem DY:∀ (p:Path) {t:Ty} {cs c:List Value},cp p=false->Ng p t cs c=cs
 |[],_,_,_,h=>by simp[cp] at h
 | .fst::p,.pair a b,cs,c,h=>by simp only[Ng];rw[DY p (by simpa[cp] using h),dS]
 | .snd::p,.pair a b,cs,c,h=>by simp only[Ng];rw[DY p (by simpa[cp] using h),dS]
 | .deref::p,t,cs,c,h=>by simp[Ng]
 | .idx i::p,t,cs,c,h=>by simp[Ng]
 | .fst::p,.int _,_,_,_ | .fst::p,.bool,_,_,_ | .fst::p,.str,_,_,_ | .fst::p,.sl _,_,_,_ | .fst::p,.ptr _,_,_,_ | .fst::p,.unit,_,_,_ | .fst::p,.arr _ _,_,_,_ | .fst::p,.mp,_,_,_=>by simp[Ng]
 | .snd::p,.int _,_,_,_ | .snd::p,.bool,_,_,_ | .snd::p,.str,_,_,_ | .snd::p,.sl _,_,_,_ | .snd::p,.ptr _,_,_,_ | .snd::p,.unit,_,_,_ | .snd::p,.arr _ _,_,_,_ | .snd::p,.mp,_,_,_=>by simp[Ng]
end Go.Pv
namespace Go.Pv
open List Int IntKind
variable {w w':World} {Wr N8:Nat->Prop} {H:Nat->Value}
def aC5 (w:World) (Wr:Nat->Prop) (H:Nat->Value) (p:Path) (t:Ty) (m:Md) (x:t.I) (cs:List Value) (ow kH:Nat->Prop) (hs:List Path) (b:TV) (kS:List Value):Prop:=∀ (b2:TV) (r:Md×t.I),b2.t=b.t->wk b2 p t m x=some r-> (∀ g off,addrAt w p t cs none=some (g,off)->ow g/\ ¬kH g/\∃ cur T,w.heap[g]?=some (.cells cur T (0,0))/\off+b.t.size<=cur.size/\kS=(cur.toList.drop off).take b.t.size)/\ ∀ (w':World) (N8:Nat->Prop) (c:List Value) (DZ:Nat->Prop) (JD:List Path),cN w w' Wr N8->c.length=b.t.size-> (∀ g,ow g->¬kH g->g<w.heap.size->F6 w w' (addrAt w p t cs none) c g)->M w' N8 H b2.t b2.m b2.x c DZ (U3 p JD)-> (∀ g,DZ g->g<w.heap.size->ow g->kH g)->(∀ h,(∀ q,h≠p++q)->h∈hs->h∈JD)-> M w' N8 H t r.1 r.2 (Ng p t cs c) (λg=>(ow g/\ ¬kH g)∨DZ g) JD
theorem H3 {s:Step} {p:Path} {hs JD:List Path} (h:∀ h,(∀ q,h≠s::p++q)->h∈hs->h∈JD):∀ h,(∀ q,h≠p++q)->h∈sub s hs->h∈sub s JD:=λq hq hm=>
 nY.2 (h _ (λr e=>hq r (by rw[bD] at e;injection e)) (nY.1 hm))
theorem Pn {s s':Step} (wj:s'≠s) {p:Path} {hs JD:List Path} (h:∀ h,(∀ q,h≠s::p++q)->h∈hs->h∈JD):∀ q∈sub s' hs,q∈sub s' JD:=λq hq=>
 nY.2 (h _ (λr e=>by rw[bD] at e;injection e with e _;exact wj e) (nY.1 hq))
theorem aaH {b2:TV} {i:Nat} {p:Path} {t:Ty} {T:TypeId} {tag:Option Nat} {me:Md} {xs:List t.I} {r:Md×List t.I} (h:wk b2 (.idx i::p) (.sl t) (.o T tag me) xs=some r): ∃ r1,wk b2 p t me (getD xs i t.z)=some r1/\r1.1=me/\r=(.o T tag me,List.set xs i r1.2):=by
 unfold wk at h;split at h
 ·rename_i r1 h1;split at h
  ·rename_i h2;injection h with h;exact⟨r1,h1,h2,h.symm⟩
  cases h
 cases h
theorem XH:∀ (p:Path) {t:Ty} {m:Md} {x:t.I} {cs:List Value} {ow:Nat->Prop} {hs:List Path} {b:TV},M w Wr H t m x cs ow hs->open_ p hs->valid p t x->dA p t m x=some b-> ∃ kS kH,cz w p t cs=some kS/\(∀ g,kH g->ow g)/\M w Wr H b.t b.m b.x kS kH (U3 p hs)/\aC5 w Wr H p t m x cs ow kH hs b kS
 |[],t,m,x,cs,ow,hs,b,h,ho,hv,hg=>by simp only[dA,ah] at hg;subst hg;refine⟨cs,ow,rfl,λ_ h=>h,h,λb2 r ht hr=>⟨λg off e=>by simp[addrAt] at e,λw' N8 c DZ JD fZ hc hb hm Pe hh=>?_⟩⟩;obtain⟨t2,m2,x2⟩:=b2;simp only at ht;subst ht;simp only[wk,dite_true,ah] at hr;subst hr;exact b8 (cN.refl _ _) t2 (λ_ _ _=>rfl) (λg hg _=>.inr hg) (λ_ h=>h) hm
 | .deref::p,.ptr t,m,x,cs,ow,hs,b,h,ho,hv,hg=>by
  simp only[dA] at hg;simp only[valid] at hv;simp only[M] at h;rcases h with⟨hn,_⟩ |⟨hk,h⟩ |⟨T,tag,me,g,cur,rfl,rfl,ht,N9,hw,h⟩
  ·exact absurd hn ho.not_nil
  ·obtain⟨kS,kH,h1,h2,h3⟩:=focus (H:=H) (ow:=ow) (.deref::p) (KU (t:=.ptr t) hk h) ho hv (by simpa only[dA] using hg)
   exact⟨kS,kH,h1,h2,h3,λb2 r _ hr=>by cases m<;>simp[wk,Md.eY] at hr hk⟩
  have hlen:=(rB t h).1;obtain⟨kS,kH,h1,h2,h3,h4⟩:=XH p h ho.sub hv hg;have rz:0+t.size<=cur.size:=(by rw[←hlen];simp);have wu:rowAt w g 0 t.size=some cur.toList:=(by rw[eG hw rz,dJ,cw (by omega)]);refine⟨kS,kH,?_,λg hg=>(h2 g hg).1,h3,λb2 r Rv hr=>?_⟩
  ·simp only[cz,wu,aI];exact h1
  simp only[wk] at hr;cases hr1:wk b2 p t me x with
  |none=>simp[hr1] at hr
  |some r1=>
  simp only[hr1,ah] at hr;subst hr;obtain⟨ha,Fe⟩:=h4 b2 r1 Rv hr1;have JK:addrAt w (.deref::p) (.ptr t) [.pointer (some ⟨g,0,none⟩)] none=addrAt w p t cur.toList (some (g,0)):=by simp only[addrAt,wu,aI]
  cases hml:cp p with
  |true=>
  have nI:=AW (w:=w) (cs:=cur.toList) (g:=g) (o:=0) p hml hg;have Tn:=qR p hml hg;have Da:=rC (w:=w) p hml hg hlen;rw[h1] at Da;injection Da with Da;rw[JK,nI];refine⟨λg' off e=>?_,λw' N8 c DZ JD fZ hc hb hm Pe hh=>?_⟩
  ·injection e with e;injection e with e1 e2;subst e1 e2;exact⟨N9,λhx=>(h2 g hx).2 rfl,cur,T,hw,by rw[←hlen] at Tn;simp at Tn ⊢;omega,by rw[aW];exact Da⟩
  have gC:=dh hw;have dH:=hb g N9 (λhx=>(h2 g hx).2 rfl) gC;simp only[F6,dy,aW] at dH;obtain⟨v8,T2,e2,Nh⟩:=dH;rw[hw] at e2;injection e2 with e2;injection e2 with e2 e3;subst e2 e3;have hM:=Fe w' N8 c DZ (sub .deref JD) fZ hc (λg' rA Ni hl=>by
   rw[qS p hml]
   have:=hb g' rA.1 Ni hl
   simp only[F6,rA.2,cT] at this
   exact this) hm (λg' rA hl Ni=>Pe g' rA hl Ni.1) (H3 hh)
  rw[Fb p hml hg hlen hc] at hM;simp only[Ng,M];refine .inr (.inr ⟨T,tag,r1.1,g,_,rfl,rfl,ht,.inl ⟨N9,λhx=>(h2 g hx).2 rfl⟩,Nh,?_⟩);refine b8 (cN.refl _ _) t (λ_ _ _=>rfl) (λg' rA hl=>?_) (λ_ h=>h) hM;rcases rA with⟨⟨a1,a2⟩,a3⟩ |a
  ·exact⟨.inl ⟨a1,a3⟩,a2⟩
  refine⟨.inr a,λe=>?_⟩;subst e;exact(h2 g' (Pe g' a gC N9)).2 rfl
  |false=>
  have nI:=JJ (w:=w) (t:=t) (cs:=cur.toList) p (some (g,0)) none hml;rw[JK,nI];refine⟨λg' off e=>?_,λw' N8 c DZ JD fZ hc hb hm Pe hh=>?_⟩
  ·obtain⟨a1,a2,a3⟩:=ha g' off e;exact⟨a1.1,a2,a3⟩
  have gC:=dh hw;have hM:=Fe w' N8 c DZ (sub .deref JD) fZ hc (λg' rA Ni hl=>hb g' rA.1 Ni hl) hm (λg' rA hl Ni=>Pe g' rA hl Ni.1) (H3 hh);rw[DY p hml] at hM;have Nh:w'.heap[g]?=some (.cells cur T (0,0)):=by
   have dH:=hb g N9 (λhx=>(h2 g hx).2 rfl) gC;cases Nj:addrAt w p t cur.toList none with
   |none=>rw[Nj] at dH;exact dH.trans hw
   |some q=>rw[Nj] at dH;have wj:g≠q.1:=λe=>(ha q.1 q.2 Nj).1.2 e.symm;simp only[F6,wj,cT] at dH;exact dH.trans hw
  simp only[Ng,M];refine .inr (.inr ⟨T,tag,r1.1,g,_,rfl,rfl,ht,.inl ⟨N9,λhx=>(h2 g hx).2 rfl⟩,Nh,?_⟩);refine b8 (cN.refl _ _) t (λ_ _ _=>rfl) (λg' rA hl=>?_) (λ_ h=>h) hM;rcases rA with⟨⟨a1,a2⟩,a3⟩ |a
  ·exact⟨.inl ⟨a1,a3⟩,a2⟩
  refine⟨.inr a,λe=>?_⟩;subst e;exact(h2 g' (Pe g' a gC N9)).2 rfl
 | .fst::p,.pair a b',m,x,cs,ow,hs,b,h,ho,hv,hg=>by
  simp only[dA] at hg;simp only[valid] at hv;have D0:∃ c0 c1,∃ s:Nat->Prop,cs=c0++c1/\M w Wr H a m.l x.1 c0 (λg=>ow g/\s g) (sub .fst hs)/\M w Wr H b' m.r x.2 c1 (λg=>ow g/\ ¬s g) (sub .snd hs):=by
   simp only[M] at h;rcases h with⟨hn,_⟩ |⟨hk,h⟩ |⟨ma,mb,c0,c1,s,rfl,rfl,h0,h1⟩
   ·exact absurd hn ho.not_nil
   ·simp only[K] at h;obtain⟨c0,c1,rfl,h0,h1⟩:=h;exact⟨c0,c1,λ_=>True,rfl,KU (aha hk) h0,KU (ahb hk) h1⟩
   exact⟨c0,c1,s,rfl,h0,h1⟩
  obtain⟨c0,c1,s,rfl,h0,h1⟩:=D0;obtain⟨kS,kH,k1,k2,k3,k4⟩:=XH p h0 ho.sub hv hg;have l0:=(rB a h0).1;have ht:(c0++c1).take a.size=c0:=(by rw[←l0,dP]);have hd:(c0++c1).drop a.size=c1:=(by rw[←l0,df]);refine⟨kS,kH,by simp only[cz,ht];exact k1,λg hg=>(k2 g hg).1,k3,λb2 r Rv hr=>?_⟩;simp only[wk] at hr;cases hr1:wk b2 p a m.l x.1 with
  |none=>simp[hr1] at hr
  |some r1=>
  simp only[hr1,ah] at hr;subst hr;obtain⟨ha,Fe⟩:=k4 b2 r1 Rv hr1;have JK:addrAt w (.fst::p) (.pair a b') (c0++c1) none=addrAt w p a c0 none:=by simp only[addrAt,ht]
  rw[JK];refine⟨λg' off e=>?_,λw' N8 c DZ JD fZ hc hb hm Pe hh=>?_⟩
  ·obtain⟨a1,a2,a3⟩:=ha g' off e;exact⟨a1.1,a2,a3⟩
  have hM:=Fe w' N8 c DZ (sub .fst JD) fZ hc (λg' rA Ni hl=>hb g' rA.1 Ni hl) hm (λg' rA hl Ni=>Pe g' rA hl Ni.1) (H3 hh);simp only[Ng,ht,hd];refine U2 (s:=λg=>(s g/\ow g)∨DZ g) ?_ ?_
  ·refine b8 (cN.refl _ _) a (λ_ _ _=>rfl) (λg' rA hl=>?_) (λ_ h=>h) hM;rcases rA with⟨⟨a1,a2⟩,a3⟩ |q
   ·exact⟨.inl ⟨a1,a3⟩,.inl ⟨a2,a1⟩⟩
   exact⟨.inr q,.inr q⟩
  refine b8 fZ b' (λg' rA hl=>?_) (λg' rA hl=>⟨.inl ⟨rA.1,λhx=>rA.2 (k2 g' hx).2⟩,λhx=>?_⟩) (Pn (by decide) hh) h1
  ·have dH:=hb g' rA.1 (λhx=>rA.2 (k2 g' hx).2) hl;cases Nj:addrAt w p a c0 none with
   |none=>rw[Nj] at dH;exact dH
   |some q=>rw[Nj] at dH;have wj:g'≠q.1:=λe=>rA.2 (by rw[e];exact(ha q.1 q.2 Nj).1.2);simp only[F6,wj,cT] at dH;exact dH
  rcases hx with hx |hx
  ·exact rA.2 hx.1
  exact rA.2 (k2 g' (Pe g' hx hl rA.1)).2
 | .snd::p,.pair a b',m,x,cs,ow,hs,b,h,ho,hv,hg=>by
  simp only[dA] at hg;simp only[valid] at hv;have D0:∃ c0 c1,∃ s:Nat->Prop,cs=c0++c1/\M w Wr H a m.l x.1 c0 (λg=>ow g/\s g) (sub .fst hs)/\M w Wr H b' m.r x.2 c1 (λg=>ow g/\ ¬s g) (sub .snd hs):=by
   simp only[M] at h;rcases h with⟨hn,_⟩ |⟨hk,h⟩ |⟨ma,mb,c0,c1,s,rfl,rfl,h0,h1⟩
   ·exact absurd hn ho.not_nil
   ·simp only[K] at h;obtain⟨c0,c1,rfl,h0,h1⟩:=h;exact⟨c0,c1,λ_=>True,rfl,KU (aha hk) h0,KU (ahb hk) h1⟩
   exact⟨c0,c1,s,rfl,h0,h1⟩
  obtain⟨c0,c1,s,rfl,h0,h1⟩:=D0;obtain⟨kS,kH,k1,k2,k3,k4⟩:=XH p h1 ho.sub hv hg;have l0:=(rB a h0).1;have ht:(c0++c1).take a.size=c0:=(by rw[←l0,dP]);have hd:(c0++c1).drop a.size=c1:=(by rw[←l0,df]);refine⟨kS,kH,by simp only[cz,hd];exact k1,λg hg=>(k2 g hg).1,k3,λb2 r Rv hr=>?_⟩;simp only[wk] at hr;cases hr1:wk b2 p b' m.r x.2 with
  |none=>simp[hr1] at hr
  |some r1=>
  simp only[hr1,ah] at hr;subst hr;obtain⟨ha,Fe⟩:=k4 b2 r1 Rv hr1;have JK:addrAt w (.snd::p) (.pair a b') (c0++c1) none=addrAt w p b' c1 none:=by simp only[addrAt,hd,Option.map_none]
  rw[JK];refine⟨λg' off e=>?_,λw' N8 c DZ JD fZ hc hb hm Pe hh=>?_⟩
  ·obtain⟨a1,a2,a3⟩:=ha g' off e;exact⟨a1.1,a2,a3⟩
  have hM:=Fe w' N8 c DZ (sub .snd JD) fZ hc (λg' rA Ni hl=>hb g' rA.1 Ni hl) hm (λg' rA hl Ni=>Pe g' rA hl Ni.1) (H3 hh);simp only[Ng,ht,hd];refine U2 (s:=λg=>(s g/\ow g)/\ ¬DZ g) ?_ ?_
  ·refine b8 fZ a (λg' rA hl=>?_) (λg' rA hl=>⟨.inl ⟨rA.1,λhx=>(k2 g' hx).2 rA.2⟩,⟨rA.2,rA.1⟩,λhx=>(k2 g' (Pe g' hx hl rA.1)).2 rA.2⟩) (Pn (by decide) hh) h0;have dH:=hb g' rA.1 (λhx=>(k2 g' hx).2 rA.2) hl;cases Nj:addrAt w p b' c1 none with
   |none=>rw[Nj] at dH;exact dH
   |some q=>rw[Nj] at dH;have wj:g'≠q.1:=λe=>(ha q.1 q.2 Nj).1.2 (by rw[←e];exact rA.2);simp only[F6,wj,cT] at dH;exact dH
  refine b8 (cN.refl _ _) b' (λ_ _ _=>rfl) (λg' rA hl=>?_) (λ_ h=>h) hM;rcases rA with⟨⟨a1,a2⟩,a3⟩ |q
  ·exact⟨.inl ⟨a1,a3⟩,λhx=>a2 hx.1.1⟩
  exact⟨.inr q,λhx=>hx.2 q⟩
 | .idx i::p,.sl t,m,xs,cs,ow,hs,b,h,ho,hv,hg=>by
  simp only[dA] at hg;have hv0:=hv;simp only[valid] at hv;obtain⟨hi,hv⟩:=hv;have sj:getD xs i t.z=xs[i]:=by simp[aG,aN hi]
  simp only[M] at h;rcases h with⟨hn,_⟩ |⟨hk,h⟩ |⟨T,tag,me,A,c,rfl,rfl,hc,ht,h⟩
  ·exact absurd hn ho.not_nil
  ·obtain⟨kS,kH,h1,h2,h3⟩:=focus (H:=H) (ow:=ow) (.idx i::p) (KU (t:=.sl t) hk h) ho hv0 (by simpa only[dA] using hg)
   exact⟨kS,kH,h1,h2,h3,λb2 r _ hr=>by cases m<;>simp[wk,Md.eY] at hr hk⟩
  rcases h with⟨rfl,_⟩ |⟨g,cur,τ,rfl,N9,hw,rz,hm,h⟩
  ·simp at hi
  ·have aAu:i*t.size+t.size<=cur.size:=by
    have h1:=aC t.size (show i+1<=xs.length from hi)
    have h2:=aC t.size hc
    rw[bc,cH] at h1
    omega
   have hM0:=h i hi
   rw[←sj] at hM0
   have hlen:=(rB t hM0).1
   obtain⟨kS,kH,h1,h2,h3,h4⟩:=XH p hM0 ho.sub hv hg
   have wu:rowAt w g (0+i*t.size) t.size=some ((cur.toList.drop (i*t.size)).take t.size):=by rw[aW,eG hw aAu]
   refine⟨kS,kH,?_,λg hg=>(h2 g hg).1,h3,λb2 r Rv hr=>?_⟩
   ·simp only[cz,wu,aI];exact h1
   obtain⟨r1,hr1,hme,rfl⟩:=aaH hr
   obtain⟨ha,Fe⟩:=h4 b2 r1 Rv hr1
   have JK:addrAt w (.idx i::p) (.sl t) [.slice (some ⟨g,0,none⟩) xs.length c] none=addrAt w p t ((cur.toList.drop (i*t.size)).take t.size) (some (g,i*t.size)):=by
    simp only[addrAt];rw[wu];simp only[aI,aW]
   -- the other elements,and this one,behind the change
   have gC:=dh hw
   have rest:∀ (w':World) (N8:Nat->Prop) (c2:List Value) (DZ:Nat->Prop) (JD:List Path) (v8:Array Value),cN w w' Wr N8->
     (∀ g',ow g'->g'≠g->¬kH g'->(∀ q,addrAt w p t ((cur.toList.drop (i*t.size)).take t.size) none=some q->g'≠q.1)->g'<w.heap.size->w'.heap[g']?=w.heap[g']?)->
     w'.heap[g]?=some (.cells v8 T (0,0))->v8.size=cur.size->
     (∀ j,j<xs.length->j≠i->(v8.toList.drop (j*t.size)).take t.size=(cur.toList.drop (j*t.size)).take t.size)->
     M w' N8 H t r1.1 r1.2 ((v8.toList.drop (i*t.size)).take t.size) (λg'=>((ow g'/\g'≠g/\τ g'=i)/\ ¬kH g')∨DZ g') (sub (.idx i) JD)->
     (∀ g',DZ g'->g'<w.heap.size->ow g'->kH g')->(∀ h,(∀ q,h≠ .idx i::p++q)->h∈hs->h∈JD)->
     M w' N8 H (.sl t) (.o T tag me) (List.set xs i r1.2) [.slice (some ⟨g,0,none⟩) xs.length c] (λg'=>(ow g'/\ ¬kH g')∨DZ g') JD:=by
    intro w' N8 c2 DZ JD v8 fZ xB Nh aC6 F7 hM Pe hh
    have hng: ¬kH g:=λhx=>(h2 g hx).2.1 rfl
    simp only[M]
    refine .inr (.inr ⟨T,tag,me,some ⟨g,0,none⟩,c,rfl,by rw[bF],by rw[bF];exact hc,λh hh=>by rw[bF];exact ht h hh,.inr ⟨g,v8,λg'=>open Classical in if DZ g' then i else τ g',rfl,.inl ⟨N9,hng⟩,Nh,by rw[aC6,rz],hm,λj hj=>?_⟩⟩)
    rw[bF] at hj
    by_cases HB:j=i
    ·subst HB
     rw[List.getElem_set_self,←hme]
     refine b8 (cN.refl _ _) t (λ_ _ _=>rfl) (λg' rA hl=>?_) (λ_ h=>h) hM
     rcases rA with⟨⟨a1,a2,a3⟩,a4⟩ |a
     ·exact⟨.inl ⟨a1,a4⟩,a2,by simp only;split<;>first |rfl |exact a3⟩
     ·refine⟨.inr a,λe=>?_,by simp only;rw[ay a]⟩
      subst e
      exact hng (Pe g' a gC N9)
    ·rw[List.getElem_set_ne (λe=>HB e.symm),F7 j hj HB]
     have aAv:∀ g',(ow g'/\g'≠g/\τ g'=j)->g'<w.heap.size->¬DZ g':=λg' rA hl hx=>HB (by rw[←rA.2.2];exact(h2 g' (Pe g' hx hl rA.1)).2.2)
     have aAw:∀ g',(ow g'/\g'≠g/\τ g'=j)->¬kH g':=λg' rA hx=>HB (by rw[←rA.2.2];exact(h2 g' hx).2.2)
     refine b8 fZ t (λg' rA hl=>xB g' rA.1 rA.2.1 (aAw g' rA) (λq hq e=>?_) hl) (λg' rA hl=>⟨.inl ⟨rA.1,aAw g' rA⟩,rA.2.1,?_⟩) (Pn (by intro e;injection e with e;exact HB e) hh) (h j hj)
     ·have:=(ha q.1 q.2 hq).1.2.2
      rw[←e,rA.2.2] at this
      exact HB this
     ·simp only
      rw[ar (aAv g' rA hl)]
      exact rA.2.2
   cases hml:cp p with
   |true=>
    have nI:=AW (w:=w) (cs:=(cur.toList.drop (i*t.size)).take t.size) (g:=g) (o:=i*t.size) p hml hg
    have Tn:=qR p hml hg
    have Da:=rC (w:=w) p hml hg hlen
    rw[h1] at Da
    injection Da with Da
    rw[JK,nI]
    refine⟨λg' off e=>?_,λw' N8 c2 DZ JD fZ hc2 hb hm2 Pe hh=>?_⟩
    ·injection e with e
     injection e with e1 e2
     subst e1 e2
     refine⟨N9,λhx=>(h2 g hx).2.1 rfl,cur,T,hw,by omega,?_⟩
     rw[Da,iE,dO,nk]
     congr 1
     omega
    ·have dH:=hb g N9 (λhx=>(h2 g hx).2.1 rfl) gC
     simp only[F6,dy] at dH
     obtain⟨v8,T2,e2,Nh⟩:=dH
     rw[hw] at e2
     injection e2 with e2
     injection e2 with e2 e3
     subst e2 e3
     have aAx:i*t.size+cA p t+c2.length<=cur.toList.length:=by rw[hc2,bQ];omega
     have hM:=Fe w' N8 c2 DZ (sub (.idx i) JD) fZ hc2 (λg' rA Ni hl=>by
      rw[qS p hml]
      have:=hb g' rA.1 Ni hl
      simp only[F6,rA.2.1,cT] at this
      exact this) hm2 (λg' rA hl Ni=>Pe g' rA hl Ni.1) (H3 hh)
     rw[Fb p hml hg hlen hc2] at hM
     refine rest w' N8 c2 DZ JD _ fZ (λg' rA Ni hg3 _ hl=>?_) Nh (by rw[cd,yT _ _ _ aAx,bQ]) (λj hj HB=>?_) ?_ Pe hh
     ·have:=hb g' rA hg3 hl
      simp only[F6,Ni,cT] at this
      exact this
     ·rw[b5]
      refine auz _ _ _ _ _ aAx ?_
      rcases Nat.lt_or_gt_of_ne HB with axT |axT
      ·left
       have:=aC t.size (show j+1<=i from axT)
       rw[bc,cH] at this
       omega
      ·right
       have:=aC t.size (show i+1<=j from axT)
       rw[bc,cH] at this
       rw[hc2]
       omega
     ·rw[b5,axS _ _ _ _ _ (by rw[hc2];omega) (by rw[bQ];omega)]
      exact hM
   |false=>
    have nI:=JJ (w:=w) (t:=t) (cs:=(cur.toList.drop (i*t.size)).take t.size) p (some (g,i*t.size)) none hml
    rw[JK,nI]
    refine⟨λg' off e=>?_,λw' N8 c2 DZ JD fZ hc2 hb hm2 Pe hh=>?_⟩
    ·obtain⟨a1,a2,a3⟩:=ha g' off e
     exact⟨a1.1,a2,a3⟩
    ·have hM:=Fe w' N8 c2 DZ (sub (.idx i) JD) fZ hc2 (λg' rA Ni hl=>hb g' rA.1 Ni hl) hm2 (λg' rA hl Ni=>Pe g' rA hl Ni.1) (H3 hh)
     rw[DY p hml] at hM
     have same:∀ g',ow g'->¬kH g'->(∀ q,addrAt w p t ((cur.toList.drop (i*t.size)).take t.size) none=some q->g'≠q.1)->g'<w.heap.size->w'.heap[g']?=w.heap[g']?:=by
      intro g' rA Ni hq hl
      have dH:=hb g' rA Ni hl
      cases Nj:addrAt w p t ((cur.toList.drop (i*t.size)).take t.size) none with
      |none=>rw[Nj] at dH;exact dH
      |some q=>
       rw[Nj] at dH
       simp only[F6,hq q Nj,cT] at dH
       exact dH
     have Nh:w'.heap[g]?=some (.cells cur T (0,0)):=(same g N9 (λhx=>(h2 g hx).2.1 rfl) (λq hq e=>(ha q.1 q.2 hq).1.2.1 e.symm) gC).trans hw
     exact rest w' N8 c2 DZ JD cur fZ (λg' rA _ hg3 hq hl=>same g' rA hg3 hq hl) Nh rfl (λj hj HB=>rfl) hM Pe hh
end Go.Pv
namespace Go.Pv
open List Int IntKind
structure iI where
 res:List TV
 refs:List TV
inductive Arg where
 |tv (a:TV)
 |fn (f:FuncId) (kn:List TV)
inductive Pass where
 |val |take |OU
 deriving DecidableEq
structure va where
 sig:FuncId->List Pass
 run:FuncId->List Arg->(iI->Option iI)->Option iI
structure Entry where
 f:FuncId
 sig:List Pass
 run:List Arg->(iI->Option iI)->Option iI
def entry:List Entry->FuncId->Option Entry
 |[],_=>none
 |e::r,f=>bif Nat.beq e.f f then some e else entry r f
def va.of (l:List Entry):va where
 sig f:=match entry l f with
  |some e=>e.sig
  |none=>[]
 run f:=match entry l f with
  |some e=>e.run
  |none=>λ_ _=>none
inductive Ex where
 |n |x (id:Nat) |r
inductive CK where
 |kv (t:Ty) |pl (t:Ty) (s:Nat) (p:Path)
@[reducible] def aaI:List CK->Type
 |[]=>Unit
 | .kv t::r=>t.I×aaI r
 | .pl _ _ _::r=>aaI r
def Ia:(cs:List CK)->aaI cs->List Cap
 |[],_=>[]
 | .kv t::r,x=>.kv ⟨t,.k,x.1⟩::Ia r x.2
 | .pl t s p::r,x=>.pl t s p::Ia r x
def Po:(cs:List CK)->List Cap->Option (aaI cs)
 |[],[]=>some ()
 | .kv t::r,.kv ⟨t',m',x⟩::S=>if h:t'=t then(if m'=.k then match Po r S with
  |some y=>some (h▸x,y)
  |none=>none else none) else none
 | .pl t s p::r,.pl t' s' p'::S=>if t'=t then(bif Nat.beq s' s then(if p'=p then Po r S else none) else none) else none
 |_,_=>none
inductive Kd where
 |dead |v (t:Ty) (m:Md) |al (t:Ty) (s:Nat) |EL (f:FuncId) (cs:List CK)
@[reducible] def Ff:List Kd->Type
 |[]=>Unit
 | .v t _::r=>t.I×Ff r
 | .dead::r=>Ff r
 | .al _ _::r=>Ff r
 | .EL _ cs::r=>aaI cs×Ff r
def shape:(ks:List Kd)->Ff ks->St
 |[],_=>[]
 | .v t m::r,x=>.v ⟨t,m,x.1⟩ []::shape r x.2
 | .dead::r,x=>.dead::shape r x
 | .al t s::r,x=>.al t s []::shape r x
 | .EL f cs::r,x=>.EL f (Ia cs x.1)::shape r x.2
def proj:(ks:List Kd)->St->Option (Ff ks)
 |[],[]=>some ()
 | .v t m::r,.v ⟨t',m',x⟩ []::S=>if h:t'=t then(if m'=m then match proj r S with
  |some y=>some (h▸x,y)
  |none=>none else none) else none
 | .dead::r,_::S=>proj r S
 | .al t s::r,.al t' s' []::S=>if t'=t then(bif Nat.beq s' s then proj r S else none) else none
 | .EL f cs::r,.EL f' kn::S=>bif Nat.beq f' f then(match Po cs kn,proj r S with
  |some y,some z=>some (y,z)
  |_,_=>none) else none
 |_,_=>none
def xd (all:List Kd):List Kd->Bool
 |[]=>true
 | .al _ s::r=>(match all[s]? with
  |some (.v _ _)=>true
  |_=>false)&&xd all r
 | .EL _ cs::r=>(cs.all λc=>match c with
  | .kv _=>true
  | .pl _ s _=>match all[s]? with
   |some (.v _ _)=>true
   |_=>false)&&xd all r
 |_::r=>xd all r
inductive OT where
 |done |one (i:Nat) (t:OT) |any (l:List Nat) (t:OT) |par (l:List Nat) (ds:List (List Nat)) (t:OT) |own (d:Nat) (t:OT) |cut (ks:List Kd) (t:OT) |fz (q:Nat×Path) (t:OT)
def OT.seq:List Nat->OT->OT
 |[],t=>t
 |i::r,t=>.one i (OT.seq r t)
structure Hint where
 tab:kR
 hn:Hn:=[]
 loops:List (Nat×List Kd):=[]
 outs:List (Nat×Nat×List Kd):=[]
 dt:List (Nat×OT):=[]
 pK:Option (Nat×Bool):=none
 F5:List (Nat×List (Nat×Path)):=[]
 keep:List Nat:=[]
def ahc:Path->Bool
 |[]=>true | .idx _::_=>false |_::p=>ahc p
def St.auA (S:St) (q:Nat×Path):St:=match S.at q.1 with
 | .v r []=>match dA q.2 r.t r.m r.x with
  |some b=>bif b.m.eY|| !ahc q.2 then S else(match q.2 with
   |[]=>S.put (some q.1) (.v (kTV r) [])
   |_=>(match wk (kTV b) q.2 r.t r.m r.x with
    |some (m,z)=>St.put (((S.weaken q.1).cover q.1 q.2).set q.1 (.v r [q.2])) (some q.1) (.v ⟨r.t,m,z⟩ [])
    |none=>S))
  |none=>S
 |_=>S
def aj4:List (Nat×List (Nat×Path))->Nat->St->St
 |[],_,S=>S
 |q::r,id,S=>bif Nat.beq q.1 id then q.2.foldl St.auA S else aj4 r id S
def AX:List (Nat×List Kd)->Nat->Option (List Kd)
 |[],_=>none
 |q::r,k=>bif Nat.beq q.1 k then some q.2 else AX r k
def auB (S:St) (i:Nat):Kd->St
 | .v _ m=>bif m.eY then S else match S.at i with
  | .al t s []=>(match S.pA (.tmp i) (.al t s []) with
   |some (a,S1)=>S1.put (some i) (.v a [])
   |none=>S)
  |_=>S
 |_=>S
def aj5:List Kd->Nat->St->St
 |[],_,S=>S
 |k::r,i,S=>aj5 r (i+1) (auB S i k)
def JL (ks:List Kd) (S:St):Option St:=bif xd ks ks then(match proj ks (aj5 ks 0 S) with
  |some x=>some (shape ks x)
  |none=>none) else none
def Hint.clean (h:Hint) (key:Nat) (S:St):Option St:=match AX h.loops key with
 |some ks=>JL ks S
 |none=>none
def Ex.num:Ex->Nat
 | .n=>0 | .r=>1 | .x id=>id+2
def awW:List (Nat×Nat×List Kd)->Nat->Nat->Option (List Kd)
 |[],_,_=>none
 |q::r,k,e=>bif Nat.beq q.1 k&&Nat.beq q.2.1 e then some q.2.2 else awW r k e
def adS (S:St):Cap->Option TV
 | .pl _ s p=>match S.place s p with
  |some a=>some (kTV a)
  |none=>none
 | .kv a=>some a
def Nk (S:St):List Cap->Option (List TV)
 |[]=>some []
 |c::r=>match adS S c,Nk S r with
  |some a,some l=>some (a::l)
  |_,_=>none
def vE (Θ:kR):St->List Operand->List TypeId->List Pass->Option (List (Option TV)×St)
 |S,[],_,_=>some ([],S)
 |S,x::xs,T::Ts,p::ps=>match p with
  | .val=>match vE Θ S xs Ts ps with
   |some r=>some (none::r.1,r.2)
   |none=>none
  | .take=>match S.take Θ T x with
   |some (a,S1)=>match vE Θ S1 xs Ts ps with
    |some r=>some (some a::r.1,r.2)
    |none=>none
   |none=>none
  | .OU=>none
 |_,_,_,_=>none
def reads (Θ:kR) (S:St):List Operand->List TypeId->List (Option TV)->Option (List Arg)
 |[],_,_=>some []
 |x::xs,T::Ts,p::ps=>match p with
  |some a=>match reads Θ S xs Ts ps with
   |some r=>some (.tv a::r)
   |none=>none
  |none=>match S.pJ Θ T x with
   |some (.EL f kn)=>match Nk S kn,reads Θ S xs Ts ps with
    |some l,some r=>some (.fn f l::r)
    |_,_=>none
   |some av=>match S.QV av,reads Θ S xs Ts ps with
    |some a,some r=>some (.tv (kTV a)::r)
    |_,_=>none
   |none=>none
 |_,_,_=>none
def adT:List TV->AV
 |[a]=>.v a []
 |l=>.QU (l.map some)
def amn (a:TV):Bool:=match a.t with
 | .ptr _=>a.m.eY
 |_=>false
def Pp (S:St) (f:FuncId):Option Nat->Option (List TV)
 |none=>some []
 |some i=>match S.at i with
  | .EL f' kn=>bif Nat.beq f' f then(match Nk S kn with
   |some l=>bif l.all amn then some l else none
   |none=>none) else none
  |_=>none
def JM:Md->Bool
 | .k=>true | .o _ tag m=>(match tag with
  |none=>true
  |some _=>false)&&JM m
 | .p a b=>JM a&&JM b
def tT:Ty->Bool
 | .sl _=>false | .ptr _=>false | .pair a b=>tT a&&tT b | .arr _ t=>tT t | .mp=>false |_=>true
def uI:Ty->Md->Bool
 | .sl t,.o _ _ m=>uI t m
 | .ptr t,.o _ _ m=>uI t m
 | .pair a b,.p m n=>uI a m&&uI b n
 |t,m=>m.eY&&tT t
def Sx (S:St):Operand->Bool
 | .tmp i=>(match S.at i with
  | .v b []=>b.m.eY
  |_=>false)
 | .const _=>true
 |_=>false
def x5 (S:St):List Operand->List (Option TV)->List Arg->Bool
 |[],_,_=>true
 |x::xs,p::ps,r::rs=>((match p with
  |some _=>true
  |none=>false)||(match r with
  | .tv b=>uI b.t b.m||Sx S x
  | .fn _ cs=>cs.isEmpty))&&x5 S xs ps rs
 |_,_,_=>false
def xN (h:Hint) (O:va) (o:Oper) (f:FuncId) (cal:Option Nat) (args:List Operand) (ts:List TypeId) (S:St) (K:St->Option iI):Option iI:=
 match vE h.tab S args ts (O.sig f) with
 |some (l,S1)=>match reads h.tab S1 args ts l,Pp S1 f cal with
  |some as,some cs=>O.run f (as++cs.map .tv) λret=>match ret.refs with
   |[]=>bif ret.res.all (λd=>uI d.t d.m)||(cs.isEmpty&&x5 S1 args l as) then K (S1.put o.dst (adT ret.res)) else none
   |_::_=>none
  |_,_=>none
 |none=>none
def sJ:Ty->Md->Bool
 | .sl _,.o _ _ m=>JM m
 | .ptr _,.o _ _ m=>JM m
 | .mp,.o _ _ m=>JM m
 | .pair a b,.p m n=>sJ a m&&sJ b n
 |_,m=>m.eY
def Pq:Ty->Md->Bool
 | .sl t,.o _ _ m=>uI t m
 | .ptr t,.o _ _ m=>uI t m
 | .mp,.o ..=>true
 | .pair a b,.p m n=>Pq a m&&Pq b n
 |_,m=>m.eY
def xO:Ty->Md->Nat->Md
 | .sl _,.o T _ m,n=>.o T (some n) m
 | .ptr _,.o T _ m,n=>.o T (some n) m
 | .mp,.o T _ m,n=>.o T (some n) m
 | .pair a b,.p ma mb,n=>.p (xO a ma n) (xO b mb (n+a.size))
 |_,m,_=>m
def rD:(t:Ty)->Md->t.I->t.I->t.I
 | .sl _,.o ..,_,y=>y
 | .ptr _,.o ..,_,y=>y
 | .mp,.o ..,_,y=>y
 | .pair a b,.p ma mb,x,y=>(rD a ma x.1 y.1,rD b mb x.2 y.2)
 |_,_,x,_=>x
def To:List Pass->Nat->Option Nat
 |[],_=>none
 | .OU::_,j=>some j
 |_::r,j=>To r (j+1)
def D1 (x:Operand):AV->Option (Nat×Path)
 | .v _ _=>match x with
  | .tmp i=>some (i,[])
  |_=>none
 | .al _ s p=>some (s,p)
 |_=>none
def St.Nl (S:St) (s:Nat) (b:TV):Path->Option St
 |[]=>some (S.put (some s) (.v b []))
 |p=>match S.at s with
  | .v r ex=>match wk b p r.t r.m r.x with
   |some (m,z)=>some (S.put (some s) (.v ⟨r.t,m,z⟩ ex.dropLast))
   |none=>none
  |_=>none
def Pr (h:Hint) (O:va) (o:Oper) (f:FuncId) (j:Nat) (args:List Operand) (ts:List TypeId) (S:St) (K:St->Option iI):Option iI:=
 match args[j]?,ts[j]? with
 |some x,some T=>match S.pJ h.tab T x with
  |some av=>match D1 x av,S.pA x av with
   |some (s,p),some (b,S1)=>bif !b.m.eY&&sJ b.t b.m then
     (match reads h.tab S1 args ts ((List.replicate args.length none).set j (some ⟨b.t,xO b.t b.m 0,b.x⟩)) with
     |some as=>bif Pq b.t b.m||x5 S1 args ((List.replicate args.length none).set j (some ⟨b.t,xO b.t b.m 0,b.x⟩)) as then O.run f as λret=>match ret.refs with
      |[c]=>bif ret.res.all (λd=>JM d.m&&(uI d.t d.m||x5 S1 args ((List.replicate args.length none).set j (some ⟨b.t,xO b.t b.m 0,b.x⟩)) as)) then(if hc:c.t=b.t then(if c.m=xO b.t b.m 0 then
        (match S1.Nl s ⟨b.t,b.m,rD b.t b.m b.x (hc▸c.x)⟩ p with
        |some S2=>K ((S.again S2 s).put o.dst (adT ret.res))
        |none=>none) else none) else none) else none
      |_=>none else none
     |none=>none) else none
   |_,_=>none
  |none=>none
 |_,_=>none
def both (a b:Option iI):Option iI:=open Classical in if a=b then a else none
theorem H4 (a:Option iI):both a a=a:=by simp[both]
theorem an' {a b:Option iI} {r:iI} (h:both a b=some r):a=some r/\b=some r:=by
 unfold both at h;split at h
 ·rename_i e;exact⟨h,by rw[←e];exact h⟩
 cases h
def amo (h:Hint) (dst:Option Nat) (T:TypeId) (eq:Bool) (x:Operand) (S:St) (K:St->Option iI):Option iI:=match S.rd h.tab 0 x with
 |some ⟨.sl t,_,xs⟩=>bif h.tab.is T (.sl t) then(bif List.isEmpty xs then both (K (S.put dst (.v ⟨.bool,.k,true⟩ []))) (K (S.put dst (.v ⟨.bool,.k,false⟩ []))) else K (S.put dst (.v ⟨.bool,.k,!eq⟩ []))) else none
 |_=>none
def Nn:Op->Bool
 | .binOp _ _ _ (.const (.slice none _ _)) _=>true
 |_=>false
def xe (h:Hint) (O:va) (o:Oper) (S:St) (K:St->Option iI):Option iI:=match o.op with
 | .call { callee:=.value (.func f),args:=as,argTypes:=ts }=>match To (O.sig f) 0 with
  |some j=>Pr h O o f j as.toList ts.toList S K
  |none=>xN h O o f none as.toList ts.toList S K
 | .call { callee:=.value (.tmp i),args:=as,argTypes:=ts }=>match S.at i with
  | .EL f _=>xN h O o f (some i) as.toList ts.toList S K
  |_=>none
 | .binOp .eql T x (.const (.slice none 0 0)) _=>amo h o.dst T true x S K
 | .binOp .neq T x (.const (.slice none 0 0)) _=>amo h o.dst T false x S K
 |_=>match ev h.tab h.hn S o with
  |some (g,S1)=>bif g then K S1 else none
  |none=>none
def cP (h:Hint) (O:va) (ops:Array Oper) (i:Nat) (S:St) (K:St->Option iI):Option iI:=match ops[i]? with
 |none=>none
 |some o=>match o.guard with
  |none=>xe h O o S K
  |some (j,want)=>match (ops[j]?).bind (·.dst) with
   |some d=>match S.at d with
    | .v ⟨.bool,m,q⟩ ex=>bif q then
      (bif want then xe h O o (S.set d (.v ⟨.bool,m,true⟩ ex)) K else K (St.put (S.set d (.v ⟨.bool,m,true⟩ ex)) o.dst .undef))
     else(bif want then K (St.put (S.set d (.v ⟨.bool,m,false⟩ ex)) o.dst .undef) else xe h O o (S.set d (.v ⟨.bool,m,false⟩ ex)) K)
    | .undef=>K (S.put o.dst .undef)
    |_=>none
   |none=>none
def JN (h:Hint) (O:va) (ops:Array Oper):List Nat->St->(St->Option iI)->Option iI
 |[],S,K=>K S
 |i::r,S,K=>cP h O ops i S (λS1=>JN h O ops r S1 K)
def x6 (S:St):Operand->Bool
 | .tmp i=>(match S.at i with
  | .v _ []=>true
  |_=>false)
 | .const _=>true
 |_=>false
def opK (S:St):Operand->Bool
 | .tmp i=>(match S.at i with
  | .v ⟨_,.k,_⟩ []=>true
  |_=>false)
 | .const _=>true
 |_=>false
def Zd (S:St):Option Operand->Bool
 |none=>true
 |some x=>x6 S x
def apA (O:va) (f:FuncId):Bool:=(O.sig f).all λp=>match p with
 | .val=>true
 |_=>false
def apB (ops:Array Oper) (x:Nat):Option Nat:=ops.toList.findSome? λo=>match o.dst,o.op with
 |some d,.fieldAddr _ (.tmp s) _=>bif Nat.beq d x then some s else none
 |_,_=>none
def Dc (O:va) (ops:Array Oper) (S:St) (o:Oper):Bool:=(match o.guard with
  |none=>true
  |some _=>false)&&(match o.dst with
  |some d=>!(S.at d).UX&&Nat.blt d S.length
  |none=>false)&&(match o.op with
  | .call { callee:=.value (.func f),args:=as,.. }=>apA O f&&as.toList.all (x6 S)
  | .call { callee:=.builtin .append,args:=as,.. }=>as.toList.all (x6 S)
  | .buildSlice _ _ ps=>ps.toList.all λq=>x6 S q.2
  | .load _ (.tmp x)=>(match apB ops x,S.at x with
   |some s,.ad _ s' p=>Nat.beq s' s&&(match S.ko s p with
    |some a=>a.m.eY
    |none=>false)
   |none,.v ⟨.ptr _,.k,_⟩ []=>true
   |none,.v ⟨.ptr _,.o ..,_⟩ []=>(match S.ko x [.deref] with
    |some a=>a.m.eY
    |none=>false)
   |_,_=>false)
  | .slice _ x lo hi none=>opK S x&&(Zd S lo&&Zd S hi)
  | .indexAddr _ x ix=>opK S x&&x6 S ix
  |_=>false)
def JO (h:Hint) (O:va) (ops:Array Oper):List Nat->St->(St->Option iI)->Option iI
 |[],S,K=>K S
 |i::r,S,K=>match ops[i]? with
  |some o=>bif Dc O ops S o then cP h O ops i S (λS1=>JO h O ops r S1 K) else none
  |none=>none
def slotsOf:AV->List Nat
 | .al _ s _=>[s] | .ad _ s _=>[s] | .cut _ s _ _ _=>[s]
 | .EL _ kn=>kn.filterMap λc=>match c with
  | .pl _ s _=>some s
  | .kv _=>none
 |_=>[]
def vF (Δ:Nat->Bool):St->Nat->Bool
 |[],_=>true
 |a::r,i=>((slotsOf a).all λs=>Δ i==Δ s)&&vF Δ r (i+1)
def H5 (Δ:Nat->Bool):Operand->Bool
 | .tmp i=>Δ i
 | .const _=>true
 | .func _=>true
 | .global _=>false
def auC (Δ:Nat->Bool) (o:Oper):Bool:=match o.dst,o.op with
 |some d,.store ..=>false
 |some d,_=>Δ d
 |none,.store ..=>true
 |none,_=>false
def so (Δ:Nat->Bool) (o:Oper):Bool:=(match o.guard with
  |none=>true
  |some _=>false)&&auC Δ o&&(match o.op with
 | .store _ x y=>H5 Δ x&&H5 Δ y
 | .makeSlice _ l c=>H5 Δ l&&H5 Δ c
 | .alloc _=>true
 | .buildSlice _ _ ps=>ps.toList.all λq=>H5 Δ q.2
 | .load _ x=>H5 Δ x
 | .move x=>H5 Δ x
 | .extract x _=>H5 Δ x
 | .binOp _ _ x y _=>H5 Δ x&&(H5 Δ y&& !Nn o.op)
 | .fieldAddr _ x _=>H5 Δ x
 | .indexAddr _ x ix=>H5 Δ x&&H5 Δ ix
 | .convert _ _ x=>H5 Δ x
 | .call { callee:=.builtin .append,args:=as,.. }=>as.toList.all (H5 Δ)
 | .call { callee:=.value (.func _),args:=as,.. }=>as.toList.all (H5 Δ)
 |_=>false)
def Tp (l:List Nat) (i:Nat):Bool:=l.any (Nat.beq i)
def aoa (l:List Nat) (i:Nat):Bool:=!Tp l i
def Ib (ds:List (List Nat)) (S:St):Bool:=ds.all λd=>vF (Tp d) S 0
def aAy (ds:List (List Nat)) (oi oj:Oper):Bool:=ds.any λd=>(so (Tp d) oi&&so (aoa d) oj)||(so (aoa d) oi&&so (Tp d) oj)
def exB (oi oj:Oper):Bool:=match oi.guard,oj.guard,oi.dst,oj.dst,oi.op,oj.op with
 |none,none,some a,some b,.extract (.tmp x) p,.extract (.tmp y) q=>Nat.beq x y&&(!Nat.beq p q&&(!Nat.beq a b&&(!Nat.beq a x&& !Nat.beq b x)))
 |_,_,_,_,_,_=>false
def ldB (oi oj:Oper):Bool:=match oi.guard,oj.guard,oi.dst,oj.dst,oi.op,oj.op with
 |none,none,some a,some b,.load _ (.tmp x),.load _ (.tmp y)=>!Nat.beq a b&&(!Nat.beq a x&&(!Nat.beq a y&&(!Nat.beq b x&& !Nat.beq b y)))
 |_,_,_,_,_,_=>false
def apC (o:Oper):List Nat:=match o.dst with
 |some d=>[d]
 |none=>[]
def apD (Θ:kR) (o:Oper):Bool:=match o.guard,o.dst,o.op with
 |none,some _,.load T (.tmp _)=>(match Θ.find T with
  |some i=>i.ty.flat
  |none=>false)
 |_,_,_=>false
def Ps (Θ:kR) (d:List Nat) (o:Oper):Bool:=so (Tp d) o||(so (aoa d) o||apD Θ o)
def eqN:List Nat->List Nat->Bool
 |[],[]=>true
 |a::r,b::s=>Nat.beq a b&&eqN r s
 |_,_=>false
def amp (us:List (List Nat)) (d:List Nat):Bool:=us.any (eqN d)
def U4 (us:List (List Nat)) (oi oj:Oper):Bool:=exB oi oj||((ldB oi oj&&(amp us (apC oi)&&amp us (apC oj)))||aAy us oi oj)
def amq (S:St) (d:Nat):Option (Bool×St):=match S.at d with
 | .al _ s (st::pp)=>(match S.at s with
  | .v r ex=>(match dA (st::pp) r.t r.m r.x with
   |some b=>bif b.m.eY then none else some (ex.all (λh=>!Na h (st::pp)),St.put (((S.weaken s).cover s (st::pp)).set s (.v r (ex++[st::pp]))) (some d) (.v b []))
   |none=>none)
  |_=>none)
 |_=>none
def kr (h:Hint) (O:va) (ops:Array Oper):OT->St->(St->Option iI)->Option iI
 | .done,S,K=>K S
 | .one i t,S,K=>cP h O ops i S (λS1=>kr h O ops t S1 K)
 | .any l t,S,K=>JO h O ops l S (λS1=>kr h O ops t S1 K)
 | .own d t,S,K=>match amq S d with
  |some (g,S1)=>bif g then kr h O ops t S1 K else none
  |none=>none
 | .cut ks t,S,K=>match JL ks S with
  |some S1=>kr h O ops t S1 K
  |none=>none
 | .fz q t,S,K=>kr h O ops t (S.auA q) K
 | .par l ds t,S,K=>bif Ib ds S then JN h O ops l S (λS1=>kr h O ops t S1 K) else none
def quiet:Op->Bool
 | .move _=>true | .assign _=>true | .pick ..=>true | .build ..=>true | .load ..=>true | .nilCheck _=>true | .fieldAddr ..=>true | .field ..=>true | .indexAddr ..=>true | .index ..=>true
 | .extract ..=>true | .slice ..=>true | .convert ..=>true | .binOp ..=>true | .unOp ..=>true | .makeFunc ..=>true | .call { callee:=.builtin .len,.. }=>true |_=>false
def ZQ (O:va):Op->Bool
 | .alloc _=>true | .box ..=>true | .buildSlice ..=>true | .makeSlice ..=>true | .makeMap ..=>true
 | .call { callee:=.value (.func f),.. }=>(O.sig f).all λp=>match p with
  | .val=>true
  |_=>false
 |o=>quiet o
def still:Op->Bool
 | .extract ..=>true | .indexAddr ..=>true | .binOp ..=>true | .slice ..=>true | .move _=>true | .convert ..=>true | .fieldAddr ..=>true | .build ..=>true | .call { callee:=.builtin .len,.. }=>true |_=>false
def XI (Θ:kR) (o:Op):Bool:=still o&& !Nn o&&(match o with
 | .convert _ T' _=>(match Θ.find T' with
  |some i=>(match i.ty with
   | .int _=>true
   |_=>false)
  |none=>false)
 |_=>true)
def D2 (ops:Array Oper) (oi:Oper) (rest:Nat):List Oper->Nat->Bool
 |[],_=>true
 |oj::r,j=>(bif Nat.testBit rest j then oi.apart ops oj else true)&&D2 ops oi rest r (j+1)
def dv (o:Oper):Nat:=o.after.toList.foldr (λe m=>bif Region.binds .any e then m|||2^e.on else m) 0
def dw (i:Nat):List Nat->Nat->Nat->Nat
 |[],_,acc=>acc
 |m::r,j,acc=>dw i r (j+1) (bif Nat.beq j i|| !(Nat.beq (m&&&acc) 0) then acc|||2^j else acc)
def U5 (O:va) (ops:Array Oper) (oi:Oper) (rest:Nat):List Oper->Nat->Bool
 |[],_=>true
 |oj::r,j=>(bif Nat.testBit rest j then oi.apart ops oj&&ZQ O oj.op else true)&&U5 O ops oi rest r (j+1)
def apE (Θ:kR) (O:va) (ops:Array Oper) (as:List Nat) (full L i:Nat):Bool:=match as[i]?,ops[i]? with
 |some m,some oi=>!Nat.testBit L i&&Nat.beq (m&&&L) m&&Nat.beq (dw i as 0 0&&&L) 0&&(Nat.beq (full^^^(dw i as 0 0|||L)) 0||(quiet oi.op&&(!Nn oi.op&&U5 O ops oi (full^^^(dw i as 0 0|||L)) ops.toList 0))||(XI Θ oi.op&&D2 ops oi (full^^^(dw i as 0 0|||L)) ops.toList 0))
 |_,_=>false
def cF:Operand->List Nat
 | .tmp i=>[i]
 |_=>[]
def sK:Option Operand->List Nat
 |none=>[]
 |some x=>cF x
def cQ (ops:Array Oper) (o:Oper):List Nat:=match o.op with
 | .call c=>c.args.toList.flatMap cF
 | .buildSlice _ _ ps=>ps.toList.flatMap λq=>cF q.2
 | .load _ (.tmp x)=>(match apB ops x with
  |some s=>[x,s]
  |none=>[x])
 | .slice _ x lo hi _=>cF x++(sK lo++sK hi)
 | .indexAddr _ x ix=>cF x++cF ix
 |_=>[]
def Dd (o:Oper):Bool:=match o.op with
 | .call { callee:=.value (.func _),.. }=>true
 | .load ..=>true
 | .slice ..=>true
 | .indexAddr ..=>true
 |_=>false
def adU (ops:Array Oper) (oi oj:Oper):Bool:=(match oi.dst,oj.dst with
  |some a,some b=>!Nat.beq a b&& !(cQ ops oj).any (Nat.beq a)&& !(cQ ops oi).any (Nat.beq b)
  |_,_=>false)&&((Dd oi&&Dd oj)|| !(cQ ops oi).any λr=>(cQ ops oj).any (Nat.beq r))
def aaJ (ops:Array Oper) (as:List Nat):List Nat->Bool
 |[]=>true
 |i::r=>(r.all λj=>match as[j]?,ops[i]?,ops[j]? with
  |some m,some oi,some oj=>!Nat.beq i j&&(Nat.testBit m i||adU ops oi oj)
  |_,_,_=>false)&&aaJ ops as r
def qu (l:List Nat):Nat:=l.foldr (λi m=>m|||2^i) 0
def Ic (as:List Nat):Nat->List Nat->Bool
 |_,[]=>true
 |L,i::r=>(match as[i]? with
  |some m=>Nat.beq (m&&&L) m
  |none=>false)&&Ic as (L|||2^i) r
def auD (ops:Array Oper) (as:List Nat) (full L:Nat) (l:List Nat):Bool:=!l.isEmpty&&(l.all λi=>Nat.blt i ops.size&& !Nat.testBit L i&&Nat.beq (dw i as 0 0&&&L) 0&&Nat.beq (full^^^(dw i as 0 0|||L|||qu l)) 0)&&aaJ ops as l&&Ic as L l
def afi (Θ:kR) (ops:Array Oper) (as:List Nat) (l:List Nat) (i j:Nat) (d:List Nat):Bool:=l.all λz=>Nat.beq z i||(Nat.beq z j||(Nat.testBit (dw i as 0 0) z||(Nat.testBit (dw j as 0 0) z||(match ops[z]? with
 |some oz=>Ps Θ d oz
 |none=>false))))
def Lr (Θ:kR) (ops:Array Oper) (as:List Nat) (ds:List (List Nat)) (l:List Nat):List Nat->Bool
 |[]=>true
 |i::r=>(r.all λj=>match ops[i]?,ops[j]? with
  |some oi,some oj=>!Nat.beq i j&&(!Nat.testBit (dw j as 0 0) i&&(Nat.testBit (dw i as 0 0) j||U4 (ds.filter (afi Θ ops as l i j)) oi oj))
  |_,_=>false)&&Lr Θ ops as ds l r
def apF (Θ:kR) (ops:Array Oper) (as:List Nat) (full L i:Nat):Bool:=match ops[i]? with
 |some oi=>XI Θ oi.op&&D2 ops oi (full^^^(full&&&(dw i as 0 0|||L|||dv oi))) ops.toList 0
 |none=>false
def auE (Θ:kR) (ops:Array Oper) (as:List Nat) (full L:Nat) (l:List Nat) (ds:List (List Nat)):Bool:=
 !l.isEmpty&&(l.all λi=>Nat.blt i ops.size&& !Nat.testBit L i&&Nat.beq (dw i as 0 0&&&L) 0&&(Nat.beq (full^^^(dw i as 0 0|||L|||qu l)) 0||apF Θ ops as full L i))&&Lr Θ ops as ds l l&&Ic as L l&&l.all λi=>match ops[i]? with
  |some o=>!Nn o.op
  |none=>false
def pW (Θ:kR) (O:va) (ops:Array Oper) (as:List Nat) (full:Nat):Nat->OT->Bool
 |L,.done=>Nat.beq L full
 |L,.one i t=>apE Θ O ops as full L i&&pW Θ O ops as full (L|||2^i) t
 |L,.any l t=>auD ops as full L l&&pW Θ O ops as full (L|||qu l) t
 |L,.own _ t=>pW Θ O ops as full L t
 |L,.cut _ t=>pW Θ O ops as full L t
 |L,.fz _ t=>pW Θ O ops as full L t
 |L,.par l ds t=>auE Θ ops as full L l ds&&pW Θ O ops as full (L|||qu l) t
def OT.len:OT->Nat
 | .done=>0 | .one _ t=>t.len+1 | .any l t=>t.len+l.length | .par l _ t=>t.len+l.length | .own _ t=>t.len | .cut _ t=>t.len | .fz _ t=>t.len
def axU (Θ:kR) (O:va) (ops:Array Oper) (l:OT):Bool:=Region.noSelect ops&&Nat.ble l.len ops.size&&pW Θ O ops (ops.toList.map dv) (2^ops.size - 1) 0 l
def adV (S:St):St:=S.map λa=>match a with
 | .al t s []=>.al t s []
 | .al ..=>.dead
 | .ad ..=>.dead
 | .cut ..=>.dead
 |a=>a
def QW (ks:List Nat):Nat->St->St
 |_,[]=>[]
 |i,a::r=>(bif Tp ks i then a else match a with
  | .al t s []=>.al t s []
  | .al ..=>.dead
  | .ad ..=>.dead
  | .cut ..=>.dead
  |a=>a)::QW ks (i+1) r
def aaK (ks:List Nat) (S:St):St:=match ks with
 |[]=>adV S
 |_=>QW ks 0 S
def OT.line:OT->Option (List Nat)
 | .done=>some []
 | .one j t=>t.line.map (j:: ·)
 | .cut _ t=>t.line
 | .fz _ t=>t.line
 |_=>none
def awX (l:OT) (n:Nat):Bool:=match l.line with
 |some q=>eqN q (List.range n)
 |none=>false
def ahd:List (Nat×OT)->Nat->Option OT
 |[],_=>none
 |q::r,k=>bif Nat.beq q.1 k then some q.2 else ahd r k
def pc (h:Hint) (O:va):Code->Bool
 | .region id ops true=>(match ahd h.dt id with
  |some l=>axU h.tab O ops l
  |none=>true)
 | .region id ops false=>(match ahd h.dt id with
  |some l=>awX l ops.size
  |none=>true)
 | .seq a b=>pc h O a&&pc h O b
 | .cond _ a b=>pc h O a&&pc h O b
 | .block _ c=>pc h O c
 | .loop c=>pc h O c
 |_=>true
def keyOf:Code->Nat
 | .region id _ _=>id
 | .seq a _=>keyOf a
 | .block _ c=>keyOf c
 | .loop c=>keyOf c
 |_=>0
def Ls (ops:Array Oper):Bool:=ops.toList.all λo=>!Nn o.op
def rE:Code->Bool
 | .region _ ops _=>Ls ops
 | .seq a b=>rE a&&rE b
 | .cond _ a b=>rE a&&rE b
 | .block _ c=>rE c
 | .loop c=>rE c
 |_=>true
abbrev Ks:=Ex->St->Option iI
def Hint.nf (h:Hint) (key:Nat) (K:Ks):Ks:=λe S=>match awW h.outs key e.num with
 |some ks=>(match JL ks S with
  |some S1=>K e S1
  |none=>none)
 |none=>none
def pe (h:Hint) (O:va) (L:Nat->St->Ks->Option iI):Code->St->Ks->Option iI
 | .skip,S,K=>K .n S
 | .region id ops false,S,K=>match ahd h.dt id with
  |some l=>kr h O ops l S (λS1=>K .n (aj4 h.F5 id (aaK h.keep S1)))
  |none=>JN h O ops (List.range ops.size) S (λS1=>K .n (aj4 h.F5 id (aaK h.keep S1)))
 | .region id ops true,S,K=>match ahd h.dt id with
  |some l=>kr h O ops l S (λS1=>K .n (aj4 h.F5 id (aaK h.keep S1)))
  |none=>none
 | .seq a b,S,K=>pe h O L a S (λe S1=>match e with
  | .n=>pe h O L b S1 K
  |e=>K e S1)
 | .cond c x y,S,K=>match S.rd h.tab 0 c with
  |some ⟨.bool,_,q⟩=>bif q then pe h O L x S K else pe h O L y S K
  |_=>none
 | .block id c,S,K=>pe h O L c S (λe S1=>match e with
  | .x id'=>bif Nat.beq id' id then K .n S1 else K (.x id') S1
  |e=>K e S1)
 | .loop c,S,K=>match h.clean (keyOf c) S with
  |some S1=>L (keyOf c) S1 (h.nf (keyOf c) K)
  |none=>none
 | .exit id,S,K=>K (.x id) S
 | .ret,S,K=>K .r S
 |_,_,_=>none
def JE (Lf:Nat->Nat->St->Ks->Option iI) (N n aC7:Nat):Nat->St->Ks->Option iI:=λkey S K=>bif Nat.beq key aC7 then Lf n key S K else Lf N key S K
def sq (h:Hint) (O:va) (L:Nat->St->Ks->Option iI) (c:Code) (S:St) (K:Ks):Option iI:=
 pe h O L c S (λe S1=>match e with
  | .n=>(match h.clean (keyOf c) S1 with
   |some S2=>L (keyOf c) S2 K
   |none=>none)
  |e=>K e S1)
def KV (Θ:kR) (S:St):List ResultVar->Option (List TV×St)
 |[]=>some ([],S)
 | .tmp t::r=>match S.pA (.tmp t) (S.at t) with
  |some (a,S1)=>match KV Θ S1 r with
   |some (l,S2)=>some (a::l,S2)
   |none=>none
  |none=>none
 | .cell t T::r=>match S.at t with
  | .v ⟨.ptr ty,.o _ _ me,x⟩ []=>match KV Θ (S.put (some t) .dead) r with
   |some (l,S2)=>bif Θ.is T ty then some (⟨ty,me,x⟩::l,S2) else none
   |none=>none
  |_=>none
def awY:Arg->AV
 | .tv a=>.v a []
 | .fn f kn=>.EL f (kn.map .kv)
def start (fn:Func) (args:List Arg):St:=args.map awY++List.replicate (fn.ntmps - args.length) .undef
def aaL:Bool->TV->Option TV
 |false,b=>some b
 |true,⟨.ptr t,.o _ _ me,x⟩=>some ⟨t,me,x⟩
 |true,_=>none
def tU (h:Hint) (O:va) (L:Nat->St->Ks->Option iI) (fn:Func) (args:List Arg) (K:iI->Option iI):Option iI:=
 match fn.body with
 |some c=>pe h O L c (start fn args) (λe S=>match e with
  | .x _=>none
  |_=>match KV h.tab S fn.results.toList with
   |some (l,S1)=>(match h.pK with
    |none=>K ⟨l,[]⟩
    |some q=>match S1.at q.1 with
     | .v b []=>(match aaL q.2 b with
      |some c=>K ⟨l,[c]⟩
      |none=>none)
     |_=>none)
   |none=>none)
 |none=>none
end Go.Pv
namespace Go.Pv
open List Int IntKind
def ja {σ:Type} (X:(σ->Option iI)->Option iI):Prop:=∃ o:Option σ,∀ K,X K=o.bind K
theorem ja.none {σ:Type}:ja (σ:=σ) λ_=>none:=⟨.none,λ_=>rfl⟩
theorem ja.pure {σ:Type} (s:σ):ja λK=>K s:=⟨some s,λ_=>rfl⟩
theorem ja.bind {σ τ:Type} {X:(σ->Option iI)->Option iI} {Y:σ->(τ->Option iI)->Option iI} (h:ja X) (hy:∀ s,ja (Y s)):ja λK=>X λs=>Y s K:=by
 obtain⟨o,ho⟩:=h;cases o with
 |none=>exact⟨.none,λK=>ho _⟩
 |some s=>obtain⟨o',ho'⟩:=hy s;exact⟨o',λK=>(ho _).trans (ho' K)⟩
theorem ja.bif {σ:Type} {X Y:(σ->Option iI)->Option iI} (c:Bool) (hx:ja X) (hy:ja Y):ja λK=>bif c then X K else Y K:=by cases c<;>assumption
def Lt (O:va):Prop:=∀ f as,ja (O.run f as)
def ov (X:Ks->Option iI):Prop:=∃ o:Option (Ex×St),∀ K,X K=o.bind λq=>K q.1 q.2
theorem ov.none:ov λ_=>none:=⟨.none,λ_=>rfl⟩
theorem ov.pure (e:Ex) (S:St):ov λK=>K e S:=⟨some (e,S),λ_=>rfl⟩
theorem ov.bind {X:Ks->Option iI} {Y:Ex->St->Ks->Option iI} (h:ov X) (hy:∀ e S,ov (Y e S)):ov λK=>X λe S=>Y e S K:=by
 obtain⟨o,ho⟩:=h;cases o with
 |none=>exact⟨.none,λK=>ho _⟩
 |some s=>obtain⟨o',ho'⟩:=hy s.1 s.2;exact⟨o',λK=>(ho _).trans (ho' K)⟩
theorem ov.of {X:(St->Option iI)->Option iI} {Y:St->Ks->Option iI} (h:ja X) (hy:∀ S,ov (Y S)):ov λK=>X λS=>Y S K:=by
 obtain⟨o,ho⟩:=h;cases o with
 |none=>exact⟨.none,λK=>ho _⟩
 |some s=>obtain⟨o',ho'⟩:=hy s;exact⟨o',λK=>(ho _).trans (ho' K)⟩
theorem ov.to {X:Ks->Option iI} {Y:Ex->St->(iI->Option iI)->Option iI} (h:ov X) (hy:∀ e S,ja (Y e S)):ja λK=>X λe S=>Y e S K:=by
 obtain⟨o,ho⟩:=h;cases o with
 |none=>exact⟨.none,λK=>ho _⟩
 |some s=>obtain⟨o',ho'⟩:=hy s.1 s.2;exact⟨o',λK=>(ho _).trans (ho' K)⟩
variable {h:Hint} {O:va} {ops:Array Oper}
theorem aaM (hO:Lt O) (o:Oper) (f:FuncId) (cal:Option Nat) (as:List Operand) (ts:List TypeId) (S:St):ja (xN h O o f cal as ts S):=by
 unfold xN;split
 ·split
  ·refine(hO f _).bind λret=>?_;split
   ·exact ja.bif _ (ja.pure _) ja.none
   exact ja.none
  exact ja.none
 exact ja.none
theorem aj6 (hO:Lt O) (o:Oper) (f:FuncId) (j:Nat) (as:List Operand) (ts:List TypeId) (S:St):ja (Pr h O o f j as ts S):=by
 unfold Pr;split
 ·split
  ·split
   ·refine ja.bif _ ?_ ja.none;split
    ·refine ja.bif _ ?_ ja.none;refine(hO f _).bind λret=>?_;split
     ·refine ja.bif _ ?_ ja.none;split
      ·split
       ·split
        ·exact ja.pure _
        exact ja.none
       exact ja.none
      exact ja.none
     exact ja.none
    exact ja.none
   exact ja.none
  exact ja.none
 exact ja.none
theorem aaN (hO:Lt O) (o:Oper) (hn:Nn o.op=false) (S:St):ja (xe h O o S):=by
 unfold xe;split
 ·split
  ·exact aj6 hO ..
  exact aaM hO ..
 ·split
  ·exact aaM hO ..
  exact ja.none
 ·rename_i ho;rw[ho] at hn;cases hn
 ·rename_i ho;rw[ho] at hn;cases hn
 split
 ·exact ja.bif _ (ja.pure _) ja.none
 exact ja.none
theorem zp (hO:Lt O) (i:Nat) (hn:∀ o,ops[i]?=some o->Nn o.op=false) (S:St):ja (cP h O ops i S):=by
 unfold cP;split
 ·exact ja.none
 rename_i o ho;have hn:=hn o ho;split
 ·exact aaN hO _ hn _
 split
 ·split
  ·exact ja.bif _ (ja.bif _ (aaN hO _ hn _) (ja.pure _)) (ja.bif _ (ja.pure _) (aaN hO _ hn _))
  ·exact ja.pure _
  exact ja.none
 exact ja.none
theorem aaO (hp:Ls ops=true) (i:Nat) (o:Oper) (ho:ops[i]?=some o):Nn o.op=false:=by unfold Ls at hp;have:=aJ.1 hp o (by rw[←bI] at ho;exact da ho);simpa using this
theorem XJ (hO:Lt O) (hp:Ls ops=true):∀ (l:List Nat) (S:St),ja (JN h O ops l S)
 |[],S=>ja.pure S
 |i::r,S=>(zp hO i (aaO hp i) S).bind λS1=>XJ hO hp r S1
theorem adW (hO:Lt O) (hp:Ls ops=true):∀ (l:List Nat) (S:St),ja (JO h O ops l S)
 |[],S=>ja.pure S
 |i::r,S=>by
  simp only[show JO h O ops (i::r) S=λK=>JO h O ops (i::r) S K from rfl,JO];split
  ·exact ja.bif _ ((zp hO i (aaO hp i) S).bind λS1=>adW hO hp r S1) ja.none
  exact ja.none
theorem wv (hO:Lt O) (hp:Ls ops=true):∀ (t:OT) (S:St),ja (kr h O ops t S)
 | .done,S=>ja.pure S
 | .one i t,S=>(zp hO i (aaO hp i) S).bind λS1=>wv hO hp t S1
 | .any l t,S=>(adW hO hp l S).bind λS1=>wv hO hp t S1
 | .own d t,S=>by
  show ja λK=>kr h O ops (.own d t) S K;simp only[kr];cases amq S d with
  |none=>exact ja.none
  |some q=>exact ja.bif _ (wv hO hp t q.2) ja.none
 | .cut ks t,S=>by
  show ja λK=>kr h O ops (.cut ks t) S K;simp only[kr];cases JL ks S with
  |none=>exact ja.none
  |some S1=>exact wv hO hp t S1
 | .fz q t,S=>by show ja λK=>kr h O ops (.fz q t) S K;simp only[kr];exact wv hO hp t _
 | .par l ds t,S=>ja.bif _ ((XJ hO hp l S).bind λS1=>wv hO hp t S1) ja.none
def aob (h:Hint) (L:Nat->St->Ks->Option iI) (key:Nat):Prop:=∀ (ks:List Kd) (x:Ff ks),AX h.loops key=some ks->ov λK=>L key (shape ks x) (h.nf key K)
def rF:Code->List Nat
 | .seq a b=>rF a++rF b
 | .cond _ a b=>rF a++rF b
 | .block _ c=>rF c
 | .loop c=>keyOf c::rF c
 |_=>[]
theorem U6 {S S1:St} {key:Nat} (e:h.clean key S=some S1):∃ ks x,AX h.loops key=some ks/\S1=shape ks x:=by
 unfold Hint.clean at e;split at e;case h_2=>cases e
 rename_i ks XE;unfold JL at e;cases hk:xd ks ks with
 |false=>rw[hk] at e;cases e
 |true=>
 rw[hk] at e;simp only[ab] at e;split at e;case h_2=>cases e
 rename_i x hx;injection e with e;exact⟨ks,x,XE,e.symm⟩
theorem Tq (hO:Lt O) {L:Nat->St->Ks->Option iI}:∀ (c:Code) (S:St),rE c=true->(∀ k∈rF c,aob h L k)->ov (pe h O L c S)
 | .skip,S,_,_=>ov.pure _ _
 | .region id ops false,S,hp,_=>by
  show ov λK=>pe h O L (.region id ops false) S K;simp only[pe];split
  ·exact ov.of (wv hO hp _ S) λS1=>ov.pure _ _
  exact ov.of (XJ hO hp _ S) λS1=>ov.pure _ _
 | .region id ops true,S,hp,_=>by
  show ov λK=>pe h O L (.region id ops true) S K;simp only[pe];split
  ·exact ov.of (wv hO hp _ S) λS1=>ov.pure _ _
  exact ov.none
 | .seq a b,S,hp,hL=>by
  simp only[rE,ai] at hp;show ov λK=>pe h O L (.seq a b) S K;simp only[pe];refine ov.bind (Tq hO a S hp.1 λk hk=>hL k (by simp[rF,hk])) λe S1=>?_;cases e with
  |n=>exact Tq hO b S1 hp.2 λk hk=>hL k (by simp[rF,hk])
  |x id=>exact ov.pure _ _
  |r=>exact ov.pure _ _
 | .cond c x y,S,hp,hL=>by
  simp only[rE,ai] at hp;show ov λK=>pe h O L (.cond c x y) S K;simp only[pe];split
  ·rename_i q _;cases q with
   |true=>exact Tq hO x S hp.1 λk hk=>hL k (by simp[rF,hk])
   |false=>exact Tq hO y S hp.2 λk hk=>hL k (by simp[rF,hk])
  exact ov.none
 | .block id c,S,hp,hL=>by
  simp only[rE] at hp;show ov λK=>pe h O L (.block id c) S K;simp only[pe];refine ov.bind (Tq hO c S hp λk hk=>hL k (by simpa[rF] using hk)) λe S1=>?_;cases e with
  |n=>exact ov.pure _ _
  |x id'=>
   cases h:Nat.beq id' id with
   |true=>exact⟨some (.n,S1),λK=>by simp[h]⟩
   |false=>exact⟨some (.x id',S1),λK=>by simp[h]⟩
  |r=>exact ov.pure _ _
 | .loop c,S,_,hL=>by
  show ov λK=>pe h O L (.loop c) S K;simp only[pe];split
  ·rename_i S1 hS1;obtain⟨ks,x,hk,rfl⟩:=U6 hS1;exact hL (keyOf c) (by simp[rF]) ks x hk
  exact ov.none
 | .exit id,S,_,_=>ov.pure _ _
 | .ret,S,_,_=>ov.pure _ _
 | .rangeFunc ..,S,_,_=>ov.none
 | .scope _,S,_,_=>ov.none
 | .label _,S,_,_=>ov.none
 | .goto _,S,_,_=>ov.none
 | .refuse _,S,_,_=>ov.none
theorem adX (h:Hint) (key:Nat) (e:Ex) (S:St):ov λK=>h.nf key K e S:=by
 unfold Hint.nf;split
 ·split
  ·exact ov.pure _ _
  exact ov.none
 exact ov.none
theorem aaP (fn:Func) (S:St):ja λ(K:iI->Option iI)=>(match KV h.tab S fn.results.toList with
   |some (l,S1)=>(match h.pK with
    |none=>K ⟨l,[]⟩
    |some q=>match S1.at q.1 with
     | .v b []=>(match aaL q.2 b with
      |some c=>K ⟨l,[c]⟩
      |none=>none)
     |_=>none)
   |none=>none):=by
 split
 ·split
  ·exact ja.pure _
  ·split
   ·split
    ·exact ja.pure _
    ·exact ja.none
   ·exact ja.none
 ·exact ja.none
theorem aj7 (hO:Lt O) {L:Nat->St->Ks->Option iI} {fn:Func} {body:Code} (hb:fn.body=some body) (hp:rE body=true) (hL:∀ k∈rF body,aob h L k) (args:List Arg):ja (tU h O L fn args):=by
 unfold tU;rw[hb];simp only;refine ov.to (Tq hO body _ hp hL) λe S=>?_;cases e with
 |n=>exact aaP fn S
 |x id=>exact ja.none
 |r=>exact aaP fn S
end Go.Pv
namespace Go.Pv
open List Int IntKind
def isAgg:Ty->Bool
 | .pair _ _=>true | .unit=>true | .arr _ _=>true |_=>false
def a6 (t:Ty) (v:Value) (cs:List Value):Prop:=if isAgg t=true then v=.agg cs.toArray else cs=[v]
section
variable (w:World) (Av:Nat->Prop) (H:Nat->Value) (tm:Nat->Value) (S:St)
structure Ref (t:Ty) (s:Nat) (p:Path) (r:TV) (kI:List Value):Prop where
 at_:∃ ex,S.at s=.v r ex/\open_ p ex
 val:valid p r.t r.x
 get:∃ b,dA p r.t r.m r.x=some b/\b.t=t
 mat:a6 r.t (tm s) kI
def Ie:Cap->Value->Prop
 | .kv a,u=>K w Av a.t a.x [u]
 | .pl t s p,u=>∃ r kI cs,Ref tm S (.ptr t) s p r kI/\cz w p r.t kI=some cs/\a6 (.ptr t) u cs
def Holds (own:Nat->Prop):AV->Value->Prop
 | .dead,_=>True
 | .undef,v=>v=undef
 | .v a ex,v=>∃ cs,a6 a.t v cs/\M w Av H a.t a.m a.x cs own ex
 | .QU l,v=>∃ (vs:List Value) (τ:Nat->Nat),v=.tuple vs.toArray/\vs.length=l.length/\ ∀ (j:Nat) (a:TV),l[j]?=some (some a)->∃ u cs,vs[j]?=some u/\a6 a.t u cs/\M w Av H a.t a.m a.x cs (λg=>own g/\τ g=j) []
 | .al t s p,v=>∃ r kI cs,Ref tm S t s p r kI/\cz w p r.t kI=some cs/\a6 t v cs
 | .ad t s p,v=>∃ r kI g off,Ref tm S t s p r kI/\addrAt w p r.t kI none=some (g,off)/\v=.pointer (some ⟨g,off,none⟩)
 | .cut t s p lo hi,v=>∃ r kI t' A n c,Ref tm S t s p r kI/\t=.sl t'/\cz w p r.t kI=some [.slice A n c]/\lo<=hi/\hi<=n/\
  v=.slice (if c=lo then A else A.map (·.add (lo*t'.size))) (hi - lo) (c - lo)
 | .EL f kn,v=>∃ vs:List Value,v=.func (.func f) #[] vs.toArray/\vs.length=kn.length/\∀ (j:Nat) (c:Cap),kn[j]?=some c->∃ u,vs[j]?=some u/\Ie w Av tm S c u
end
structure Fr (w0:World) (W0:Nat->Prop) (w:World):Prop where
 os:w.os=w0.os
 tape:w.tape=w0.tape
 output:w.output=w0.output
 size:w0.heap.size<=w.heap.size
 block:∀ g,g<w0.heap.size->¬W0 g->w.heap[g]?=w0.heap[g]?
def Av (σ:Nat->Option Nat) (Z:Nat->Prop) (g:Nat):Prop:=(∃ i,σ g=some i)∨Z g
def gM (a:Act) (i:Nat):Value:=a.tmps.getD i undef
structure cY (σ:Nat->Option Nat) (w0:World) (W0 Z:Nat->Prop) (H:Nat->Value) (S:St) (a:Act) (w:World):Prop where
 len:S.length=a.tmps.size
 defers:a.defers=[]
 fr:Fr w0 W0 w
 new:∀ g i,σ g=some i->w0.heap.size<=g∨W0 g
 lt:∀ g i,σ g=some i->g<w.heap.size
 old:∀ g,Z g->σ g=none/\g<w0.heap.size
 holds:∀ i,Holds w (Av σ Z) H (gM a) S (λg=>σ g=some i) (S.at i) (gM a i)
def Rel (w0:World) (W0 Z:Nat->Prop) (H:Nat->Value) (S:St) (a:Act) (w:World):Prop:=∃ σ,cY σ w0 W0 Z H S a w
theorem rG {w w':World} {Wr N8:Nat->Prop} {H:Nat->Value} (fZ:cN w w' Wr N8):∀ (p:Path) {t:Ty} {m:Md} {x:t.I} {cs:List Value} {ow:Nat->Prop} {hs:List Path} (l:Option (Nat×Nat)),M w Wr H t m x cs ow hs->(∀ g,ow g->g<w.heap.size->w'.heap[g]?=w.heap[g]?)->open_ p hs->valid p t x->cz w' p t cs=cz w p t cs/\addrAt w' p t cs l=addrAt w p t cs l
 |[],_,_,_,_,_,_,_,_,_,_,_=>⟨rfl,rfl⟩
 | .deref::p,.ptr t,m,x,cs,ow,hs,l,h,hb,ho,hv=>by
  simp only[valid] at hv;simp only[M] at h;rcases h with⟨hn,_⟩ |⟨hk,h⟩ |⟨T,tag,me,g,cur,rfl,rfl,ht,N9,hw,h⟩
  ·exact absurd hn ho.not_nil
  ·simp only[K] at h;obtain⟨g,off,cur,T,fr,rfl,hng,hw,hl,h⟩:=h;have hw':=(fZ.same g hng (dh hw)).trans hw;have ih:=rG fZ p (H:=H) (some (g,off)) (tS (ow:=λ_=>False) (hs:=sub .deref hs) t h) (λ_ h=>h.elim) ho.sub hv;simp only[cz,addrAt,eG hw hl,eG hw' hl,aI];exact ih
  have hw':=(hb g N9 (dh hw)).trans hw;have rz:0+t.size<=cur.size:=(by rw[←(rB t h).1];simp);have wu:(cur.toList.drop 0).take t.size=cur.toList:=(by rw[dJ,cw (by rw[(rB t h).1];exact aM _)]);have ih:=rG fZ p (some (g,0)) h (λg hg=>hb g hg.1) ho.sub hv;simp only[cz,addrAt,eG hw rz,eG hw' rz,aI,wu];exact ih
 | .fst::p,.pair a b',m,x,cs,ow,hs,l,h,hb,ho,hv=>by
  simp only[valid] at hv;simp only[M] at h;simp only[cz,addrAt];rcases h with⟨hn,_⟩ |⟨hk,h⟩ |⟨ma,mb,c0,c1,s,rfl,rfl,h0,h1⟩
  ·exact absurd hn ho.not_nil
  ·simp only[K] at h;obtain⟨c0,c1,rfl,h0,h1⟩:=h;rw[←(Fa a h0).1,dP];exact rG fZ p (H:=H) l (tS (ow:=λ_=>False) (hs:=sub .fst hs) a h0) (λ_ h=>h.elim) ho.sub hv
  rw[←(rB a h0).1,dP];exact rG fZ p l h0 (λg hg=>hb g hg.1) ho.sub hv
 | .snd::p,.pair a b',m,x,cs,ow,hs,l,h,hb,ho,hv=>by
  simp only[valid] at hv;simp only[M] at h;simp only[cz,addrAt];rcases h with⟨hn,_⟩ |⟨hk,h⟩ |⟨ma,mb,c0,c1,s,rfl,rfl,h0,h1⟩
  ·exact absurd hn ho.not_nil
  ·simp only[K] at h;obtain⟨c0,c1,rfl,h0,h1⟩:=h;rw[←(Fa a h0).1,df];exact rG fZ p (H:=H) _ (tS (ow:=λ_=>False) (hs:=sub .snd hs) b' h1) (λ_ h=>h.elim) ho.sub hv
  rw[←(rB a h0).1,df];exact rG fZ p _ h1 (λg hg=>hb g hg.1) ho.sub hv
 | .idx i::p,.sl t,m,xs,cs,ow,hs,l,h,hb,ho,hv=>by
  simp only[valid] at hv;obtain⟨hi,hv⟩:=hv;have sj:getD xs i t.z=xs[i]:=by simp[aG,aN hi]
  simp only[M] at h;rcases h with⟨hn,_⟩ |⟨hk,h⟩ |⟨T,tag,me,A,c,rfl,rfl,hc,ht,h⟩
  ·exact absurd hn ho.not_nil
  ·simp only[K] at h;obtain⟨A,c,rfl,hc,h⟩:=h;obtain⟨g,off,cur,T,fr,rfl,hng,hw,hl,h⟩:=h (by omega);have hw':=(fZ.same g hng (dh hw)).trans hw;have hbound:off+i*t.size+t.size<=cur.size:=by have:=aC t.size (show i+1<=xs.length from hi);rw[bc,cH] at this;omega
   have hK:=h i hi;rw[←sj] at hK;have ih:=rG fZ p (H:=H) (some (g,off+i*t.size)) (tS (ow:=λ_=>False) (hs:=sub (.idx i) hs) t hK) (λ_ h=>h.elim) ho.sub hv;simp only[cz,addrAt,eG hw hbound,eG hw' hbound,aI];exact ih
  rcases h with⟨rfl,_⟩ |⟨g,cur,τ,rfl,N9,hw,rz,hm,h⟩
  ·simp at hi
  have hw':=(hb g N9 (dh hw)).trans hw;have hbound:i*t.size+t.size<=cur.size:=(by have h1:=aC t.size (show i+1<=xs.length from hi);have h2:=aC t.size hc;rw[bc,cH] at h1;omega);have hM:=h i hi;rw[←sj] at hM;have ih:=rG fZ p (some (g,i*t.size)) hM (λg hg=>hb g hg.1) ho.sub hv;simp only[cz,addrAt,aW,eG hw hbound,eG hw' hbound,aI];exact ih
variable {w w':World} {A A':Nat->Prop} {H:Nat->Value} {tm N':Nat->Value} {S S':St}
structure Kept (w w':World) (A:Nat->Prop) (H:Nat->Value) (tm N':Nat->Value) (S S':St) (s:Nat):Prop where
 at_:∀ r ex,S.at s=.v r ex->S'.at s=.v r ex
 tm_:N' s=tm s
 hold:∃ own,Holds w A H tm S own (S.at s) (tm s)/\∀ g,own g->g<w.heap.size->w'.heap[g]?=w.heap[g]?
theorem oA {t:Ty} {v:Value} {cs kS:List Value} (h:a6 t v cs) (h':a6 t v kS):cs=kS:=by
 unfold a6 at*;split at h
 ·rename_i ha;rw[ay ha] at h';rw[h] at h';injection h' with h';simpa using h'
 rename_i ha;rw[ar ha] at h';rw[h,h']
theorem Ref.kept {t:Ty} {s:Nat} {p:Path} {r:TV} {kI:List Value} (fZ:cN w w' A A') (hk:Kept w w' A H tm N' S S' s) (h:Ref tm S t s p r kI): Ref N' S' t s p r kI/\∀ l,cz w' p r.t kI=cz w p r.t kI/\addrAt w' p r.t kI l=addrAt w p r.t kI l:=by obtain⟨⟨ex,h1,h2⟩,h3,h4,h5⟩:=h;refine⟨⟨⟨ex,hk.at_ _ _ h1,h2⟩,h3,h4,by rw[hk.tm_];exact h5⟩,λl=>?_⟩;obtain⟨own,hh,hb⟩:=hk.hold;rw[h1] at hh;obtain⟨cs,hm,hM⟩:=hh;obtain rfl:=oA h5 hm;exact rG fZ p l hM hb h2 h3
theorem Ie.kept {c:Cap} {u:Value} (fZ:cN w w' A A') (hk:∀ t s p,c=.pl t s p->Kept w w' A H tm N' S S' s) (h:Ie w A tm S c u):Ie w' A' N' S' c u:=by
 cases c with
 |kv a=>exact fA fZ _ h
 |pl t s p=>obtain⟨r,kI,cs,hr,hc,hm⟩:=h;obtain⟨h1,h2⟩:=hr.kept fZ (hk t s p rfl);exact⟨r,kI,cs,h1,by rw[(h2 none).1];exact hc,hm⟩
theorem Holds.kept {own afj:Nat->Prop} {a:AV} {v:Value} (fZ:cN w w' A A') (ho:∀ g,own g->g<w.heap.size->w'.heap[g]?=w.heap[g]? /\afj g) (hk:∀ s,a.refs s=true->Kept w w' A H tm N' S S' s) (h:Holds w A H tm S own a v):Holds w' A' H N' S' afj a v:=by
 cases a with
 |dead=>trivial
 |undef=>exact h
 |v a ex=>obtain⟨cs,h1,h2⟩:=h;exact⟨cs,h1,b8 fZ _ (λg hg hl=>(ho g hg hl).1) (λg hg hl=>(ho g hg hl).2) (λ_ h=>h) h2⟩
 |QU l=>obtain⟨vs,τ,h1,h2,h3⟩:=h;refine⟨vs,τ,h1,h2,λj a hj=>?_⟩;obtain⟨u,cs,k1,k2,k3⟩:=h3 j a hj;exact⟨u,cs,k1,k2,b8 fZ _ (λg hg hl=>(ho g hg.1 hl).1) (λg hg hl=>⟨(ho g hg.1 hl).2,hg.2⟩) (λ_ h=>h) k3⟩
 |al t s p=>obtain⟨r,kI,cs,hr,hc,hm⟩:=h;obtain⟨h1,h2⟩:=hr.kept fZ (hk s (by simp[AV.refs]));exact⟨r,kI,cs,h1,by rw[(h2 none).1];exact hc,hm⟩
 |ad t s p=>obtain⟨r,kI,g,off,hr,hc,hm⟩:=h;obtain⟨h1,h2⟩:=hr.kept fZ (hk s (by simp[AV.refs]));exact⟨r,kI,g,off,h1,by rw[(h2 none).2];exact hc,hm⟩
 |cut t s p lo hi=>obtain⟨r,kI,t',A1,n,c,hr,ht,hc,hm⟩:=h;obtain⟨h1,h2⟩:=hr.kept fZ (hk s (by simp[AV.refs]));exact⟨r,kI,t',A1,n,c,h1,ht,by rw[(h2 none).1];exact hc,hm⟩
 |EL f kn=>obtain⟨vs,h1,h2,h3⟩:=h;refine⟨vs,h1,h2,λj c hj=>?_⟩;obtain⟨u,k1,k2⟩:=h3 j c hj;refine⟨u,k1,k2.kept fZ (λt s p e=>hk s ?_)⟩;subst e;simp only[AV.refs,dk];exact⟨_,da hj,by simp⟩
theorem kT (S:St) (d:Nat) (a:AV) (i:Nat):St.at (S.set d a) i=if i=d/\d<S.length then a else S.at i:=by
 unfold St.at;rw[aG,aG,iF];by_cases h:d=i
 ·subst h;by_cases hl:d<S.length
  ·simp[hl]
  simp[hl]
 have h': ¬i=d:=λe=>h e.symm;simp[h,h']
theorem aaQ (S:St) (f:AV->AV) (hf:f .dead=.dead) (i:Nat):St.at (S.map f) i=f (S.at i):=by
 unfold St.at;rw[aG,aG,bO];cases S[i]? with
 |none=>simp[hf]
 |some a=>rfl
theorem auF (S:St) (d i:Nat):(S.kill d).at i=bif (S.at i).refs d then .dead else S.at i:=aaQ S _ (by simp[AV.refs]) i
theorem z' (S:St) (d i:Nat):(S.weaken d).at i=bif (S.at i).qq d then .dead else S.at i:=aaQ S _ (by simp[AV.qq]) i
theorem apG (S:St) (d:Nat):(S.kill d).length=S.length:=by simp[St.kill]
theorem nm (S:St) (d:Nat) (a:AV) (i:Nat):(S.put (some d) a).at i=if i=d/\d<S.length then(bif a.refs d then .dead else a) else bif (S.at i).refs d&&(S.at d).UX then .dead else S.at i:=by
 simp only[St.put];cases (S.at d).UX
 ·simp only[ae,kT,dN]
 simp only[ab,kT,apG,auF,cM]
theorem eC (S:St) (dst:Option Nat) (a:AV):(S.put dst a).length=S.length:=by
 cases dst with
 |none=>rfl
 |some d=>simp only[St.put];cases (S.at d).UX<;>simp[St.kill]
theorem apH {own:Nat->Prop} {w:World} {A:Nat->Prop} {H:Nat->Value} {tm:Nat->Value} {S:St} {av:AV} {v:Value} {d:Nat} (h:Holds w A H tm S own av v) (hr:av.refs d=true):(S.at d).UX=true:=by
 cases av with
 |dead=>cases hr
 |undef=>cases hr
 |v a ex=>cases hr
 |QU l=>cases hr
 |al t s p=>obtain rfl:s=d:=aw hr;obtain⟨r,kI,cs,h1,_⟩:=h;obtain⟨ex,h2,_⟩:=h1.at_;rw[h2];rfl
 |ad t s p=>obtain rfl:s=d:=aw hr;obtain⟨r,kI,g,off,h1,_⟩:=h;obtain⟨ex,h2,_⟩:=h1.at_;rw[h2];rfl
 |cut t s p lo hi=>obtain rfl:s=d:=aw hr;obtain⟨r,kI,t',A,n,c,h1,_⟩:=h;obtain⟨ex,h2,_⟩:=h1.at_;rw[h2];rfl
 |EL f kn=>
 simp only[AV.refs,dk] at hr;obtain⟨c,hc,hr⟩:=hr;obtain⟨vs,_,_,h3⟩:=h;obtain⟨j,hj⟩:=sI.1 hc;obtain⟨u,_,h4⟩:=h3 j c hj;cases c with
 |kv a=>cases hr
 |pl t s p=>obtain rfl:s=d:=aw hr;obtain⟨r,kI,cs,h1,_⟩:=h4;obtain⟨ex,h2,_⟩:=h1.at_;rw[h2];rfl
theorem XK (a:Act) (d:Nat) (v:Value) (i:Nat):gM (a.put (some d) v) i=if i=d/\d<a.tmps.size then v else gM a i:=by
 unfold gM Act.put;simp only[eW,mV];by_cases h:d=i
 ·subst h;by_cases hl:d<a.tmps.size
  ·simp[hl]
  simp[hl]
 have h': ¬i=d:=λe=>h e.symm;simp[h,h']
theorem apI (a:Act) (dst:Option Nat) (v:Value):(a.put dst v).tmps.size=a.tmps.size:=by cases dst<;>simp[Act.put]
theorem put_defers (a:Act) (dst:Option Nat) (v:Value):(a.put dst v).defers=a.defers:=by cases dst<;>rfl
theorem cY.put {σ nF:Nat->Option Nat} {w0:World} {W0 Z:Nat->Prop} {a:Act} {dst:Option Nat} {av:AV} {v:Value} (h:cY σ w0 W0 Z H S a w)
  (fZ:cN w w' (Av σ Z) (Av nF Z)) (M7:Fr w0 W0 w') (aoc:∀ g i,nF g=some i->(w0.heap.size<=g∨W0 g)/\g<w'.heap.size) (hold:∀ g,Z g->nF g=none)
  (F7:∀ i g,i<S.length->dst≠some i->σ g=some i->w'.heap[g]?=w.heap[g]? /\nF g=some i)
  (Fg:∀ d,dst=some d->d<S.length->av.refs d=false->Holds w' (Av nF Z) H (gM (a.put dst v)) (S.put dst av) (λg=>nF g=some d) av v):
  cY nF w0 W0 Z H (S.put dst av) (a.put dst v) w':=by
 have Oa:∀ i,¬i<S.length->S.at i=.dead:=λi hl=>by
  unfold St.at
  rw[aG,cv (by omega)]
  rfl
 refine⟨by rw[eC,apI];exact h.len,by rw[put_defers];exact h.defers,M7,λg i hg=>(aoc g i hg).1,λg i hg=>(aoc g i hg).2,λg hg=>⟨hold g hg,(h.old g hg).2⟩,λi=>?_⟩
 by_cases hil:i<S.length
 rotate_left
 ·have:(S.put dst av).at i=.dead:=by
   unfold St.at
   rw[aG,cv (by rw[eC];omega)]
   rfl
  rw[this]
  trivial
 cases dst with
 |none=>
  have hk:∀ s,Kept w w' (Av σ Z) H (gM a) (gM a) S S s:=λs=>by
   by_cases hs:s<S.length
   ·exact⟨λ_ _ h=>h,rfl,_,h.holds s,λg hg _=>(F7 s g hs (by simp) hg).1⟩
   ·exact⟨λ_ _ h=>h,rfl,λ_=>False,by rw[Oa s hs];trivial,λ_ h=>h.elim⟩
  exact(h.holds i).kept fZ (λg hg _=>F7 i g hil (by simp) hg) (λs _=>hk s)
 |some d=>
  by_cases hi:i=d/\d<S.length
  ·obtain⟨rfl,hl⟩:=hi
   rw[nm,ay ⟨rfl,hl⟩,XK,ay ⟨rfl,by rw[←h.len];exact hl⟩]
   cases hr:av.refs i with
   |true=>simp[Holds]
   |false=>exact Fg i rfl hl hr
  ·have hi': ¬(i=d/\d<a.tmps.size):=by rw[←h.len];exact hi
   rw[nm,ar hi,XK,ar hi']
   cases hr:(S.at i).refs d with
   |true=>rw[apH (h.holds i) hr];simp[Holds]
   |false=>
    simp only[fi,ae]
    by_cases hd:i=d
    ·subst hd
     rw[Oa i (λhl=>hi ⟨rfl,hl⟩)]
     trivial
    ·refine(h.holds i).kept fZ (λg hg _=>F7 i g hil (by simpa using λe=>hd e.symm) hg) (λs hs=>?_)
     have XL:s≠d:=λe=>by subst e;rw[hr] at hs;cases hs
     refine⟨?_,?_,?_⟩
     ·intro r ex hv
      rw[nm,ar (λe=>XL e.1),hv]
      rfl
     ·rw[XK,ar (λe=>XL e.1)]
     ·by_cases hs:s<S.length
      ·exact⟨_,h.holds s,λg hg _=>(F7 s g hs (by simpa using λe=>XL e.symm) hg).1⟩
      ·exact⟨λ_=>False,by rw[Oa s hs];trivial,λ_ h=>h.elim⟩
def release (σ:Nat->Option Nat) (dst:Option Nat) (g:Nat):Option Nat:=if dst.isSome=true/\σ g=dst then none else σ g
theorem qT {σ:Nat->Option Nat} {dst:Option Nat} {g i:Nat} (h:release σ dst g=some i):σ g=some i/\dst≠some i:=by
 unfold release at h;split at h
 ·cases h
 rename_i hn;refine⟨h,λe=>hn ⟨by rw[e];rfl,by rw[h,e]⟩⟩
theorem HC {σ:Nat->Option Nat} {dst:Option Nat} {g i:Nat} (hd:dst≠some i) (h:σ g=some i):release σ dst g=some i:=by unfold release;rw[ar (λe=>hd (by rw[←e.2,h])),h]
theorem Tr {σ:Nat->Option Nat} {dst:Option Nat} {Z:Nat->Prop} {g:Nat} (h:Av (release σ dst) Z g):Av σ Z g:=by
 rcases h with⟨i,h⟩ |h
 ·exact .inl ⟨i,(qT h).1⟩
 exact .inr h
theorem cY.pure {σ:Nat->Option Nat} {w0:World} {W0 Z:Nat->Prop} {a:Act} {dst:Option Nat} {av:AV} {v:Value} (h:cY σ w0 W0 Z H S a w) (hv:Holds w (Av σ Z) H (gM a) S (λ_=>False) av v):cY (release σ dst) w0 W0 Z H (S.put dst av) (a.put dst v) w:=by
 have fZ:cN w w (Av σ Z) (Av (release σ dst) Z):=⟨λ_ _ _=>rfl,λg _ hg=>Tr hg⟩;refine h.put fZ h.fr (λg i hg=>⟨h.new g i (qT hg).1,h.lt g i (qT hg).1⟩) (λg hg=>by unfold release;split<;>first |rfl |exact(h.old g hg).1) (λi g _ hd hg=>⟨rfl,HC hd hg⟩) (λd hd hl hr=>?_);subst hd;refine hv.kept fZ (λ_ h _=>h.elim) (λs hs=>?_);have XL:s≠d:=λe=>by subst e;rw[hr] at hs;cases hs
 refine⟨λr ex hv=>?_,by rw[XK,ar (λe=>XL e.1)],_,h.holds s,λ_ _ _=>rfl⟩;rw[nm,ar (λe=>XL e.1),hv];rfl
def awZ (σ:Nat->Option Nat) (x:Operand) (g:Nat):Prop:=∃ i,x=.tmp i/\σ g=some i
theorem eH {σ:Nat->Option Nat} {w0:World} {W0 Z:Nat->Prop} {a:Act} {Θ:kR} {T:TypeId} {x:Operand} {av:AV} (h:cY σ w0 W0 Z H S a w) (he:S.pJ Θ T x=some av): Holds w (Av σ Z) H (gM a) S (awZ σ x) av (a.eval x):=by
 cases x with
 |tmp i=>simp only[St.pJ,ah] at he;subst he;refine(h.holds i).kept (cN.refl _ _) (λg hg _=>⟨rfl,i,rfl,hg⟩) (λs _=>⟨λ_ _ h=>h,rfl,_,h.holds s,λ_ _ _=>rfl⟩)
 |const c=>
 simp only[St.pJ] at he;split at he
 ·rename_i b hb;injection he with he;subst he;unfold JH at hb;split at hb
  ·injection hb with hb;subst hb;exact⟨[a.eval (.const _)],by simp only[a6,isAgg];rfl,by simp[M,K,Act.eval,Md.eY]⟩
  ·injection hb with hb;subst hb;exact⟨[a.eval (.const _)],by simp only[a6,isAgg];rfl,by simp[M,K,Act.eval,Md.eY]⟩
  ·injection hb with hb;subst hb;exact⟨[a.eval (.const _)],by simp only[a6,isAgg];rfl,by simp[M,K,Act.eval,Md.eY]⟩
  ·split at hb
   ·rename_i i hi;split at hb
    ·rename_i t ht;injection hb with hb;subst hb;refine⟨[.slice none 0 0],by simp[a6,isAgg,Act.eval],?_⟩;simp only[M];exact .inr (.inr ⟨_,_,_,none,0,rfl,rfl,aM _,λh hh=>(by cases hh),.inl (by simp)⟩)
    cases hb
   cases hb
  cases hb
 cases he
 |func f=>simp only[St.pJ,ah] at he;subst he;exact⟨[],by simp[Act.eval],rfl,λj c hj=>by simp at hj⟩
 |global g=>simp[St.pJ] at he
theorem aj8 {own:Nat->Prop} {t:Ty} {m:Md} {x:t.I} {cs:List Value} (h:M w A H t m x cs own []):K w (λ_=>False) t x cs:=M_K (λ_ _ h=>h.elim) t rfl (λ_ _ h=>h) h
theorem afk {t:Ty} {v:Value} {cs:List Value} (h:a6 t v cs) (h1:∀ u∈cs,u.oneCell'=true):v.cells.toList=cs:=by
 unfold a6 at h;split at h
 ·subst h;rfl
 subst h;have:=h1 v (by simp);cases v<;>first |rfl |(simp[Value.oneCell'] at this)
theorem Lu:∀ (q r:Path),wm q (q++r)=true
 |[],_=>by simp[wm]
 | .idx i::q,r=>by simp[wm];exact Lu q r
 | .deref::q,r=>by simp[wm];exact Lu q r
 | .fst::q,r=>by simp[wm];exact Lu q r
 | .snd::q,r=>by simp[wm];exact Lu q r
theorem Lv:∀ (q r:Path),wm (q++r) q=true
 |[],[]=>by simp[wm]
 |[],_::_=>by simp[wm]
 | .idx i::q,r=>by simp[wm];exact Lv q r
 | .deref::q,r=>by simp[wm];exact Lv q r
 | .fst::q,r=>by simp[wm];exact Lv q r
 | .snd::q,r=>by simp[wm];exact Lv q r
theorem Sy {p:Path} {ex:List Path} (h:∀ q∈ex,wm q p=false):open_ p ex:=λq hq s r e=>by have:=h q hq;rw[e,Lu] at this;cases this
theorem Sz {p:Path} {ex:List Path} (h:∀ q∈ex,wm q p=false):U3 p ex=[]:=by
 cases hs:U3 p ex with
 |nil=>rfl
 |cons q r=>have:q∈U3 p ex:=(by rw[hs];simp);have:=h _ (aaG.1 this);rw[Lv] at this;cases this
theorem aj9 {S:St} {i:Nat} (h:S.length<=i):S.at i=.dead:=by unfold St.at;rw[aG,cv h];rfl
theorem again_at {S S2:St} {s:Nat} (hl:S2.length=S.length) (i:Nat):(S.again S2 s).at i=S2.at i∨∃ t r ex,S.at i=.al t s []/\S2.at s=.v r ex/\t=r.t/\S2.at i=.dead/\(S.again S2 s).at i=.al t s []:=by
 unfold St.again;split;case h_2=>exact .inl rfl
 rename_i r ex hs;have hz:St.at (List.zipWith (XF s r.t) S S2) i=XF s r.t (S.at i) (S2.at i):=by
  by_cases hi:i<S.length
  ·unfold St.at;rw[aG,aG,aG,List.getElem?_zipWith,aN hi,aN (by omega:i<S2.length)];rfl
  rw[aj9 (S:=S) (by omega),aj9 (S:=S2) (by omega),aj9 (by rw[iy];omega)];rfl
 rw[hz];unfold XF;split;case h_2=>exact .inl rfl
 rename_i t q ha hb;cases hq:Nat.beq q s&&decide (t=r.t) with
 |false=>rw[hb];exact .inl rfl
 |true=>simp only[ai,au] at hq;obtain rfl:=aw hq.1;exact .inr ⟨t,r,ex,ha,hs,hq.2,hb,rfl⟩
end Go.Pv
