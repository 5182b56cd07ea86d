/- A verified evaluator of the program's form over pure values, part 0: what it tells of a function holds. -/
import Derived.Calls
import Derived.KernelRfl
import Derived.Laws.AppendOwn
import Derived.Laws.Sem
import Derived.Orders
set_option linter.unusedSimpArgs false
set_option linter.unusedVariables false
noncomputable section
namespace Go.Pv
open List Int IntKind
inductive Ty where
 |int (k:IntKind) |bool |str |sl (t:Ty) |ptr (t:Ty) |pair (a b:Ty) |unit |arr (n:Nat) (t:Ty) |mp
 deriving DecidableEq,Inhabited
@[reducible] def Ty.I:Ty->Type
 | .int _=>Int | .bool=>Bool | .str=>ByteArray | .sl t=>List t.I | .ptr t=>t.I | .pair a b=>a.I×b.I | .unit=>Unit | .arr _ t=>List t.I | .mp=>List (List Int×Bool)
def Ty.size:Ty->Nat
 | .pair a b=>a.size+b.size | .unit=>0 | .arr n t=>n*t.size |_=>1
def Ty.z:(t:Ty)->t.I
 | .int _=>(0:Int) | .bool=>false | .str=>ByteArray.empty | .sl _=>[] | .ptr t=>t.z | .pair a b=>(a.z,b.z) | .unit=>() | .arr n t=>List.replicate n t.z | .mp=>[]
inductive Md where
 |k |o (T:TypeId) (tag:Option Nat) (m:Md) |p (a b:Md)
 deriving DecidableEq,Inhabited
def Md.b5:Md->Bool
 | .k=>true | .o ..=>false | .p a b=>a.b5&&b.b5
inductive Step where
 |deref |fst |snd |idx (i:Nat)
 deriving DecidableEq,Inhabited
abbrev Path:=List Step
def sub (s:Step) (hs:List Path):List Path:=hs.filterMap λp=>match p with
 |s'::r=>if s'=s then some r else none
 |[]=>none
def Ez (k:List Int):Value:=.agg (k.map (Value.int .i64)).toArray
def Qg (k:List Int):Bool:=Nat.beq k.length 2&&k.all λn=>decide (-9223372036854775808<=n)&&decide (n<=9223372036854775807)
def Q5 (es:Array MapEntry) (x:List (List Int×Bool)):Prop:=es.toList.map (λe=>(e.key,e.val))=x.map (λq=>(Ez q.1,Value.bool q.2))/\(x.map (·.1)).Nodup/\∀ q∈x,Qg q.1=true
section
variable (w:World) (Wr:Nat->Prop)
def K:(t:Ty)->t.I->List Value->Prop
 | .int k,n,cs=>cs=[.int k n]
 | .bool,b,cs=>cs=[.bool b]
 | .str,s,cs=>cs=[.string s]
 | .unit,_,cs=>cs=[]
 | .pair a b,x,cs=>∃ c0 c1,cs=c0++c1/\K a x.1 c0/\K b x.2 c1
 | .arr n t,xs,cs=>∃ l9:List (List Value),cs=l9.flatten/\l9.length=n/\xs.length=n/\∀ j (h:j<xs.length) (h':j<l9.length),K t xs[j] l9[j]
 | .mp,x,cs=>∃ g es n,cs=[.map (some g)]/\ ¬Wr g/\w.heap[g]?=some (.map es n)/\Q5 es x
 | .sl t,xs,cs=>∃ A c,cs=[.slice A xs.length c]/\xs.length<=c/\(0<xs.length->∃ g off cur T fr,A=some ⟨g,off,none⟩/\ ¬Wr g/\w.heap[g]?=some (.cells cur T fr)/\off+xs.length*t.size<=cur.size/\∀ j (h:j<xs.length),K t xs[j] ((cur.toList.drop (off+j*t.size)).take t.size))
 | .ptr t,x,cs=>∃ g off cur T fr,cs=[.pointer (some ⟨g,off,none⟩)]/\ ¬Wr g/\w.heap[g]?=some (.cells cur T fr)/\off+t.size<=cur.size/\K t x ((cur.toList.drop off).take t.size)
def M (H:Nat->Value):(t:Ty)->(m:Md)->t.I->List Value->(Nat->Prop)->List Path->Prop
 | .sl t,m,xs,cs,ow,hs=>([]∈hs/\m.b5=false/\∃ A c,cs=[.slice A xs.length c])∨(m.b5=true/\K w Wr (.sl t) xs cs)∨ ∃ T tag me A c,m=.o T tag me/\cs=[.slice A xs.length c]/\xs.length<=c/\(∀ h,tag=some h->H h=.slice A xs.length c)/\ ((xs=[]/\c=0)∨∃ g cur,∃ τ:Nat->Nat,A=some ⟨g,0,none⟩/\ow g/\w.heap[g]?=some (.cells cur T (0,0))/\cur.size=c*t.size/\c<=maxLen/\ ∀ j (h:j<xs.length),M H t me xs[j] ((cur.toList.drop (j*t.size)).take t.size) (λg'=>ow g'/\g'≠g/\τ g'=j) (sub (.idx j) hs))
 | .ptr t,m,x,cs,ow,hs=>([]∈hs/\m.b5=false/\cs.length=1/\∀ u∈cs,u.oneCell'=true)∨(m.b5=true/\K w Wr (.ptr t) x cs)∨ ∃ T tag me g cur,m=.o T tag me/\cs=[.pointer (some ⟨g,0,none⟩)]/\(∀ h,tag=some h->H h=.pointer (some ⟨g,0,none⟩))/\ow g/\w.heap[g]?=some (.cells cur T (0,0))/\ M H t me x cur.toList (λg'=>ow g'/\g'≠g) (sub .deref hs)
 | .pair a b,m,x,cs,ow,hs=>([]∈hs/\m.b5=false/\cs.length=a.size+b.size/\∀ u∈cs,u.oneCell'=true)∨(m.b5=true/\K w Wr (.pair a b) x cs)∨ ∃ ma mb c0 c1,∃ s:Nat->Prop,m=.p ma mb/\cs=c0++c1/\M H a ma x.1 c0 (λg'=>ow g'/\s g') (sub .fst hs)/\M H b mb x.2 c1 (λg'=>ow g'/\ ¬s g') (sub .snd hs)
 | .int k,m,x,cs,_,_=>m.b5=true/\K w Wr (.int k) x cs
 | .bool,m,x,cs,_,_=>m.b5=true/\K w Wr .bool x cs
 | .str,m,x,cs,_,_=>m.b5=true/\K w Wr .str x cs
 | .unit,m,x,cs,_,_=>m.b5=true/\K w Wr .unit x cs
 | .arr n t,m,x,cs,_,_=>m.b5=true/\K w Wr (.arr n t) x cs
 | .mp,m,x,cs,ow,hs=>([]∈hs/\m.b5=false/\cs.length=1/\∀ u∈cs,u.oneCell'=true)∨(m.b5=true/\K w Wr .mp x cs)∨ ∃ T tag g es n,m=.o T tag .k/\cs=[.map (some g)]/\(∀ h,tag=some h->H h=.map (some g))/\ow g/\w.heap[g]?=some (.map es n)/\Q5 es x
end
end Go.Pv
namespace Go.Pv
open List Int IntKind
structure TV where
 t:Ty
 m:Md
 x:t.I
inductive V6 where
 |pl (t:Ty) (s:Nat) (p:Path)
 |kv (a:TV)
inductive AV where
 |dead
 |undef
 |v (a:TV) (ex:List Path)
 |Ih (l:List (Option TV))
 |al (t:Ty) (s:Nat) (p:Path)
 |ad (t:Ty) (s:Nat) (p:Path)
 |cut (t:Ty) (s:Nat) (p:Path) (lo hi:Nat)
 |vY (f:FuncId) (fc:List V6)
abbrev St:=List AV
structure TI where
 T:TypeId
 ty:Ty
 e:TypeId
 fs:List TypeId
abbrev fA:=List TI
def fA.find (Θ:fA) (T:TypeId):Option TI:=match Θ with
 |[]=>none
 |i::r=>bif Nat.beq i.T T then some i else fA.find r T
def Md.UK:Md->Md
 | .o _ _ m=>m |_=>.k
def Md.l:Md->Md
 | .p a _=>a |m=>m
def Md.r:Md->Md
 | .p _ b=>b |m=>m
def mkM (a b:Md):Md:=bif a.b5&&b.b5 then .k else .p a b
def a7:Path->(t:Ty)->Md->t.I->Option TV
 |[],t,m,x=>some ⟨t,m,x⟩
 | .deref::p,.ptr t,m,x=>a7 p t m.UK x
 | .fst::p,.pair a _,m,x=>a7 p a m.l x.1
 | .snd::p,.pair _ b,m,x=>a7 p b m.r x.2
 | .idx i::p,.sl t,m,xs=>a7 p t m.UK (xs.getD i t.z)
 |_::_,_,_,_=>none
def pR (b:TV):Path->(t:Ty)->Md->t.I->Option (Md×t.I)
 |[],t,_,_=>if h:b.t=t then some (b.m,h▸b.x) else none
 | .deref::p,.ptr t,.o T tag me,x=>match pR b p t me x with
  |some r=>some (.o T tag r.1,r.2)
  |none=>none
 | .fst::p,.pair t u,m,x=>match pR b p t m.l x.1 with
  |some r=>some (mkM r.1 m.r,(r.2,x.2))
  |none=>none
 | .snd::p,.pair t u,m,x=>match pR b p u m.r x.2 with
  |some r=>some (mkM m.l r.1,(x.1,r.2))
  |none=>none
 | .idx i::p,.sl t,.o T tag me,xs=>match pR b p t me (xs.getD i t.z) with
  |some r=>if r.1=me then some (.o T tag me,xs.set i r.2) else none
  |none=>none
 |_::_,_,_,_=>none
def jk:Path->Path->Bool
 |[],_=>true
 |_,[]=>true
 | .idx _::p,.idx _::q=>jk p q
 |s::p,s'::q=>if s=s' then jk p q else false
def under:Path->Path->Bool
 |[],[]=>false
 |[],_::_=>true
 |_::_,[]=>false
 | .idx _::p,.idx _::q=>under p q
 |s::p,s'::q=>if s=s' then under p q else false
def pre:Path->Path->Bool
 |[],_=>true
 | .deref::p,.deref::q=>pre p q
 | .fst::p,.fst::q=>pre p q
 | .snd::p,.snd::q=>pre p q
 |_,_=>false
def EA:Path->Path->Bool
 |[],_=>true
 |_,[]=>true
 | .idx i::p,.idx j::q=>EA p q&&Nat.beq i j
 |s::p,s'::q=>if s=s' then EA p q else false
def oY:Path->Path->Bool
 |[],[]=>true
 | .idx _::p,.idx _::q=>oY p q
 | .deref::p,.deref::q=>oY p q
 | .fst::p,.fst::q=>oY p q
 | .snd::p,.snd::q=>oY p q
 |_,_=>false
def PD:Path->Path->Bool
 | .idx i::p,.idx j::q=>PD p q&&Nat.beq i j
 |_::p,_::q=>PD p q
 |_,_=>true
def kD (p:Path):List Path->Bool×List Path
 |[]=>(true,[])
 |h::r=>bif oY p h then(PD p h,r) else((kD p r).1,h::(kD p r).2)
def depth:Path->Nat
 |[]=>0 | .deref::p=>depth p+1 | .idx _::p=>depth p+1 |_::p=>depth p
def AV.refs (d:Nat):AV->Bool
 | .al _ s _=>Nat.beq s d | .ad _ s _=>Nat.beq s d | .cut _ s _ _ _=>Nat.beq s d
 | .vY _ fc=>fc.any λc=>match c with
  | .pl _ s _=>Nat.beq s d
  | .kv _=>false
 |_=>false
def AV.kS (d:Nat):AV->Bool
 | .al _ s p=>Nat.beq s d&&match p with
  |[]=>false
  |_=>true
 | .ad _ s p=>Nat.beq s d&&Nat.ble 2 (depth p)
 | .cut _ s _ _ _=>Nat.beq s d
 | .vY _ fc=>fc.any λc=>match c with
  | .pl _ s (_::_)=>Nat.beq s d
  |_=>false
 |_=>false
def St.at (S:St) (i:Nat):AV:=S.getD i .dead
def St.kill (S:St) (d:Nat):St:=S.map λa=>bif a.refs d then .dead else a
def St.weaken (S:St) (d:Nat):St:=S.map λa=>bif a.kS d then .dead else a
def St.cover (S:St) (d:Nat) (p:Path):St:=S.map λa=>match a with
 | .ad t s q=>bif Nat.beq s d&&under p q then .dead else .ad t s q
 |a=>a
def AV.LG:AV->Bool
 | .v ..=>true |_=>false
def St.put (S:St) (dst:Option Nat) (a:AV):St:=match dst with
 |none=>S
 |some d=>(bif (S.at d).LG then S.kill d else S).set d (bif a.refs d then .dead else a)
def Og (s:Nat) (t':Ty) (a b:AV):AV:=match a,b with
 | .al t q [],.dead=>bif Nat.beq q s&&decide (t=t') then .al t q [] else .dead
 |_,b=>b
def St.again (S S2:St) (s:Nat):St:=match S2.at s with
 | .v r _=>List.zipWith (Og s r.t) S S2
 |_=>S2
def kTV (a:TV):TV:=⟨a.t,.k,a.x⟩
def BC (Θ:fA) (T:TypeId):Value->Option TV
 | .int k n=>some ⟨.int k,.k,n⟩
 | .bool b=>some ⟨.bool,.k,b⟩
 | .string s=>some ⟨.str,.k,s⟩
 | .slice none 0 0=>match Θ.find T with
  |some i=>match i.ty with
   | .sl t=>some ⟨.sl t,.o i.e none .k,[]⟩
   |_=>none
  |none=>none
 |_=>none
def St.place (S:St) (s:Nat) (p:Path):Option TV:=match S.at s with
 | .v a ex=>bif ex.all (λh=>!jk h p) then a7 p a.t a.m a.x else none
 |_=>none
def St.dW (S:St) (s:Nat) (p:Path):Option TV:=match S.at s with
 | .v a ex=>bif ex.all (λh=>!under h p) then a7 p a.t a.m a.x else none
 |_=>none
def St.jT (Θ:fA) (S:St) (T:TypeId):Operand->Option AV
 | .tmp i=>some (S.at i)
 | .const c=>match BC Θ T c with
  |some a=>some (.v a [])
  |none=>none
 | .func f=>some (.vY f [])
 | .global _=>none
def St.Ii (S:St):AV->Option TV
 | .v a []=>some a
 | .al _ s p=>S.place s p
 | .cut _ s p lo hi=>match S.place s p with
  |some ⟨.sl t,m,xs⟩=>some ⟨.sl t,m,(xs.take hi).drop lo⟩
  |_=>none
 |_=>none
def St.rd (Θ:fA) (S:St) (T:TypeId) (x:Operand):Option TV:=match S.jT Θ T x with
 |some a=>S.Ii a
 |none=>none
def St.y8 (Θ:fA) (S:St) (x:Operand):Option Int:=match S.rd Θ 0 x with
 |some ⟨.int _,_,n⟩=>some n
 |_=>none
def St.jL (S:St) (x:Operand):AV->Option (TV×St)
 | .v a ex=>bif a.m.b5 then some (a,S) else match ex,x with
  |[],.tmp i=>some (a,S.put (some i) .dead)
  |[],_=>some (a,S)
  |_,_=>none
 | .al _ s p=>match S.place s p with
  |some a=>bif a.m.b5 then some (a,S) else match p,S.at s with
   |[],_=>some (a,S.put (some s) .dead)
   |_,.v r ex=>some (a,((S.weaken s).cover s p).set s (.v r (ex++[p])))
   |_,_=>none
  |none=>none
 | .cut _ s [] lo hi=>match S.place s [] with
  |some ⟨.sl t,.o T _ me,xs⟩=>bif Nat.beq lo 0 then some (⟨.sl t,.o T none me,xs.take hi⟩,S.put (some s) .dead) else none
  |_=>none
 |_=>none
def St.take (Θ:fA) (S:St) (T:TypeId) (x:Operand):Option (TV×St):=match S.jT Θ T x with
 |some a=>S.jL x a
 |none=>none
def St.copy (S:St) (x:Operand):AV->Option AV
 | .v a ex=>bif a.m.b5 then some (.v a []) else match x with
  | .tmp i=>some (.al a.t i [])
  |_=>match ex with
   |[]=>some (.v a [])
   |_=>none
 | .Ih _=>none
 | .dead=>none
 |a=>some a
def BD (i n:Nat):Path:=bif Nat.beq (i+1) n then(bif Nat.beq n 1 then [.fst] else List.replicate i .snd) else List.replicate i .snd++[.fst]
def zgo (f:TypeId->Md):List TypeId->Md
 |[]=>.k
 |[a]=>f a
 |a::r=>mkM (f a) (zgo f r)
def X7 (Θ:fA):Nat->TypeId->Md
 |0,_=>.k
 |n+1,T=>match Θ.find T with
  |none=>.k
  |some i=>match i.ty with
   | .sl _=>.o i.e none (X7 Θ n i.e)
   | .pair _ _=>zgo (X7 Θ n) i.fs
   |_=>.k
def s5:Ty->Bool
 | .ptr _=>false | .arr _ t=>s5 t | .mp=>false | .pair a b=>s5 a&&s5 b |_=>true
def Ki:Ty->Md->Bool
 | .pair a b,.p ma mb=>(Ki a ma&&Ki b mb)||(ma.b5&&mb.b5&&s5 a&&s5 b)
 | .sl _,.o _ none _=>true
 |t,m=>m.b5&&s5 t
inductive Tgt where
 |k (a:TV)
 |pl (t:Ty) (s:Nat) (p:Path)
def Tgt.ty:Tgt->Ty
 | .k a=>a.t
 | .pl t _ _=>t
def St.JB (S:St) (x:Operand):AV->Option Tgt
 | .v ⟨.ptr t,m,y⟩ []=>match m,x with
  | .k,_=>some (.k ⟨t,.k,y⟩)
  | .o ..,.tmp i=>some (.pl t i [.deref])
  |_,_=>none
 | .v ⟨.ptr t,.o ..,_⟩ _=>match x with
  | .tmp i=>some (.pl t i [.deref])
  |_=>none
 | .al (.ptr t) s p=>match S.dW s p with
  |some ⟨.ptr t',.k,y⟩=>some (.k ⟨t',.k,y⟩)
  |some ⟨.ptr _,.o ..,_⟩=>some (.pl t s (p++[.deref]))
  |_=>none
 | .ad t s p=>some (.pl t s p)
 |_=>none
def St.loadAt (S:St):Tgt->Option AV
 | .k a=>some (.v (kTV a) [])
 | .pl t s p=>match S.dW s p with
  |some a=>bif a.m.b5 then(match S.place s p with
   |some a=>some (.v (kTV a) [])
   |none=>none) else some (.al t s p)
  |none=>none
def bt (s:ByteArray) (i:Int):Int:=if h:i.toNat<s.size then((s[i.toNat]'h).toNat:Int) else 0
def akk (op:BinOp) (k:IntKind) (x y:Int):Option (Bool×TV):=match op with
 | .add=>some (true,⟨.int k,.k,k.wrap (x+y)⟩)
 | .sub=>some (true,⟨.int k,.k,k.wrap (x - y)⟩)
 | .mul=>some (true,⟨.int k,.k,k.wrap (x*y)⟩)
 | .quo=>some (!decide (y=0),⟨.int k,.k,k.wrap (x.tdiv y)⟩)
 | .rem=>some (!decide (y=0),⟨.int k,.k,x.tmod y⟩)
 | .and=>some (true,⟨.int k,.k,k.wrap (BitVec.ofInt k.bits x&&&BitVec.ofInt k.bits y).toNat⟩)
 | .or=>some (true,⟨.int k,.k,k.wrap (BitVec.ofInt k.bits x|||BitVec.ofInt k.bits y).toNat⟩)
 | .xor=>some (true,⟨.int k,.k,k.wrap (BitVec.ofInt k.bits x^^^BitVec.ofInt k.bits y).toNat⟩)
 | .eql=>some (true,⟨.bool,.k,x==y⟩)
 | .neq=>some (true,⟨.bool,.k,x != y⟩)
 | .lss=>some (true,⟨.bool,.k,decide (x<y)⟩)
 | .leq=>some (true,⟨.bool,.k,decide (x<=y)⟩)
 | .gtr=>some (true,⟨.bool,.k,decide (x>y)⟩)
 | .geq=>some (true,⟨.bool,.k,decide (x≥y)⟩)
 | .shl=>some (decide (0<=y),⟨.int k,.k,k.wrap (x*2^(min y.toNat k.bits))⟩)
 | .shr=>some (decide (0<=y),⟨.int k,.k,x.fdiv (2^(min y.toNat k.bits))⟩)
 |_=>none
def akl (op:BinOp) (x y:ByteArray):Option (Bool×TV):=match op with
 | .add=>some (decide (x.size+y.size<=9223372036854775807),⟨.str,.k,x++y⟩)
 | .eql=>some (true,⟨.bool,.k,x.toList==y.toList⟩)
 | .neq=>some (true,⟨.bool,.k,!(x.toList==y.toList)⟩)
 |_=>none
def UL:(t:Ty)->t.I->t.I->Option Bool
 | .int _,x,y=>some (decide ((x:Int)=y))
 | .bool,x,y=>some ((x:Bool)==y)
 | .str,x,y=>some ((x:ByteArray)==y)
 | .pair a b,x,y=>match UL a x.1 y.1,UL b x.2 y.2 with
  |some p,some q=>some (p&&q)
  |_,_=>none
 | .unit,_,_=>some true
 |_,_,_=>none
def qJ (op:BinOp) (a b:TV):Option (Bool×TV):=match a,b with
 |⟨.int k,_,x⟩,⟨.int k',_,y⟩=>if k=k'∨op=.shl∨op=.shr then akk op k x y else none
 |⟨.str,_,x⟩,⟨.str,_,y⟩=>akl op x y
 |⟨.bool,_,x⟩,⟨.bool,_,y⟩=>match op with
  | .eql=>some (true,⟨.bool,.k,x==y⟩)
  | .neq=>some (true,⟨.bool,.k,!(x==y)⟩)
  |_=>none
 |⟨.pair t u,_,x⟩,⟨t',_,y⟩=>if h:t'=.pair t u then match op,UL (.pair t u) x (h▸y) with
   | .eql,some r=>some (true,⟨.bool,.k,r⟩)
   | .neq,some r=>some (true,⟨.bool,.k,!r⟩)
   |_,_=>none
  else none
 |_,_=>none
def akm (op:UnOp) (a:TV):Option TV:=match op,a with
 | .not,⟨.bool,_,x⟩=>some ⟨.bool,.k,!x⟩
 | .neg,⟨.int k,_,x⟩=>some ⟨.int k,.k,k.wrap (0 - x)⟩
 | .xor,⟨.int k,_,x⟩=>some ⟨.int k,.k,k.wrap (BitVec.ofInt k.bits (if k.signed then -1 else k.max)^^^BitVec.ofInt k.bits x).toNat⟩
 |_,_=>none
def Ua:List TV->TV
 |[]=>⟨.unit,.k,()⟩
 |[a]=>a
 |a::r=>⟨.pair a.t (Ua r).t,mkM a.m (Ua r).m,(a.x,(Ua r).x)⟩
def kE (l:List TV):TV:=match l with
 |[a]=>⟨.pair a.t .unit,mkM a.m .k,(a.x,())⟩
 |l=>Ua l
def GO (Θ:fA) (T:TypeId):Option TV:=match Θ.find T with
 |some i=>bif Ki i.ty (X7 Θ 9 T) then some ⟨i.ty,X7 Θ 9 T,i.ty.z⟩ else none
 |none=>none
def St.parts (Θ:fA) (S:St) (ps:List (Nat×Operand)):List TypeId->Nat->Option (List TV×St)
 |[],_=>some ([],S)
 |T::r,j=>match ps.find? (λq=>Nat.beq q.1 j) with
  |some q=>match S.take Θ T q.2 with
   |some (a,S1)=>match S1.parts Θ ps r (j+1) with
    |some (l,S2)=>some (a::l,S2)
    |none=>none
   |none=>none
  |none=>match GO Θ T with
   |some a=>match S.parts Θ ps r (j+1) with
    |some (l,S2)=>some (a::l,S2)
    |none=>none
   |none=>none
def xB (n:Nat):List (Nat×Operand)->Bool
 |[]=>true
 |q::r=>Nat.blt q.1 n&& !(r.any λq'=>Nat.beq q'.1 q.1)&&xB n r
def GP (t:Ty) (m:Md):List TV->Option (List t.I)
 |[]=>some []
 |a::r=>if h:a.t=t then(if a.m=m then match GP t m r with
  |some l=>some ((h▸a.x)::l)
  |none=>none else none) else none
abbrev Hn:=List (Nat×Md)
def Hn.find (h:Hn) (d:Option Nat) (m:Md):Md:=match d with
 |none=>m
 |some d=>match h with
  |[]=>m
  |q::r=>bif Nat.beq q.1 d then q.2 else Hn.find r (some d) m
def Hn.aeQ (h:Hn) (d:Option Nat):Bool:=match h.find d (.o 0 none .k) with
 | .k=>true
 |_=>false
def fA.is (Θ:fA) (T:TypeId) (t:Ty):Bool:=match Θ.find T with
 |some i=>decide (i.ty=t)
 |none=>false
abbrev JC:=Option (Bool×St)
def EB (Θ:fA) (S:St) (dst:Option Nat) (T:TypeId) (x:Operand):JC:=match S.jT Θ T x with
 |some (.Ih l)=>(match dst,x with
  |some d,.tmp i=>bif Nat.beq d i|| !Nat.blt d S.length then none else some (true,(S.put (some i) .dead).put (some d) (.Ih l))
  |_,_=>none)
 |some a=>match S.copy x a with
  |some a=>some (true,S.put dst a)
  |none=>none
 |none=>none
def Q6 (Θ:fA) (S:St) (dst:Option Nat) (T:TypeId) (x:Operand):JC:=match S.jT Θ T x with
 |some a=>match dst,x,a with
  |some d,.tmp i,.v a ex=>bif a.m.b5 then some (true,S.put dst (.v a [])) else match ex with
   |[]=>bif Nat.beq d i|| !Nat.blt d S.length then none else some (true,(St.put (S.put (some i) .dead) dst (.v a [])).set i (.al a.t d []))
   |_=>none
  |_,_,.v a ex=>bif a.m.b5 then some (true,S.put dst (.v a [])) else match ex,x with
   |[],.const _=>some (true,S.put dst (.v a []))
   |_,_=>none
  |some d,_,.al t s []=>bif Nat.beq s d then none else some (true,S.put dst (.al t s []))
  |some d,_,.vY f c=>bif AV.refs d (.vY f c) then none else some (true,S.put dst (.vY f c))
  |_,_,.undef=>some (true,S.put dst .undef)
  |_,_,a=>match S.jL x a with
   |some (a,S1)=>some (true,S1.put dst (.v a []))
   |none=>none
 |none=>match x with
  | .const _=>some (true,S.put dst .dead)
  |_=>none
def aaX (Θ:fA) (S:St) (dst:Option Nat) (T:TypeId) (c a b:Operand):JC:=match S.rd Θ 0 c with
 |some ⟨.bool,_,q⟩=>match S.jT Θ T a,S.jT Θ T b with
  |some (.v ⟨.bool,_,x⟩ _),some (.v ⟨.bool,_,y⟩ _)=>some (true,S.put dst (.v ⟨.bool,.k,bif q then x else y⟩ []))
  |some p,some r=>match (bif q then S.copy a p else S.copy b r) with
   |some a=>some (true,S.put dst a)
   |none=>none
  |_,_=>none
 |_=>none
def EC (Θ:fA) (hn:Hn) (S:St) (dst:Option Nat) (T:TypeId):JC:=match GO Θ T with
 |some z=>bif Ki z.t (hn.find dst z.m) then some (true,S.put dst (.v ⟨.ptr z.t,.o T none (hn.find dst z.m),z.t.z⟩ [])) else none
 |none=>none
def agb (Θ:fA) (S:St) (dst:Option Nat) (T:TypeId) (x:Operand):JC:=match S.take Θ T x with
 |some (a,S1)=>bif Θ.is T a.t then some (true,S1.put dst (.v ⟨.ptr a.t,.o T none a.m,a.x⟩ [])) else none
 |none=>none
def LJ (Θ:fA) (S:St) (dst:Option Nat) (T:TypeId) (ps:List (Nat×Operand)):JC:=match Θ.find T with
 |some i=>match S.parts Θ ps i.fs 0 with
  |some (l,S1)=>bif decide ((kE l).t=i.ty)&&agc i.ty&&xB l.length ps then some (true,S1.put dst (.v (kE l) [])) else none
  |none=>none
 |none=>none
 where agc:Ty->Bool
 | .pair _ _=>true
 |_=>false
def b6 (Θ:fA) (hn:Hn) (S:St) (dst:Option Nat) (T:TypeId) (n:Nat) (ps:List (Nat×Operand)):JC:=match Θ.find T with
 |some ⟨_,.sl t,e,_⟩=>bif xB n ps&&Nat.ble n 1800 then(match S.parts Θ ps (List.replicate n e) 0 with
  |some (l,S1)=>(match l with
   |[]=>some (true,S1.put dst (.v ⟨.sl t,bif hn.aeQ dst then .k else .o e none (hn.find dst .k),[]⟩ []))
   |a::_=>match GP t a.m l with
    |some xs=>some (true,S1.put dst (.v ⟨.sl t,bif hn.aeQ dst&&a.m.b5 then .k else .o e none a.m,xs⟩ []))
    |none=>none)
  |none=>none) else none
 |_=>none
def Ty.flat:Ty->Bool
 | .int _=>true | .bool=>true | .str=>true |_=>false
def X8 (t:Ty):AV->Bool
 | .al ..=>!t.flat
 |_=>true
def nt (Θ:fA) (S:St) (dst:Option Nat) (T:TypeId) (x:Operand):JC:=match S.jT Θ 0 x with
 |some a=>match S.JB x a with
  |some g=>match S.loadAt g with
   |some r=>bif X8 g.ty r&&Θ.is T g.ty then some (true,S.put dst r) else none
   |none=>none
  |none=>none
 |none=>none
def tO (Θ:fA) (S:St) (T:TypeId) (x y:Operand):JC:=match S.jT Θ 0 x with
 |some a=>match S.JB x a with
  |some (.pl _ s p)=>match S.take Θ T y with
   |some (b,S1)=>bif Θ.is T b.t then(match S1.at s with
    | .v r ex=>match pR b p r.t r.m r.x with
     |some (m,z)=>bif ex.all (λh=>!under h p) then some ((kD p (ex.filter λh=>!pre p h)).1,(S1.weaken s).set s (.v ⟨r.t,m,z⟩ (kD p (ex.filter λh=>!pre p h)).2)) else none
     |none=>none
    |_=>none) else none
   |none=>none
  |_=>none
 |none=>none
def ED (Θ:fA) (S S1:St) (T:TypeId) (y:Operand):St:=match S.jT Θ T y with
 |some (.al _ s [])=>(match S.at s,S1.at s with
  | .v ⟨.sl t,m,xs⟩ [],.dead=>bif m.b5 then S1 else S1.set s (.v ⟨.sl t,m,xs⟩ [[]])
  |_,_=>S1)
 |_=>S1
def Kj (Θ:fA) (S:St) (dst:Option Nat) (x:Operand):JC:=match S.jT Θ 0 x with
 |some a=>match S.JB x a with
  |some g=>match S.copy x a,(match g with
   | .k _=>some ()
   | .pl _ s p=>match S.dW s p with
    |some _=>some ()
    |none=>none) with
   |some a,some _=>some (true,S.put dst a)
   |_,_=>none
  |none=>none
 |none=>none
def pS (Θ:fA) (S:St) (dst:Option Nat) (T:TypeId) (x:Operand) (f:Nat):JC:=match S.jT Θ 0 x,Θ.find T with
 |some a,some i=>bif Nat.blt f i.fs.length then(match S.JB x a with
  |some (.k ⟨t,m,y⟩)=>bif decide (i.ty=t) then(match a7 (BD f i.fs.length) t .k y with
   |some b=>some (true,S.put dst (.v ⟨.ptr b.t,.k,b.x⟩ []))
   |none=>none) else none
  |some (.pl t s p)=>bif decide (i.ty=t) then(match S.dW s (p++BD f i.fs.length) with
   |some b=>some (true,S.put dst (.ad b.t s (p++BD f i.fs.length)))
   |none=>none) else none
  |none=>none) else none
 |_,_=>none
def V7 (Θ:fA) (S:St) (dst:Option Nat) (T:TypeId) (x:Operand) (f:Nat):JC:=match S.jT Θ 0 x,Θ.find T with
 |some (.v a ex),some i=>bif Nat.blt f i.fs.length&&decide (i.ty=a.t) then(match x with
  | .tmp j=>match a7 (BD f i.fs.length) a.t a.m a.x with
   |some b=>bif b.m.b5 then(match ex with
    |[]=>some (true,S.put dst (.v (kTV b) []))
    |_=>none) else(match S.dW j (BD f i.fs.length) with
    |some _=>some (true,S.put dst (.al b.t j (BD f i.fs.length)))
    |none=>none)
   |none=>none
  |_=>none) else none
 |_,_=>none
def aD (n:Int) (len:Nat):Bool:=decide (0<=n)&&decide (n<(len:Int))
def dC (Θ:fA) (S:St) (dst:Option Nat) (T:TypeId) (x ix:Operand):JC:=match S.jT Θ 0 x,S.y8 Θ ix with
 |some (.v ⟨.sl t,m,xs⟩ ex),some n=>bif Θ.is T (.sl t) then(match m,x with
  | .k,_=>some (aD n xs.length,S.put dst (.v ⟨.ptr t,.k,xs.getD n.toNat t.z⟩ []))
  | .o ..,.tmp j=>match S.dW j [.idx n.toNat] with
   |some _=>some (aD n xs.length,S.put dst (.ad t j [.idx n.toNat]))
   |none=>none
  |_,_=>none) else none
 |some (.al (.sl t) s p),some n=>bif Θ.is T (.sl t) then(match S.dW s p with
  |some ⟨.sl t',.k,xs⟩=>some (aD n xs.length,S.put dst (.v ⟨.ptr t',.k,xs.getD n.toNat t'.z⟩ []))
  |some ⟨.sl t',.o ..,xs⟩=>match S.dW s (p++[.idx n.toNat]) with
   |some _=>some (aD n xs.length,S.put dst (.ad t' s (p++[.idx n.toNat])))
   |none=>none
  |_=>none) else none
 |_,_=>none
def V8 (Θ:fA) (S:St) (dst:Option Nat) (T:TypeId) (x ix:Operand):JC:=match S.rd Θ 0 x,S.y8 Θ ix with
 |some ⟨.str,_,s⟩,some n=>bif Θ.is T .str then some (aD n s.size,S.put dst (.v ⟨.int .u8,.k,bt s n⟩ [])) else none
 |_,_=>none
def oJ (S:St) (dst:Option Nat) (x:Operand) (j:Nat):JC:=match x with
 | .tmp i=>match S.at i with
  | .Ih l=>match l.getD j none with
   |some a=>bif a.m.b5 then some (true,S.put dst (.v a [])) else(match dst with
    |some d=>bif Nat.beq d i then none else some (true,St.put (S.set i (.Ih (l.set j none))) (some d) (.v a []))
    |none=>none)
   |none=>none
  |_=>none
 |_=>none
def qV (Θ:fA) (S:St) (d:Int):Option Operand->Option Int
 |none=>some d
 |some x=>S.y8 Θ x
def lr (Θ:fA) (S:St) (dst:Option Nat) (T:TypeId) (x:Operand) (lo hi mx:Option Operand):JC:=match S.jT Θ 0 x,S.rd Θ 0 x,qV Θ S 0 lo with
 |some a,some ⟨.str,_,s⟩,some l=>match mx,qV Θ S (s.size:Int) hi with
  |none,some h=>bif Θ.is T .str then some (decide (0<=l)&&decide (l<=h)&&decide (h<=(s.size:Int)),S.put dst (.v ⟨.str,.k,s.extract l.toNat h.toNat⟩ [])) else none
  |_,_=>none
 |some a,some ⟨.sl t,m,xs⟩,some l=>bif Θ.is T (.sl t) then(match qV Θ S (xs.length:Int) hi,mx,Θ.find T with
  |some h,none,_=>match m,a,x with
   | .k,_,_=>some (decide (0<=l)&&decide (l<=h)&&decide (h<=(xs.length:Int)),S.put dst (.v ⟨.sl t,.k,(xs.take h.toNat).drop l.toNat⟩ []))
   |_,.v ..,.tmp i=>some (decide (0<=l)&&decide (l<=h)&&decide (h<=(xs.length:Int)),S.put dst (.cut (.sl t) i [] l.toNat h.toNat))
   |_,.al _ s p,_=>some (decide (0<=l)&&decide (l<=h)&&decide (h<=(xs.length:Int)),S.put dst (.cut (.sl t) s p l.toNat h.toNat))
   |_,_,_=>none
  |some h,some z,some i=>match S.y8 Θ z,hi with
   |some c,some _=>some (decide (l=0)&&decide (h=0)&&decide (c=0),S.put dst (.v ⟨.sl t,.o i.e none .k,[]⟩ []))
   |_,_=>none
  |_,_,_=>none) else none
 |_,_,_=>none
def bytesOf (xs:List Int):ByteArray:=xs.foldl (λr n=>r.push (UInt8.ofNat n.toNat)) ByteArray.empty
def qm (Θ:fA) (S:St) (dst:Option Nat) (T T':TypeId) (x:Operand):JC:=match S.rd Θ 0 x,Θ.find T,Θ.find T' with
 |some ⟨.int _,_,n⟩,some _,some ⟨_,.int k,_,_⟩=>some (true,S.put dst (.v ⟨.int k,.k,k.wrap n⟩ []))
 |some ⟨.sl (.int .u8),_,xs⟩,some ⟨_,.sl (.int .u8),_,_⟩,some ⟨_,.str,_,_⟩=>some (true,S.put dst (.v ⟨.str,.k,bytesOf xs⟩ []))
 |_,_,_=>none
def Q7 (Θ:fA) (S:St) (dst:Option Nat) (op:BinOp) (T:TypeId) (x y:Operand):JC:=match S.rd Θ T x,S.rd Θ T y with
 |some a,some b=>match a.t with
  | .bool=>bif Θ.is T .bool then(match qJ op a b with
   |some (g,r)=>some (g,S.put dst (.v r []))
   |none=>none) else none
  | .pair _ _=>bif Θ.is T a.t then(match qJ op a b with
   |some (g,r)=>some (g,S.put dst (.v r []))
   |none=>none) else none
  |_=>match qJ op a b with
   |some (g,r)=>some (g,S.put dst (.v r []))
   |none=>none
 |_,_=>none
def anv (Θ:fA) (S:St) (dst:Option Nat) (op:UnOp) (x:Operand):JC:=match S.rd Θ 0 x with
 |some a=>match akm op a with
  |some r=>some (true,S.put dst (.v r []))
  |none=>none
 |none=>none
def pT (Θ:fA) (S:St) (dst:Option Nat) (T:TypeId) (l c:Operand):JC:=match Θ.find T,S.y8 Θ l,S.y8 Θ c with
 |some ⟨_,.sl t,e,_⟩,some n,some n'=>match GO Θ e with
  |some z=>if z.t=t then some (decide (n=n')&&decide (0<=n)&&decide (n<=1099511627776),S.put dst (.v ⟨.sl t,.o e none z.m,List.replicate n.toNat t.z⟩ [])) else none
  |none=>none
 |_,_,_=>none
def amt (S:St):Operand->Option V6
 | .tmp i=>match S.at i with
  | .v ⟨.ptr t,.o ..,_⟩ _=>some (V6.pl t i [])
  | .v ⟨.ptr t,.k,y⟩ _=>some (V6.kv ⟨.ptr t,.k,y⟩)
  | .al (.ptr t) s p=>some (V6.pl t s p)
  |_=>none
 |_=>none
def Q8 (S:St):List Operand->Option (List V6)
 |[]=>some []
 |x::r=>match amt S x,Q8 S r with
  |some c,some l=>some (c::l)
  |_,_=>none
def Kk (S:St) (dst:Option Nat) (f:FuncId) (first fc:List Operand):JC:=match first,Q8 S fc with
 |[],some l=>match dst with
  |some d=>bif AV.refs d (.vY f l) then none else some (true,S.put dst (.vY f l))
  |none=>none
 |_,_=>none
def amu:TV->Option Int
 |⟨.sl _,_,xs⟩=>some (xs.length:Int)
 |⟨.str,_,b⟩=>some (b.size:Int)
 |_=>none
def agd (Θ:fA) (S:St) (dst:Option Nat) (ts:List TypeId) (as:List Operand):JC:=match as,ts with
 |[x],[T]=>match (match S.jT Θ 0 x with
   |some (.v a ex)=>bif ex.any List.isEmpty then none else some a
   |some (.al t s p)=>(match S.place s p with
    |some b=>some b
    |none=>match S.dW s p with
     |some ⟨.sl t,m,xs⟩=>some ⟨.sl t,m,xs⟩
     |_=>none)
   |some a=>S.Ii a
   |none=>none) with
  |some b=>bif Θ.is T b.t then(match amu b with
   |some n=>some (true,S.put dst (.v ⟨.int .i64,.k,n⟩ []))
   |none=>none) else none
  |none=>none
 |_,_=>none
def dD (Θ:fA) (S:St) (dst:Option Nat) (ts:List TypeId) (as:List Operand):JC:=match as,ts with
 |[x,y],[T,T']=>match S.take Θ T x,Θ.find T with
  |some (⟨.sl t,.o e _ me,xs⟩,S1),some i=>bif decide (i.ty=.sl t)&&Nat.beq i.e e&&Θ.is T' (.sl t) then
    (bif me.b5 then(match S1.rd Θ T' y with
     |some ⟨.sl t',m',ys⟩=>bif m'.UK.b5 then(if h:t'=t then
       some (decide ((xs.length+ys.length)*t.size<=4398046511104),S1.put dst (.v ⟨.sl t,.o e none me,xs++(h▸ys)⟩ [])) else none) else none
     |_=>none)
    else(match S1.take Θ T' y with
     |some (⟨.sl t',m',ys⟩,S2)=>if h:t'=t then
       (if m'.UK=me then some (decide ((xs.length+ys.length)*t.size<=4398046511104),S2.put dst (.v ⟨.sl t,.o e none me,xs++(h▸ys)⟩ [])) else none) else none
     |_=>none)) else none
  |_,_=>none
 |_,_=>none
def oK (Θ:fA) (S:St) (dst:Option Nat) (ts:List TypeId) (as:List Operand):JC:=match as,ts with
 |[x,y],[T,T']=>match S.jT Θ T x with
  |some (.al _ s (st::pp))=>(match S.at s with
   | .v r ex=>(match a7 (st::pp) r.t r.m r.x,Θ.find T with
    |some ⟨.sl t,.o e _ me,xs⟩,some i=>bif decide (i.ty=.sl t)&&Nat.beq i.e e&&Θ.is T' (.sl t)&&me.b5 then
      (match St.rd Θ (((S.weaken s).cover s (st::pp)).set s (.v r (ex++[st::pp]))) T' y with
      |some ⟨.sl t',m',ys⟩=>bif m'.UK.b5 then(if h:t'=t then
        some (ex.all (λh=>!EA h (st::pp))&&decide ((xs.length+ys.length)*t.size<=4398046511104),St.put (((S.weaken s).cover s (st::pp)).set s (.v r (ex++[st::pp]))) dst (.v ⟨.sl t,.o e none me,xs++(h▸ys)⟩ [])) else none) else none
      |_=>none) else none
    |_,_=>none)
   |_=>none)
  |_=>none
 |_,_=>none
def tP:List (List Int×Bool)->List Int->Bool->List (List Int×Bool)
 |[],k,v=>[(k,v)]
 |q::r,k,v=>bif decide (q.1=k) then(k,v)::r else q::tP r k v
def qW:List (List Int×Bool)->List Int->Option Bool
 |[],_=>none
 |q::r,k=>bif decide (q.1=k) then some q.2 else qW r k
def Oh (S:St) (dst:Option Nat) (T:TypeId) (r:Option Operand):JC:=match r with
 |none=>some (true,S.put dst (.v ⟨.mp,.o T none .k,[]⟩ []))
 |some _=>none
def Q9 (Θ:fA) (S:St) (dst:Option Nat) (T:TypeId) (x y:Operand) (ok:Bool):JC:=match ok,S.rd Θ 0 x,S.rd Θ 0 y with
 |true,some ⟨.mp,_,xs⟩,some ⟨.arr _ (.int .i64),_,k⟩=>bif Θ.is T .mp then some (Qg k,S.put dst (.Ih [some ⟨.bool,.k,(qW xs k).getD false⟩,some ⟨.bool,.k,(qW xs k).isSome⟩])) else none
 |_,_,_=>none
def GQ (Θ:fA) (S:St) (T:TypeId) (x y z:Operand):JC:=match S.jT Θ 0 x,S.rd Θ 0 y,S.rd Θ 0 z with
 |some (.al .mp s []),some ⟨.arr _ (.int .i64),_,k⟩,some ⟨.bool,_,b⟩=>(match S.at s with
  | .v ⟨.mp,.o T' tag me,xs⟩ []=>bif Θ.is T .mp then some (Qg k,(S.weaken s).set s (.v ⟨.mp,.o T' tag me,tP xs k b⟩ [])) else none
  |_=>none)
 |_,_,_=>none
def LK (Θ:fA) (S:St) (dst:Option Nat) (T:TypeId) (ps:List (Nat×Operand)):JC:=match ps,Θ.find T with
 |[(0,x),(1,y)],some i=>bif decide (i.ty=.arr 2 (.int .i64)) then(match S.rd Θ i.e x,S.rd Θ i.e y with
  |some ⟨.int .i64,_,n⟩,some ⟨.int .i64,_,k⟩=>some (true,S.put dst (.v ⟨.arr 2 (.int .i64),.k,[n,k]⟩ []))
  |_,_=>none) else none
 |_,_=>none
def ev (Θ:fA) (hn:Hn) (S:St) (o:Oper):JC:=match o.op with
 | .move x=>EB Θ S o.dst o.type x
 | .assign x=>Q6 Θ S o.dst o.type x
 | .pick c a b=>aaX Θ S o.dst o.type c a b
 | .alloc T=>EC Θ hn S o.dst T
 | .box T x=>agb Θ S o.dst T x
 | .build T ps=>match LJ Θ S o.dst T ps.toList with
  |some r=>some r
  |none=>LK Θ S o.dst T ps.toList
 | .buildSlice T n ps=>b6 Θ hn S o.dst T n ps.toList
 | .load T x=>nt Θ S o.dst T x
 | .store T x y=>match o.dst with
  |none=>(match tO Θ S T x y with
   |some (g,S1)=>some (g,ED Θ S S1 T y)
   |none=>none)
  |some _=>none
 | .nilCheck x=>Kj Θ S o.dst x
 | .fieldAddr T x f=>pS Θ S o.dst T x f
 | .field T x f=>V7 Θ S o.dst T x f
 | .indexAddr T x ix=>dC Θ S o.dst T x ix
 | .index T x ix=>V8 Θ S o.dst T x ix
 | .extract x j=>oJ S o.dst x j
 | .slice T x lo hi mx=>lr Θ S o.dst T x lo hi mx
 | .convert T T' x=>qm Θ S o.dst T T' x
 | .binOp op T x y _=>Q7 Θ S o.dst op T x y
 | .unOp op _ x=>anv Θ S o.dst op x
 | .makeSlice T l c=>pT Θ S o.dst T l c
 | .makeFunc (.func f) first fc=>Kk S o.dst f first.toList fc.toList
 | .call { callee:=.builtin .len,args:=as,argTypes:=ts }=>agd Θ S o.dst ts.toList as.toList
 | .call { callee:=.builtin .append,args:=as,argTypes:=ts }=>match dD Θ S o.dst ts.toList as.toList with
  |some r=>some r
  |none=>oK Θ S o.dst ts.toList as.toList
 | .makeMap T r=>Oh S o.dst T r
 | .lookup T x y ok=>Q9 Θ S o.dst T x y ok
 | .mapUpdate T x y z=>match o.dst with
  |none=>GQ Θ S T x y z
  |some _=>none
 |_=>none
end Go.Pv
namespace Go.Pv
open List Int IntKind
variable {w w':World} {Wr FM:Nat->Prop} {H:Nat->Value}
theorem xU {α:Type} (n:Nat):∀ {l9:List (List α)},(∀ c∈l9,c.length=n)->l9.flatten.length=l9.length*n
 |[],_=>by simp
 |c::r,h=>by have h1:=h c (by simp);have h2:=xU n (l9:=r) λc hc=>h c (by simp[hc]);simp[h1,h2,Nat.add_mul,Nat.add_comm]
theorem xV:∀ (t:Ty) {x:t.I} {cs:List Value},K w Wr t x cs->cs.length=t.size/\∀ u∈cs,u.oneCell'=true
 | .int k,n,cs,h=>by simp only[K] at h;subst h;exact⟨rfl,by simp[Value.oneCell']⟩
 | .bool,n,cs,h=>by simp only[K] at h;subst h;exact⟨rfl,by simp[Value.oneCell']⟩
 | .str,n,cs,h=>by simp only[K] at h;subst h;exact⟨rfl,by simp[Value.oneCell']⟩
 | .unit,n,cs,h=>by simp only[K] at h;subst h;exact⟨rfl,by simp⟩
 | .pair a b,x,cs,h=>by
  simp only[K] at h;obtain⟨c0,c1,rfl,h0,h1⟩:=h;obtain⟨l0,o0⟩:=xV a h0;obtain⟨l1,o1⟩:=xV b h1;refine⟨by simp[l0,l1,Ty.size],λu hu=>?_⟩;rcases List.mem_append.1 hu with hu |hu
  ·exact o0 u hu
  exact o1 u hu
 | .arr n t,xs,cs,h=>by
  simp only[K] at h;obtain⟨l9,rfl,hl,hx,hj⟩:=h;have lP:∀ c∈l9,c.length=t.size/\∀ u∈c,u.oneCell'=true:=by intro c hc;obtain⟨j,Ub,rfl⟩:=List.mem_iff_getElem.1 hc;exact xV t (hj j (by omega) Ub)
  refine⟨by rw[xU t.size λc hc=>(lP c hc).1,hl];rfl,λu hu=>?_⟩;obtain⟨c,hc,hu⟩:=List.mem_flatten.1 hu;exact(lP c hc).2 u hu
 | .sl t,xs,cs,h=>by simp only[K] at h;obtain⟨A,c,rfl,_⟩:=h;exact⟨rfl,by simp[Value.oneCell']⟩
 | .ptr t,xs,cs,h=>by simp only[K] at h;obtain⟨g,off,cur,T,fr,rfl,_⟩:=h;exact⟨rfl,by simp[Value.oneCell']⟩
 | .mp,x,cs,h=>by simp only[K] at h;obtain⟨g,es,n,rfl,_⟩:=h;exact⟨rfl,by simp[Value.oneCell']⟩
structure aU (w w':World) (Wr FM:Nat->Prop):Prop where
 same:∀ g,¬Wr g->g<w.heap.size->w'.heap[g]?=w.heap[g]?
 wr:∀ g,g<w.heap.size->FM g->Wr g
theorem aU.refl (w:World) (Wr:Nat->Prop):aU w w Wr Wr:=⟨λ_ _ _=>rfl,λ_ _ h=>h⟩
theorem bh {α:Type} {a:Array α} {g:Nat} {o:α} (h:a[g]?=some o):g<a.size:=(Array.getElem?_eq_some_iff.1 h).1
theorem cv (hs:aU w w' Wr FM):∀ (t:Ty) {x:t.I} {cs:List Value},K w Wr t x cs->K w' FM t x cs
 | .int k,n,cs,h=>h
 | .bool,n,cs,h=>h
 | .str,n,cs,h=>h
 | .unit,n,cs,h=>h
 | .pair a b,x,cs,h=>by simp only[K] at h ⊢;obtain⟨c0,c1,rfl,h0,h1⟩:=h;exact⟨c0,c1,rfl,cv hs a h0,cv hs b h1⟩
 | .arr n t,xs,cs,h=>by simp only[K] at h ⊢;obtain⟨l9,rfl,hl,hx,hj⟩:=h;exact⟨l9,rfl,hl,hx,λj h1 h2=>cv hs t (hj j h1 h2)⟩
 | .sl t,xs,cs,h=>by simp only[K] at h ⊢;obtain⟨A,c,rfl,hc,h⟩:=h;refine⟨A,c,rfl,hc,λhp=>?_⟩;obtain⟨g,off,cur,T,fr,rfl,hg,hw,ho,hj⟩:=h hp;have du:=bh hw;exact⟨g,off,cur,T,fr,rfl,λbq=>hg (hs.wr g du bq),(hs.same g hg du).trans hw,ho,λj Ub=>cv hs t (hj j Ub)⟩
 | .ptr t,x,cs,h=>by simp only[K] at h ⊢;obtain⟨g,off,cur,T,fr,rfl,hg,hw,ho,hj⟩:=h;have du:=bh hw;exact⟨g,off,cur,T,fr,rfl,λbq=>hg (hs.wr g du bq),(hs.same g hg du).trans hw,ho,cv hs t hj⟩
 | .mp,x,cs,h=>by simp only[K] at h ⊢;obtain⟨g,es,n,rfl,hg,hw,hm⟩:=h;have du:=bh hw;exact⟨g,es,n,rfl,λbq=>hg (hs.wr g du bq),(hs.same g hg du).trans hw,hm⟩
theorem lQ:∀ (t:Ty) {m:Md} {x:t.I} {cs:List Value} {ow:Nat->Prop} {hs:List Path},M w Wr H t m x cs ow hs->cs.length=t.size/\∀ u∈cs,u.oneCell'=true
 | .int k,m,n,cs,_,_,h=>xV (.int k) (by simp only[M] at h;exact h.2)
 | .bool,m,n,cs,_,_,h=>xV .bool (by simp only[M] at h;exact h.2)
 | .str,m,n,cs,_,_,h=>xV .str (by simp only[M] at h;exact h.2)
 | .unit,m,n,cs,_,_,h=>xV .unit (by simp only[M] at h;exact h.2)
 | .arr n t,m,_,cs,_,_,h=>xV (.arr n t) (by simp only[M] at h;exact h.2)
 | .pair a b,m,x,cs,ow,hs,h=>by
  simp only[M] at h;rcases h with⟨_,_,h⟩ |⟨_,h⟩ |⟨ma,mb,c0,c1,s,_,rfl,h0,h1⟩
  ·exact h
  ·exact xV _ h
  obtain⟨l0,o0⟩:=lQ a h0;obtain⟨l1,o1⟩:=lQ b h1;refine⟨by simp[l0,l1,Ty.size],λu hu=>?_⟩;rcases List.mem_append.1 hu with hu |hu
  ·exact o0 u hu
  exact o1 u hu
 | .sl t,m,xs,cs,ow,hs,h=>by
  simp only[M] at h;rcases h with⟨_,_,A,c,rfl⟩ |⟨_,h⟩ |⟨T,tag,me,A,c,_,rfl,_⟩
  ·exact⟨rfl,by simp[Value.oneCell']⟩
  ·exact xV _ h
  exact⟨rfl,by simp[Value.oneCell']⟩
 | .ptr t,m,xs,cs,ow,hs,h=>by
  simp only[M] at h;rcases h with⟨_,_,h⟩ |⟨_,h⟩ |⟨T,tag,me,g,cur,_,rfl,_⟩
  ·exact h
  ·exact xV _ h
  exact⟨rfl,by simp[Value.oneCell']⟩
 | .mp,m,x,cs,ow,hs,h=>by
  simp only[M] at h;rcases h with⟨_,_,h⟩ |⟨_,h⟩ |⟨T,tag,g,es,n,_,rfl,_⟩
  ·exact h
  ·exact xV _ h
  exact⟨rfl,by simp[Value.oneCell']⟩
theorem jn {s:Step} {p:Path} {hs:List Path}:p∈sub s hs↔(s::p)∈hs:=by
 unfold sub;rw[List.mem_filterMap];constructor
 ·rintro⟨q,hq,h⟩;cases q with
  |nil=>simp at h
  |cons a r=>by_cases e:a=s<;>simp[e] at h;subst h e;exact hq
 intro h;exact⟨_,h,by simp⟩
theorem Ak {s:Step} {hs yC:List Path} (h:∀ p∈hs,p∈yC):∀ p∈sub s hs,p∈sub s yC:=λp hp=>jn.2 (h _ (jn.1 hp))
theorem aG (cP:aU w w' Wr FM):∀ (t:Ty) {m:Md} {x:t.I} {cs:List Value} {ow fp:Nat->Prop} {hs yC:List Path},(∀ g,ow g->g<w.heap.size->w'.heap[g]?=w.heap[g]?)->(∀ g,ow g->g<w.heap.size->fp g)->(∀ p∈hs,p∈yC)->M w Wr H t m x cs ow hs->M w' FM H t m x cs fp yC
 | .int k,m,n,cs,_,_,_,_,_,_,_,h=>by simp only[M] at h ⊢;exact h
 | .bool,m,n,cs,_,_,_,_,_,_,_,h=>by simp only[M] at h ⊢;exact h
 | .str,m,n,cs,_,_,_,_,_,_,_,h=>by simp only[M] at h ⊢;exact h
 | .unit,m,n,cs,_,_,_,_,_,_,_,h=>by simp only[M] at h ⊢;exact h
 | .arr n t,m,_,cs,_,_,_,_,_,_,_,h=>by simp only[M] at h ⊢;exact⟨h.1,cv cP _ h.2⟩
 | .pair a b,m,x,cs,ow,fp,hs,yC,hb,ho,hp,h=>by
  simp only[M] at h ⊢;rcases h with⟨h1,h⟩ |⟨h1,h⟩ |⟨ma,mb,c0,c1,s,e,rfl,h0,h1⟩
  ·exact .inl ⟨hp _ h1,h⟩
  ·exact .inr (.inl ⟨h1,cv cP _ h⟩)
  exact .inr (.inr ⟨ma,mb,c0,c1,s,e,rfl,aG cP a (λg hg=>hb g hg.1) (λg hg hl=>⟨ho g hg.1 hl,hg.2⟩) (Ak hp) h0,
   aG cP b (λg hg=>hb g hg.1) (λg hg hl=>⟨ho g hg.1 hl,hg.2⟩) (Ak hp) h1⟩)
 | .sl t,m,xs,cs,ow,fp,hs,yC,hb,ho,hp,h=>by
  simp only[M] at h ⊢;rcases h with⟨h1,h⟩ |⟨h1,h⟩ |⟨T,tag,me,A,c,e,rfl,hc,ht,h⟩
  ·exact .inl ⟨hp _ h1,h⟩
  ·exact .inr (.inl ⟨h1,cv cP _ h⟩)
  refine .inr (.inr ⟨T,tag,me,A,c,e,rfl,hc,ht,?_⟩);rcases h with h |⟨g,cur,τ,rfl,hg,hw,pL,hm,hj⟩
  ·exact .inl h
  have du:=bh hw;exact .inr ⟨g,cur,τ,rfl,ho g hg du,(hb g hg du).trans hw,pL,hm,λj Ub=>aG cP t (λg' bq=>hb g' bq.1) (λg' bq hl=>⟨ho g' bq.1 hl,bq.2⟩) (Ak hp) (hj j Ub)⟩
 | .ptr t,m,x,cs,ow,fp,hs,yC,hb,ho,hp,h=>by
  simp only[M] at h ⊢;rcases h with⟨h1,h⟩ |⟨h1,h⟩ |⟨T,tag,me,g,cur,e,rfl,ht,hg,hw,h⟩
  ·exact .inl ⟨hp _ h1,h⟩
  ·exact .inr (.inl ⟨h1,cv cP _ h⟩)
  have du:=bh hw;exact .inr (.inr ⟨T,tag,me,g,cur,e,rfl,ht,ho g hg du,(hb g hg du).trans hw,aG cP t (λg' bq=>hb g' bq.1) (λg' bq hl=>⟨ho g' bq.1 hl,bq.2⟩) (Ak hp) h⟩)
 | .mp,m,x,cs,ow,fp,hs,yC,hb,ho,hp,h=>by
  simp only[M] at h ⊢;rcases h with⟨h1,h⟩ |⟨h1,h⟩ |⟨T,tag,g,es,n,e,rfl,ht,hg,hw,hm⟩
  ·exact .inl ⟨hp _ h1,h⟩
  ·exact .inr (.inl ⟨h1,cv cP _ h⟩)
  have du:=bh hw;exact .inr (.inr ⟨T,tag,g,es,n,e,rfl,ht,ho g hg du,(hb g hg du).trans hw,hm⟩)
theorem M_K (hw:∀ g,g<w.heap.size->FM g->Wr g):∀ (t:Ty) {m:Md} {x:t.I} {cs:List Value} {ow:Nat->Prop} {hs:List Path},hs=[]->(∀ g,ow g->¬FM g)->M w Wr H t m x cs ow hs->K w FM t x cs
 | .int k,m,n,cs,_,_,_,_,h=>by simp only[M] at h;exact h.2
 | .bool,m,n,cs,_,_,_,_,h=>by simp only[M] at h;exact h.2
 | .str,m,n,cs,_,_,_,_,h=>by simp only[M] at h;exact h.2
 | .unit,m,n,cs,_,_,_,_,h=>by simp only[M] at h;exact h.2
 | .arr n t,m,_,cs,_,_,_,_,h=>by simp only[M] at h;exact cv ⟨λ_ _ _=>rfl,hw⟩ _ h.2
 | .pair a b,m,x,cs,ow,hs,e,hn,h=>by
  subst e;simp only[M] at h;rcases h with⟨h1,h⟩ |⟨h1,h⟩ |⟨ma,mb,c0,c1,s,e,rfl,h0,h1⟩
  ·simp at h1
  ·exact cv ⟨λ_ _ _=>rfl,hw⟩ _ h
  simp only[K];exact⟨c0,c1,rfl,M_K hw a rfl (λg hg=>hn g hg.1) h0,M_K hw b rfl (λg hg=>hn g hg.1) h1⟩
 | .sl t,m,xs,cs,ow,hs,e,hn,h=>by
  subst e;simp only[M] at h;rcases h with⟨h1,h⟩ |⟨h1,h⟩ |⟨T,tag,me,A,c,e,rfl,hc,ht,h⟩
  ·simp at h1
  ·exact cv ⟨λ_ _ _=>rfl,hw⟩ _ h
  simp only[K];refine⟨A,c,rfl,hc,λhp=>?_⟩;rcases h with⟨rfl,_⟩ |⟨g,cur,τ,rfl,hg,hh,pL,hm,hj⟩
  ·simp at hp
  exact⟨g,0,cur,T,(0,0),rfl,hn g hg,hh,by rw[pL];have:=Nat.mul_le_mul_right t.size hc;omega,λj Ub=>by
   rw[Nat.zero_add];exact M_K hw t rfl (λg' bq=>hn g' bq.1) (hj j Ub)⟩
 | .ptr t,m,x,cs,ow,hs,e,hn,h=>by
  subst e;simp only[M] at h;rcases h with⟨h1,h⟩ |⟨h1,h⟩ |⟨T,tag,me,g,cur,e,rfl,ht,hg,hh,h⟩
  ·simp at h1
  ·exact cv ⟨λ_ _ _=>rfl,hw⟩ _ h
  have hl:=(lQ t h).1;simp only[K];refine⟨g,0,cur,T,(0,0),rfl,hn g hg,hh,by rw[←hl];simp,?_⟩;rw[List.drop_zero,List.take_of_length_le (by omega)];exact M_K hw t rfl (λg' bq=>hn g' bq.1) h
 | .mp,m,x,cs,ow,hs,e,hn,h=>by
  subst e;simp only[M] at h;rcases h with⟨h1,h⟩ |⟨h1,h⟩ |⟨T,tag,g,es,n,e,rfl,ht,hg,hh,hm⟩
  ·simp at h1
  ·exact cv ⟨λ_ _ _=>rfl,hw⟩ _ h
  simp only[K];exact⟨g,es,n,rfl,hn g hg,hh,hm⟩
end Go.Pv
namespace Go.Pv
open List Int IntKind
variable {w w':World} {Wr FM:Nat->Prop} {H:Nat->Value}
theorem nu:∀ (t:Ty) {x:t.I} {cs:List Value} {ow:Nat->Prop} {hs:List Path},K w Wr t x cs->M w Wr H t .k x cs ow hs
 | .int _,_,_,_,_,h=>by simp only[M];exact⟨rfl,h⟩
 | .bool,_,_,_,_,h=>by simp only[M];exact⟨rfl,h⟩
 | .str,_,_,_,_,h=>by simp only[M];exact⟨rfl,h⟩
 | .unit,_,_,_,_,h=>by simp only[M];exact⟨rfl,h⟩
 | .arr _ _,_,_,_,_,h=>by simp only[M];exact⟨rfl,h⟩
 | .mp,_,_,_,_,h=>by simp only[M];exact .inr (.inl ⟨rfl,h⟩)
 | .pair _ _,_,_,_,_,h=>by simp only[M];exact .inr (.inl ⟨rfl,h⟩)
 | .sl _,_,_,_,_,h=>by simp only[M];exact .inr (.inl ⟨rfl,h⟩)
 | .ptr _,_,_,_,_,h=>by simp only[M];exact .inr (.inl ⟨rfl,h⟩)
theorem nj:∀ (t:Ty) {m:Md} {x:t.I} {cs:List Value} {ow:Nat->Prop} {hs:List Path},m.b5=true->M w Wr H t m x cs ow hs->K w Wr t x cs
 | .int _,_,_,_,_,_,_,h=>by simp only[M] at h;exact h.2
 | .bool,_,_,_,_,_,_,h=>by simp only[M] at h;exact h.2
 | .str,_,_,_,_,_,_,h=>by simp only[M] at h;exact h.2
 | .unit,_,_,_,_,_,_,h=>by simp only[M] at h;exact h.2
 | .arr _ _,_,_,_,_,_,_,h=>by simp only[M] at h;exact h.2
 | .mp,m,_,_,_,_,hk,h=>by
  simp only[M] at h;rcases h with⟨_,h,_⟩ |⟨_,h⟩ |⟨T,tag,g,es,n,rfl,_⟩
  ·rw[hk] at h;cases h
  ·exact h
  simp[Md.b5] at hk
 | .sl _,m,_,_,_,_,hk,h=>by
  simp only[M] at h;rcases h with⟨_,h,_⟩ |⟨_,h⟩ |⟨T,tag,me,A,c,rfl,_⟩
  ·rw[hk] at h;cases h
  ·exact h
  simp[Md.b5] at hk
 | .ptr _,m,_,_,_,_,hk,h=>by
  simp only[M] at h;rcases h with⟨_,h,_⟩ |⟨_,h⟩ |⟨T,tag,me,g,cur,rfl,_⟩
  ·rw[hk] at h;cases h
  ·exact h
  simp[Md.b5] at hk
 | .pair a b,m,_,_,_,_,hk,h=>by
  simp only[M] at h;rcases h with⟨_,h,_⟩ |⟨_,h⟩ |⟨ma,mb,c0,c1,s,rfl,rfl,h0,h1⟩
  ·rw[hk] at h;cases h
  ·exact h
  simp[Md.b5] at hk;simp only[K];exact⟨c0,c1,rfl,nj a hk.1 h0,nj b hk.2 h1⟩
theorem CG {t:Ty} {m:Md} {x:t.I} {cs:List Value} {ow:Nat->Prop} {hs:List Path} (hk:m.b5=true) (h:K w Wr t x cs):M w Wr H t m x cs ow hs:=by cases t<;>simp only[M]<;>first |exact⟨hk,h⟩ |exact .inr (.inl ⟨hk,h⟩)
theorem EE {m:Md} (h:m.b5=true):m.UK.b5=true:=by cases m<;>simp_all [Md.b5,Md.UK]
theorem X9 {m:Md} (h:m.b5=true):m.l.b5=true:=by cases m<;>simp_all [Md.b5,Md.l]
theorem Ya {m:Md} (h:m.b5=true):m.r.b5=true:=by cases m<;>simp_all [Md.b5,Md.r]
theorem LL {a b:Ty} {ma mb:Md} {x:a.I} {y:b.I} {c0 c1:List Value} {ow s:Nat->Prop} {hs:List Path} (h0:M w Wr H a ma x c0 (λg=>ow g/\s g) (sub .fst hs)) (h1:M w Wr H b mb y c1 (λg=>ow g/\ ¬s g) (sub .snd hs)): M w Wr H (.pair a b) (mkM ma mb) (x,y) (c0++c1) ow hs:=by
 unfold mkM;cases h:ma.b5&&mb.b5 with
 |false=>simp only[cond_false,M];exact .inr (.inr ⟨ma,mb,c0,c1,s,rfl,rfl,h0,h1⟩)
 |true=>simp at h;exact nu _ (by simp only[K];exact⟨c0,c1,rfl,nj a h.1 h0,nj b h.2 h1⟩)
def rowAt (w:World) (g off n:Nat):Option (List Value):=match w.heap[g]? with
 |some (.cells cur _ _)=>if off+n<=cur.size then some ((cur.toList.drop off).take n) else none
 |_=>none
def aH (w:World):Path->(t:Ty)->List Value->Option (List Value)
 |[],_,cs=>some cs
 | .deref::p,.ptr t,[.pointer (some ⟨g,off,none⟩)]=>(rowAt w g off t.size).bind (aH w p t)
 | .fst::p,.pair a _,cs=>aH w p a (cs.take a.size)
 | .snd::p,.pair a b,cs=>aH w p b (cs.drop a.size)
 | .idx i::p,.sl t,[.slice (some ⟨g,off,none⟩) _ _]=>(rowAt w g (off+i*t.size) t.size).bind (aH w p t)
 |_::_,_,_=>none
def addrAt (w:World):Path->(t:Ty)->List Value->Option (Nat×Nat)->Option (Nat×Nat)
 |[],_,_,l=>l
 | .deref::p,.ptr t,[.pointer (some ⟨g,off,none⟩)],_=>(rowAt w g off t.size).bind λcs=>addrAt w p t cs (some (g,off))
 | .fst::p,.pair a _,cs,l=>addrAt w p a (cs.take a.size) l
 | .snd::p,.pair a b,cs,l=>addrAt w p b (cs.drop a.size) (l.map λq=>(q.1,q.2+a.size))
 | .idx i::p,.sl t,[.slice (some ⟨g,off,none⟩) _ _],_=>(rowAt w g (off+i*t.size) t.size).bind λcs=>addrAt w p t cs (some (g,off+i*t.size))
 |_::_,_,_,_=>none
def valid:Path->(t:Ty)->t.I->Prop
 |[],_,_=>True
 | .deref::p,.ptr t,x=>valid p t x
 | .fst::p,.pair a _,x=>valid p a x.1
 | .snd::p,.pair _ b,x=>valid p b x.2
 | .idx i::p,.sl t,xs=>i<xs.length/\valid p t (xs.getD i t.z)
 |_::_,_,_=>False
def LM:Path->List Path->List Path
 |[],hs=>hs
 |s::p,hs=>LM p (sub s hs)
theorem Q' {p q:Path}:∀ {hs:List Path},q∈LM p hs↔(p++q)∈hs:=by
 induction p with
 |nil=>intro hs;rfl
 |cons s p ih=>intro hs;simp only[LM,ih,jn,List.cons_append]
def open_ (p:Path) (hs:List Path):Prop:=∀ h∈hs,∀ s r,p≠h++s::r
theorem open_.sub {s:Step} {p:Path} {hs:List Path} (h:open_ (s::p) hs):open_ p (sub s hs):=λq hq s' r e=>h _ (jn.1 hq) s' r (by rw[e];rfl)
theorem open_.not_nil {s:Step} {p:Path} {hs:List Path} (h:open_ (s::p) hs):[]∉hs:=λhn=>h [] hn s p rfl
theorem bH {cur:Array Value} {T:TypeId} {fr:Nat×Nat} {g off n:Nat} (h:w.heap[g]?=some (.cells cur T fr)) (hl:off+n<=cur.size):rowAt w g off n=some ((cur.toList.drop off).take n):=by simp[rowAt,h,hl]
theorem focus:∀ (p:Path) {t:Ty} {m:Md} {x:t.I} {cs:List Value} {ow:Nat->Prop} {hs:List Path} {b:TV},M w Wr H t m x cs ow hs->open_ p hs->valid p t x->a7 p t m x=some b-> ∃ fH fp,aH w p t cs=some fH/\(∀ g,fp g->ow g)/\M w Wr H b.t b.m b.x fH fp (LM p hs)
 |[],t,m,x,cs,ow,hs,b,h,ho,hv,hg=>by simp only[a7,Option.some.injEq] at hg;subst hg;exact⟨cs,ow,rfl,λ_ h=>h,h⟩
 | .deref::p,.ptr t,m,x,cs,ow,hs,b,h,ho,hv,hg=>by
  simp only[a7] at hg;simp only[valid] at hv;simp only[M] at h;rcases h with⟨hn,_⟩ |⟨hk,h⟩ |⟨T,tag,me,g,cur,rfl,rfl,ht,FN,hw,h⟩
  ·exact absurd hn ho.not_nil
  ·simp only[K] at h;obtain⟨g,off,cur,T,fr,rfl,hng,hw,hl,h⟩:=h;obtain⟨fH,fp,h1,h2,h3⟩:=focus p (ow:=λ_=>False) (CG (EE hk) h) ho.sub hv hg
   exact⟨fH,fp,by simp only[aH,bH hw hl,Option.bind_some];exact h1,λg hg=>(h2 g hg).elim,h3⟩
  have hlen:=(lQ t h).1;obtain⟨fH,fp,h1,h2,h3⟩:=focus p h ho.sub hv hg
  refine⟨fH,fp,?_,λg hg=>(h2 g hg).1,h3⟩;have pL:0+t.size<=cur.size:=(by rw[←hlen];simp);simp only[aH,bH hw pL,Option.bind_some,List.drop_zero];rw[List.take_of_length_le (by omega)];exact h1
 | .fst::p,.pair a b',m,x,cs,ow,hs,b,h,ho,hv,hg=>by
  simp only[a7] at hg;simp only[valid] at hv;simp only[M] at h;rcases h with⟨hn,_⟩ |⟨hk,h⟩ |⟨ma,mb,c0,c1,s,rfl,rfl,h0,h1⟩
  ·exact absurd hn ho.not_nil
  ·simp only[K] at h;obtain⟨c0,c1,rfl,h0,h1⟩:=h;obtain⟨fH,fp,k1,k2,k3⟩:=focus p (ow:=λ_=>False) (CG (X9 hk) h0) ho.sub hv hg
   exact⟨fH,fp,by simp only[aH];rw[←(xV a h0).1,List.take_left];exact k1,λg hg=>(k2 g hg).elim,k3⟩
  obtain⟨fH,fp,k1,k2,k3⟩:=focus p h0 ho.sub hv hg
  exact⟨fH,fp,by simp only[aH];rw[←(lQ a h0).1,List.take_left];exact k1,λg hg=>(k2 g hg).1,k3⟩
 | .snd::p,.pair a b',m,x,cs,ow,hs,b,h,ho,hv,hg=>by
  simp only[a7] at hg;simp only[valid] at hv;simp only[M] at h;rcases h with⟨hn,_⟩ |⟨hk,h⟩ |⟨ma,mb,c0,c1,s,rfl,rfl,h0,h1⟩
  ·exact absurd hn ho.not_nil
  ·simp only[K] at h;obtain⟨c0,c1,rfl,h0,h1⟩:=h;obtain⟨fH,fp,k1,k2,k3⟩:=focus p (ow:=λ_=>False) (CG (Ya hk) h1) ho.sub hv hg
   exact⟨fH,fp,by simp only[aH];rw[←(xV a h0).1,List.drop_left];exact k1,λg hg=>(k2 g hg).elim,k3⟩
  obtain⟨fH,fp,k1,k2,k3⟩:=focus p h1 ho.sub hv hg
  exact⟨fH,fp,by simp only[aH];rw[←(lQ a h0).1,List.drop_left];exact k1,λg hg=>(k2 g hg).1,k3⟩
 | .idx i::p,.sl t,m,xs,cs,ow,hs,b,h,ho,hv,hg=>by
  simp only[a7] at hg;simp only[valid] at hv;obtain⟨hi,hv⟩:=hv;have mm:(show List t.I from xs).getD i t.z=(show List t.I from xs)[i]:=by simp[List.getD_eq_getElem?_getD,List.getElem?_eq_getElem hi]
  simp only[M] at h;rcases h with⟨hn,_⟩ |⟨hk,h⟩ |⟨T,tag,me,A,c,rfl,rfl,hc,ht,h⟩
  ·exact absurd hn ho.not_nil
  ·simp only[K] at h;obtain⟨A,c,rfl,hc,h⟩:=h;obtain⟨g,off,cur,T,fr,rfl,hng,hw,hl,h⟩:=h (by omega);have hbound:off+i*t.size+t.size<=cur.size:=by have:=Nat.mul_le_mul_right t.size (show i+1<=xs.length from hi);rw[Nat.add_mul,Nat.one_mul] at this;omega
   have hK:=h i hi;rw[←mm] at hK;obtain⟨fH,fp,h1,h2,h3⟩:=focus p (ow:=λ_=>False) (CG (EE hk) hK) ho.sub hv hg
   exact⟨fH,fp,by simp only[aH,bH hw hbound,Option.bind_some];exact h1,λg hg=>(h2 g hg).elim,h3⟩
  rcases h with⟨rfl,_⟩ |⟨g,cur,τ,rfl,FN,hw,pL,hm,h⟩
  ·simp at hi
  have hbound:i*t.size+t.size<=cur.size:=(by have h1:=Nat.mul_le_mul_right t.size (show i+1<=xs.length from hi);have h2:=Nat.mul_le_mul_right t.size hc;rw[Nat.add_mul,Nat.one_mul] at h1;omega);have hM:=h i hi;rw[←mm] at hM;obtain⟨fH,fp,h1,h2,h3⟩:=focus p hM ho.sub hv hg
  exact⟨fH,fp,by simp only[aH,Nat.zero_add,bH hw hbound,Option.bind_some];exact h1,λg hg=>(h2 g hg).1,h3⟩
end Go.Pv
namespace Go.Pv
open List Int IntKind
variable {w w':World} {Wr FM:Nat->Prop} {H:Nat->Value}
def putCells (cur:List Value) (off:Nat) (c:List Value):List Value:=cur.take off++c++cur.drop (off+c.length)
theorem qn (cur c:List Value) (off k:Nat) (h:off+c.length<=cur.length): (putCells cur off c)[k]?=if k<off then cur[k]? else if k<off+c.length then c[k - off]? else cur[k]?:=by
 unfold putCells;have hl:(cur.take off).length=off:=by rw[List.length_take];omega
 by_cases h1:k<off
 ·rw[if_pos h1,List.append_assoc,List.getElem?_append_left (by omega),List.getElem?_take,if_pos h1]
 rw[if_neg h1];by_cases h2:k<off+c.length
 ·rw[if_pos h2,List.append_assoc,List.getElem?_append_right (by omega),hl,List.getElem?_append_left (by omega)]
 rw[if_neg h2,List.getElem?_append_right (by rw[List.length_append];omega),List.length_append,hl,List.getElem?_drop];congr 1;omega
theorem qo (cur c:List Value) (off:Nat) (h:off+c.length<=cur.length):(putCells cur off c).length=cur.length:=by unfold putCells;simp only[List.length_append,List.length_take,List.length_drop];omega
theorem anw (cur c:List Value) (a off n:Nat) (h1:off+c.length<=n) (h2:a+n<=cur.length): ((putCells cur (a+off) c).drop a).take n=putCells ((cur.drop a).take n) off c:=by
 apply List.ext_getElem?;intro k;have hl:((cur.drop a).take n).length=n:=by simp;omega
 rw[qn _ _ _ _ (by omega)];by_cases hk:k<n
 ·rw[List.getElem?_take,if_pos hk,List.getElem?_drop,qn _ _ _ _ (by omega)];simp only[List.getElem?_take,if_pos hk,List.getElem?_drop];by_cases h3:k<off
  ·rw[if_pos h3,if_pos (by omega)]
  rw[if_neg h3,if_neg (by omega)];by_cases h4:k<off+c.length
  ·rw[if_pos h4,if_pos (by omega)];congr 1;omega
  rw[if_neg h4,if_neg (by omega)]
 rw[List.getElem?_take,if_neg hk,if_neg (by omega),if_neg (by omega),List.getElem?_take,if_neg hk]
theorem adj (cur c:List Value) (o a n:Nat) (h:o+c.length<=cur.length) (hd:a+n<=o∨o+c.length<=a): ((putCells cur o c).drop a).take n=(cur.drop a).take n:=by
 apply List.ext_getElem?;intro k;by_cases hk:k<n
 ·simp only[List.getElem?_take,if_pos hk,List.getElem?_drop];rw[qn _ _ _ _ h];by_cases h3:a+k<o
  ·rw[if_pos h3]
  rw[if_neg h3,if_neg (by omega)]
 simp only[List.getElem?_take,if_neg hk]
def aI:Path->Bool
 |[]=>true
 | .fst::p=>aI p
 | .snd::p=>aI p
 |_::_=>false
def aE:Path->Ty->Nat
 | .fst::p,.pair a _=>aE p a
 | .snd::p,.pair a b=>a.size+aE p b
 |_,_=>0
def EF:Path->Ty->List Value->List Value->List Value
 |[],_,_,c=>c
 | .fst::p,.pair a _,cs,c=>EF p a (cs.take a.size) c++cs.drop a.size
 | .snd::p,.pair a b,cs,c=>cs.take a.size++EF p b (cs.drop a.size) c
 |_,_,cs,_=>cs
def yD (w w':World) (loc:Option (Nat×Nat)) (c:List Value) (g:Nat):Prop:=match loc with
 |some q=>if g=q.1 then ∃ cur T,w.heap[g]?=some (.cells cur T (0,0))/\w'.heap[g]?=some (.cells (putCells cur.toList q.2 c).toArray T (0,0)) else w'.heap[g]?=w.heap[g]?
 |none=>w'.heap[g]?=w.heap[g]?
theorem hY:∀ (p:Path) {t:Ty} {m:Md} {x:t.I} {b:TV},aI p=true->a7 p t m x=some b->aE p t+b.t.size<=t.size
 |[],t,m,x,b,_,hg=>by simp only[a7,Option.some.injEq] at hg;subst hg;simp[aE]
 | .fst::p,.pair a b',m,x,b,hm,hg=>by simp only[a7] at hg;have:=hY p (by simpa[aI] using hm) hg;simp only[aE,Ty.size];omega
 | .snd::p,.pair a b',m,x,b,hm,hg=>by simp only[a7] at hg;have:=hY p (by simpa[aI] using hm) hg;simp only[aE,Ty.size];omega
theorem lu:∀ (p:Path) {t:Ty} {cs:List Value},aI p=true->addrAt w p t cs none=none
 |[],_,_,_=>rfl
 | .fst::p,.pair a b,cs,h=>by simp only[addrAt];exact lu p (by simpa[aI] using h)
 | .snd::p,.pair a b,cs,h=>by simp only[addrAt,Option.map_none];exact lu p (by simpa[aI] using h)
 | .fst::p,.int _,_,_ | .fst::p,.bool,_,_ | .fst::p,.str,_,_ | .fst::p,.sl _,_,_ | .fst::p,.ptr _,_,_ | .fst::p,.unit,_,_ | .fst::p,.arr _ _,_,_ | .fst::p,.mp,_,_=>by simp[addrAt]
 | .snd::p,.int _,_,_ | .snd::p,.bool,_,_ | .snd::p,.str,_,_ | .snd::p,.sl _,_,_ | .snd::p,.ptr _,_,_ | .snd::p,.unit,_,_ | .snd::p,.arr _ _,_,_ | .snd::p,.mp,_,_=>by simp[addrAt]
theorem qp:∀ (p:Path) {t:Ty} {m:Md} {x:t.I} {cs:List Value} {b:TV} {g o:Nat},aI p=true->a7 p t m x=some b->addrAt w p t cs (some (g,o))=some (g,o+aE p t)
 |[],_,_,_,_,_,_,_,_,_=>by simp[addrAt,aE]
 | .fst::p,.pair a b,m,x,cs,_,_,_,h,hg=>by simp only[a7] at hg;simp only[addrAt,aE];exact qp p (by simpa[aI] using h) hg
 | .snd::p,.pair a b,m,x,cs,_,g,o,h,hg=>by simp only[a7] at hg;simp only[addrAt,aE,Option.map_some];rw[qp p (by simpa[aI] using h) hg,Nat.add_assoc]
theorem BE:∀ (p:Path) {t:Ty} {cs:List Value} (l l':Option (Nat×Nat)),aI p=false->addrAt w p t cs l=addrAt w p t cs l'
 |[],_,_,_,_,h=>by simp[aI] at h
 | .fst::p,.pair a b,cs,l,l',h=>by simp only[addrAt];exact BE p _ _ (by simpa[aI] using h)
 | .snd::p,.pair a b,cs,l,l',h=>by simp only[addrAt];exact BE p _ _ (by simpa[aI] using h)
 | .deref::p,.ptr t,cs,l,l',h=>by unfold addrAt;split<;>simp_all
 | .idx i::p,.sl t,cs,l,l',h=>by unfold addrAt;split<;>simp_all
 | .fst::p,.int _,_,_,_,_ | .fst::p,.bool,_,_,_,_ | .fst::p,.str,_,_,_,_ | .fst::p,.sl _,_,_,_,_ | .fst::p,.ptr _,_,_,_,_ | .fst::p,.unit,_,_,_,_ | .fst::p,.arr _ _,_,_,_,_ | .fst::p,.mp,_,_,_,_=>by simp[addrAt]
 | .snd::p,.int _,_,_,_,_ | .snd::p,.bool,_,_,_,_ | .snd::p,.str,_,_,_,_ | .snd::p,.sl _,_,_,_,_ | .snd::p,.ptr _,_,_,_,_ | .snd::p,.unit,_,_,_,_ | .snd::p,.arr _ _,_,_,_,_ | .snd::p,.mp,_,_,_,_=>by simp[addrAt]
 | .deref::p,.int _,_,_,_,_ | .deref::p,.bool,_,_,_,_ | .deref::p,.str,_,_,_,_ | .deref::p,.sl _,_,_,_,_ | .deref::p,.pair _ _,_,_,_,_ | .deref::p,.unit,_,_,_,_ | .deref::p,.arr _ _,_,_,_,_ | .deref::p,.mp,_,_,_,_=>by simp[addrAt]
 | .idx _::p,.int _,_,_,_,_ | .idx _::p,.bool,_,_,_,_ | .idx _::p,.str,_,_,_,_ | .idx _::p,.ptr _,_,_,_,_ | .idx _::p,.pair _ _,_,_,_,_ | .idx _::p,.unit,_,_,_,_ | .idx _::p,.arr _ _,_,_,_,_ | .idx _::p,.mp,_,_,_,_=>by simp[addrAt]
theorem kh:∀ (p:Path) {t:Ty} {m:Md} {x:t.I} {cs:List Value} {b:TV},aI p=true->a7 p t m x=some b->cs.length=t.size->aH w p t cs=some ((cs.drop (aE p t)).take b.t.size)
 |[],t,m,x,cs,b,_,hg,hl=>by simp only[a7,Option.some.injEq] at hg;subst hg;simp only[aH,aE,List.drop_zero];rw[List.take_of_length_le (by show cs.length<=t.size;omega)]
 | .fst::p,.pair a b',m,x,cs,b,h,hg,hl=>by simp only[a7] at hg;simp only[Ty.size] at hl;have hf:=hY p (by simpa[aI] using h) hg;simp only[aH,aE];rw[kh p (by simpa[aI] using h) hg (by rw[List.length_take];omega),List.drop_take,List.take_take];congr 2;omega
 | .snd::p,.pair a b',m,x,cs,b,h,hg,hl=>by simp only[a7] at hg;simp only[Ty.size] at hl;simp only[aH,aE];rw[kh p (by simpa[aI] using h) hg (by rw[List.length_drop];omega),List.drop_drop]
theorem xW:∀ (p:Path) {t:Ty} {m:Md} {x:t.I} {cs c:List Value} {b:TV},aI p=true->a7 p t m x=some b->cs.length=t.size->c.length=b.t.size->EF p t cs c=putCells cs (aE p t) c
 |[],t,m,x,cs,c,b,_,hg,hl,hc=>by simp only[a7,Option.some.injEq] at hg;subst hg;simp only[EF,aE,putCells,List.take_zero,List.nil_append,Nat.zero_add];rw[List.drop_of_length_le (by have hc':c.length=t.size:=hc;omega),List.append_nil]
 | .fst::p,.pair a b',m,x,cs,c,b,h,hg,hl,hc=>by simp only[a7] at hg;simp only[Ty.size] at hl;have hf:=hY p (by simpa[aI] using h) hg;simp only[EF,aE];rw[xW p (by simpa[aI] using h) hg (by rw[List.length_take];omega) hc];unfold putCells;rw[List.take_take,Nat.min_eq_left (by omega),List.append_assoc,List.append_assoc,List.append_assoc,List.drop_take];congr 2;rw[show cs.drop a.size=(cs.drop (aE p a+c.length)).drop (a.size - (aE p a+c.length)) from by rw[List.drop_drop];congr 1;omega,List.take_append_drop]
 | .snd::p,.pair a b',m,x,cs,c,b,h,hg,hl,hc=>by simp only[a7] at hg;simp only[Ty.size] at hl;simp only[EF,aE];rw[xW p (by simpa[aI] using h) hg (by rw[List.length_drop];omega) hc];unfold putCells;rw[←List.append_assoc,←List.append_assoc,←List.take_add,List.drop_drop];congr 2;omega
theorem wS:∀ (p:Path) {t:Ty} {cs c:List Value},aI p=false->EF p t cs c=cs
 |[],_,_,_,h=>by simp[aI] at h
 | .fst::p,.pair a b,cs,c,h=>by simp only[EF];rw[wS p (by simpa[aI] using h),List.take_append_drop]
 | .snd::p,.pair a b,cs,c,h=>by simp only[EF];rw[wS p (by simpa[aI] using h),List.take_append_drop]
 | .deref::p,t,cs,c,h=>by simp[EF]
 | .idx i::p,t,cs,c,h=>by simp[EF]
 | .fst::p,.int _,_,_,_ | .fst::p,.bool,_,_,_ | .fst::p,.str,_,_,_ | .fst::p,.sl _,_,_,_ | .fst::p,.ptr _,_,_,_ | .fst::p,.unit,_,_,_ | .fst::p,.arr _ _,_,_,_ | .fst::p,.mp,_,_,_=>by simp[EF]
 | .snd::p,.int _,_,_,_ | .snd::p,.bool,_,_,_ | .snd::p,.str,_,_,_ | .snd::p,.sl _,_,_,_ | .snd::p,.ptr _,_,_,_ | .snd::p,.unit,_,_,_ | .snd::p,.arr _ _,_,_,_ | .snd::p,.mp,_,_,_=>by simp[EF]
end Go.Pv
namespace Go.Pv
open List Int IntKind
variable {w w':World} {Wr FM:Nat->Prop} {H:Nat->Value}
def asN (w:World) (Wr:Nat->Prop) (H:Nat->Value) (p:Path) (t:Ty) (m:Md) (x:t.I) (cs:List Value) (ow fp:Nat->Prop) (hs:List Path) (b:TV) (fH:List Value):Prop:=∀ (b2:TV) (r:Md×t.I),b2.t=b.t->pR b2 p t m x=some r-> (∀ g off,addrAt w p t cs none=some (g,off)->ow g/\ ¬fp g/\∃ cur T,w.heap[g]?=some (.cells cur T (0,0))/\off+b.t.size<=cur.size/\fH=(cur.toList.drop off).take b.t.size)/\ ∀ (w':World) (FM:Nat->Prop) (c:List Value) (wT:Nat->Prop) (yC:List Path),aU w w' Wr FM->c.length=b.t.size-> (∀ g,ow g->¬fp g->g<w.heap.size->yD w w' (addrAt w p t cs none) c g)->M w' FM H b2.t b2.m b2.x c wT (LM p yC)-> (∀ g,wT g->g<w.heap.size->ow g->fp g)->(∀ h,(∀ q,h≠p++q)->h∈hs->h∈yC)-> M w' FM H t r.1 r.2 (EF p t cs c) (λg=>(ow g/\ ¬fp g)∨wT g) yC
theorem Ae {s:Step} {p:Path} {hs yC:List Path} (h:∀ h,(∀ q,h≠s::p++q)->h∈hs->h∈yC):∀ h,(∀ q,h≠p++q)->h∈sub s hs->h∈sub s yC:=λq hq hm=>
 jn.2 (h _ (λr e=>hq r (by rw[List.cons_append] at e;injection e)) (jn.1 hm))
theorem GR {s s':Step} (wU:s'≠s) {p:Path} {hs yC:List Path} (h:∀ h,(∀ q,h≠s::p++q)->h∈hs->h∈yC):∀ q∈sub s' hs,q∈sub s' yC:=λq hq=>
 jn.2 (h _ (λr e=>by rw[List.cons_append] at e;injection e with e _;exact wU e) (jn.1 hq))
theorem Ra {b2:TV} {i:Nat} {p:Path} {t:Ty} {T:TypeId} {tag:Option Nat} {me:Md} {xs:List t.I} {r:Md×List t.I} (h:pR b2 (.idx i::p) (.sl t) (.o T tag me) xs=some r): ∃ r1,pR b2 p t me (getD xs i t.z)=some r1/\r1.1=me/\r=(.o T tag me,List.set xs i r1.2):=by
 unfold pR at h;split at h
 ·rename_i r1 h1;split at h
  ·rename_i h2;injection h with h;exact⟨r1,h1,h2,h.symm⟩
  cases h
 cases h
theorem Oi:∀ (p:Path) {t:Ty} {m:Md} {x:t.I} {cs:List Value} {ow:Nat->Prop} {hs:List Path} {b:TV},M w Wr H t m x cs ow hs->open_ p hs->valid p t x->a7 p t m x=some b-> ∃ fH fp,aH w p t cs=some fH/\(∀ g,fp g->ow g)/\M w Wr H b.t b.m b.x fH fp (LM p hs)/\asN w Wr H p t m x cs ow fp hs b fH
 |[],t,m,x,cs,ow,hs,b,h,ho,hv,hg=>by simp only[a7,Option.some.injEq] at hg;subst hg;refine⟨cs,ow,rfl,λ_ h=>h,h,λb2 r ht hr=>⟨λg off e=>by simp[addrAt] at e,λw' FM c wT yC cP hc hb hm GL hh=>?_⟩⟩;obtain⟨t2,m2,x2⟩:=b2;simp only at ht;subst ht;simp only[pR,dite_true,Option.some.injEq] at hr;subst hr;exact aG (aU.refl _ _) t2 (λ_ _ _=>rfl) (λg hg _=>.inr hg) (λ_ h=>h) hm
 | .deref::p,.ptr t,m,x,cs,ow,hs,b,h,ho,hv,hg=>by
  simp only[a7] at hg;simp only[valid] at hv;simp only[M] at h;rcases h with⟨hn,_⟩ |⟨hk,h⟩ |⟨T,tag,me,g,cur,rfl,rfl,ht,FN,hw,h⟩
  ·exact absurd hn ho.not_nil
  ·obtain⟨fH,fp,h1,h2,h3⟩:=focus (H:=H) (ow:=ow) (.deref::p) (CG (t:=.ptr t) hk h) ho hv (by simpa only[a7] using hg)
   exact⟨fH,fp,h1,h2,h3,λb2 r _ hr=>by cases m<;>simp[pR,Md.b5] at hr hk⟩
  have hlen:=(lQ t h).1;obtain⟨fH,fp,h1,h2,h3,h4⟩:=Oi p h ho.sub hv hg;have pL:0+t.size<=cur.size:=(by rw[←hlen];simp);have nw:rowAt w g 0 t.size=some cur.toList:=(by rw[bH hw pL,List.drop_zero,List.take_of_length_le (by omega)]);refine⟨fH,fp,?_,λg hg=>(h2 g hg).1,h3,λb2 r LN hr=>?_⟩
  ·simp only[aH,nw,Option.bind_some];exact h1
  simp only[pR] at hr;cases X1:pR b2 p t me x with
  |none=>simp[X1] at hr
  |some r1=>
  simp only[X1,Option.some.injEq] at hr;subst hr;obtain⟨ha,xX⟩:=h4 b2 r1 LN X1;have y9:addrAt w (.deref::p) (.ptr t) [.pointer (some ⟨g,0,none⟩)] none=addrAt w p t cur.toList (some (g,0)):=by simp only[addrAt,nw,Option.bind_some]
  cases X4:aI p with
  |true=>
  have iT:=qp (w:=w) (cs:=cur.toList) (g:=g) (o:=0) p X4 hg;have GS:=hY p X4 hg;have rX:=kh (w:=w) p X4 hg hlen;rw[h1] at rX;injection rX with rX;rw[y9,iT];refine⟨λg' off e=>?_,λw' FM c wT yC cP hc hb hm GL hh=>?_⟩
  ·injection e with e;injection e with e1 e2;subst e1 e2;exact⟨FN,λhx=>(h2 g hx).2 rfl,cur,T,hw,by rw[←hlen] at GS;simp at GS ⊢;omega,by rw[Nat.zero_add];exact rX⟩
  have du:=bh hw;have bq:=hb g FN (λhx=>(h2 g hx).2 rfl) du;simp only[yD,if_true,Nat.zero_add] at bq;obtain⟨pM,T2,e2,BF⟩:=bq;rw[hw] at e2;injection e2 with e2;injection e2 with e2 e3;subst e2 e3;have hM:=xX w' FM c wT (sub .deref yC) cP hc (λg' lO EG hl=>by
   rw[lu p X4]
   have:=hb g' lO.1 EG hl
   simp only[yD,lO.2,if_false] at this
   exact this) hm (λg' lO hl EG=>GL g' lO hl EG.1) (Ae hh)
  rw[xW p X4 hg hlen hc] at hM;simp only[EF,M];refine .inr (.inr ⟨T,tag,r1.1,g,_,rfl,rfl,ht,.inl ⟨FN,λhx=>(h2 g hx).2 rfl⟩,BF,?_⟩);refine aG (aU.refl _ _) t (λ_ _ _=>rfl) (λg' lO hl=>?_) (λ_ h=>h) hM;rcases lO with⟨⟨a1,a2⟩,a3⟩ |a
  ·exact⟨.inl ⟨a1,a3⟩,a2⟩
  refine⟨.inr a,λe=>?_⟩;subst e;exact(h2 g' (GL g' a du FN)).2 rfl
  |false=>
  have iT:=BE (w:=w) (t:=t) (cs:=cur.toList) p (some (g,0)) none X4;rw[y9,iT];refine⟨λg' off e=>?_,λw' FM c wT yC cP hc hb hm GL hh=>?_⟩
  ·obtain⟨a1,a2,a3⟩:=ha g' off e;exact⟨a1.1,a2,a3⟩
  have du:=bh hw;have hM:=xX w' FM c wT (sub .deref yC) cP hc (λg' lO EG hl=>hb g' lO.1 EG hl) hm (λg' lO hl EG=>GL g' lO hl EG.1) (Ae hh);rw[wS p X4] at hM;have BF:w'.heap[g]?=some (.cells cur T (0,0)):=by
   have bq:=hb g FN (λhx=>(h2 g hx).2 rfl) du;cases EH:addrAt w p t cur.toList none with
   |none=>rw[EH] at bq;exact bq.trans hw
   |some q=>rw[EH] at bq;have wU:g≠q.1:=λe=>(ha q.1 q.2 EH).1.2 e.symm;simp only[yD,wU,if_false] at bq;exact bq.trans hw
  simp only[EF,M];refine .inr (.inr ⟨T,tag,r1.1,g,_,rfl,rfl,ht,.inl ⟨FN,λhx=>(h2 g hx).2 rfl⟩,BF,?_⟩);refine aG (aU.refl _ _) t (λ_ _ _=>rfl) (λg' lO hl=>?_) (λ_ h=>h) hM;rcases lO with⟨⟨a1,a2⟩,a3⟩ |a
  ·exact⟨.inl ⟨a1,a3⟩,a2⟩
  refine⟨.inr a,λe=>?_⟩;subst e;exact(h2 g' (GL g' a du FN)).2 rfl
 | .fst::p,.pair a b',m,x,cs,ow,hs,b,h,ho,hv,hg=>by
  simp only[a7] at hg;simp only[valid] at hv;have wV:∃ c0 c1,∃ s:Nat->Prop,cs=c0++c1/\M w Wr H a m.l x.1 c0 (λg=>ow g/\s g) (sub .fst hs)/\M w Wr H b' m.r x.2 c1 (λg=>ow g/\ ¬s g) (sub .snd hs):=by
   simp only[M] at h;rcases h with⟨hn,_⟩ |⟨hk,h⟩ |⟨ma,mb,c0,c1,s,rfl,rfl,h0,h1⟩
   ·exact absurd hn ho.not_nil
   ·simp only[K] at h;obtain⟨c0,c1,rfl,h0,h1⟩:=h;exact⟨c0,c1,λ_=>True,rfl,CG (X9 hk) h0,CG (Ya hk) h1⟩
   exact⟨c0,c1,s,rfl,h0,h1⟩
  obtain⟨c0,c1,s,rfl,h0,h1⟩:=wV;obtain⟨fH,fp,k1,k2,k3,k4⟩:=Oi p h0 ho.sub hv hg;have l0:=(lQ a h0).1;have ht:(c0++c1).take a.size=c0:=(by rw[←l0,List.take_left]);have hd:(c0++c1).drop a.size=c1:=(by rw[←l0,List.drop_left]);refine⟨fH,fp,by simp only[aH,ht];exact k1,λg hg=>(k2 g hg).1,k3,λb2 r LN hr=>?_⟩;simp only[pR] at hr;cases X1:pR b2 p a m.l x.1 with
  |none=>simp[X1] at hr
  |some r1=>
  simp only[X1,Option.some.injEq] at hr;subst hr;obtain⟨ha,xX⟩:=k4 b2 r1 LN X1;have y9:addrAt w (.fst::p) (.pair a b') (c0++c1) none=addrAt w p a c0 none:=by simp only[addrAt,ht]
  rw[y9];refine⟨λg' off e=>?_,λw' FM c wT yC cP hc hb hm GL hh=>?_⟩
  ·obtain⟨a1,a2,a3⟩:=ha g' off e;exact⟨a1.1,a2,a3⟩
  have hM:=xX w' FM c wT (sub .fst yC) cP hc (λg' lO EG hl=>hb g' lO.1 EG hl) hm (λg' lO hl EG=>GL g' lO hl EG.1) (Ae hh);simp only[EF,ht,hd];refine LL (s:=λg=>(s g/\ow g)∨wT g) ?_ ?_
  ·refine aG (aU.refl _ _) a (λ_ _ _=>rfl) (λg' lO hl=>?_) (λ_ h=>h) hM;rcases lO with⟨⟨a1,a2⟩,a3⟩ |q
   ·exact⟨.inl ⟨a1,a3⟩,.inl ⟨a2,a1⟩⟩
   exact⟨.inr q,.inr q⟩
  refine aG cP b' (λg' lO hl=>?_) (λg' lO hl=>⟨.inl ⟨lO.1,λhx=>lO.2 (k2 g' hx).2⟩,λhx=>?_⟩) (GR (by decide) hh) h1
  ·have bq:=hb g' lO.1 (λhx=>lO.2 (k2 g' hx).2) hl;cases EH:addrAt w p a c0 none with
   |none=>rw[EH] at bq;exact bq
   |some q=>rw[EH] at bq;have wU:g'≠q.1:=λe=>lO.2 (by rw[e];exact(ha q.1 q.2 EH).1.2);simp only[yD,wU,if_false] at bq;exact bq
  rcases hx with hx |hx
  ·exact lO.2 hx.1
  exact lO.2 (k2 g' (GL g' hx hl lO.1)).2
 | .snd::p,.pair a b',m,x,cs,ow,hs,b,h,ho,hv,hg=>by
  simp only[a7] at hg;simp only[valid] at hv;have wV:∃ c0 c1,∃ s:Nat->Prop,cs=c0++c1/\M w Wr H a m.l x.1 c0 (λg=>ow g/\s g) (sub .fst hs)/\M w Wr H b' m.r x.2 c1 (λg=>ow g/\ ¬s g) (sub .snd hs):=by
   simp only[M] at h;rcases h with⟨hn,_⟩ |⟨hk,h⟩ |⟨ma,mb,c0,c1,s,rfl,rfl,h0,h1⟩
   ·exact absurd hn ho.not_nil
   ·simp only[K] at h;obtain⟨c0,c1,rfl,h0,h1⟩:=h;exact⟨c0,c1,λ_=>True,rfl,CG (X9 hk) h0,CG (Ya hk) h1⟩
   exact⟨c0,c1,s,rfl,h0,h1⟩
  obtain⟨c0,c1,s,rfl,h0,h1⟩:=wV;obtain⟨fH,fp,k1,k2,k3,k4⟩:=Oi p h1 ho.sub hv hg;have l0:=(lQ a h0).1;have ht:(c0++c1).take a.size=c0:=(by rw[←l0,List.take_left]);have hd:(c0++c1).drop a.size=c1:=(by rw[←l0,List.drop_left]);refine⟨fH,fp,by simp only[aH,hd];exact k1,λg hg=>(k2 g hg).1,k3,λb2 r LN hr=>?_⟩;simp only[pR] at hr;cases X1:pR b2 p b' m.r x.2 with
  |none=>simp[X1] at hr
  |some r1=>
  simp only[X1,Option.some.injEq] at hr;subst hr;obtain⟨ha,xX⟩:=k4 b2 r1 LN X1;have y9:addrAt w (.snd::p) (.pair a b') (c0++c1) none=addrAt w p b' c1 none:=by simp only[addrAt,hd,Option.map_none]
  rw[y9];refine⟨λg' off e=>?_,λw' FM c wT yC cP hc hb hm GL hh=>?_⟩
  ·obtain⟨a1,a2,a3⟩:=ha g' off e;exact⟨a1.1,a2,a3⟩
  have hM:=xX w' FM c wT (sub .snd yC) cP hc (λg' lO EG hl=>hb g' lO.1 EG hl) hm (λg' lO hl EG=>GL g' lO hl EG.1) (Ae hh);simp only[EF,ht,hd];refine LL (s:=λg=>(s g/\ow g)/\ ¬wT g) ?_ ?_
  ·refine aG cP a (λg' lO hl=>?_) (λg' lO hl=>⟨.inl ⟨lO.1,λhx=>(k2 g' hx).2 lO.2⟩,⟨lO.2,lO.1⟩,λhx=>(k2 g' (GL g' hx hl lO.1)).2 lO.2⟩) (GR (by decide) hh) h0;have bq:=hb g' lO.1 (λhx=>(k2 g' hx).2 lO.2) hl;cases EH:addrAt w p b' c1 none with
   |none=>rw[EH] at bq;exact bq
   |some q=>rw[EH] at bq;have wU:g'≠q.1:=λe=>(ha q.1 q.2 EH).1.2 (by rw[←e];exact lO.2);simp only[yD,wU,if_false] at bq;exact bq
  refine aG (aU.refl _ _) b' (λ_ _ _=>rfl) (λg' lO hl=>?_) (λ_ h=>h) hM;rcases lO with⟨⟨a1,a2⟩,a3⟩ |q
  ·exact⟨.inl ⟨a1,a3⟩,λhx=>a2 hx.1.1⟩
  exact⟨.inr q,λhx=>hx.2 q⟩
 | .idx i::p,.sl t,m,xs,cs,ow,hs,b,h,ho,hv,hg=>by
  simp only[a7] at hg;have hv0:=hv;simp only[valid] at hv;obtain⟨hi,hv⟩:=hv;have mm:getD xs i t.z=xs[i]:=by simp[List.getD_eq_getElem?_getD,List.getElem?_eq_getElem hi]
  simp only[M] at h;rcases h with⟨hn,_⟩ |⟨hk,h⟩ |⟨T,tag,me,A,c,rfl,rfl,hc,ht,h⟩
  ·exact absurd hn ho.not_nil
  ·obtain⟨fH,fp,h1,h2,h3⟩:=focus (H:=H) (ow:=ow) (.idx i::p) (CG (t:=.sl t) hk h) ho hv0 (by simpa only[a7] using hg)
   exact⟨fH,fp,h1,h2,h3,λb2 r _ hr=>by cases m<;>simp[pR,Md.b5] at hr hk⟩
  rcases h with⟨rfl,_⟩ |⟨g,cur,τ,rfl,FN,hw,pL,hm,h⟩
  ·simp at hi
  ·have apW:i*t.size+t.size<=cur.size:=by
    have h1:=Nat.mul_le_mul_right t.size (show i+1<=xs.length from hi)
    have h2:=Nat.mul_le_mul_right t.size hc
    rw[Nat.add_mul,Nat.one_mul] at h1
    omega
   have Yb:=h i hi
   rw[←mm] at Yb
   have hlen:=(lQ t Yb).1
   obtain⟨fH,fp,h1,h2,h3,h4⟩:=Oi p Yb ho.sub hv hg
   have nw:rowAt w g (0+i*t.size) t.size=some ((cur.toList.drop (i*t.size)).take t.size):=by rw[Nat.zero_add,bH hw apW]
   refine⟨fH,fp,?_,λg hg=>(h2 g hg).1,h3,λb2 r LN hr=>?_⟩
   ·simp only[aH,nw,Option.bind_some];exact h1
   obtain⟨r1,X1,hme,rfl⟩:=Ra hr
   obtain⟨ha,xX⟩:=h4 b2 r1 LN X1
   have y9:addrAt w (.idx i::p) (.sl t) [.slice (some ⟨g,0,none⟩) xs.length c] none=addrAt w p t ((cur.toList.drop (i*t.size)).take t.size) (some (g,i*t.size)):=by
    simp only[addrAt];rw[nw];simp only[Option.bind_some,Nat.zero_add]
   -- the other elements,and this one,behind the change
   have du:=bh hw
   have rest:∀ (w':World) (FM:Nat->Prop) (c2:List Value) (wT:Nat->Prop) (yC:List Path) (pM:Array Value),aU w w' Wr FM->
     (∀ g',ow g'->g'≠g->¬fp g'->(∀ q,addrAt w p t ((cur.toList.drop (i*t.size)).take t.size) none=some q->g'≠q.1)->g'<w.heap.size->w'.heap[g']?=w.heap[g']?)->
     w'.heap[g]?=some (.cells pM T (0,0))->pM.size=cur.size->
     (∀ j,j<xs.length->j≠i->(pM.toList.drop (j*t.size)).take t.size=(cur.toList.drop (j*t.size)).take t.size)->
     M w' FM H t r1.1 r1.2 ((pM.toList.drop (i*t.size)).take t.size) (λg'=>((ow g'/\g'≠g/\τ g'=i)/\ ¬fp g')∨wT g') (sub (.idx i) yC)->
     (∀ g',wT g'->g'<w.heap.size->ow g'->fp g')->(∀ h,(∀ q,h≠ .idx i::p++q)->h∈hs->h∈yC)->
     M w' FM H (.sl t) (.o T tag me) (List.set xs i r1.2) [.slice (some ⟨g,0,none⟩) xs.length c] (λg'=>(ow g'/\ ¬fp g')∨wT g') yC:=by
    intro w' FM c2 wT yC pM cP tQ BF asO yE hM GL hh
    have hng: ¬fp g:=λhx=>(h2 g hx).2.1 rfl
    simp only[M]
    refine .inr (.inr ⟨T,tag,me,some ⟨g,0,none⟩,c,rfl,by rw[List.length_set],by rw[List.length_set];exact hc,λh hh=>by rw[List.length_set];exact ht h hh,.inr ⟨g,pM,λg'=>open Classical in if wT g' then i else τ g',rfl,.inl ⟨FN,hng⟩,BF,by rw[asO,pL],hm,λj hj=>?_⟩⟩)
    rw[List.length_set] at hj
    by_cases zN:j=i
    ·subst zN
     rw[List.getElem_set_self,←hme]
     refine aG (aU.refl _ _) t (λ_ _ _=>rfl) (λg' lO hl=>?_) (λ_ h=>h) hM
     rcases lO with⟨⟨a1,a2,a3⟩,a4⟩ |a
     ·exact⟨.inl ⟨a1,a4⟩,a2,by simp only;split<;>first |rfl |exact a3⟩
     ·refine⟨.inr a,λe=>?_,by simp only;rw[if_pos a]⟩
      subst e
      exact hng (GL g' a du FN)
    ·rw[List.getElem_set_ne (λe=>zN e.symm),yE j hj zN]
     have apX:∀ g',(ow g'/\g'≠g/\τ g'=j)->g'<w.heap.size->¬wT g':=λg' lO hl hx=>zN (by rw[←lO.2.2];exact(h2 g' (GL g' hx hl lO.1)).2.2)
     have apY:∀ g',(ow g'/\g'≠g/\τ g'=j)->¬fp g':=λg' lO hx=>zN (by rw[←lO.2.2];exact(h2 g' hx).2.2)
     refine aG cP t (λg' lO hl=>tQ g' lO.1 lO.2.1 (apY g' lO) (λq hq e=>?_) hl) (λg' lO hl=>⟨.inl ⟨lO.1,apY g' lO⟩,lO.2.1,?_⟩) (GR (by intro e;injection e with e;exact zN e) hh) (h j hj)
     ·have:=(ha q.1 q.2 hq).1.2.2
      rw[←e,lO.2.2] at this
      exact zN this
     ·simp only
      rw[if_neg (apX g' lO hl)]
      exact lO.2.2
   cases X4:aI p with
   |true=>
    have iT:=qp (w:=w) (cs:=(cur.toList.drop (i*t.size)).take t.size) (g:=g) (o:=i*t.size) p X4 hg
    have GS:=hY p X4 hg
    have rX:=kh (w:=w) p X4 hg hlen
    rw[h1] at rX
    injection rX with rX
    rw[y9,iT]
    refine⟨λg' off e=>?_,λw' FM c2 wT yC cP Gx hb hm2 GL hh=>?_⟩
    ·injection e with e
     injection e with e1 e2
     subst e1 e2
     refine⟨FN,λhx=>(h2 g hx).2.1 rfl,cur,T,hw,by omega,?_⟩
     rw[rX,List.drop_take,List.drop_drop,List.take_take]
     congr 1
     omega
    ·have bq:=hb g FN (λhx=>(h2 g hx).2.1 rfl) du
     simp only[yD,if_true] at bq
     obtain⟨pM,T2,e2,BF⟩:=bq
     rw[hw] at e2
     injection e2 with e2
     injection e2 with e2 e3
     subst e2 e3
     have apZ:i*t.size+aE p t+c2.length<=cur.toList.length:=by rw[Gx,Array.length_toList];omega
     have hM:=xX w' FM c2 wT (sub (.idx i) yC) cP Gx (λg' lO EG hl=>by
      rw[lu p X4]
      have:=hb g' lO.1 EG hl
      simp only[yD,lO.2.1,if_false] at this
      exact this) hm2 (λg' lO hl EG=>GL g' lO hl EG.1) (Ae hh)
     rw[xW p X4 hg hlen Gx] at hM
     refine rest w' FM c2 wT yC _ cP (λg' lO EG hg3 _ hl=>?_) BF (by rw[List.size_toArray,qo _ _ _ apZ,Array.length_toList]) (λj hj zN=>?_) ?_ GL hh
     ·have:=hb g' lO hg3 hl
      simp only[yD,EG,if_false] at this
      exact this
     ·rw[List.toList_toArray]
      refine adj _ _ _ _ _ apZ ?_
      rcases Nat.lt_or_gt_of_ne zN with anx |anx
      ·left
       have:=Nat.mul_le_mul_right t.size (show j+1<=i from anx)
       rw[Nat.add_mul,Nat.one_mul] at this
       omega
      ·right
       have:=Nat.mul_le_mul_right t.size (show i+1<=j from anx)
       rw[Nat.add_mul,Nat.one_mul] at this
       rw[Gx]
       omega
     ·rw[List.toList_toArray,anw _ _ _ _ _ (by rw[Gx];omega) (by rw[Array.length_toList];omega)]
      exact hM
   |false=>
    have iT:=BE (w:=w) (t:=t) (cs:=(cur.toList.drop (i*t.size)).take t.size) p (some (g,i*t.size)) none X4
    rw[y9,iT]
    refine⟨λg' off e=>?_,λw' FM c2 wT yC cP Gx hb hm2 GL hh=>?_⟩
    ·obtain⟨a1,a2,a3⟩:=ha g' off e
     exact⟨a1.1,a2,a3⟩
    ·have hM:=xX w' FM c2 wT (sub (.idx i) yC) cP Gx (λg' lO EG hl=>hb g' lO.1 EG hl) hm2 (λg' lO hl EG=>GL g' lO hl EG.1) (Ae hh)
     rw[wS p X4] at hM
     have same:∀ g',ow g'->¬fp g'->(∀ q,addrAt w p t ((cur.toList.drop (i*t.size)).take t.size) none=some q->g'≠q.1)->g'<w.heap.size->w'.heap[g']?=w.heap[g']?:=by
      intro g' lO EG hq hl
      have bq:=hb g' lO EG hl
      cases EH:addrAt w p t ((cur.toList.drop (i*t.size)).take t.size) none with
      |none=>rw[EH] at bq;exact bq
      |some q=>
       rw[EH] at bq
       simp only[yD,hq q EH,if_false] at bq
       exact bq
     have BF:w'.heap[g]?=some (.cells cur T (0,0)):=(same g FN (λhx=>(h2 g hx).2.1 rfl) (λq hq e=>(ha q.1 q.2 hq).1.2.1 e.symm) du).trans hw
     exact rest w' FM c2 wT yC cur cP (λg' lO _ hg3 hq hl=>same g' lO hg3 hq hl) BF rfl (λj hj zN=>rfl) hM GL hh
end Go.Pv
namespace Go.Pv
open List Int IntKind
structure aa where
 res:List TV
 refs:List TV
inductive Arg where
 |tv (a:TV)
 |fn (f:FuncId) (fc:List TV)
inductive Pass where
 |val |take |Al
 deriving DecidableEq
structure n9 where
 sig:FuncId->List Pass
 run:FuncId->List Arg->(aa->Option aa)->Option aa
structure Entry where
 f:FuncId
 sig:List Pass
 run:List Arg->(aa->Option aa)->Option aa
def entry:List Entry->FuncId->Option Entry
 |[],_=>none
 |e::r,f=>bif Nat.beq e.f f then some e else entry r f
def n9.of (l:List Entry):n9 where
 sig f:=match entry l f with
  |some e=>e.sig
  |none=>[]
 run f:=match entry l f with
  |some e=>e.run
  |none=>λ_ _=>none
inductive Ex where
 |n |x (id:Nat) |r
inductive CK where
 |kv (t:Ty) |pl (t:Ty) (s:Nat) (p:Path)
@[reducible] def Rb:List CK->Type
 |[]=>Unit
 | .kv t::r=>t.I×Rb r
 | .pl _ _ _::r=>Rb r
def Am:(cs:List CK)->Rb cs->List V6
 |[],_=>[]
 | .kv t::r,x=>.kv ⟨t,.k,x.1⟩::Am r x.2
 | .pl t s p::r,x=>.pl t s p::Am r x
def GU:(cs:List CK)->List V6->Option (Rb cs)
 |[],[]=>some ()
 | .kv t::r,.kv ⟨t',m',x⟩::S=>if h:t'=t then(if m'=.k then match GU r S with
  |some y=>some (h▸x,y)
  |none=>none else none) else none
 | .pl t s p::r,.pl t' s' p'::S=>if t'=t then(bif Nat.beq s' s then(if p'=p then GU r S else none) else none) else none
 |_,_=>none
inductive Kd where
 |dead |v (t:Ty) (m:Md) |al (t:Ty) (s:Nat) |vY (f:FuncId) (cs:List CK)
@[reducible] def xY:List Kd->Type
 |[]=>Unit
 | .v t _::r=>t.I×xY r
 | .dead::r=>xY r
 | .al _ _::r=>xY r
 | .vY _ cs::r=>Rb cs×xY r
def shape:(ks:List Kd)->xY ks->St
 |[],_=>[]
 | .v t m::r,x=>.v ⟨t,m,x.1⟩ []::shape r x.2
 | .dead::r,x=>.dead::shape r x
 | .al t s::r,x=>.al t s []::shape r x
 | .vY f cs::r,x=>.vY f (Am cs x.1)::shape r x.2
def proj:(ks:List Kd)->St->Option (xY ks)
 |[],[]=>some ()
 | .v t m::r,.v ⟨t',m',x⟩ []::S=>if h:t'=t then(if m'=m then match proj r S with
  |some y=>some (h▸x,y)
  |none=>none else none) else none
 | .dead::r,_::S=>proj r S
 | .al t s::r,.al t' s' []::S=>if t'=t then(bif Nat.beq s' s then proj r S else none) else none
 | .vY f cs::r,.vY f' fc::S=>bif Nat.beq f' f then(match GU cs fc,proj r S with
  |some y,some z=>some (y,z)
  |_,_=>none) else none
 |_,_=>none
def qq (all:List Kd):List Kd->Bool
 |[]=>true
 | .al _ s::r=>(match all[s]? with
  |some (.v _ _)=>true
  |_=>false)&&qq all r
 | .vY _ cs::r=>(cs.all λc=>match c with
  | .kv _=>true
  | .pl _ s _=>match all[s]? with
   |some (.v _ _)=>true
   |_=>false)&&qq all r
 |_::r=>qq all r
inductive OT where
 |done |one (i:Nat) (t:OT) |any (l:List Nat) (t:OT) |par (l:List Nat) (ds:List (List Nat)) (t:OT) |own (d:Nat) (t:OT) |cut (ks:List Kd) (t:OT) |ali (i:Nat) (t:OT) |fz (q:Nat×Path) (t:OT)
def OT.seq:List Nat->OT->OT
 |[],t=>t
 |i::r,t=>.one i (OT.seq r t)
structure Hint where
 tab:fA
 hn:Hn:=[]
 loops:List (Nat×List Kd):=[]
 outs:List (Nat×Nat×List Kd):=[]
 bw:List (Nat×OT):=[]
 iQ:Option (Nat×Bool):=none
 zO:List (Nat×List (Nat×Path)):=[]
 keep:List Nat:=[]
def Yc:Path->Bool
 |[]=>true | .idx _::_=>false |_::p=>Yc p
def St.akn (S:St) (q:Nat×Path):St:=match S.at q.1 with
 | .v r []=>match a7 q.2 r.t r.m r.x with
  |some b=>bif b.m.b5|| !Yc q.2 then S else(match q.2 with
   |[]=>S.put (some q.1) (.v (kTV r) [])
   |_=>(match pR (kTV b) q.2 r.t r.m r.x with
    |some (m,z)=>St.put (((S.weaken q.1).cover q.1 q.2).set q.1 (.v r [q.2])) (some q.1) (.v ⟨r.t,m,z⟩ [])
    |none=>S))
  |none=>S
 |_=>S
def aaY:List (Nat×List (Nat×Path))->Nat->St->St
 |[],_,S=>S
 |q::r,id,S=>bif Nat.beq q.1 id then q.2.foldl St.akn S else aaY r id S
def tR:List (Nat×List Kd)->Nat->Option (List Kd)
 |[],_=>none
 |q::r,k=>bif Nat.beq q.1 k then some q.2 else tR r k
def ako (S:St) (i:Nat):Kd->St
 | .v _ m=>bif m.b5 then S else match S.at i with
  | .al t s []=>(match S.jL (.tmp i) (.al t s []) with
   |some (a,S1)=>S1.put (some i) (.v a [])
   |none=>S)
  |_=>S
 |_=>S
def aaZ:List Kd->Nat->St->St
 |[],_,S=>S
 |k::r,i,S=>aaZ r (i+1) (ako S i k)
def BG (ks:List Kd) (S:St):Option St:=bif qq ks ks then(match proj ks (aaZ ks 0 S) with
  |some x=>some (shape ks x)
  |none=>none) else none
def Hint.clean (h:Hint) (key:Nat) (S:St):Option St:=match tR h.loops key with
 |some ks=>BG ks S
 |none=>none
def Ex.num:Ex->Nat
 | .n=>0 | .r=>1 | .x id=>id+2
def amv:List (Nat×Nat×List Kd)->Nat->Nat->Option (List Kd)
 |[],_,_=>none
 |q::r,k,e=>bif Nat.beq q.1 k&&Nat.beq q.2.1 e then some q.2.2 else amv r k e
def UM (S:St):V6->Option TV
 | .pl _ s p=>match S.place s p with
  |some a=>some (kTV a)
  |none=>none
 | .kv a=>some a
def EJ (S:St):List V6->Option (List TV)
 |[]=>some []
 |c::r=>match UM S c,EJ S r with
  |some a,some l=>some (a::l)
  |_,_=>none
def ph (Θ:fA):St->List Operand->List TypeId->List Pass->Option (List (Option TV)×St)
 |S,[],_,_=>some ([],S)
 |S,x::xs,T::Ts,p::ps=>match p with
  | .val=>match ph Θ S xs Ts ps with
   |some r=>some (none::r.1,r.2)
   |none=>none
  | .take=>match S.take Θ T x with
   |some (a,S1)=>match ph Θ S1 xs Ts ps with
    |some r=>some (some a::r.1,r.2)
    |none=>none
   |none=>none
  | .Al=>none
 |_,_,_,_=>none
def reads (Θ:fA) (S:St):List Operand->List TypeId->List (Option TV)->Option (List Arg)
 |[],_,_=>some []
 |x::xs,T::Ts,p::ps=>match p with
  |some a=>match reads Θ S xs Ts ps with
   |some r=>some (.tv a::r)
   |none=>none
  |none=>match S.jT Θ T x with
   |some (.vY f fc)=>match EJ S fc,reads Θ S xs Ts ps with
    |some l,some r=>some (.fn f l::r)
    |_,_=>none
   |some av=>match S.Ii av,reads Θ S xs Ts ps with
    |some a,some r=>some (.tv (kTV a)::r)
    |_,_=>none
   |none=>none
 |_,_,_=>none
def UN:List TV->AV
 |[a]=>.v a []
 |l=>.Ih (l.map some)
def adk (a:TV):Bool:=match a.t with
 | .ptr _=>a.m.b5
 |_=>false
def GV (S:St) (f:FuncId):Option Nat->Option (List TV)
 |none=>some []
 |some i=>match S.at i with
  | .vY f' fc=>bif Nat.beq f' f then(match EJ S fc with
   |some l=>bif l.all adk then some l else none
   |none=>none) else none
  |_=>none
def BH:Md->Bool
 | .k=>true | .o _ tag m=>(match tag with
  |none=>true
  |some _=>false)&&BH m
 | .p a b=>BH a&&BH b
def nx:Ty->Bool
 | .sl _=>false | .ptr _=>false | .pair a b=>nx a&&nx b | .arr _ t=>nx t | .mp=>false |_=>true
def oa:Ty->Md->Bool
 | .sl t,.o _ _ m=>oa t m
 | .ptr t,.o _ _ m=>oa t m
 | .pair a b,.p m n=>oa a m&&oa b n
 |t,m=>m.b5&&nx t
def JD (S:St):Operand->Bool
 | .tmp i=>(match S.at i with
  | .v b []=>b.m.b5
  |_=>false)
 | .const _=>true
 |_=>false
def rn (S:St):List Operand->List (Option TV)->List Arg->Bool
 |[],_,_=>true
 |x::xs,p::ps,r::rs=>((match p with
  |some _=>true
  |none=>false)||(match r with
  | .tv b=>oa b.t b.m||JD S x
  | .fn _ cs=>cs.isEmpty))&&rn S xs ps rs
 |_,_,_=>false
def qX (h:Hint) (O:n9) (o:Oper) (f:FuncId) (cal:Option Nat) (args:List Operand) (ts:List TypeId) (S:St) (K:St->Option aa):Option aa:=
 match ph h.tab S args ts (O.sig f) with
 |some (l,S1)=>match reads h.tab S1 args ts l,GV S1 f cal with
  |some as,some cs=>O.run f (as++cs.map .tv) λret=>match ret.refs with
   |[]=>bif ret.res.all (λd=>oa d.t d.m)||(cs.isEmpty&&rn S1 args l as) then K (S1.put o.dst (UN ret.res)) else none
   |_::_=>none
  |_,_=>none
 |none=>none
def mH:Ty->Md->Bool
 | .sl _,.o _ _ m=>BH m
 | .ptr _,.o _ _ m=>BH m
 | .mp,.o _ _ m=>BH m
 | .pair a b,.p m n=>mH a m&&mH b n
 |_,m=>m.b5
def GW:Ty->Md->Bool
 | .sl t,.o _ _ m=>oa t m
 | .ptr t,.o _ _ m=>oa t m
 | .mp,.o ..=>true
 | .pair a b,.p m n=>GW a m&&GW b n
 |_,m=>m.b5
def qY:Ty->Md->Nat->Md
 | .sl _,.o T _ m,n=>.o T (some n) m
 | .ptr _,.o T _ m,n=>.o T (some n) m
 | .mp,.o T _ m,n=>.o T (some n) m
 | .pair a b,.p ma mb,n=>.p (qY a ma n) (qY b mb (n+a.size))
 |_,m,_=>m
def lR:(t:Ty)->Md->t.I->t.I->t.I
 | .sl _,.o ..,_,y=>y
 | .ptr _,.o ..,_,y=>y
 | .mp,.o ..,_,y=>y
 | .pair a b,.p ma mb,x,y=>(lR a ma x.1 y.1,lR b mb x.2 y.2)
 |_,_,x,_=>x
def Kl:List Pass->Nat->Option Nat
 |[],_=>none
 | .Al::_,j=>some j
 |_::r,j=>Kl r (j+1)
def wW (x:Operand):AV->Option (Nat×Path)
 | .v _ _=>match x with
  | .tmp i=>some (i,[])
  |_=>none
 | .al _ s p=>some (s,p)
 |_=>none
def St.EK (S:St) (s:Nat) (b:TV):Path->Option St
 |[]=>some (S.put (some s) (.v b []))
 |p=>match S.at s with
  | .v r ex=>match pR b p r.t r.m r.x with
   |some (m,z)=>some (S.put (some s) (.v ⟨r.t,m,z⟩ ex.dropLast))
   |none=>none
  |_=>none
def GX (h:Hint) (O:n9) (o:Oper) (f:FuncId) (j:Nat) (args:List Operand) (ts:List TypeId) (S:St) (K:St->Option aa):Option aa:=
 match args[j]?,ts[j]? with
 |some x,some T=>match S.jT h.tab T x with
  |some av=>match wW x av,S.jL x av with
   |some (s,p),some (b,S1)=>bif !b.m.b5&&mH b.t b.m then
     (match reads h.tab S1 args ts ((List.replicate args.length none).set j (some ⟨b.t,qY b.t b.m 0,b.x⟩)) with
     |some as=>bif GW b.t b.m||rn S1 args ((List.replicate args.length none).set j (some ⟨b.t,qY b.t b.m 0,b.x⟩)) as then O.run f as λret=>match ret.refs with
      |[c]=>bif ret.res.all (λd=>BH d.m&&(oa d.t d.m||rn S1 args ((List.replicate args.length none).set j (some ⟨b.t,qY b.t b.m 0,b.x⟩)) as)) then(if hc:c.t=b.t then(if c.m=qY b.t b.m 0 then
        (match S1.EK s ⟨b.t,b.m,lR b.t b.m b.x (hc▸c.x)⟩ p with
        |some S2=>K ((S.again S2 s).put o.dst (UN ret.res))
        |none=>none) else none) else none) else none
      |_=>none else none
     |none=>none) else none
   |_,_=>none
  |none=>none
 |_,_=>none
def both (a b:Option aa):Option aa:=open Classical in if a=b then a else none
theorem Af (a:Option aa):both a a=a:=by simp[both]
theorem aeR {a b:Option aa} {r:aa} (h:both a b=some r):a=some r/\b=some r:=by
 unfold both at h;split at h
 ·rename_i e;exact⟨h,by rw[←e];exact h⟩
 cases h
def adl (h:Hint) (dst:Option Nat) (T:TypeId) (eq:Bool) (x:Operand) (S:St) (K:St->Option aa):Option aa:=match S.rd h.tab 0 x with
 |some ⟨.sl t,_,xs⟩=>bif h.tab.is T (.sl t) then(bif List.isEmpty xs then both (K (S.put dst (.v ⟨.bool,.k,true⟩ []))) (K (S.put dst (.v ⟨.bool,.k,false⟩ []))) else K (S.put dst (.v ⟨.bool,.k,!eq⟩ []))) else none
 |_=>none
def EL:Op->Bool
 | .binOp _ _ _ (.const (.slice none _ _)) _=>true
 |_=>false
def qs (h:Hint) (O:n9) (o:Oper) (S:St) (K:St->Option aa):Option aa:=match o.op with
 | .call { callee:=.value (.func f),args:=as,argTypes:=ts }=>match Kl (O.sig f) 0 with
  |some j=>GX h O o f j as.toList ts.toList S K
  |none=>qX h O o f none as.toList ts.toList S K
 | .call { callee:=.value (.tmp i),args:=as,argTypes:=ts }=>match S.at i with
  | .vY f _=>qX h O o f (some i) as.toList ts.toList S K
  |_=>none
 | .binOp .eql T x (.const (.slice none 0 0)) _=>adl h o.dst T true x S K
 | .binOp .neq T x (.const (.slice none 0 0)) _=>adl h o.dst T false x S K
 |_=>match ev h.tab h.hn S o with
  |some (g,S1)=>bif g then K S1 else none
  |none=>none
def aW (h:Hint) (O:n9) (ops:Array Oper) (i:Nat) (S:St) (K:St->Option aa):Option aa:=match ops[i]? with
 |none=>none
 |some o=>match o.guard with
  |none=>qs h O o S K
  |some (j,want)=>match (ops[j]?).bind (·.dst) with
   |some d=>match S.at d with
    | .v ⟨.bool,m,q⟩ ex=>bif q then
      (bif want then qs h O o (S.set d (.v ⟨.bool,m,true⟩ ex)) K else K (St.put (S.set d (.v ⟨.bool,m,true⟩ ex)) o.dst .undef))
     else(bif want then K (St.put (S.set d (.v ⟨.bool,m,false⟩ ex)) o.dst .undef) else qs h O o (S.set d (.v ⟨.bool,m,false⟩ ex)) K)
    | .undef=>K (S.put o.dst .undef)
    |_=>none
   |none=>none
def BI (h:Hint) (O:n9) (ops:Array Oper):List Nat->St->(St->Option aa)->Option aa
 |[],S,K=>K S
 |i::r,S,K=>aW h O ops i S (λS1=>BI h O ops r S1 K)
def rp (S:St):Operand->Bool
 | .tmp i=>(match S.at i with
  | .v _ []=>true
  |_=>false)
 | .const _=>true
 |_=>false
def opK (S:St):Operand->Bool
 | .tmp i=>(match S.at i with
  | .v ⟨_,.k,_⟩ []=>true
  |_=>false)
 | .const _=>true
 |_=>false
def PE (S:St):Option Operand->Bool
 |none=>true
 |some x=>rp S x
def age (O:n9) (f:FuncId):Bool:=(O.sig f).all λp=>match p with
 | .val=>true
 |_=>false
def agf (ops:Array Oper) (x:Nat):Option Nat:=ops.toList.findSome? λo=>match o.dst,o.op with
 |some d,.fieldAddr _ (.tmp s) _=>bif Nat.beq d x then some s else none
 |_,_=>none
def vZ (O:n9) (ops:Array Oper) (S:St) (o:Oper):Bool:=(match o.guard with
  |none=>true
  |some _=>false)&&(match o.dst with
  |some d=>!(S.at d).LG&&Nat.blt d S.length
  |none=>false)&&(match o.op with
  | .call { callee:=.value (.func f),args:=as,.. }=>age O f&&as.toList.all (rp S)
  | .call { callee:=.builtin .append,args:=as,.. }=>as.toList.all (rp S)
  | .buildSlice _ _ ps=>ps.toList.all λq=>rp S q.2
  | .load _ (.tmp x)=>(match agf ops x,S.at x with
   |some s,.ad _ s' p=>Nat.beq s' s&&(match S.dW s p with
    |some a=>a.m.b5
    |none=>false)
   |none,.v ⟨.ptr _,.k,_⟩ []=>true
   |none,.v ⟨.ptr _,.o ..,_⟩ []=>(match S.dW x [.deref] with
    |some a=>a.m.b5
    |none=>false)
   |_,_=>false)
  | .slice _ x lo hi none=>opK S x&&(PE S lo&&PE S hi)
  | .indexAddr _ x ix=>opK S x&&rp S ix
  |_=>false)
def BJ (h:Hint) (O:n9) (ops:Array Oper):List Nat->St->(St->Option aa)->Option aa
 |[],S,K=>K S
 |i::r,S,K=>match ops[i]? with
  |some o=>bif vZ O ops S o then aW h O ops i S (λS1=>BJ h O ops r S1 K) else none
  |none=>none
def slotsOf:AV->List Nat
 | .al _ s _=>[s] | .ad _ s _=>[s] | .cut _ s _ _ _=>[s]
 | .vY _ fc=>fc.filterMap λc=>match c with
  | .pl _ s _=>some s
  | .kv _=>none
 |_=>[]
def pj (Δ:Nat->Bool):St->Nat->Bool
 |[],_=>true
 |a::r,i=>((slotsOf a).all λs=>Δ i==Δ s)&&pj Δ r (i+1)
def Ag (Δ:Nat->Bool):Operand->Bool
 | .tmp i=>Δ i
 | .const _=>true
 | .func _=>true
 | .global _=>false
def akp (Δ:Nat->Bool) (o:Oper):Bool:=match o.dst,o.op with
 |some d,.store ..=>false
 |some d,_=>Δ d
 |none,.store ..=>true
 |none,_=>false
def mr (Δ:Nat->Bool) (o:Oper):Bool:=(match o.guard with
  |none=>true
  |some _=>false)&&akp Δ o&&(match o.op with
 | .store _ x y=>Ag Δ x&&Ag Δ y
 | .makeSlice _ l c=>Ag Δ l&&Ag Δ c
 | .alloc _=>true
 | .buildSlice _ _ ps=>ps.toList.all λq=>Ag Δ q.2
 | .load _ x=>Ag Δ x
 | .move x=>Ag Δ x
 | .extract x _=>Ag Δ x
 | .binOp _ _ x y _=>Ag Δ x&&(Ag Δ y&& !EL o.op)
 | .fieldAddr _ x _=>Ag Δ x
 | .indexAddr _ x ix=>Ag Δ x&&Ag Δ ix
 | .convert _ _ x=>Ag Δ x
 | .call { callee:=.builtin .append,args:=as,.. }=>as.toList.all (Ag Δ)
 | .call { callee:=.value (.func _),args:=as,.. }=>as.toList.all (Ag Δ)
 |_=>false)
def Km (l:List Nat) (i:Nat):Bool:=l.any (Nat.beq i)
def aeS (l:List Nat) (i:Nat):Bool:=!Km l i
def An (ds:List (List Nat)) (S:St):Bool:=ds.all λd=>pj (Km d) S 0
def ap0 (ds:List (List Nat)) (oi oj:Oper):Bool:=ds.any λd=>(mr (Km d) oi&&mr (aeS d) oj)||(mr (aeS d) oi&&mr (Km d) oj)
def exB (oi oj:Oper):Bool:=match oi.guard,oj.guard,oi.dst,oj.dst,oi.op,oj.op with
 |none,none,some a,some b,.extract (.tmp x) p,.extract (.tmp y) q=>Nat.beq x y&&(!Nat.beq p q&&(!Nat.beq a b&&(!Nat.beq a x&& !Nat.beq b x)))
 |_,_,_,_,_,_=>false
def ldB (oi oj:Oper):Bool:=match oi.guard,oj.guard,oi.dst,oj.dst,oi.op,oj.op with
 |none,none,some a,some b,.load _ (.tmp x),.load _ (.tmp y)=>!Nat.beq a b&&(!Nat.beq a x&&(!Nat.beq a y&&(!Nat.beq b x&& !Nat.beq b y)))
 |_,_,_,_,_,_=>false
def agh (o:Oper):List Nat:=match o.dst with
 |some d=>[d]
 |none=>[]
def agi (Θ:fA) (o:Oper):Bool:=match o.guard,o.dst,o.op with
 |none,some _,.load T (.tmp _)=>(match Θ.find T with
  |some i=>i.ty.flat
  |none=>false)
 |_,_,_=>false
def GY (Θ:fA) (d:List Nat) (o:Oper):Bool:=mr (Km d) o||(mr (aeS d) o||agi Θ o)
def eqN:List Nat->List Nat->Bool
 |[],[]=>true
 |a::r,b::s=>Nat.beq a b&&eqN r s
 |_,_=>false
def adm (us:List (List Nat)) (d:List Nat):Bool:=us.any (eqN d)
def LO (us:List (List Nat)) (oi oj:Oper):Bool:=exB oi oj||((ldB oi oj&&(adm us (agh oi)&&adm us (agh oj)))||ap0 us oi oj)
def adn (S:St) (d:Nat):Option (Bool×St):=match S.at d with
 | .al _ s (st::pp)=>(match S.at s with
  | .v r ex=>(match a7 (st::pp) r.t r.m r.x with
   |some b=>bif b.m.b5 then none else some (ex.all (λh=>!EA h (st::pp)),St.put (((S.weaken s).cover s (st::pp)).set s (.v r (ex++[st::pp]))) (some d) (.v b []))
   |none=>none)
  |_=>none)
 |_=>none
def GZ:Path->Bool
 |[]=>true | .fst::p=>GZ p | .snd::p=>GZ p |_=>false
def aa0:Path->Bool
 | .deref::p=>GZ p
 |_=>false
def St.aa1 (S1:St) (k:Nat) (t:Ty) (s:Nat) (q:Path):St:=match S1.at k,S1.dW s q with
 | .dead,some c=>if c.t=t then S1.set k (.al t s q) else S1
 |_,_=>S1
def St.QN (S:St) (s:Nat) (p:Path):List Nat->St->St
 |[],S1=>S1
 |k::r,S1=>St.QN S s p r (match S.at k with
  | .al t s' q=>bif Nat.beq s' s&&(aa0 q&& !jk q p) then S1.aa1 k t s q else S1
  |_=>S1)
def Rc (Θ:fA) (ks:List Nat) (S:St) (T:TypeId) (x y:Operand):JC:=match tO Θ S T x y,S.jT Θ 0 x with
 |some (g,S1),some a=>match S.JB x a with
  |some (.pl _ s p)=>bif aa0 p then some (g,S.QN s p ks (match y with
    | .tmp i=>match S.at i with
     | .al t v []=>S1.aa1 v t s p
     |_=>S1
    |_=>S1)) else none
  |_=>none
 |_,_=>none
def dx (h:Hint) (O:n9) (ops:Array Oper):OT->St->(St->Option aa)->Option aa
 | .done,S,K=>K S
 | .one i t,S,K=>aW h O ops i S (λS1=>dx h O ops t S1 K)
 | .any l t,S,K=>BJ h O ops l S (λS1=>dx h O ops t S1 K)
 | .own d t,S,K=>match adn S d with
  |some (g,S1)=>bif g then dx h O ops t S1 K else none
  |none=>none
 | .cut ks t,S,K=>match BG ks S with
  |some S1=>dx h O ops t S1 K
  |none=>none
 | .fz q t,S,K=>dx h O ops t (S.akn q) K
 | .ali i t,S,K=>match ops[i]? with
  |some o=>match o.guard,o.dst,o.op with
   |none,none,.store T x y=>(match Rc h.tab h.keep S T x y with
    |some (g,S1)=>bif g then dx h O ops t S1 K else none
    |none=>none)
   |_,_,_=>none
  |none=>none
 | .par l ds t,S,K=>bif An ds S then BI h O ops l S (λS1=>dx h O ops t S1 K) else none
def quiet:Op->Bool
 | .move _=>true | .assign _=>true | .pick ..=>true | .build ..=>true | .load ..=>true | .nilCheck _=>true | .fieldAddr ..=>true | .field ..=>true | .indexAddr ..=>true | .index ..=>true
 | .extract ..=>true | .slice ..=>true | .convert ..=>true | .binOp ..=>true | .unOp ..=>true | .makeFunc ..=>true | .call { callee:=.builtin .len,.. }=>true |_=>false
def Qh (O:n9):Op->Bool
 | .alloc _=>true | .box ..=>true | .buildSlice ..=>true | .makeSlice ..=>true | .makeMap ..=>true
 | .call { callee:=.value (.func f),.. }=>(O.sig f).all λp=>match p with
  | .val=>true
  |_=>false
 |o=>quiet o
def still:Op->Bool
 | .extract ..=>true | .indexAddr ..=>true | .binOp ..=>true | .slice ..=>true | .move _=>true | .convert ..=>true | .fieldAddr ..=>true | .build ..=>true | .call { callee:=.builtin .len,.. }=>true |_=>false
def Oj (Θ:fA) (o:Op):Bool:=still o&& !EL o&&(match o with
 | .convert _ T' _=>(match Θ.find T' with
  |some i=>(match i.ty with
   | .int _=>true
   |_=>false)
  |none=>false)
 |_=>true)
def wX (ops:Array Oper) (oi:Oper) (rest:Nat):List Oper->Nat->Bool
 |[],_=>true
 |oj::r,j=>(bif Nat.testBit rest j then oi.apart ops oj else true)&&wX ops oi rest r (j+1)
def bj (o:Oper):Nat:=o.after.toList.foldr (λe m=>bif Region.binds .any e then m|||2^e.on else m) 0
def aX (i:Nat):List Nat->Nat->Nat->Nat
 |[],_,acc=>acc
 |m::r,j,acc=>aX i r (j+1) (bif Nat.beq j i|| !(Nat.beq (m&&&acc) 0) then acc|||2^j else acc)
def LP (O:n9) (ops:Array Oper) (oi:Oper) (rest:Nat):List Oper->Nat->Bool
 |[],_=>true
 |oj::r,j=>(bif Nat.testBit rest j then oi.apart ops oj&&Qh O oj.op else true)&&LP O ops oi rest r (j+1)
def agj (Θ:fA) (O:n9) (ops:Array Oper) (as:List Nat) (full L i:Nat):Bool:=match as[i]?,ops[i]? with
 |some m,some oi=>!Nat.testBit L i&&Nat.beq (m&&&L) m&&Nat.beq (aX i as 0 0&&&L) 0&&(Nat.beq (full^^^(aX i as 0 0|||L)) 0||(quiet oi.op&&(!EL oi.op&&LP O ops oi (full^^^(aX i as 0 0|||L)) ops.toList 0))||(Oj Θ oi.op&&wX ops oi (full^^^(aX i as 0 0|||L)) ops.toList 0))
 |_,_=>false
def aQ:Operand->List Nat
 | .tmp i=>[i]
 |_=>[]
def mI:Option Operand->List Nat
 |none=>[]
 |some x=>aQ x
def aZ (ops:Array Oper) (o:Oper):List Nat:=match o.op with
 | .call c=>c.args.toList.flatMap aQ
 | .buildSlice _ _ ps=>ps.toList.flatMap λq=>aQ q.2
 | .load _ (.tmp x)=>(match agf ops x with
  |some s=>[x,s]
  |none=>[x])
 | .slice _ x lo hi _=>aQ x++(mI lo++mI hi)
 | .indexAddr _ x ix=>aQ x++aQ ix
 |_=>[]
def v7 (o:Oper):Bool:=match o.op with
 | .call { callee:=.value (.func _),.. }=>true
 | .load ..=>true
 | .slice ..=>true
 | .indexAddr ..=>true
 |_=>false
def UO (ops:Array Oper) (oi oj:Oper):Bool:=(match oi.dst,oj.dst with
  |some a,some b=>!Nat.beq a b&& !(aZ ops oj).any (Nat.beq a)&& !(aZ ops oi).any (Nat.beq b)
  |_,_=>false)&&((v7 oi&&v7 oj)|| !(aZ ops oi).any λr=>(aZ ops oj).any (Nat.beq r))
def Re (ops:Array Oper) (as:List Nat):List Nat->Bool
 |[]=>true
 |i::r=>(r.all λj=>match as[j]?,ops[i]?,ops[j]? with
  |some m,some oi,some oj=>!Nat.beq i j&&(Nat.testBit m i||UO ops oi oj)
  |_,_,_=>false)&&Re ops as r
def kU (l:List Nat):Nat:=l.foldr (λi m=>m|||2^i) 0
def Ao (as:List Nat):Nat->List Nat->Bool
 |_,[]=>true
 |L,i::r=>(match as[i]? with
  |some m=>Nat.beq (m&&&L) m
  |none=>false)&&Ao as (L|||2^i) r
def akq (ops:Array Oper) (as:List Nat) (full L:Nat) (l:List Nat):Bool:=!l.isEmpty&&(l.all λi=>Nat.blt i ops.size&& !Nat.testBit L i&&Nat.beq (aX i as 0 0&&&L) 0&&Nat.beq (full^^^(aX i as 0 0|||L|||kU l)) 0)&&Re ops as l&&Ao as L l
def V9 (Θ:fA) (ops:Array Oper) (as:List Nat) (l:List Nat) (i j:Nat) (d:List Nat):Bool:=l.all λz=>Nat.beq z i||(Nat.beq z j||(Nat.testBit (aX i as 0 0) z||(Nat.testBit (aX j as 0 0) z||(match ops[z]? with
 |some oz=>GY Θ d oz
 |none=>false))))
def C2 (Θ:fA) (ops:Array Oper) (as:List Nat) (ds:List (List Nat)) (l:List Nat):List Nat->Bool
 |[]=>true
 |i::r=>(r.all λj=>match ops[i]?,ops[j]? with
  |some oi,some oj=>!Nat.beq i j&&(!Nat.testBit (aX j as 0 0) i&&(Nat.testBit (aX i as 0 0) j||LO (ds.filter (V9 Θ ops as l i j)) oi oj))
  |_,_=>false)&&C2 Θ ops as ds l r
def agk (Θ:fA) (ops:Array Oper) (as:List Nat) (full L i:Nat):Bool:=match ops[i]? with
 |some oi=>Oj Θ oi.op&&wX ops oi (full^^^(full&&&(aX i as 0 0|||L|||bj oi))) ops.toList 0
 |none=>false
def akr (Θ:fA) (ops:Array Oper) (as:List Nat) (full L:Nat) (l:List Nat) (ds:List (List Nat)):Bool:=
 !l.isEmpty&&(l.all λi=>Nat.blt i ops.size&& !Nat.testBit L i&&Nat.beq (aX i as 0 0&&&L) 0&&(Nat.beq (full^^^(aX i as 0 0|||L|||kU l)) 0||agk Θ ops as full L i))&&C2 Θ ops as ds l l&&Ao as L l&&l.all λi=>match ops[i]? with
  |some o=>!EL o.op
  |none=>false
def kF (Θ:fA) (O:n9) (ops:Array Oper) (as:List Nat) (full:Nat):Nat->OT->Bool
 |L,.done=>Nat.beq L full
 |L,.one i t=>agj Θ O ops as full L i&&kF Θ O ops as full (L|||2^i) t
 |L,.any l t=>akq ops as full L l&&kF Θ O ops as full (L|||kU l) t
 |L,.own _ t=>kF Θ O ops as full L t
 |L,.cut _ t=>kF Θ O ops as full L t
 |L,.fz _ t=>kF Θ O ops as full L t
 |_,.ali _ _=>false
 |L,.par l ds t=>akr Θ ops as full L l ds&&kF Θ O ops as full (L|||kU l) t
def OT.len:OT->Nat
 | .done=>0 | .one _ t=>t.len+1 | .any l t=>t.len+l.length | .par l _ t=>t.len+l.length | .own _ t=>t.len | .cut _ t=>t.len | .fz _ t=>t.len | .ali _ t=>t.len+1
def anz (Θ:fA) (O:n9) (ops:Array Oper) (l:OT):Bool:=Region.noSelect ops&&Nat.ble l.len ops.size&&kF Θ O ops (ops.toList.map bj) (2^ops.size - 1) 0 l
def UP (S:St):St:=S.map λa=>match a with
 | .al t s []=>.al t s []
 | .al ..=>.dead
 | .ad ..=>.dead
 | .cut ..=>.dead
 |a=>a
def Ij (ks:List Nat):Nat->St->St
 |_,[]=>[]
 |i,a::r=>(bif Km ks i then a else match a with
  | .al t s []=>.al t s []
  | .al ..=>.dead
  | .ad ..=>.dead
  | .cut ..=>.dead
  |a=>a)::Ij ks (i+1) r
def Rf (ks:List Nat) (S:St):St:=match ks with
 |[]=>UP S
 |_=>Ij ks 0 S
def OT.line:OT->Option (List Nat)
 | .done=>some []
 | .one j t=>t.line.map (j:: ·)
 | .cut _ t=>t.line
 | .fz _ t=>t.line
 | .ali j t=>t.line.map (j:: ·)
 |_=>none
def amw (l:OT) (n:Nat):Bool:=match l.line with
 |some q=>eqN q (List.range n)
 |none=>false
def Yd:List (Nat×OT)->Nat->Option OT
 |[],_=>none
 |q::r,k=>bif Nat.beq q.1 k then some q.2 else Yd r k
def ju (h:Hint) (O:n9):Code->Bool
 | .region id ops true=>(match Yd h.bw id with
  |some l=>anz h.tab O ops l
  |none=>true)
 | .region id ops false=>(match Yd h.bw id with
  |some l=>amw l ops.size
  |none=>true)
 | .seq a b=>ju h O a&&ju h O b
 | .cond _ a b=>ju h O a&&ju h O b
 | .block _ c=>ju h O c
 | .loop c=>ju h O c
 |_=>true
def keyOf:Code->Nat
 | .region id _ _=>id
 | .seq a _=>keyOf a
 | .block _ c=>keyOf c
 | .loop c=>keyOf c
 |_=>0
def C3 (ops:Array Oper):Bool:=ops.toList.all λo=>!EL o.op
def kV:Code->Bool
 | .region _ ops _=>C3 ops
 | .seq a b=>kV a&&kV b
 | .cond _ a b=>kV a&&kV b
 | .block _ c=>kV c
 | .loop c=>kV c
 |_=>true
abbrev Ks:=Ex->St->Option aa
def Hint.iu (h:Hint) (key:Nat) (K:Ks):Ks:=λe S=>match amv h.outs key e.num with
 |some ks=>(match BG ks S with
  |some S1=>K e S1
  |none=>none)
 |none=>none
def pe (h:Hint) (O:n9) (L:Nat->St->Ks->Option aa):Code->St->Ks->Option aa
 | .skip,S,K=>K .n S
 | .region id ops false,S,K=>match Yd h.bw id with
  |some l=>dx h O ops l S (λS1=>K .n (aaY h.zO id (Rf h.keep S1)))
  |none=>BI h O ops (List.range ops.size) S (λS1=>K .n (aaY h.zO id (Rf h.keep S1)))
 | .region id ops true,S,K=>match Yd h.bw id with
  |some l=>dx h O ops l S (λS1=>K .n (aaY h.zO id (Rf h.keep S1)))
  |none=>none
 | .seq a b,S,K=>pe h O L a S (λe S1=>match e with
  | .n=>pe h O L b S1 K
  |e=>K e S1)
 | .cond c x y,S,K=>match S.rd h.tab 0 c with
  |some ⟨.bool,_,q⟩=>bif q then pe h O L x S K else pe h O L y S K
  |_=>none
 | .block id c,S,K=>pe h O L c S (λe S1=>match e with
  | .x id'=>bif Nat.beq id' id then K .n S1 else K (.x id') S1
  |e=>K e S1)
 | .loop c,S,K=>match h.clean (keyOf c) S with
  |some S1=>L (keyOf c) S1 (h.iu (keyOf c) K)
  |none=>none
 | .exit id,S,K=>K (.x id) S
 | .ret,S,K=>K .r S
 |_,_,_=>none
def By (Lf:Nat->Nat->St->Ks->Option aa) (N n asP:Nat):Nat->St->Ks->Option aa:=λkey S K=>bif Nat.beq key asP then Lf n key S K else Lf N key S K
def mu (h:Hint) (O:n9) (L:Nat->St->Ks->Option aa) (c:Code) (S:St) (K:Ks):Option aa:=
 pe h O L c S (λe S1=>match e with
  | .n=>(match h.clean (keyOf c) S1 with
   |some S2=>L (keyOf c) S2 K
   |none=>none)
  |e=>K e S1)
def CH (Θ:fA) (S:St):List ResultVar->Option (List TV×St)
 |[]=>some ([],S)
 | .tmp t::r=>match S.jL (.tmp t) (S.at t) with
  |some (a,S1)=>match CH Θ S1 r with
   |some (l,S2)=>some (a::l,S2)
   |none=>none
  |none=>none
 | .cell t T::r=>match S.at t with
  | .v ⟨.ptr ty,.o _ _ me,x⟩ []=>match CH Θ (S.put (some t) .dead) r with
   |some (l,S2)=>bif Θ.is T ty then some (⟨ty,me,x⟩::l,S2) else none
   |none=>none
  |_=>none
def amx:Arg->AV
 | .tv a=>.v a []
 | .fn f fc=>.vY f (fc.map .kv)
def start (fn:Func) (args:List Arg):St:=args.map amx++List.replicate (fn.ntmps - args.length) .undef
def Rg:Bool->TV->Option TV
 |false,b=>some b
 |true,⟨.ptr t,.o _ _ me,x⟩=>some ⟨t,me,x⟩
 |true,_=>none
def ny (h:Hint) (O:n9) (L:Nat->St->Ks->Option aa) (fn:Func) (args:List Arg) (K:aa->Option aa):Option aa:=
 match fn.body with
 |some c=>pe h O L c (start fn args) (λe S=>match e with
  | .x _=>none
  |_=>match CH h.tab S fn.results.toList with
   |some (l,S1)=>(match h.iQ with
    |none=>K ⟨l,[]⟩
    |some q=>match S1.at q.1 with
     | .v b []=>(match Rg q.2 b with
      |some c=>K ⟨l,[c]⟩
      |none=>none)
     |_=>none)
   |none=>none)
 |none=>none
end Go.Pv
namespace Go.Pv
open List Int IntKind
def dk {σ:Type} (X:(σ->Option aa)->Option aa):Prop:=∃ o:Option σ,∀ K,X K=o.bind K
theorem dk.none {σ:Type}:dk (σ:=σ) λ_=>none:=⟨.none,λ_=>rfl⟩
theorem dk.pure {σ:Type} (s:σ):dk λK=>K s:=⟨some s,λ_=>rfl⟩
theorem dk.bind {σ τ:Type} {X:(σ->Option aa)->Option aa} {Y:σ->(τ->Option aa)->Option aa} (h:dk X) (hy:∀ s,dk (Y s)):dk λK=>X λs=>Y s K:=by
 obtain⟨o,ho⟩:=h;cases o with
 |none=>exact⟨.none,λK=>ho _⟩
 |some s=>obtain⟨o',Rh⟩:=hy s;exact⟨o',λK=>(ho _).trans (Rh K)⟩
theorem dk.bif {σ:Type} {X Y:(σ->Option aa)->Option aa} (c:Bool) (hx:dk X) (hy:dk Y):dk λK=>bif c then X K else Y K:=by cases c<;>assumption
def C4 (O:n9):Prop:=∀ f as,dk (O.run f as)
def jv (X:Ks->Option aa):Prop:=∃ o:Option (Ex×St),∀ K,X K=o.bind λq=>K q.1 q.2
theorem jv.none:jv λ_=>none:=⟨.none,λ_=>rfl⟩
theorem jv.pure (e:Ex) (S:St):jv λK=>K e S:=⟨some (e,S),λ_=>rfl⟩
theorem jv.bind {X:Ks->Option aa} {Y:Ex->St->Ks->Option aa} (h:jv X) (hy:∀ e S,jv (Y e S)):jv λK=>X λe S=>Y e S K:=by
 obtain⟨o,ho⟩:=h;cases o with
 |none=>exact⟨.none,λK=>ho _⟩
 |some s=>obtain⟨o',Rh⟩:=hy s.1 s.2;exact⟨o',λK=>(ho _).trans (Rh K)⟩
theorem jv.of {X:(St->Option aa)->Option aa} {Y:St->Ks->Option aa} (h:dk X) (hy:∀ S,jv (Y S)):jv λK=>X λS=>Y S K:=by
 obtain⟨o,ho⟩:=h;cases o with
 |none=>exact⟨.none,λK=>ho _⟩
 |some s=>obtain⟨o',Rh⟩:=hy s;exact⟨o',λK=>(ho _).trans (Rh K)⟩
theorem jv.to {X:Ks->Option aa} {Y:Ex->St->(aa->Option aa)->Option aa} (h:jv X) (hy:∀ e S,dk (Y e S)):dk λK=>X λe S=>Y e S K:=by
 obtain⟨o,ho⟩:=h;cases o with
 |none=>exact⟨.none,λK=>ho _⟩
 |some s=>obtain⟨o',Rh⟩:=hy s.1 s.2;exact⟨o',λK=>(ho _).trans (Rh K)⟩
variable {h:Hint} {O:n9} {ops:Array Oper}
theorem Ri (hO:C4 O) (o:Oper) (f:FuncId) (cal:Option Nat) (as:List Operand) (ts:List TypeId) (S:St):dk (qX h O o f cal as ts S):=by
 unfold qX;split
 ·split
  ·refine(hO f _).bind λret=>?_;split
   ·exact dk.bif _ (dk.pure _) dk.none
   exact dk.none
  exact dk.none
 exact dk.none
theorem aa2 (hO:C4 O) (o:Oper) (f:FuncId) (j:Nat) (as:List Operand) (ts:List TypeId) (S:St):dk (GX h O o f j as ts S):=by
 unfold GX;split
 ·split
  ·split
   ·refine dk.bif _ ?_ dk.none;split
    ·refine dk.bif _ ?_ dk.none;refine(hO f _).bind λret=>?_;split
     ·refine dk.bif _ ?_ dk.none;split
      ·split
       ·split
        ·exact dk.pure _
        exact dk.none
       exact dk.none
      exact dk.none
     exact dk.none
    exact dk.none
   exact dk.none
  exact dk.none
 exact dk.none
theorem Rj (hO:C4 O) (o:Oper) (hn:EL o.op=false) (S:St):dk (qs h O o S):=by
 unfold qs;split
 ·split
  ·exact aa2 hO ..
  exact Ri hO ..
 ·split
  ·exact Ri hO ..
  exact dk.none
 ·rename_i ho;rw[ho] at hn;cases hn
 ·rename_i ho;rw[ho] at hn;cases hn
 split
 ·exact dk.bif _ (dk.pure _) dk.none
 exact dk.none
theorem sw (hO:C4 O) (i:Nat) (hn:∀ o,ops[i]?=some o->EL o.op=false) (S:St):dk (aW h O ops i S):=by
 unfold aW;split
 ·exact dk.none
 rename_i o ho;have hn:=hn o ho;split
 ·exact Rj hO _ hn _
 split
 ·split
  ·exact dk.bif _ (dk.bif _ (Rj hO _ hn _) (dk.pure _)) (dk.bif _ (dk.pure _) (Rj hO _ hn _))
  ·exact dk.pure _
  exact dk.none
 exact dk.none
theorem Rk (hp:C3 ops=true) (i:Nat) (o:Oper) (ho:ops[i]?=some o):EL o.op=false:=by unfold C3 at hp;have:=List.all_eq_true.1 hp o (by rw[←Array.getElem?_toList] at ho;exact List.mem_of_getElem? ho);simpa using this
theorem Ol (hO:C4 O) (hp:C3 ops=true):∀ (l:List Nat) (S:St),dk (BI h O ops l S)
 |[],S=>dk.pure S
 |i::r,S=>(sw hO i (Rk hp i) S).bind λS1=>Ol hO hp r S1
theorem UQ (hO:C4 O) (hp:C3 ops=true):∀ (l:List Nat) (S:St),dk (BJ h O ops l S)
 |[],S=>dk.pure S
 |i::r,S=>by
  simp only[show BJ h O ops (i::r) S=λK=>BJ h O ops (i::r) S K from rfl,BJ];split
  ·exact dk.bif _ ((sw hO i (Rk hp i) S).bind λS1=>UQ hO hp r S1) dk.none
  exact dk.none
theorem nz (hO:C4 O) (hp:C3 ops=true):∀ (t:OT) (S:St),dk (dx h O ops t S)
 | .done,S=>dk.pure S
 | .one i t,S=>(sw hO i (Rk hp i) S).bind λS1=>nz hO hp t S1
 | .any l t,S=>(UQ hO hp l S).bind λS1=>nz hO hp t S1
 | .own d t,S=>by
  show dk λK=>dx h O ops (.own d t) S K;simp only[dx];cases adn S d with
  |none=>exact dk.none
  |some q=>exact dk.bif _ (nz hO hp t q.2) dk.none
 | .cut ks t,S=>by
  show dk λK=>dx h O ops (.cut ks t) S K;simp only[dx];cases BG ks S with
  |none=>exact dk.none
  |some S1=>exact nz hO hp t S1
 | .fz q t,S=>by show dk λK=>dx h O ops (.fz q t) S K;simp only[dx];exact nz hO hp t _
 | .ali i t,S=>by
  show dk λK=>dx h O ops (.ali i t) S K;simp only[dx];split
  ·split
   ·split
    ·exact dk.bif _ (nz hO hp t _) dk.none
    exact dk.none
   exact dk.none
  exact dk.none
 | .par l ds t,S=>dk.bif _ ((Ol hO hp l S).bind λS1=>nz hO hp t S1) dk.none
def aeT (h:Hint) (L:Nat->St->Ks->Option aa) (key:Nat):Prop:=∀ (ks:List Kd) (x:xY ks),tR h.loops key=some ks->jv λK=>L key (shape ks x) (h.iu key K)
def lS:Code->List Nat
 | .seq a b=>lS a++lS b
 | .cond _ a b=>lS a++lS b
 | .block _ c=>lS c
 | .loop c=>keyOf c::lS c
 |_=>[]
theorem LQ {S S1:St} {key:Nat} (e:h.clean key S=some S1):∃ ks x,tR h.loops key=some ks/\S1=shape ks x:=by
 unfold Hint.clean at e;split at e;case h_2=>cases e
 rename_i ks Oc;unfold BG at e;cases hk:qq ks ks with
 |false=>rw[hk] at e;cases e
 |true=>
 rw[hk] at e;simp only[cond_true] at e;split at e;case h_2=>cases e
 rename_i x hx;injection e with e;exact⟨ks,x,Oc,e.symm⟩
theorem Kn (hO:C4 O) {L:Nat->St->Ks->Option aa}:∀ (c:Code) (S:St),kV c=true->(∀ k∈lS c,aeT h L k)->jv (pe h O L c S)
 | .skip,S,_,_=>jv.pure _ _
 | .region id ops false,S,hp,_=>by
  show jv λK=>pe h O L (.region id ops false) S K;simp only[pe];split
  ·exact jv.of (nz hO hp _ S) λS1=>jv.pure _ _
  exact jv.of (Ol hO hp _ S) λS1=>jv.pure _ _
 | .region id ops true,S,hp,_=>by
  show jv λK=>pe h O L (.region id ops true) S K;simp only[pe];split
  ·exact jv.of (nz hO hp _ S) λS1=>jv.pure _ _
  exact jv.none
 | .seq a b,S,hp,hL=>by
  simp only[kV,Bool.and_eq_true] at hp;show jv λK=>pe h O L (.seq a b) S K;simp only[pe];refine jv.bind (Kn hO a S hp.1 λk hk=>hL k (by simp[lS,hk])) λe S1=>?_;cases e with
  |n=>exact Kn hO b S1 hp.2 λk hk=>hL k (by simp[lS,hk])
  |x id=>exact jv.pure _ _
  |r=>exact jv.pure _ _
 | .cond c x y,S,hp,hL=>by
  simp only[kV,Bool.and_eq_true] at hp;show jv λK=>pe h O L (.cond c x y) S K;simp only[pe];split
  ·rename_i q _;cases q with
   |true=>exact Kn hO x S hp.1 λk hk=>hL k (by simp[lS,hk])
   |false=>exact Kn hO y S hp.2 λk hk=>hL k (by simp[lS,hk])
  exact jv.none
 | .block id c,S,hp,hL=>by
  simp only[kV] at hp;show jv λK=>pe h O L (.block id c) S K;simp only[pe];refine jv.bind (Kn hO c S hp λk hk=>hL k (by simpa[lS] using hk)) λe S1=>?_;cases e with
  |n=>exact jv.pure _ _
  |x id'=>
   cases h:Nat.beq id' id with
   |true=>exact⟨some (.n,S1),λK=>by simp[h]⟩
   |false=>exact⟨some (.x id',S1),λK=>by simp[h]⟩
  |r=>exact jv.pure _ _
 | .loop c,S,_,hL=>by
  show jv λK=>pe h O L (.loop c) S K;simp only[pe];split
  ·rename_i S1 hS1;obtain⟨ks,x,hk,rfl⟩:=LQ hS1;exact hL (keyOf c) (by simp[lS]) ks x hk
  exact jv.none
 | .exit id,S,_,_=>jv.pure _ _
 | .ret,S,_,_=>jv.pure _ _
 | .rangeFunc ..,S,_,_=>jv.none
 | .scope _,S,_,_=>jv.none
 | .label _,S,_,_=>jv.none
 | .goto _,S,_,_=>jv.none
 | .refuse _,S,_,_=>jv.none
theorem UR (h:Hint) (key:Nat) (e:Ex) (S:St):jv λK=>h.iu key K e S:=by
 unfold Hint.iu;split
 ·split
  ·exact jv.pure _ _
  exact jv.none
 exact jv.none
theorem Rl (fn:Func) (S:St):dk λ(K:aa->Option aa)=>(match CH h.tab S fn.results.toList with
   |some (l,S1)=>(match h.iQ with
    |none=>K ⟨l,[]⟩
    |some q=>match S1.at q.1 with
     | .v b []=>(match Rg q.2 b with
      |some c=>K ⟨l,[c]⟩
      |none=>none)
     |_=>none)
   |none=>none):=by
 split
 ·split
  ·exact dk.pure _
  ·split
   ·split
    ·exact dk.pure _
    ·exact dk.none
   ·exact dk.none
 ·exact dk.none
theorem aa3 (hO:C4 O) {L:Nat->St->Ks->Option aa} {fn:Func} {body:Code} (hb:fn.body=some body) (hp:kV body=true) (hL:∀ k∈lS body,aeT h L k) (args:List Arg):dk (ny h O L fn args):=by
 unfold ny;rw[hb];simp only;refine jv.to (Kn hO body _ hp hL) λe S=>?_;cases e with
 |n=>exact Rl fn S
 |x id=>exact dk.none
 |r=>exact Rl fn S
end Go.Pv
namespace Go.Pv
open List Int IntKind
def isAgg:Ty->Bool
 | .pair _ _=>true | .unit=>true | .arr _ _=>true |_=>false
def ah (t:Ty) (v:Value) (cs:List Value):Prop:=if isAgg t=true then v=.agg cs.toArray else cs=[v]
section
variable (w:World) (Av:Nat->Prop) (H:Nat->Value) (tm:Nat->Value) (S:St)
structure Ref (t:Ty) (s:Nat) (p:Path) (r:TV) (dw:List Value):Prop where
 at_:∃ ex,S.at s=.v r ex/\open_ p ex
 val:valid p r.t r.x
 get:∃ b,a7 p r.t r.m r.x=some b/\b.t=t
 mat:ah r.t (tm s) dw
def Ap:V6->Value->Prop
 | .kv a,u=>K w Av a.t a.x [u]
 | .pl t s p,u=>∃ r dw cs,Ref tm S (.ptr t) s p r dw/\aH w p r.t dw=some cs/\ah (.ptr t) u cs
def Holds (own:Nat->Prop):AV->Value->Prop
 | .dead,_=>True
 | .undef,v=>v=undef
 | .v a ex,v=>∃ cs,ah a.t v cs/\M w Av H a.t a.m a.x cs own ex
 | .Ih l,v=>∃ (vs:List Value) (τ:Nat->Nat),v=.tuple vs.toArray/\vs.length=l.length/\ ∀ (j:Nat) (a:TV),l[j]?=some (some a)->∃ u cs,vs[j]?=some u/\ah a.t u cs/\M w Av H a.t a.m a.x cs (λg=>own g/\τ g=j) []
 | .al t s p,v=>∃ r dw cs,Ref tm S t s p r dw/\aH w p r.t dw=some cs/\ah t v cs
 | .ad t s p,v=>∃ r dw g off,Ref tm S t s p r dw/\addrAt w p r.t dw none=some (g,off)/\v=.pointer (some ⟨g,off,none⟩)
 | .cut t s p lo hi,v=>∃ r dw t' A n c,Ref tm S t s p r dw/\t=.sl t'/\aH w p r.t dw=some [.slice A n c]/\lo<=hi/\hi<=n/\
  v=.slice (if c=lo then A else A.map (·.add (lo*t'.size))) (hi - lo) (c - lo)
 | .vY f fc,v=>∃ vs:List Value,v=.func (.func f) #[] vs.toArray/\vs.length=fc.length/\∀ (j:Nat) (c:V6),fc[j]?=some c->∃ u,vs[j]?=some u/\Ap w Av tm S c u
end
structure Fr (w0:World) (W0:Nat->Prop) (w:World):Prop where
 os:w.os=w0.os
 tape:w.tape=w0.tape
 output:w.output=w0.output
 size:w0.heap.size<=w.heap.size
 block:∀ g,g<w0.heap.size->¬W0 g->w.heap[g]?=w0.heap[g]?
def Av (σ:Nat->Option Nat) (Z:Nat->Prop) (g:Nat):Prop:=(∃ i,σ g=some i)∨Z g
def cn (a:Act) (i:Nat):Value:=a.tmps.getD i undef
structure a6 (σ:Nat->Option Nat) (w0:World) (W0 Z:Nat->Prop) (H:Nat->Value) (S:St) (a:Act) (w:World):Prop where
 len:S.length=a.tmps.size
 defers:a.defers=[]
 fr:Fr w0 W0 w
 new:∀ g i,σ g=some i->w0.heap.size<=g∨W0 g
 lt:∀ g i,σ g=some i->g<w.heap.size
 old:∀ g,Z g->σ g=none/\g<w0.heap.size
 holds:∀ i,Holds w (Av σ Z) H (cn a) S (λg=>σ g=some i) (S.at i) (cn a i)
def Rel (w0:World) (W0 Z:Nat->Prop) (H:Nat->Value) (S:St) (a:Act) (w:World):Prop:=∃ σ,a6 σ w0 W0 Z H S a w
theorem lT {w w':World} {Wr FM:Nat->Prop} {H:Nat->Value} (cP:aU w w' Wr FM):∀ (p:Path) {t:Ty} {m:Md} {x:t.I} {cs:List Value} {ow:Nat->Prop} {hs:List Path} (l:Option (Nat×Nat)),M w Wr H t m x cs ow hs->(∀ g,ow g->g<w.heap.size->w'.heap[g]?=w.heap[g]?)->open_ p hs->valid p t x->aH w' p t cs=aH w p t cs/\addrAt w' p t cs l=addrAt w p t cs l
 |[],_,_,_,_,_,_,_,_,_,_,_=>⟨rfl,rfl⟩
 | .deref::p,.ptr t,m,x,cs,ow,hs,l,h,hb,ho,hv=>by
  simp only[valid] at hv;simp only[M] at h;rcases h with⟨hn,_⟩ |⟨hk,h⟩ |⟨T,tag,me,g,cur,rfl,rfl,ht,FN,hw,h⟩
  ·exact absurd hn ho.not_nil
  ·simp only[K] at h;obtain⟨g,off,cur,T,fr,rfl,hng,hw,hl,h⟩:=h;have Rm:=(cP.same g hng (bh hw)).trans hw;have ih:=lT cP p (H:=H) (some (g,off)) (nu (ow:=λ_=>False) (hs:=sub .deref hs) t h) (λ_ h=>h.elim) ho.sub hv;simp only[aH,addrAt,bH hw hl,bH Rm hl,Option.bind_some];exact ih
  have Rm:=(hb g FN (bh hw)).trans hw;have pL:0+t.size<=cur.size:=(by rw[←(lQ t h).1];simp);have nw:(cur.toList.drop 0).take t.size=cur.toList:=(by rw[List.drop_zero,List.take_of_length_le (by rw[(lQ t h).1];exact Nat.le_refl _)]);have ih:=lT cP p (some (g,0)) h (λg hg=>hb g hg.1) ho.sub hv;simp only[aH,addrAt,bH hw pL,bH Rm pL,Option.bind_some,nw];exact ih
 | .fst::p,.pair a b',m,x,cs,ow,hs,l,h,hb,ho,hv=>by
  simp only[valid] at hv;simp only[M] at h;simp only[aH,addrAt];rcases h with⟨hn,_⟩ |⟨hk,h⟩ |⟨ma,mb,c0,c1,s,rfl,rfl,h0,h1⟩
  ·exact absurd hn ho.not_nil
  ·simp only[K] at h;obtain⟨c0,c1,rfl,h0,h1⟩:=h;rw[←(xV a h0).1,List.take_left];exact lT cP p (H:=H) l (nu (ow:=λ_=>False) (hs:=sub .fst hs) a h0) (λ_ h=>h.elim) ho.sub hv
  rw[←(lQ a h0).1,List.take_left];exact lT cP p l h0 (λg hg=>hb g hg.1) ho.sub hv
 | .snd::p,.pair a b',m,x,cs,ow,hs,l,h,hb,ho,hv=>by
  simp only[valid] at hv;simp only[M] at h;simp only[aH,addrAt];rcases h with⟨hn,_⟩ |⟨hk,h⟩ |⟨ma,mb,c0,c1,s,rfl,rfl,h0,h1⟩
  ·exact absurd hn ho.not_nil
  ·simp only[K] at h;obtain⟨c0,c1,rfl,h0,h1⟩:=h;rw[←(xV a h0).1,List.drop_left];exact lT cP p (H:=H) _ (nu (ow:=λ_=>False) (hs:=sub .snd hs) b' h1) (λ_ h=>h.elim) ho.sub hv
  rw[←(lQ a h0).1,List.drop_left];exact lT cP p _ h1 (λg hg=>hb g hg.1) ho.sub hv
 | .idx i::p,.sl t,m,xs,cs,ow,hs,l,h,hb,ho,hv=>by
  simp only[valid] at hv;obtain⟨hi,hv⟩:=hv;have mm:getD xs i t.z=xs[i]:=by simp[List.getD_eq_getElem?_getD,List.getElem?_eq_getElem hi]
  simp only[M] at h;rcases h with⟨hn,_⟩ |⟨hk,h⟩ |⟨T,tag,me,A,c,rfl,rfl,hc,ht,h⟩
  ·exact absurd hn ho.not_nil
  ·simp only[K] at h;obtain⟨A,c,rfl,hc,h⟩:=h;obtain⟨g,off,cur,T,fr,rfl,hng,hw,hl,h⟩:=h (by omega);have Rm:=(cP.same g hng (bh hw)).trans hw;have hbound:off+i*t.size+t.size<=cur.size:=by have:=Nat.mul_le_mul_right t.size (show i+1<=xs.length from hi);rw[Nat.add_mul,Nat.one_mul] at this;omega
   have hK:=h i hi;rw[←mm] at hK;have ih:=lT cP p (H:=H) (some (g,off+i*t.size)) (nu (ow:=λ_=>False) (hs:=sub (.idx i) hs) t hK) (λ_ h=>h.elim) ho.sub hv;simp only[aH,addrAt,bH hw hbound,bH Rm hbound,Option.bind_some];exact ih
  rcases h with⟨rfl,_⟩ |⟨g,cur,τ,rfl,FN,hw,pL,hm,h⟩
  ·simp at hi
  have Rm:=(hb g FN (bh hw)).trans hw;have hbound:i*t.size+t.size<=cur.size:=(by have h1:=Nat.mul_le_mul_right t.size (show i+1<=xs.length from hi);have h2:=Nat.mul_le_mul_right t.size hc;rw[Nat.add_mul,Nat.one_mul] at h1;omega);have hM:=h i hi;rw[←mm] at hM;have ih:=lT cP p (some (g,i*t.size)) hM (λg hg=>hb g hg.1) ho.sub hv;simp only[aH,addrAt,Nat.zero_add,bH hw hbound,bH Rm hbound,Option.bind_some];exact ih
variable {w w':World} {A A':Nat->Prop} {H:Nat->Value} {tm FP:Nat->Value} {S S':St}
structure Kept (w w':World) (A:Nat->Prop) (H:Nat->Value) (tm FP:Nat->Value) (S S':St) (s:Nat):Prop where
 at_:∀ r ex,S.at s=.v r ex->S'.at s=.v r ex
 tm_:FP s=tm s
 hold:∃ own,Holds w A H tm S own (S.at s) (tm s)/\∀ g,own g->g<w.heap.size->w'.heap[g]?=w.heap[g]?
theorem eG {t:Ty} {v:Value} {cs fH:List Value} (h:ah t v cs) (h':ah t v fH):cs=fH:=by
 unfold ah at*;split at h
 ·rename_i ha;rw[if_pos ha] at h';rw[h] at h';injection h' with h';simpa using h'
 rename_i ha;rw[if_neg ha] at h';rw[h,h']
theorem Ref.kept {t:Ty} {s:Nat} {p:Path} {r:TV} {dw:List Value} (cP:aU w w' A A') (hk:Kept w w' A H tm FP S S' s) (h:Ref tm S t s p r dw): Ref FP S' t s p r dw/\∀ l,aH w' p r.t dw=aH w p r.t dw/\addrAt w' p r.t dw l=addrAt w p r.t dw l:=by obtain⟨⟨ex,h1,h2⟩,h3,h4,h5⟩:=h;refine⟨⟨⟨ex,hk.at_ _ _ h1,h2⟩,h3,h4,by rw[hk.tm_];exact h5⟩,λl=>?_⟩;obtain⟨own,hh,hb⟩:=hk.hold;rw[h1] at hh;obtain⟨cs,hm,hM⟩:=hh;obtain rfl:=eG h5 hm;exact lT cP p l hM hb h2 h3
theorem Ap.kept {c:V6} {u:Value} (cP:aU w w' A A') (hk:∀ t s p,c=.pl t s p->Kept w w' A H tm FP S S' s) (h:Ap w A tm S c u):Ap w' A' FP S' c u:=by
 cases c with
 |kv a=>exact cv cP _ h
 |pl t s p=>obtain⟨r,dw,cs,hr,hc,hm⟩:=h;obtain⟨h1,h2⟩:=hr.kept cP (hk t s p rfl);exact⟨r,dw,cs,h1,by rw[(h2 none).1];exact hc,hm⟩
theorem Holds.kept {own V':Nat->Prop} {a:AV} {v:Value} (cP:aU w w' A A') (ho:∀ g,own g->g<w.heap.size->w'.heap[g]?=w.heap[g]? /\V' g) (hk:∀ s,a.refs s=true->Kept w w' A H tm FP S S' s) (h:Holds w A H tm S own a v):Holds w' A' H FP S' V' a v:=by
 cases a with
 |dead=>trivial
 |undef=>exact h
 |v a ex=>obtain⟨cs,h1,h2⟩:=h;exact⟨cs,h1,aG cP _ (λg hg hl=>(ho g hg hl).1) (λg hg hl=>(ho g hg hl).2) (λ_ h=>h) h2⟩
 |Ih l=>obtain⟨vs,τ,h1,h2,h3⟩:=h;refine⟨vs,τ,h1,h2,λj a hj=>?_⟩;obtain⟨u,cs,k1,k2,k3⟩:=h3 j a hj;exact⟨u,cs,k1,k2,aG cP _ (λg hg hl=>(ho g hg.1 hl).1) (λg hg hl=>⟨(ho g hg.1 hl).2,hg.2⟩) (λ_ h=>h) k3⟩
 |al t s p=>obtain⟨r,dw,cs,hr,hc,hm⟩:=h;obtain⟨h1,h2⟩:=hr.kept cP (hk s (by simp[AV.refs]));exact⟨r,dw,cs,h1,by rw[(h2 none).1];exact hc,hm⟩
 |ad t s p=>obtain⟨r,dw,g,off,hr,hc,hm⟩:=h;obtain⟨h1,h2⟩:=hr.kept cP (hk s (by simp[AV.refs]));exact⟨r,dw,g,off,h1,by rw[(h2 none).2];exact hc,hm⟩
 |cut t s p lo hi=>obtain⟨r,dw,t',A1,n,c,hr,ht,hc,hm⟩:=h;obtain⟨h1,h2⟩:=hr.kept cP (hk s (by simp[AV.refs]));exact⟨r,dw,t',A1,n,c,h1,ht,by rw[(h2 none).1];exact hc,hm⟩
 |vY f fc=>obtain⟨vs,h1,h2,h3⟩:=h;refine⟨vs,h1,h2,λj c hj=>?_⟩;obtain⟨u,k1,k2⟩:=h3 j c hj;refine⟨u,k1,k2.kept cP (λt s p e=>hk s ?_)⟩;subst e;simp only[AV.refs,List.any_eq_true];exact⟨_,List.mem_of_getElem? hj,by simp⟩
theorem eH (S:St) (d:Nat) (a:AV) (i:Nat):St.at (S.set d a) i=if i=d/\d<S.length then a else S.at i:=by
 unfold St.at;rw[List.getD_eq_getElem?_getD,List.getD_eq_getElem?_getD,List.getElem?_set];by_cases h:d=i
 ·subst h;by_cases hl:d<S.length
  ·simp[hl]
  simp[hl]
 have h': ¬i=d:=λe=>h e.symm;simp[h,h']
theorem Rn (S:St) (f:AV->AV) (hf:f .dead=.dead) (i:Nat):St.at (S.map f) i=f (S.at i):=by
 unfold St.at;rw[List.getD_eq_getElem?_getD,List.getD_eq_getElem?_getD,List.getElem?_map];cases S[i]? with
 |none=>simp[hf]
 |some a=>rfl
theorem aks (S:St) (d i:Nat):(S.kill d).at i=bif (S.at i).refs d then .dead else S.at i:=Rn S _ (by simp[AV.refs]) i
theorem s6 (S:St) (d i:Nat):(S.weaken d).at i=bif (S.at i).kS d then .dead else S.at i:=Rn S _ (by simp[AV.kS]) i
theorem agl (S:St) (d:Nat):(S.kill d).length=S.length:=by simp[St.kill]
theorem iA (S:St) (d:Nat) (a:AV) (i:Nat):(S.put (some d) a).at i=if i=d/\d<S.length then(bif a.refs d then .dead else a) else bif (S.at i).refs d&&(S.at d).LG then .dead else S.at i:=by
 simp only[St.put];cases (S.at d).LG
 ·simp only[cond_false,eH,Bool.and_false]
 simp only[cond_true,eH,agl,aks,Bool.and_true]
theorem bK (S:St) (dst:Option Nat) (a:AV):(S.put dst a).length=S.length:=by
 cases dst with
 |none=>rfl
 |some d=>simp only[St.put];cases (S.at d).LG<;>simp[St.kill]
theorem aa4 {own:Nat->Prop} {w:World} {A:Nat->Prop} {H:Nat->Value} {tm:Nat->Value} {S:St} {av:AV} {v:Value} {d:Nat} (h:Holds w A H tm S own av v) (hr:av.refs d=true):(S.at d).LG=true:=by
 cases av with
 |dead=>cases hr
 |undef=>cases hr
 |v a ex=>cases hr
 |Ih l=>cases hr
 |al t s p=>obtain rfl:s=d:=Nat.eq_of_beq_eq_true hr;obtain⟨r,dw,cs,h1,_⟩:=h;obtain⟨ex,h2,_⟩:=h1.at_;rw[h2];rfl
 |ad t s p=>obtain rfl:s=d:=Nat.eq_of_beq_eq_true hr;obtain⟨r,dw,g,off,h1,_⟩:=h;obtain⟨ex,h2,_⟩:=h1.at_;rw[h2];rfl
 |cut t s p lo hi=>obtain rfl:s=d:=Nat.eq_of_beq_eq_true hr;obtain⟨r,dw,t',A,n,c,h1,_⟩:=h;obtain⟨ex,h2,_⟩:=h1.at_;rw[h2];rfl
 |vY f fc=>
 simp only[AV.refs,List.any_eq_true] at hr;obtain⟨c,hc,hr⟩:=hr;obtain⟨vs,_,_,h3⟩:=h;obtain⟨j,hj⟩:=List.mem_iff_getElem?.1 hc;obtain⟨u,_,h4⟩:=h3 j c hj;cases c with
 |kv a=>cases hr
 |pl t s p=>obtain rfl:s=d:=Nat.eq_of_beq_eq_true hr;obtain⟨r,dw,cs,h1,_⟩:=h4;obtain⟨ex,h2,_⟩:=h1.at_;rw[h2];rfl
theorem Om (a:Act) (d:Nat) (v:Value) (i:Nat):cn (a.put (some d) v) i=if i=d/\d<a.tmps.size then v else cn a i:=by
 unfold cn Act.put;simp only[Array.getD_eq_getD_getElem?,Array.getElem?_setIfInBounds];by_cases h:d=i
 ·subst h;by_cases hl:d<a.tmps.size
  ·simp[hl]
  simp[hl]
 have h': ¬i=d:=λe=>h e.symm;simp[h,h']
theorem agm (a:Act) (dst:Option Nat) (v:Value):(a.put dst v).tmps.size=a.tmps.size:=by cases dst<;>simp[Act.put]
theorem put_defers (a:Act) (dst:Option Nat) (v:Value):(a.put dst v).defers=a.defers:=by cases dst<;>rfl
theorem a6.put {σ ir:Nat->Option Nat} {w0:World} {W0 Z:Nat->Prop} {a:Act} {dst:Option Nat} {av:AV} {v:Value} (h:a6 σ w0 W0 Z H S a w)
  (cP:aU w w' (Av σ Z) (Av ir Z)) (Eu:Fr w0 W0 w') (aeU:∀ g i,ir g=some i->(w0.heap.size<=g∨W0 g)/\g<w'.heap.size) (hold:∀ g,Z g->ir g=none)
  (yE:∀ i g,i<S.length->dst≠some i->σ g=some i->w'.heap[g]?=w.heap[g]? /\ir g=some i)
  (xZ:∀ d,dst=some d->d<S.length->av.refs d=false->Holds w' (Av ir Z) H (cn (a.put dst v)) (S.put dst av) (λg=>ir g=some d) av v):
  a6 ir w0 W0 Z H (S.put dst av) (a.put dst v) w':=by
 have FQ:∀ i,¬i<S.length->S.at i=.dead:=λi hl=>by
  unfold St.at
  rw[List.getD_eq_getElem?_getD,List.getElem?_eq_none (by omega)]
  rfl
 refine⟨by rw[bK,agm];exact h.len,by rw[put_defers];exact h.defers,Eu,λg i hg=>(aeU g i hg).1,λg i hg=>(aeU g i hg).2,λg hg=>⟨hold g hg,(h.old g hg).2⟩,λi=>?_⟩
 by_cases Uh:i<S.length
 rotate_left
 ·have:(S.put dst av).at i=.dead:=by
   unfold St.at
   rw[List.getD_eq_getElem?_getD,List.getElem?_eq_none (by rw[bK];omega)]
   rfl
  rw[this]
  trivial
 cases dst with
 |none=>
  have hk:∀ s,Kept w w' (Av σ Z) H (cn a) (cn a) S S s:=λs=>by
   by_cases hs:s<S.length
   ·exact⟨λ_ _ h=>h,rfl,_,h.holds s,λg hg _=>(yE s g hs (by simp) hg).1⟩
   ·exact⟨λ_ _ h=>h,rfl,λ_=>False,by rw[FQ s hs];trivial,λ_ h=>h.elim⟩
  exact(h.holds i).kept cP (λg hg _=>yE i g Uh (by simp) hg) (λs _=>hk s)
 |some d=>
  by_cases hi:i=d/\d<S.length
  ·obtain⟨rfl,hl⟩:=hi
   rw[iA,if_pos ⟨rfl,hl⟩,Om,if_pos ⟨rfl,by rw[←h.len];exact hl⟩]
   cases hr:av.refs i with
   |true=>simp[Holds]
   |false=>exact xZ i rfl hl hr
  ·have G0: ¬(i=d/\d<a.tmps.size):=by rw[←h.len];exact hi
   rw[iA,if_neg hi,Om,if_neg G0]
   cases hr:(S.at i).refs d with
   |true=>rw[aa4 (h.holds i) hr];simp[Holds]
   |false=>
    simp only[Bool.false_and,cond_false]
    by_cases hd:i=d
    ·subst hd
     rw[FQ i (λhl=>hi ⟨rfl,hl⟩)]
     trivial
    ·refine(h.holds i).kept cP (λg hg _=>yE i g Uh (by simpa using λe=>hd e.symm) hg) (λs hs=>?_)
     have On:s≠d:=λe=>by subst e;rw[hr] at hs;cases hs
     refine⟨?_,?_,?_⟩
     ·intro r ex hv
      rw[iA,if_neg (λe=>On e.1),hv]
      rfl
     ·rw[Om,if_neg (λe=>On e.1)]
     ·by_cases hs:s<S.length
      ·exact⟨_,h.holds s,λg hg _=>(yE s g hs (by simpa using λe=>On e.symm) hg).1⟩
      ·exact⟨λ_=>False,by rw[FQ s hs];trivial,λ_ h=>h.elim⟩
def release (σ:Nat->Option Nat) (dst:Option Nat) (g:Nat):Option Nat:=if dst.isSome=true/\σ g=dst then none else σ g
theorem lv {σ:Nat->Option Nat} {dst:Option Nat} {g i:Nat} (h:release σ dst g=some i):σ g=some i/\dst≠some i:=by
 unfold release at h;split at h
 ·cases h
 rename_i hn;refine⟨h,λe=>hn ⟨by rw[e];rfl,by rw[h,e]⟩⟩
theorem zP {σ:Nat->Option Nat} {dst:Option Nat} {g i:Nat} (hd:dst≠some i) (h:σ g=some i):release σ dst g=some i:=by unfold release;rw[if_neg (λe=>hd (by rw[←e.2,h])),h]
theorem Ko {σ:Nat->Option Nat} {dst:Option Nat} {Z:Nat->Prop} {g:Nat} (h:Av (release σ dst) Z g):Av σ Z g:=by
 rcases h with⟨i,h⟩ |h
 ·exact .inl ⟨i,(lv h).1⟩
 exact .inr h
theorem a6.pure {σ:Nat->Option Nat} {w0:World} {W0 Z:Nat->Prop} {a:Act} {dst:Option Nat} {av:AV} {v:Value} (h:a6 σ w0 W0 Z H S a w) (hv:Holds w (Av σ Z) H (cn a) S (λ_=>False) av v):a6 (release σ dst) w0 W0 Z H (S.put dst av) (a.put dst v) w:=by
 have cP:aU w w (Av σ Z) (Av (release σ dst) Z):=⟨λ_ _ _=>rfl,λg _ hg=>Ko hg⟩;refine h.put cP h.fr (λg i hg=>⟨h.new g i (lv hg).1,h.lt g i (lv hg).1⟩) (λg hg=>by unfold release;split<;>first |rfl |exact(h.old g hg).1) (λi g _ hd hg=>⟨rfl,zP hd hg⟩) (λd hd hl hr=>?_);subst hd;refine hv.kept cP (λ_ h _=>h.elim) (λs hs=>?_);have On:s≠d:=λe=>by subst e;rw[hr] at hs;cases hs
 refine⟨λr ex hv=>?_,by rw[Om,if_neg (λe=>On e.1)],_,h.holds s,λ_ _ _=>rfl⟩;rw[iA,if_neg (λe=>On e.1),hv];rfl
def amy (σ:Nat->Option Nat) (x:Operand) (g:Nat):Prop:=∃ i,x=.tmp i/\σ g=some i
theorem bM {σ:Nat->Option Nat} {w0:World} {W0 Z:Nat->Prop} {a:Act} {Θ:fA} {T:TypeId} {x:Operand} {av:AV} (h:a6 σ w0 W0 Z H S a w) (he:S.jT Θ T x=some av): Holds w (Av σ Z) H (cn a) S (amy σ x) av (a.eval x):=by
 cases x with
 |tmp i=>simp only[St.jT,Option.some.injEq] at he;subst he;refine(h.holds i).kept (aU.refl _ _) (λg hg _=>⟨rfl,i,rfl,hg⟩) (λs _=>⟨λ_ _ h=>h,rfl,_,h.holds s,λ_ _ _=>rfl⟩)
 |const c=>
 simp only[St.jT] at he;split at he
 ·rename_i b hb;injection he with he;subst he;unfold BC at hb;split at hb
  ·injection hb with hb;subst hb;exact⟨[a.eval (.const _)],by simp only[ah,isAgg];rfl,by simp[M,K,Act.eval,Md.b5]⟩
  ·injection hb with hb;subst hb;exact⟨[a.eval (.const _)],by simp only[ah,isAgg];rfl,by simp[M,K,Act.eval,Md.b5]⟩
  ·injection hb with hb;subst hb;exact⟨[a.eval (.const _)],by simp only[ah,isAgg];rfl,by simp[M,K,Act.eval,Md.b5]⟩
  ·split at hb
   ·rename_i i hi;split at hb
    ·rename_i t ht;injection hb with hb;subst hb;refine⟨[.slice none 0 0],by simp[ah,isAgg,Act.eval],?_⟩;simp only[M];exact .inr (.inr ⟨_,_,_,none,0,rfl,rfl,Nat.le_refl _,λh hh=>(by cases hh),.inl (by simp)⟩)
    cases hb
   cases hb
  cases hb
 cases he
 |func f=>simp only[St.jT,Option.some.injEq] at he;subst he;exact⟨[],by simp[Act.eval],rfl,λj c hj=>by simp at hj⟩
 |global g=>simp[St.jT] at he
theorem aa5 {own:Nat->Prop} {t:Ty} {m:Md} {x:t.I} {cs:List Value} (h:M w A H t m x cs own []):K w (λ_=>False) t x cs:=M_K (λ_ _ h=>h.elim) t rfl (λ_ _ h=>h) h
theorem Wa {t:Ty} {v:Value} {cs:List Value} (h:ah t v cs) (h1:∀ u∈cs,u.oneCell'=true):v.cells.toList=cs:=by
 unfold ah at h;split at h
 ·subst h;rfl
 subst h;have:=h1 v (by simp);cases v<;>first |rfl |(simp[Value.oneCell'] at this)
theorem C5:∀ (q r:Path),jk q (q++r)=true
 |[],_=>by simp[jk]
 | .idx i::q,r=>by simp[jk];exact C5 q r
 | .deref::q,r=>by simp[jk];exact C5 q r
 | .fst::q,r=>by simp[jk];exact C5 q r
 | .snd::q,r=>by simp[jk];exact C5 q r
theorem C6:∀ (q r:Path),jk (q++r) q=true
 |[],[]=>by simp[jk]
 |[],_::_=>by simp[jk]
 | .idx i::q,r=>by simp[jk];exact C6 q r
 | .deref::q,r=>by simp[jk];exact C6 q r
 | .fst::q,r=>by simp[jk];exact C6 q r
 | .snd::q,r=>by simp[jk];exact C6 q r
theorem JE {p:Path} {ex:List Path} (h:∀ q∈ex,jk q p=false):open_ p ex:=λq hq s r e=>by have:=h q hq;rw[e,C5] at this;cases this
theorem JF {p:Path} {ex:List Path} (h:∀ q∈ex,jk q p=false):LM p ex=[]:=by
 cases hs:LM p ex with
 |nil=>rfl
 |cons q r=>have:q∈LM p ex:=(by rw[hs];simp);have:=h _ (Q'.1 this);rw[C6] at this;cases this
theorem aa6 {S:St} {i:Nat} (h:S.length<=i):S.at i=.dead:=by unfold St.at;rw[List.getD_eq_getElem?_getD,List.getElem?_eq_none h];rfl
theorem again_at {S S2:St} {s:Nat} (hl:S2.length=S.length) (i:Nat):(S.again S2 s).at i=S2.at i∨∃ t r ex,S.at i=.al t s []/\S2.at s=.v r ex/\t=r.t/\S2.at i=.dead/\(S.again S2 s).at i=.al t s []:=by
 unfold St.again;split;case h_2=>exact .inl rfl
 rename_i r ex hs;have hz:St.at (List.zipWith (Og s r.t) S S2) i=Og s r.t (S.at i) (S2.at i):=by
  by_cases hi:i<S.length
  ·unfold St.at;rw[List.getD_eq_getElem?_getD,List.getD_eq_getElem?_getD,List.getD_eq_getElem?_getD,List.getElem?_zipWith,List.getElem?_eq_getElem hi,List.getElem?_eq_getElem (by omega:i<S2.length)];rfl
  rw[aa6 (S:=S) (by omega),aa6 (S:=S2) (by omega),aa6 (by rw[List.length_zipWith];omega)];rfl
 rw[hz];unfold Og;split;case h_2=>exact .inl rfl
 rename_i t q ha hb;cases hq:Nat.beq q s&&decide (t=r.t) with
 |false=>rw[hb];exact .inl rfl
 |true=>simp only[Bool.and_eq_true,decide_eq_true_eq] at hq;obtain rfl:=Nat.eq_of_beq_eq_true hq.1;exact .inr ⟨t,r,ex,ha,hs,hq.2,hb,rfl⟩
end Go.Pv
