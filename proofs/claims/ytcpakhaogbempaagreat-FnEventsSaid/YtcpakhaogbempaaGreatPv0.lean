/- A verified evaluator of the program's form over pure values, part 0: what it tells of a function holds. -/
import Derived.Calls
import Derived.KernelRfl
import Derived.Laws.AppendOwn
import Derived.Laws.Sem
import Derived.Orders
namespace Go.Pv
set_option linter.unusedVariables false
set_option linter.unusedSimpArgs false
inductive Ty where
 |int (k:IntKind) |bool |str |sl (t:Ty) |ptr (t:Ty) |pair (a b:Ty) |unit |arr (n:Nat) (t:Ty)
 deriving DecidableEq,Inhabited
@[reducible] def Ty.I:Ty→Type
 | .int _=>Int | .bool=>Bool | .str=>ByteArray | .sl t=>List t.I | .ptr t=>t.I | .pair a b=>a.I×b.I | .unit=>Unit | .arr _ t=>List t.I
def Ty.size:Ty→Nat
 | .pair a b=>a.size+b.size | .unit=>0 | .arr n t=>n*t.size |_=>1
def Ty.z:(t:Ty)→t.I
 | .int _=>(0:Int) | .bool=>false | .str=>ByteArray.empty | .sl _=>[] | .ptr t=>t.z | .pair a b=>(a.z,b.z) | .unit=>() | .arr n t=>List.replicate n t.z
inductive Md where
 |k |o (T:TypeId) (tag:Option Nat) (m:Md) |p (a b:Md)
 deriving DecidableEq,Inhabited
def Md.bG:Md→Bool
 | .k=>true | .o ..=>false | .p a b=>a.bG&&b.bG
inductive Step where
 |deref |fst |snd |idx (i:Nat)
 deriving DecidableEq,Inhabited
abbrev Path:=List Step
def sub (s:Step) (hs:List Path):List Path:=hs.filterMap fun p=>match p with
 |s'::r=>if s'=s then some r else none
 |[]=>none
section
variable (w:World) (Wr:Nat→Prop)
def K:(t:Ty)→t.I→List Value→Prop
 | .int k,n,cs=>cs=[.int k n]
 | .bool,b,cs=>cs=[.bool b]
 | .str,s,cs=>cs=[.string s]
 | .unit,_,cs=>cs=[]
 | .pair a b,x,cs=>∃ c0 c1,cs=c0++c1∧K a x.1 c0∧K b x.2 c1
 | .arr n t,xs,cs=>∃ e8:List (List Value),cs=e8.flatten∧e8.length=n∧xs.length=n∧∀ j (h:j<xs.length) (h':j<e8.length),K t xs[j] e8[j]
 | .sl t,xs,cs=>∃ A c,cs=[.slice A xs.length c]∧xs.length≤c∧(0<xs.length→∃ g off cur T fr,A=some ⟨g,off,none⟩∧ ¬Wr g∧w.heap[g]?=some (.cells cur T fr)∧off+xs.length*t.size≤cur.size∧∀ j (h:j<xs.length),K t xs[j] ((cur.toList.drop (off+j*t.size)).take t.size))
 | .ptr t,x,cs=>∃ g off cur T fr,cs=[.pointer (some ⟨g,off,none⟩)]∧ ¬Wr g∧w.heap[g]?=some (.cells cur T fr)∧off+t.size≤cur.size∧K t x ((cur.toList.drop off).take t.size)
def M (H:Nat→Value):(t:Ty)→(m:Md)→t.I→List Value→(Nat→Prop)→List Path→Prop
 | .sl t,m,xs,cs,ow,hs=>([]∈hs∧m.bG=false∧∃ A c,cs=[.slice A xs.length c])∨(m.bG=true∧K w Wr (.sl t) xs cs)∨
   ∃ T tag me A c,m=.o T tag me∧cs=[.slice A xs.length c]∧xs.length≤c∧(∀ h,tag=some h→H h=.slice A xs.length c)∧
    ((xs=[]∧c=0)∨∃ g cur,∃ τ:Nat→Nat,A=some ⟨g,0,none⟩∧ow g∧w.heap[g]?=some (.cells cur T (0,0))∧cur.size=c*t.size∧c≤maxLen∧
     ∀ j (h:j<xs.length),M H t me xs[j] ((cur.toList.drop (j*t.size)).take t.size) (fun g'=>ow g'∧g'≠g∧τ g'=j) (sub (.idx j) hs))
 | .ptr t,m,x,cs,ow,hs=>([]∈hs∧m.bG=false∧cs.length=1∧∀ u∈cs,u.oneCell'=true)∨(m.bG=true∧K w Wr (.ptr t) x cs)∨
   ∃ T tag me g cur,m=.o T tag me∧cs=[.pointer (some ⟨g,0,none⟩)]∧(∀ h,tag=some h→H h=.pointer (some ⟨g,0,none⟩))∧ow g∧w.heap[g]?=some (.cells cur T (0,0))∧
    M H t me x cur.toList (fun g'=>ow g'∧g'≠g) (sub .deref hs)
 | .pair a b,m,x,cs,ow,hs=>([]∈hs∧m.bG=false∧cs.length=a.size+b.size∧∀ u∈cs,u.oneCell'=true)∨(m.bG=true∧K w Wr (.pair a b) x cs)∨
   ∃ ma mb c0 c1,∃ s:Nat→Prop,m=.p ma mb∧cs=c0++c1∧M H a ma x.1 c0 (fun g'=>ow g'∧s g') (sub .fst hs)∧M H b mb x.2 c1 (fun g'=>ow g'∧ ¬s g') (sub .snd hs)
 | .int k,m,x,cs,_,_=>m.bG=true∧K w Wr (.int k) x cs
 | .bool,m,x,cs,_,_=>m.bG=true∧K w Wr .bool x cs
 | .str,m,x,cs,_,_=>m.bG=true∧K w Wr .str x cs
 | .unit,m,x,cs,_,_=>m.bG=true∧K w Wr .unit x cs
 | .arr n t,m,x,cs,_,_=>m.bG=true∧K w Wr (.arr n t) x cs
end
end Go.Pv
namespace Go.Pv
set_option linter.unusedVariables false
set_option linter.unusedSimpArgs false
structure TV where
 t:Ty
 m:Md
 x:t.I
inductive IG where
 |pl (t:Ty) (s:Nat) (p:Path)
 |kv (a:TV)
inductive AV where
 |dead
 |undef
 |v (a:TV) (ex:List Path)
 |ud (l:List (Option TV))
 |al (t:Ty) (s:Nat) (p:Path)
 |ad (t:Ty) (s:Nat) (p:Path)
 |cut (t:Ty) (s:Nat) (p:Path) (lo hi:Nat)
 |lu (f:FuncId) (cu:List IG)
abbrev St:=List AV
structure TI where
 T:TypeId
 ty:Ty
 e:TypeId
 fs:List TypeId
abbrev dq:=List TI
def dq.find (Θ:dq) (T:TypeId):Option TI:=match Θ with
 |[]=>none
 |i::r=>bif Nat.beq i.T T then some i else dq.find r T
def Md.Hm:Md→Md
 | .o _ _ m=>m |_=>.k
def Md.l:Md→Md
 | .p a _=>a |m=>m
def Md.r:Md→Md
 | .p _ b=>b |m=>m
def mkM (a b:Md):Md:=bif a.bG&&b.bG then .k else .p a b
def aX:Path→(t:Ty)→Md→t.I→Option TV
 |[],t,m,x=>some ⟨t,m,x⟩
 | .deref::p,.ptr t,m,x=>aX p t m.Hm x
 | .fst::p,.pair a _,m,x=>aX p a m.l x.1
 | .snd::p,.pair _ b,m,x=>aX p b m.r x.2
 | .idx i::p,.sl t,m,xs=>aX p t m.Hm (xs.getD i t.z)
 |_::_,_,_,_=>none
def gw (b:TV):Path→(t:Ty)→Md→t.I→Option (Md×t.I)
 |[],t,_,_=>if h:b.t=t then some (b.m,h▸b.x) else none
 | .deref::p,.ptr t,.o T tag me,x=>match gw b p t me x with
  |some r=>some (.o T tag r.1,r.2)
  |none=>none
 | .fst::p,.pair t u,m,x=>match gw b p t m.l x.1 with
  |some r=>some (mkM r.1 m.r,(r.2,x.2))
  |none=>none
 | .snd::p,.pair t u,m,x=>match gw b p u m.r x.2 with
  |some r=>some (mkM m.l r.1,(x.1,r.2))
  |none=>none
 | .idx i::p,.sl t,.o T tag me,xs=>match gw b p t me (xs.getD i t.z) with
  |some r=>if r.1=me then some (.o T tag me,xs.set i r.2) else none
  |none=>none
 |_::_,_,_,_=>none
def gy:Path→Path→Bool
 |[],_=>true
 |_,[]=>true
 | .idx _::p,.idx _::q=>gy p q
 |s::p,s'::q=>if s=s' then gy p q else false
def under:Path→Path→Bool
 |[],[]=>false
 |[],_::_=>true
 |_::_,[]=>false
 | .idx _::p,.idx _::q=>under p q
 |s::p,s'::q=>if s=s' then under p q else false
def pre:Path→Path→Bool
 |[],_=>true
 | .deref::p,.deref::q=>pre p q
 | .fst::p,.fst::q=>pre p q
 | .snd::p,.snd::q=>pre p q
 |_,_=>false
def pD:Path→Path→Bool
 |[],_=>true
 |_,[]=>true
 | .idx i::p,.idx j::q=>pD p q&&Nat.beq i j
 |s::p,s'::q=>if s=s' then pD p q else false
def ga:Path→Path→Bool
 |[],[]=>true
 | .idx _::p,.idx _::q=>ga p q
 | .deref::p,.deref::q=>ga p q
 | .fst::p,.fst::q=>ga p q
 | .snd::p,.snd::q=>ga p q
 |_,_=>false
def B5:Path→Path→Bool
 | .idx i::p,.idx j::q=>B5 p q&&Nat.beq i j
 |_::p,_::q=>B5 p q
 |_,_=>true
def dM (p:Path):List Path→Bool×List Path
 |[]=>(true,[])
 |h::r=>bif ga p h then(B5 p h,r) else((dM p r).1,h::(dM p r).2)
def depth:Path→Nat
 |[]=>0 | .deref::p=>depth p+1 | .idx _::p=>depth p+1 |_::p=>depth p
def AV.refs (d:Nat):AV→Bool
 | .al _ s _=>Nat.beq s d | .ad _ s _=>Nat.beq s d | .cut _ s _ _ _=>Nat.beq s d
 | .lu _ cu=>cu.any fun c=>match c with
  | .pl _ s _=>Nat.beq s d
  | .kv _=>false
 |_=>false
def AV.e9 (d:Nat):AV→Bool
 | .al _ s p=>Nat.beq s d&&match p with
  |[]=>false
  |_=>true
 | .ad _ s p=>Nat.beq s d&&Nat.ble 2 (depth p)
 | .cut _ s _ _ _=>Nat.beq s d
 | .lu _ cu=>cu.any fun c=>match c with
  | .pl _ s (_::_)=>Nat.beq s d
  |_=>false
 |_=>false
def St.at (S:St) (i:Nat):AV:=S.getD i .dead
def St.kill (S:St) (d:Nat):St:=S.map fun a=>bif a.refs d then .dead else a
def St.weaken (S:St) (d:Nat):St:=S.map fun a=>bif a.e9 d then .dead else a
def St.cover (S:St) (d:Nat) (p:Path):St:=S.map fun a=>match a with
 | .ad t s q=>bif Nat.beq s d&&under p q then .dead else .ad t s q
 |a=>a
def AV.zU:AV→Bool
 | .v ..=>true |_=>false
def St.put (S:St) (dst:Option Nat) (a:AV):St:=match dst with
 |none=>S
 |some d=>(bif (S.at d).zU then S.kill d else S).set d (bif a.refs d then .dead else a)
def Ra (a:TV):TV:=⟨a.t,.k,a.x⟩
def nr (Θ:dq) (T:TypeId):Value→Option TV
 | .int k n=>some ⟨.int k,.k,n⟩
 | .bool b=>some ⟨.bool,.k,b⟩
 | .string s=>some ⟨.str,.k,s⟩
 | .slice none 0 0=>match Θ.find T with
  |some i=>match i.ty with
   | .sl t=>some ⟨.sl t,.o i.e none .k,[]⟩
   |_=>none
  |none=>none
 |_=>none
def St.place (S:St) (s:Nat) (p:Path):Option TV:=match S.at s with
 | .v a ex=>bif ex.all (fun h=>!gy h p) then aX p a.t a.m a.x else none
 |_=>none
def St.da (S:St) (s:Nat) (p:Path):Option TV:=match S.at s with
 | .v a ex=>bif ex.all (fun h=>!under h p) then aX p a.t a.m a.x else none
 |_=>none
def St.dX (Θ:dq) (S:St) (T:TypeId):Operand→Option AV
 | .tmp i=>some (S.at i)
 | .const c=>match nr Θ T c with
  |some a=>some (.v a [])
  |none=>none
 | .func f=>some (.lu f [])
 | .global _=>none
def St.tp (S:St):AV→Option TV
 | .v a []=>some a
 | .al _ s p=>S.place s p
 | .cut _ s p lo hi=>match S.place s p with
  |some ⟨.sl t,m,xs⟩=>some ⟨.sl t,m,(xs.take hi).drop lo⟩
  |_=>none
 |_=>none
def St.rd (Θ:dq) (S:St) (T:TypeId) (x:Operand):Option TV:=match S.dX Θ T x with
 |some a=>S.tp a
 |none=>none
def St.lM (Θ:dq) (S:St) (x:Operand):Option Int:=match S.rd Θ 0 x with
 |some ⟨.int _,_,n⟩=>some n
 |_=>none
def St.dN (S:St) (x:Operand):AV→Option (TV×St)
 | .v a ex=>bif a.m.bG then some (a,S) else match ex,x with
  |[],.tmp i=>some (a,S.put (some i) .dead)
  |[],_=>some (a,S)
  |_,_=>none
 | .al _ s p=>match S.place s p with
  |some a=>bif a.m.bG then some (a,S) else match p,S.at s with
   |[],_=>some (a,S.put (some s) .dead)
   |_,.v r ex=>some (a,((S.weaken s).cover s p).set s (.v r (ex++[p])))
   |_,_=>none
  |none=>none
 | .cut _ s [] lo hi=>match S.place s [] with
  |some ⟨.sl t,.o T _ me,xs⟩=>bif Nat.beq lo 0 then some (⟨.sl t,.o T none me,xs.take hi⟩,S.put (some s) .dead) else none
  |_=>none
 |_=>none
def St.take (Θ:dq) (S:St) (T:TypeId) (x:Operand):Option (TV×St):=match S.dX Θ T x with
 |some a=>S.dN x a
 |none=>none
def St.copy (S:St) (x:Operand):AV→Option AV
 | .v a ex=>bif a.m.bG then some (.v a []) else match x with
  | .tmp i=>some (.al a.t i [])
  |_=>match ex with
   |[]=>some (.v a [])
   |_=>none
 | .ud _=>none
 | .dead=>none
 |a=>some a
def ns (i n:Nat):Path:=bif Nat.beq (i+1) n then(bif Nat.beq n 1 then [.fst] else List.replicate i .snd) else List.replicate i .snd++[.fst]
def zgo (f:TypeId→Md):List TypeId→Md
 |[]=>.k
 |[a]=>f a
 |a::r=>mkM (f a) (zgo f r)
def MI (Θ:dq):Nat→TypeId→Md
 |0,_=>.k
 |n+1,T=>match Θ.find T with
  |none=>.k
  |some i=>match i.ty with
   | .sl _=>.o i.e none (MI Θ n i.e)
   | .pair _ _=>zgo (MI Θ n) i.fs
   |_=>.k
def kV:Ty→Bool
 | .ptr _=>false | .arr _ _=>false | .pair a b=>kV a&&kV b |_=>true
def uT:Ty→Md→Bool
 | .pair a b,.p ma mb=>(uT a ma&&uT b mb)||(ma.bG&&mb.bG&&kV a&&kV b)
 | .sl _,.o _ none _=>true
 |t,m=>m.bG&&kV t
inductive Tgt where
 |k (a:TV)
 |pl (t:Ty) (s:Nat) (p:Path)
def Tgt.ty:Tgt→Ty
 | .k a=>a.t
 | .pl t _ _=>t
def St.Ho (S:St) (x:Operand):AV→Option Tgt
 | .v ⟨.ptr t,m,y⟩ []=>match m,x with
  | .k,_=>some (.k ⟨t,.k,y⟩)
  | .o ..,.tmp i=>some (.pl t i [.deref])
  |_,_=>none
 | .v ⟨.ptr t,.o ..,_⟩ _=>match x with
  | .tmp i=>some (.pl t i [.deref])
  |_=>none
 | .al (.ptr t) s p=>match S.da s p with
  |some ⟨.ptr t',.k,y⟩=>some (.k ⟨t',.k,y⟩)
  |some ⟨.ptr _,.o ..,_⟩=>some (.pl t s (p++[.deref]))
  |_=>none
 | .ad t s p=>some (.pl t s p)
 |_=>none
def St.loadAt (S:St):Tgt→Option AV
 | .k a=>some (.v (Ra a) [])
 | .pl t s p=>match S.da s p with
  |some a=>bif a.m.bG then(match S.place s p with
   |some a=>some (.v (Ra a) [])
   |none=>none) else some (.al t s p)
  |none=>none
def bt (s:ByteArray) (i:Int):Int:=if h:i.toNat<s.size then((s[i.toNat]'h).toNat:Int) else 0
def ahZ (op:BinOp) (k:IntKind) (x y:Int):Option (Bool×TV):=match op with
 | .add=>some (true,⟨.int k,.k,k.wrap (x+y)⟩)
 | .sub=>some (true,⟨.int k,.k,k.wrap (x - y)⟩)
 | .mul=>some (true,⟨.int k,.k,k.wrap (x*y)⟩)
 | .quo=>some (!decide (y=0),⟨.int k,.k,k.wrap (x.tdiv y)⟩)
 | .rem=>some (!decide (y=0),⟨.int k,.k,x.tmod y⟩)
 | .and=>some (true,⟨.int k,.k,k.wrap (BitVec.ofInt k.bits x&&&BitVec.ofInt k.bits y).toNat⟩)
 | .or=>some (true,⟨.int k,.k,k.wrap (BitVec.ofInt k.bits x|||BitVec.ofInt k.bits y).toNat⟩)
 | .xor=>some (true,⟨.int k,.k,k.wrap (BitVec.ofInt k.bits x^^^BitVec.ofInt k.bits y).toNat⟩)
 | .eql=>some (true,⟨.bool,.k,x==y⟩)
 | .neq=>some (true,⟨.bool,.k,x != y⟩)
 | .lss=>some (true,⟨.bool,.k,decide (x<y)⟩)
 | .leq=>some (true,⟨.bool,.k,decide (x≤y)⟩)
 | .gtr=>some (true,⟨.bool,.k,decide (x>y)⟩)
 | .geq=>some (true,⟨.bool,.k,decide (x≥y)⟩)
 | .shl=>some (decide (0≤y),⟨.int k,.k,k.wrap (x*2^(min y.toNat k.bits))⟩)
 | .shr=>some (decide (0≤y),⟨.int k,.k,x.fdiv (2^(min y.toNat k.bits))⟩)
 |_=>none
def ah0 (op:BinOp) (x y:ByteArray):Option (Bool×TV):=match op with
 | .add=>some (decide (x.size+y.size≤9223372036854775807),⟨.str,.k,x++y⟩)
 | .eql=>some (true,⟨.bool,.k,x.toList==y.toList⟩)
 | .neq=>some (true,⟨.bool,.k,!(x.toList==y.toList)⟩)
 |_=>none
def MF:(t:Ty)→t.I→t.I→Option Bool
 | .int _,x,y=>some (decide ((x:Int)=y))
 | .bool,x,y=>some ((x:Bool)==y)
 | .str,x,y=>some ((x:ByteArray)==y)
 | .pair a b,x,y=>match MF a x.1 y.1,MF b x.2 y.2 with
  |some p,some q=>some (p&&q)
  |_,_=>none
 | .unit,_,_=>some true
 |_,_,_=>none
def gV (op:BinOp) (a b:TV):Option (Bool×TV):=match a,b with
 |⟨.int k,_,x⟩,⟨.int k',_,y⟩=>if k=k'∨op=.shl∨op=.shr then ahZ op k x y else none
 |⟨.str,_,x⟩,⟨.str,_,y⟩=>ah0 op x y
 |⟨.bool,_,x⟩,⟨.bool,_,y⟩=>match op with
  | .eql=>some (true,⟨.bool,.k,x==y⟩)
  | .neq=>some (true,⟨.bool,.k,!(x==y)⟩)
  |_=>none
 |⟨.pair t u,_,x⟩,⟨t',_,y⟩=>if h:t'=.pair t u then match op,MF (.pair t u) x (h▸y) with
   | .eql,some r=>some (true,⟨.bool,.k,r⟩)
   | .neq,some r=>some (true,⟨.bool,.k,!r⟩)
   |_,_=>none
  else none
 |_,_=>none
def ah1 (op:UnOp) (a:TV):Option TV:=match op,a with
 | .not,⟨.bool,_,x⟩=>some ⟨.bool,.k,!x⟩
 | .neg,⟨.int k,_,x⟩=>some ⟨.int k,.k,k.wrap (0 - x)⟩
 | .xor,⟨.int k,_,x⟩=>some ⟨.int k,.k,k.wrap (BitVec.ofInt k.bits (if k.signed then -1 else k.max)^^^BitVec.ofInt k.bits x).toNat⟩
 |_,_=>none
def GX:List TV→TV
 |[]=>⟨.unit,.k,()⟩
 |[a]=>a
 |a::r=>⟨.pair a.t (GX r).t,mkM a.m (GX r).m,(a.x,(GX r).x)⟩
def dO (l:List TV):TV:=match l with
 |[a]=>⟨.pair a.t .unit,mkM a.m .k,(a.x,())⟩
 |l=>GX l
def rJ (Θ:dq) (T:TypeId):Option TV:=match Θ.find T with
 |some i=>bif uT i.ty (MI Θ 9 T) then some ⟨i.ty,MI Θ 9 T,i.ty.z⟩ else none
 |none=>none
def St.parts (Θ:dq) (S:St) (ps:List (Nat×Operand)):List TypeId→Nat→Option (List TV×St)
 |[],_=>some ([],S)
 |T::r,j=>match ps.find? (fun q=>Nat.beq q.1 j) with
  |some q=>match S.take Θ T q.2 with
   |some (a,S1)=>match S1.parts Θ ps r (j+1) with
    |some (l,S2)=>some (a::l,S2)
    |none=>none
   |none=>none
  |none=>match rJ Θ T with
   |some a=>match S.parts Θ ps r (j+1) with
    |some (l,S2)=>some (a::l,S2)
    |none=>none
   |none=>none
def kJ (n:Nat):List (Nat×Operand)→Bool
 |[]=>true
 |q::r=>Nat.blt q.1 n&& !(r.any fun q'=>Nat.beq q'.1 q.1)&&kJ n r
def rK (t:Ty) (m:Md):List TV→Option (List t.I)
 |[]=>some []
 |a::r=>if h:a.t=t then(if a.m=m then match rK t m r with
   |some l=>some ((h▸a.x)::l)
   |none=>none else none) else none
abbrev Hn:=List (Nat×Md)
def Hn.find (h:Hn) (d:Option Nat) (m:Md):Md:=match d with
 |none=>m
 |some d=>match h with
  |[]=>m
  |q::r=>bif Nat.beq q.1 d then q.2 else Hn.find r (some d) m
def Hn.Yz (h:Hn) (d:Option Nat):Bool:=match h.find d (.o 0 none .k) with
 | .k=>true
 |_=>false
def dq.is (Θ:dq) (T:TypeId) (t:Ty):Bool:=match Θ.find T with
 |some i=>decide (i.ty=t)
 |none=>false
abbrev zV:=Option (Bool×St)
def pE (Θ:dq) (S:St) (dst:Option Nat) (T:TypeId) (x:Operand):zV:=match S.dX Θ T x with
 |some (.ud l)=>(match dst,x with
  |some d,.tmp i=>bif Nat.beq d i|| !Nat.blt d S.length then none else some (true,(S.put (some i) .dead).put (some d) (.ud l))
  |_,_=>none)
 |some a=>match S.copy x a with
  |some a=>some (true,S.put dst a)
  |none=>none
 |none=>none
def DV (Θ:dq) (S:St) (dst:Option Nat) (T:TypeId) (x:Operand):zV:=match S.dX Θ T x with
 |some a=>match dst,x,a with
  |some d,.tmp i,.v a ex=>bif a.m.bG then some (true,S.put dst (.v a [])) else match ex with
   |[]=>bif Nat.beq d i|| !Nat.blt d S.length then none else some (true,(St.put (S.put (some i) .dead) dst (.v a [])).set i (.al a.t d []))
   |_=>none
  |_,_,.v a ex=>bif a.m.bG then some (true,S.put dst (.v a [])) else match ex,x with
   |[],.const _=>some (true,S.put dst (.v a []))
   |_,_=>none
  |some d,_,.al t s []=>bif Nat.beq s d then none else some (true,S.put dst (.al t s []))
  |some d,_,.lu f c=>bif AV.refs d (.lu f c) then none else some (true,S.put dst (.lu f c))
  |_,_,.undef=>some (true,S.put dst .undef)
  |_,_,a=>match S.dN x a with
   |some (a,S1)=>some (true,S1.put dst (.v a []))
   |none=>none
 |none=>match x with
  | .const _=>some (true,S.put dst .dead)
  |_=>none
def Rb (Θ:dq) (S:St) (dst:Option Nat) (T:TypeId) (c a b:Operand):zV:=match S.rd Θ 0 c with
 |some ⟨.bool,_,q⟩=>match S.dX Θ T a,S.dX Θ T b with
  |some (.v ⟨.bool,_,x⟩ _),some (.v ⟨.bool,_,y⟩ _)=>some (true,S.put dst (.v ⟨.bool,.k,bif q then x else y⟩ []))
  |some p,some r=>match (bif q then S.copy a p else S.copy b r) with
   |some a=>some (true,S.put dst a)
   |none=>none
  |_,_=>none
 |_=>none
def pF (Θ:dq) (hn:Hn) (S:St) (dst:Option Nat) (T:TypeId):zV:=match rJ Θ T with
 |some z=>bif uT z.t (hn.find dst z.m) then some (true,S.put dst (.v ⟨.ptr z.t,.o T none (hn.find dst z.m),z.t.z⟩ [])) else none
 |none=>none
def abv (Θ:dq) (S:St) (dst:Option Nat) (T:TypeId) (x:Operand):zV:=match S.take Θ T x with
 |some (a,S1)=>bif Θ.is T a.t then some (true,S1.put dst (.v ⟨.ptr a.t,.o T none a.m,a.x⟩ [])) else none
 |none=>none
def Dh (Θ:dq) (S:St) (dst:Option Nat) (T:TypeId) (ps:List (Nat×Operand)):zV:=match Θ.find T with
 |some i=>match S.parts Θ ps i.fs 0 with
  |some (l,S1)=>bif decide ((dO l).t=i.ty)&&abw i.ty&&kJ l.length ps then some (true,S1.put dst (.v (dO l) [])) else none
  |none=>none
 |none=>none
 where abw:Ty→Bool
 | .pair _ _=>true
 |_=>false
def bw (Θ:dq) (hn:Hn) (S:St) (dst:Option Nat) (T:TypeId) (n:Nat) (ps:List (Nat×Operand)):zV:=match Θ.find T with
 |some ⟨_,.sl t,e,_⟩=>bif kJ n ps&&Nat.ble n 1800 then(match S.parts Θ ps (List.replicate n e) 0 with
  |some (l,S1)=>(match l with
   |[]=>some (true,S1.put dst (.v ⟨.sl t,bif hn.Yz dst then .k else .o e none (hn.find dst .k),[]⟩ []))
   |a::_=>match rK t a.m l with
    |some xs=>some (true,S1.put dst (.v ⟨.sl t,bif hn.Yz dst&&a.m.bG then .k else .o e none a.m,xs⟩ []))
    |none=>none)
  |none=>none) else none
 |_=>none
def gz (Θ:dq) (S:St) (dst:Option Nat) (T:TypeId) (x:Operand):zV:=match S.dX Θ 0 x with
 |some a=>match S.Ho x a with
  |some g=>match S.loadAt g with
   |some r=>bif Θ.is T g.ty then some (true,S.put dst r) else none
   |none=>none
  |none=>none
 |none=>none
def lR (Θ:dq) (S:St) (T:TypeId) (x y:Operand):zV:=match S.dX Θ 0 x with
 |some a=>match S.Ho x a with
  |some (.pl _ s p)=>match S.take Θ T y with
   |some (b,S1)=>bif Θ.is T b.t then(match S1.at s with
    | .v r ex=>match gw b p r.t r.m r.x with
     |some (m,z)=>bif ex.all (fun h=>!under h p) then some ((dM p (ex.filter fun h=>!pre p h)).1,(S1.weaken s).set s (.v ⟨r.t,m,z⟩ (dM p (ex.filter fun h=>!pre p h)).2)) else none
     |none=>none
    |_=>none) else none
   |none=>none
  |_=>none
 |none=>none
def pG (Θ:dq) (S S1:St) (T:TypeId) (y:Operand):St:=match S.dX Θ T y with
 |some (.al _ s [])=>(match S.at s,S1.at s with
  | .v ⟨.sl t,m,xs⟩ [],.dead=>bif m.bG then S1 else S1.set s (.v ⟨.sl t,m,xs⟩ [[]])
  |_,_=>S1)
 |_=>S1
def uU (Θ:dq) (S:St) (dst:Option Nat) (x:Operand):zV:=match S.dX Θ 0 x with
 |some a=>match S.Ho x a with
  |some g=>match S.copy x a,(match g with
   | .k _=>some ()
   | .pl _ s p=>match S.da s p with
    |some _=>some ()
    |none=>none) with
   |some a,some _=>some (true,S.put dst a)
   |_,_=>none
  |none=>none
 |none=>none
def gA (Θ:dq) (S:St) (dst:Option Nat) (T:TypeId) (x:Operand) (f:Nat):zV:=match S.dX Θ 0 x,Θ.find T with
 |some a,some i=>bif Nat.blt f i.fs.length then(match S.Ho x a with
  |some (.k ⟨t,m,y⟩)=>bif decide (i.ty=t) then(match aX (ns f i.fs.length) t .k y with
   |some b=>some (true,S.put dst (.v ⟨.ptr b.t,.k,b.x⟩ []))
   |none=>none) else none
  |some (.pl t s p)=>bif decide (i.ty=t) then(match S.da s (p++ns f i.fs.length) with
   |some b=>some (true,S.put dst (.ad b.t s (p++ns f i.fs.length)))
   |none=>none) else none
  |none=>none) else none
 |_,_=>none
def IH (Θ:dq) (S:St) (dst:Option Nat) (T:TypeId) (x:Operand) (f:Nat):zV:=match S.dX Θ 0 x,Θ.find T with
 |some (.v a ex),some i=>bif Nat.blt f i.fs.length&&decide (i.ty=a.t) then(match x with
  | .tmp j=>match aX (ns f i.fs.length) a.t a.m a.x with
   |some b=>bif b.m.bG then(match ex with
    |[]=>some (true,S.put dst (.v (Ra b) []))
    |_=>none) else(match S.da j (ns f i.fs.length) with
    |some _=>some (true,S.put dst (.al b.t j (ns f i.fs.length)))
    |none=>none)
   |none=>none
  |_=>none) else none
 |_,_=>none
def aO (n:Int) (len:Nat):Bool:=decide (0≤n)&&decide (n<(len:Int))
def cd (Θ:dq) (S:St) (dst:Option Nat) (T:TypeId) (x ix:Operand):zV:=match S.dX Θ 0 x,S.lM Θ ix with
 |some (.v ⟨.sl t,m,xs⟩ ex),some n=>bif Θ.is T (.sl t) then(match m,x with
  | .k,_=>some (aO n xs.length,S.put dst (.v ⟨.ptr t,.k,xs.getD n.toNat t.z⟩ []))
  | .o ..,.tmp j=>match S.da j [.idx n.toNat] with
   |some _=>some (aO n xs.length,S.put dst (.ad t j [.idx n.toNat]))
   |none=>none
  |_,_=>none) else none
 |some (.al (.sl t) s p),some n=>bif Θ.is T (.sl t) then(match S.da s p with
  |some ⟨.sl t',.k,xs⟩=>some (aO n xs.length,S.put dst (.v ⟨.ptr t',.k,xs.getD n.toNat t'.z⟩ []))
  |some ⟨.sl t',.o ..,xs⟩=>match S.da s (p++[.idx n.toNat]) with
   |some _=>some (aO n xs.length,S.put dst (.ad t' s (p++[.idx n.toNat])))
   |none=>none
  |_=>none) else none
 |_,_=>none
def II (Θ:dq) (S:St) (dst:Option Nat) (T:TypeId) (x ix:Operand):zV:=match S.rd Θ 0 x,S.lM Θ ix with
 |some ⟨.str,_,s⟩,some n=>bif Θ.is T .str then some (aO n s.size,S.put dst (.v ⟨.int .u8,.k,bt s n⟩ [])) else none
 |_,_=>none
def fV (S:St) (dst:Option Nat) (x:Operand) (j:Nat):zV:=match x with
 | .tmp i=>match S.at i with
  | .ud l=>match l.getD j none with
   |some a=>bif a.m.bG then some (true,S.put dst (.v a [])) else(match dst with
    |some d=>bif Nat.beq d i then none else some (true,St.put (S.set i (.ud (l.set j none))) (some d) (.v a []))
    |none=>none)
   |none=>none
  |_=>none
 |_=>none
def gY (Θ:dq) (S:St) (d:Int):Option Operand→Option Int
 |none=>some d
 |some x=>S.lM Θ x
def eE (Θ:dq) (S:St) (dst:Option Nat) (T:TypeId) (x:Operand) (lo hi mx:Option Operand):zV:=match S.dX Θ 0 x,S.rd Θ 0 x,gY Θ S 0 lo with
 |some a,some ⟨.str,_,s⟩,some l=>match mx,gY Θ S (s.size:Int) hi with
  |none,some h=>bif Θ.is T .str then some (decide (0≤l)&&decide (l≤h)&&decide (h≤(s.size:Int)),S.put dst (.v ⟨.str,.k,s.extract l.toNat h.toNat⟩ [])) else none
  |_,_=>none
 |some a,some ⟨.sl t,m,xs⟩,some l=>bif Θ.is T (.sl t) then(match gY Θ S (xs.length:Int) hi,mx,Θ.find T with
  |some h,none,_=>match m,a,x with
   | .k,_,_=>some (decide (0≤l)&&decide (l≤h)&&decide (h≤(xs.length:Int)),S.put dst (.v ⟨.sl t,.k,(xs.take h.toNat).drop l.toNat⟩ []))
   |_,.v ..,.tmp i=>some (decide (0≤l)&&decide (l≤h)&&decide (h≤(xs.length:Int)),S.put dst (.cut (.sl t) i [] l.toNat h.toNat))
   |_,.al _ s p,_=>some (decide (0≤l)&&decide (l≤h)&&decide (h≤(xs.length:Int)),S.put dst (.cut (.sl t) s p l.toNat h.toNat))
   |_,_,_=>none
  |some h,some z,some i=>match S.lM Θ z,hi with
   |some c,some _=>some (decide (l=0)&&decide (h=0)&&decide (c=0),S.put dst (.v ⟨.sl t,.o i.e none .k,[]⟩ []))
   |_,_=>none
  |_,_,_=>none) else none
 |_,_,_=>none
def bytesOf (xs:List Int):ByteArray:=xs.foldl (fun r n=>r.push (UInt8.ofNat n.toNat)) ByteArray.empty
def gO (Θ:dq) (S:St) (dst:Option Nat) (T T':TypeId) (x:Operand):zV:=match S.rd Θ 0 x,Θ.find T,Θ.find T' with
 |some ⟨.int _,_,n⟩,some _,some ⟨_,.int k,_,_⟩=>some (true,S.put dst (.v ⟨.int k,.k,k.wrap n⟩ []))
 |some ⟨.sl (.int .u8),_,xs⟩,some ⟨_,.sl (.int .u8),_,_⟩,some ⟨_,.str,_,_⟩=>some (true,S.put dst (.v ⟨.str,.k,bytesOf xs⟩ []))
 |_,_,_=>none
def DW (Θ:dq) (S:St) (dst:Option Nat) (op:BinOp) (T:TypeId) (x y:Operand):zV:=match S.rd Θ T x,S.rd Θ T y with
 |some a,some b=>match a.t with
  | .bool=>bif Θ.is T .bool then(match gV op a b with
   |some (g,r)=>some (g,S.put dst (.v r []))
   |none=>none) else none
  | .pair _ _=>bif Θ.is T a.t then(match gV op a b with
   |some (g,r)=>some (g,S.put dst (.v r []))
   |none=>none) else none
  |_=>match gV op a b with
   |some (g,r)=>some (g,S.put dst (.v r []))
   |none=>none
 |_,_=>none
def aqv (Θ:dq) (S:St) (dst:Option Nat) (op:UnOp) (x:Operand):zV:=match S.rd Θ 0 x with
 |some a=>match ah1 op a with
  |some r=>some (true,S.put dst (.v r []))
  |none=>none
 |none=>none
def gB (Θ:dq) (S:St) (dst:Option Nat) (T:TypeId) (l c:Operand):zV:=match Θ.find T,S.lM Θ l,S.lM Θ c with
 |some ⟨_,.sl t,e,_⟩,some n,some n'=>match rJ Θ e with
  |some z=>if z.t=t then some (decide (n=n')&&decide (0≤n)&&decide (n≤1099511627776),S.put dst (.v ⟨.sl t,.o e none z.m,List.replicate n.toNat t.z⟩ [])) else none
  |none=>none
 |_,_,_=>none
def ao4 (S:St):Operand→Option IG
 | .tmp i=>match S.at i with
  | .v ⟨.ptr t,.o ..,_⟩ _=>some (IG.pl t i [])
  | .v ⟨.ptr t,.k,y⟩ _=>some (IG.kv ⟨.ptr t,.k,y⟩)
  | .al (.ptr t) s p=>some (IG.pl t s p)
  |_=>none
 |_=>none
def DX (S:St):List Operand→Option (List IG)
 |[]=>some []
 |x::r=>match ao4 S x,DX S r with
  |some c,some l=>some (c::l)
  |_,_=>none
def uV (S:St) (dst:Option Nat) (f:FuncId) (first cu:List Operand):zV:=match first,DX S cu with
 |[],some l=>match dst with
  |some d=>bif AV.refs d (.lu f l) then none else some (true,S.put dst (.lu f l))
  |none=>none
 |_,_=>none
def ao5:TV→Option Int
 |⟨.sl _,_,xs⟩=>some (xs.length:Int)
 |⟨.str,_,b⟩=>some (b.size:Int)
 |_=>none
def abx (Θ:dq) (S:St) (dst:Option Nat) (ts:List TypeId) (as:List Operand):zV:=match as,ts with
 |[x],[T]=>match (match S.dX Θ 0 x with
   |some (.v a ex)=>bif ex.any List.isEmpty then none else some a
   |some (.al t s p)=>(match S.place s p with
    |some b=>some b
    |none=>match S.da s p with
     |some ⟨.sl t,m,xs⟩=>some ⟨.sl t,m,xs⟩
     |_=>none)
   |some a=>S.tp a
   |none=>none) with
  |some b=>bif Θ.is T b.t then(match ao5 b with
   |some n=>some (true,S.put dst (.v ⟨.int .i64,.k,n⟩ []))
   |none=>none) else none
  |none=>none
 |_,_=>none
def cf (Θ:dq) (S:St) (dst:Option Nat) (ts:List TypeId) (as:List Operand):zV:=match as,ts with
 |[x,y],[T,T']=>match S.take Θ T x,Θ.find T with
  |some (⟨.sl t,.o e _ me,xs⟩,S1),some i=>bif decide (i.ty=.sl t)&&Nat.beq i.e e&&Θ.is T' (.sl t) then
    (bif me.bG then(match S1.rd Θ T' y with
     |some ⟨.sl t',m',ys⟩=>bif m'.Hm.bG then(if h:t'=t then
       some (decide ((xs.length+ys.length)*t.size≤4398046511104),S1.put dst (.v ⟨.sl t,.o e none me,xs++(h▸ys)⟩ [])) else none) else none
     |_=>none)
    else(match S1.take Θ T' y with
     |some (⟨.sl t',m',ys⟩,S2)=>if h:t'=t then
       (if m'.Hm=me then some (decide ((xs.length+ys.length)*t.size≤4398046511104),S2.put dst (.v ⟨.sl t,.o e none me,xs++(h▸ys)⟩ [])) else none) else none
     |_=>none)) else none
  |_,_=>none
 |_,_=>none
def fW (Θ:dq) (S:St) (dst:Option Nat) (ts:List TypeId) (as:List Operand):zV:=match as,ts with
 |[x,y],[T,T']=>match S.dX Θ T x with
  |some (.al _ s (st::pp))=>(match S.at s with
   | .v r ex=>(match aX (st::pp) r.t r.m r.x,Θ.find T with
    |some ⟨.sl t,.o e _ me,xs⟩,some i=>bif decide (i.ty=.sl t)&&Nat.beq i.e e&&Θ.is T' (.sl t)&&me.bG then
      (match St.rd Θ (((S.weaken s).cover s (st::pp)).set s (.v r (ex++[st::pp]))) T' y with
      |some ⟨.sl t',m',ys⟩=>bif m'.Hm.bG then(if h:t'=t then
        some (ex.all (fun h=>!pD h (st::pp))&&decide ((xs.length+ys.length)*t.size≤4398046511104),St.put (((S.weaken s).cover s (st::pp)).set s (.v r (ex++[st::pp]))) dst (.v ⟨.sl t,.o e none me,xs++(h▸ys)⟩ [])) else none) else none
      |_=>none) else none
    |_,_=>none)
   |_=>none)
  |_=>none
 |_,_=>none
def ev (Θ:dq) (hn:Hn) (S:St) (o:Oper):zV:=match o.op with
 | .move x=>pE Θ S o.dst o.type x
 | .assign x=>DV Θ S o.dst o.type x
 | .pick c a b=>Rb Θ S o.dst o.type c a b
 | .alloc T=>pF Θ hn S o.dst T
 | .box T x=>abv Θ S o.dst T x
 | .build T ps=>Dh Θ S o.dst T ps.toList
 | .buildSlice T n ps=>bw Θ hn S o.dst T n ps.toList
 | .load T x=>gz Θ S o.dst T x
 | .store T x y=>match o.dst with
  |none=>(match lR Θ S T x y with
   |some (g,S1)=>some (g,pG Θ S S1 T y)
   |none=>none)
  |some _=>none
 | .nilCheck x=>uU Θ S o.dst x
 | .fieldAddr T x f=>gA Θ S o.dst T x f
 | .field T x f=>IH Θ S o.dst T x f
 | .indexAddr T x ix=>cd Θ S o.dst T x ix
 | .index T x ix=>II Θ S o.dst T x ix
 | .extract x j=>fV S o.dst x j
 | .slice T x lo hi mx=>eE Θ S o.dst T x lo hi mx
 | .convert T T' x=>gO Θ S o.dst T T' x
 | .binOp op T x y _=>DW Θ S o.dst op T x y
 | .unOp op _ x=>aqv Θ S o.dst op x
 | .makeSlice T l c=>gB Θ S o.dst T l c
 | .makeFunc (.func f) first cu=>uV S o.dst f first.toList cu.toList
 | .call { callee:=.builtin .len,args:=as,argTypes:=ts }=>abx Θ S o.dst ts.toList as.toList
 | .call { callee:=.builtin .append,args:=as,argTypes:=ts }=>match cf Θ S o.dst ts.toList as.toList with
  |some r=>some r
  |none=>fW Θ S o.dst ts.toList as.toList
 |_=>none
end Go.Pv
namespace Go.Pv
set_option linter.unusedVariables false
set_option linter.unusedSimpArgs false
variable {w w':World} {Wr q7:Nat→Prop} {H:Nat→Value}
theorem kW {α:Type} (n:Nat):∀ {e8:List (List α)},(∀ c∈e8,c.length=n)→e8.flatten.length=e8.length*n
 |[],_=>by simp
 |c::r,h=>by
  have h1:=h c (by simp)
  have h2:=kW n (e8:=r) fun c hc=>h c (by simp[hc])
  simp[h1,h2,Nat.add_mul,Nat.add_comm]
theorem lv:∀ (t:Ty) {x:t.I} {cs:List Value},K w Wr t x cs→cs.length=t.size∧∀ u∈cs,u.oneCell'=true
 | .int k,n,cs,h=>by simp only[K] at h;subst h;exact⟨rfl,by simp[Value.oneCell']⟩
 | .bool,n,cs,h=>by simp only[K] at h;subst h;exact⟨rfl,by simp[Value.oneCell']⟩
 | .str,n,cs,h=>by simp only[K] at h;subst h;exact⟨rfl,by simp[Value.oneCell']⟩
 | .unit,n,cs,h=>by simp only[K] at h;subst h;exact⟨rfl,by simp⟩
 | .pair a b,x,cs,h=>by
  simp only[K] at h
  obtain⟨c0,c1,rfl,h0,h1⟩:=h
  obtain⟨l0,o0⟩:=lv a h0
  obtain⟨l1,o1⟩:=lv b h1
  refine⟨by simp[l0,l1,Ty.size],fun u hu=>?_⟩
  rcases List.mem_append.1 hu with hu |hu
  ·exact o0 u hu
  ·exact o1 u hu
 | .arr n t,xs,cs,h=>by
  simp only[K] at h
  obtain⟨e8,rfl,hl,hx,hj⟩:=h
  have dY:∀ c∈e8,c.length=t.size∧∀ u∈c,u.oneCell'=true:=by
   intro c hc
   obtain⟨j,GY,rfl⟩:=List.mem_iff_getElem.1 hc
   exact lv t (hj j (by omega) GY)
  refine⟨by rw[kW t.size fun c hc=>(dY c hc).1,hl];rfl,fun u hu=>?_⟩
  obtain⟨c,hc,hu⟩:=List.mem_flatten.1 hu
  exact(dY c hc).2 u hu
 | .sl t,xs,cs,h=>by
  simp only[K] at h
  obtain⟨A,c,rfl,_⟩:=h
  exact⟨rfl,by simp[Value.oneCell']⟩
 | .ptr t,xs,cs,h=>by
  simp only[K] at h
  obtain⟨g,off,cur,T,fr,rfl,_⟩:=h
  exact⟨rfl,by simp[Value.oneCell']⟩
structure aP (w w':World) (Wr q7:Nat→Prop):Prop where
 same:∀ g,¬Wr g→g<w.heap.size→w'.heap[g]?=w.heap[g]?
 wr:∀ g,g<w.heap.size→q7 g→Wr g
theorem aP.refl (w:World) (Wr:Nat→Prop):aP w w Wr Wr:=⟨fun _ _ _=>rfl,fun _ _ h=>h⟩
theorem a7 {α:Type} {a:Array α} {g:Nat} {o:α} (h:a[g]?=some o):g<a.size:=(Array.getElem?_eq_some_iff.1 h).1
theorem bR (hs:aP w w' Wr q7):∀ (t:Ty) {x:t.I} {cs:List Value},K w Wr t x cs→K w' q7 t x cs
 | .int k,n,cs,h=>h
 | .bool,n,cs,h=>h
 | .str,n,cs,h=>h
 | .unit,n,cs,h=>h
 | .pair a b,x,cs,h=>by
  simp only[K] at h ⊢
  obtain⟨c0,c1,rfl,h0,h1⟩:=h
  exact⟨c0,c1,rfl,bR hs a h0,bR hs b h1⟩
 | .arr n t,xs,cs,h=>by
  simp only[K] at h ⊢
  obtain⟨e8,rfl,hl,hx,hj⟩:=h
  exact⟨e8,rfl,hl,hx,fun j h1 h2=>bR hs t (hj j h1 h2)⟩
 | .sl t,xs,cs,h=>by
  simp only[K] at h ⊢
  obtain⟨A,c,rfl,hc,h⟩:=h
  refine⟨A,c,rfl,hc,fun hp=>?_⟩
  obtain⟨g,off,cur,T,fr,rfl,hg,hw,ho,hj⟩:=h hp
  have b9:=a7 hw
  exact⟨g,off,cur,T,fr,rfl,fun a8=>hg (hs.wr g b9 a8),(hs.same g hg b9).trans hw,ho,fun j GY=>bR hs t (hj j GY)⟩
 | .ptr t,x,cs,h=>by
  simp only[K] at h ⊢
  obtain⟨g,off,cur,T,fr,rfl,hg,hw,ho,hj⟩:=h
  have b9:=a7 hw
  exact⟨g,off,cur,T,fr,rfl,fun a8=>hg (hs.wr g b9 a8),(hs.same g hg b9).trans hw,ho,bR hs t hj⟩
theorem eP:∀ (t:Ty) {m:Md} {x:t.I} {cs:List Value} {ow:Nat→Prop} {hs:List Path},M w Wr H t m x cs ow hs→cs.length=t.size∧∀ u∈cs,u.oneCell'=true
 | .int k,m,n,cs,_,_,h=>lv (.int k) (by simp only[M] at h;exact h.2)
 | .bool,m,n,cs,_,_,h=>lv .bool (by simp only[M] at h;exact h.2)
 | .str,m,n,cs,_,_,h=>lv .str (by simp only[M] at h;exact h.2)
 | .unit,m,n,cs,_,_,h=>lv .unit (by simp only[M] at h;exact h.2)
 | .arr n t,m,_,cs,_,_,h=>lv (.arr n t) (by simp only[M] at h;exact h.2)
 | .pair a b,m,x,cs,ow,hs,h=>by
  simp only[M] at h
  rcases h with⟨_,_,h⟩ |⟨_,h⟩ |⟨ma,mb,c0,c1,s,_,rfl,h0,h1⟩
  ·exact h
  ·exact lv _ h
  ·obtain⟨l0,o0⟩:=eP a h0
   obtain⟨l1,o1⟩:=eP b h1
   refine⟨by simp[l0,l1,Ty.size],fun u hu=>?_⟩
   rcases List.mem_append.1 hu with hu |hu
   ·exact o0 u hu
   ·exact o1 u hu
 | .sl t,m,xs,cs,ow,hs,h=>by
  simp only[M] at h
  rcases h with⟨_,_,A,c,rfl⟩ |⟨_,h⟩ |⟨T,tag,me,A,c,_,rfl,_⟩
  ·exact⟨rfl,by simp[Value.oneCell']⟩
  ·exact lv _ h
  ·exact⟨rfl,by simp[Value.oneCell']⟩
 | .ptr t,m,xs,cs,ow,hs,h=>by
  simp only[M] at h
  rcases h with⟨_,_,h⟩ |⟨_,h⟩ |⟨T,tag,me,g,cur,_,rfl,_⟩
  ·exact h
  ·exact lv _ h
  ·exact⟨rfl,by simp[Value.oneCell']⟩
theorem dx {s:Step} {p:Path} {hs:List Path}:p∈sub s hs↔(s::p)∈hs:=by
 unfold sub
 rw[List.mem_filterMap]
 constructor
 ·rintro⟨q,hq,h⟩
  cases q with
  |nil=>simp at h
  |cons a r=>by_cases e:a=s<;>simp[e] at h;subst h e;exact hq
 ·intro h
  exact⟨_,h,by simp⟩
theorem mw {s:Step} {hs oe:List Path} (h:∀ p∈hs,p∈oe):∀ p∈sub s hs,p∈sub s oe:=fun p hp=>dx.2 (h _ (dx.1 hp))
theorem aG (bQ:aP w w' Wr q7):∀ (t:Ty) {m:Md} {x:t.I} {cs:List Value} {ow cB:Nat→Prop} {hs oe:List Path},
  (∀ g,ow g→g<w.heap.size→w'.heap[g]?=w.heap[g]?)→(∀ g,ow g→g<w.heap.size→cB g)→(∀ p∈hs,p∈oe)→M w Wr H t m x cs ow hs→M w' q7 H t m x cs cB oe
 | .int k,m,n,cs,_,_,_,_,_,_,_,h=>by simp only[M] at h ⊢;exact h
 | .bool,m,n,cs,_,_,_,_,_,_,_,h=>by simp only[M] at h ⊢;exact h
 | .str,m,n,cs,_,_,_,_,_,_,_,h=>by simp only[M] at h ⊢;exact h
 | .unit,m,n,cs,_,_,_,_,_,_,_,h=>by simp only[M] at h ⊢;exact h
 | .arr n t,m,_,cs,_,_,_,_,_,_,_,h=>by simp only[M] at h ⊢;exact⟨h.1,bR bQ _ h.2⟩
 | .pair a b,m,x,cs,ow,cB,hs,oe,hb,ho,hp,h=>by
  simp only[M] at h ⊢
  rcases h with⟨h1,h⟩ |⟨h1,h⟩ |⟨ma,mb,c0,c1,s,e,rfl,h0,h1⟩
  ·exact .inl ⟨hp _ h1,h⟩
  ·exact .inr (.inl ⟨h1,bR bQ _ h⟩)
  ·exact .inr (.inr ⟨ma,mb,c0,c1,s,e,rfl,aG bQ a (fun g hg=>hb g hg.1) (fun g hg hl=>⟨ho g hg.1 hl,hg.2⟩) (mw hp) h0,
    aG bQ b (fun g hg=>hb g hg.1) (fun g hg hl=>⟨ho g hg.1 hl,hg.2⟩) (mw hp) h1⟩)
 | .sl t,m,xs,cs,ow,cB,hs,oe,hb,ho,hp,h=>by
  simp only[M] at h ⊢
  rcases h with⟨h1,h⟩ |⟨h1,h⟩ |⟨T,tag,me,A,c,e,rfl,hc,ht,h⟩
  ·exact .inl ⟨hp _ h1,h⟩
  ·exact .inr (.inl ⟨h1,bR bQ _ h⟩)
  ·refine .inr (.inr ⟨T,tag,me,A,c,e,rfl,hc,ht,?_⟩)
   rcases h with h |⟨g,cur,τ,rfl,hg,hw,jg,hm,hj⟩
   ·exact .inl h
   ·have b9:=a7 hw
    exact .inr ⟨g,cur,τ,rfl,ho g hg b9,(hb g hg b9).trans hw,jg,hm,fun j GY=>aG bQ t (fun g' a8=>hb g' a8.1) (fun g' a8 hl=>⟨ho g' a8.1 hl,a8.2⟩) (mw hp) (hj j GY)⟩
 | .ptr t,m,x,cs,ow,cB,hs,oe,hb,ho,hp,h=>by
  simp only[M] at h ⊢
  rcases h with⟨h1,h⟩ |⟨h1,h⟩ |⟨T,tag,me,g,cur,e,rfl,ht,hg,hw,h⟩
  ·exact .inl ⟨hp _ h1,h⟩
  ·exact .inr (.inl ⟨h1,bR bQ _ h⟩)
  ·have b9:=a7 hw
   exact .inr (.inr ⟨T,tag,me,g,cur,e,rfl,ht,ho g hg b9,(hb g hg b9).trans hw,aG bQ t (fun g' a8=>hb g' a8.1) (fun g' a8 hl=>⟨ho g' a8.1 hl,a8.2⟩) (mw hp) h⟩)
theorem M_K (hw:∀ g,g<w.heap.size→q7 g→Wr g):∀ (t:Ty) {m:Md} {x:t.I} {cs:List Value} {ow:Nat→Prop} {hs:List Path},hs=[]→(∀ g,ow g→¬q7 g)→M w Wr H t m x cs ow hs→K w q7 t x cs
 | .int k,m,n,cs,_,_,_,_,h=>by simp only[M] at h;exact h.2
 | .bool,m,n,cs,_,_,_,_,h=>by simp only[M] at h;exact h.2
 | .str,m,n,cs,_,_,_,_,h=>by simp only[M] at h;exact h.2
 | .unit,m,n,cs,_,_,_,_,h=>by simp only[M] at h;exact h.2
 | .arr n t,m,_,cs,_,_,_,_,h=>by simp only[M] at h;exact bR ⟨fun _ _ _=>rfl,hw⟩ _ h.2
 | .pair a b,m,x,cs,ow,hs,e,hn,h=>by
  subst e
  simp only[M] at h
  rcases h with⟨h1,h⟩ |⟨h1,h⟩ |⟨ma,mb,c0,c1,s,e,rfl,h0,h1⟩
  ·simp at h1
  ·exact bR ⟨fun _ _ _=>rfl,hw⟩ _ h
  ·simp only[K]
   exact⟨c0,c1,rfl,M_K hw a rfl (fun g hg=>hn g hg.1) h0,M_K hw b rfl (fun g hg=>hn g hg.1) h1⟩
 | .sl t,m,xs,cs,ow,hs,e,hn,h=>by
  subst e
  simp only[M] at h
  rcases h with⟨h1,h⟩ |⟨h1,h⟩ |⟨T,tag,me,A,c,e,rfl,hc,ht,h⟩
  ·simp at h1
  ·exact bR ⟨fun _ _ _=>rfl,hw⟩ _ h
  ·simp only[K]
   refine⟨A,c,rfl,hc,fun hp=>?_⟩
   rcases h with⟨rfl,_⟩ |⟨g,cur,τ,rfl,hg,hh,jg,hm,hj⟩
   ·simp at hp
   ·exact⟨g,0,cur,T,(0,0),rfl,hn g hg,hh,by rw[jg];have:=Nat.mul_le_mul_right t.size hc;omega,fun j GY=>by
     rw[Nat.zero_add];exact M_K hw t rfl (fun g' a8=>hn g' a8.1) (hj j GY)⟩
 | .ptr t,m,x,cs,ow,hs,e,hn,h=>by
  subst e
  simp only[M] at h
  rcases h with⟨h1,h⟩ |⟨h1,h⟩ |⟨T,tag,me,g,cur,e,rfl,ht,hg,hh,h⟩
  ·simp at h1
  ·exact bR ⟨fun _ _ _=>rfl,hw⟩ _ h
  ·have hl:=(eP t h).1
   simp only[K]
   refine⟨g,0,cur,T,(0,0),rfl,hn g hg,hh,by rw[←hl];simp,?_⟩
   rw[List.drop_zero,List.take_of_length_le (by omega)]
   exact M_K hw t rfl (fun g' a8=>hn g' a8.1) h
end Go.Pv
namespace Go.Pv
set_option linter.unusedVariables false
set_option linter.unusedSimpArgs false
variable {w w':World} {Wr q7:Nat→Prop} {H:Nat→Value}
theorem gb:∀ (t:Ty) {x:t.I} {cs:List Value} {ow:Nat→Prop} {hs:List Path},K w Wr t x cs→M w Wr H t .k x cs ow hs
 | .int _,_,_,_,_,h=>by simp only[M];exact⟨rfl,h⟩
 | .bool,_,_,_,_,h=>by simp only[M];exact⟨rfl,h⟩
 | .str,_,_,_,_,h=>by simp only[M];exact⟨rfl,h⟩
 | .unit,_,_,_,_,h=>by simp only[M];exact⟨rfl,h⟩
 | .arr _ _,_,_,_,_,h=>by simp only[M];exact⟨rfl,h⟩
 | .pair _ _,_,_,_,_,h=>by simp only[M];exact .inr (.inl ⟨rfl,h⟩)
 | .sl _,_,_,_,_,h=>by simp only[M];exact .inr (.inl ⟨rfl,h⟩)
 | .ptr _,_,_,_,_,h=>by simp only[M];exact .inr (.inl ⟨rfl,h⟩)
theorem fP:∀ (t:Ty) {m:Md} {x:t.I} {cs:List Value} {ow:Nat→Prop} {hs:List Path},m.bG=true→M w Wr H t m x cs ow hs→K w Wr t x cs
 | .int _,_,_,_,_,_,_,h=>by simp only[M] at h;exact h.2
 | .bool,_,_,_,_,_,_,h=>by simp only[M] at h;exact h.2
 | .str,_,_,_,_,_,_,h=>by simp only[M] at h;exact h.2
 | .unit,_,_,_,_,_,_,h=>by simp only[M] at h;exact h.2
 | .arr _ _,_,_,_,_,_,_,h=>by simp only[M] at h;exact h.2
 | .sl _,m,_,_,_,_,hk,h=>by
  simp only[M] at h
  rcases h with⟨_,h,_⟩ |⟨_,h⟩ |⟨T,tag,me,A,c,rfl,_⟩
  ·rw[hk] at h;cases h
  ·exact h
  ·simp[Md.bG] at hk
 | .ptr _,m,_,_,_,_,hk,h=>by
  simp only[M] at h
  rcases h with⟨_,h,_⟩ |⟨_,h⟩ |⟨T,tag,me,g,cur,rfl,_⟩
  ·rw[hk] at h;cases h
  ·exact h
  ·simp[Md.bG] at hk
 | .pair a b,m,_,_,_,_,hk,h=>by
  simp only[M] at h
  rcases h with⟨_,h,_⟩ |⟨_,h⟩ |⟨ma,mb,c0,c1,s,rfl,rfl,h0,h1⟩
  ·rw[hk] at h;cases h
  ·exact h
  ·simp[Md.bG] at hk
   simp only[K]
   exact⟨c0,c1,rfl,fP a hk.1 h0,fP b hk.2 h1⟩
theorem oh {t:Ty} {m:Md} {x:t.I} {cs:List Value} {ow:Nat→Prop} {hs:List Path} (hk:m.bG=true) (h:K w Wr t x cs):M w Wr H t m x cs ow hs:=by
 cases t<;>simp only[M]<;>first |exact⟨hk,h⟩ |exact .inr (.inl ⟨hk,h⟩)
theorem pH {m:Md} (h:m.bG=true):m.Hm.bG=true:=by cases m<;>simp_all [Md.bG,Md.Hm]
theorem MJ {m:Md} (h:m.bG=true):m.l.bG=true:=by cases m<;>simp_all [Md.bG,Md.l]
theorem MK {m:Md} (h:m.bG=true):m.r.bG=true:=by cases m<;>simp_all [Md.bG,Md.r]
theorem w7 {a b:Ty} {ma mb:Md} {x:a.I} {y:b.I} {c0 c1:List Value} {ow s:Nat→Prop} {hs:List Path}
  (h0:M w Wr H a ma x c0 (fun g=>ow g∧s g) (sub .fst hs)) (h1:M w Wr H b mb y c1 (fun g=>ow g∧ ¬s g) (sub .snd hs)):
  M w Wr H (.pair a b) (mkM ma mb) (x,y) (c0++c1) ow hs:=by
 unfold mkM
 cases h:ma.bG&&mb.bG with
 |false=>simp only[cond_false,M];exact .inr (.inr ⟨ma,mb,c0,c1,s,rfl,rfl,h0,h1⟩)
 |true=>
  simp at h
  exact gb _ (by simp only[K];exact⟨c0,c1,rfl,fP a h.1 h0,fP b h.2 h1⟩)
def rowAt (w:World) (g off n:Nat):Option (List Value):=match w.heap[g]? with
 |some (.cells cur _ _)=>if off+n≤cur.size then some ((cur.toList.drop off).take n) else none
 |_=>none
def aN (w:World):Path→(t:Ty)→List Value→Option (List Value)
 |[],_,cs=>some cs
 | .deref::p,.ptr t,[.pointer (some ⟨g,off,none⟩)]=>(rowAt w g off t.size).bind (aN w p t)
 | .fst::p,.pair a _,cs=>aN w p a (cs.take a.size)
 | .snd::p,.pair a b,cs=>aN w p b (cs.drop a.size)
 | .idx i::p,.sl t,[.slice (some ⟨g,off,none⟩) _ _]=>(rowAt w g (off+i*t.size) t.size).bind (aN w p t)
 |_::_,_,_=>none
def addrAt (w:World):Path→(t:Ty)→List Value→Option (Nat×Nat)→Option (Nat×Nat)
 |[],_,_,l=>l
 | .deref::p,.ptr t,[.pointer (some ⟨g,off,none⟩)],_=>(rowAt w g off t.size).bind fun cs=>addrAt w p t cs (some (g,off))
 | .fst::p,.pair a _,cs,l=>addrAt w p a (cs.take a.size) l
 | .snd::p,.pair a b,cs,l=>addrAt w p b (cs.drop a.size) (l.map fun q=>(q.1,q.2+a.size))
 | .idx i::p,.sl t,[.slice (some ⟨g,off,none⟩) _ _],_=>(rowAt w g (off+i*t.size) t.size).bind fun cs=>addrAt w p t cs (some (g,off+i*t.size))
 |_::_,_,_,_=>none
def valid:Path→(t:Ty)→t.I→Prop
 |[],_,_=>True
 | .deref::p,.ptr t,x=>valid p t x
 | .fst::p,.pair a _,x=>valid p a x.1
 | .snd::p,.pair _ b,x=>valid p b x.2
 | .idx i::p,.sl t,xs=>i<xs.length∧valid p t (xs.getD i t.z)
 |_::_,_,_=>False
def w8:Path→List Path→List Path
 |[],hs=>hs
 |s::p,hs=>w8 p (sub s hs)
theorem DY {p q:Path}:∀ {hs:List Path},q∈w8 p hs↔(p++q)∈hs:=by
 induction p with
 |nil=>intro hs;rfl
 |cons s p ih=>intro hs;simp only[w8,ih,dx,List.cons_append]
def open_ (p:Path) (hs:List Path):Prop:=∀ h∈hs,∀ s r,p≠h++s::r
theorem open_.sub {s:Step} {p:Path} {hs:List Path} (h:open_ (s::p) hs):open_ p (sub s hs):=fun q hq s' r e=>h _ (dx.1 hq) s' r (by rw[e];rfl)
theorem open_.not_nil {s:Step} {p:Path} {hs:List Path} (h:open_ (s::p) hs):[]∉hs:=fun hn=>h [] hn s p rfl
theorem bh {cur:Array Value} {T:TypeId} {fr:Nat×Nat} {g off n:Nat} (h:w.heap[g]?=some (.cells cur T fr)) (hl:off+n≤cur.size):rowAt w g off n=some ((cur.toList.drop off).take n):=by
 simp[rowAt,h,hl]
theorem focus:∀ (p:Path) {t:Ty} {m:Md} {x:t.I} {cs:List Value} {ow:Nat→Prop} {hs:List Path} {b:TV},M w Wr H t m x cs ow hs→open_ p hs→valid p t x→aX p t m x=some b→
  ∃ cJ cB,aN w p t cs=some cJ∧(∀ g,cB g→ow g)∧M w Wr H b.t b.m b.x cJ cB (w8 p hs)
 |[],t,m,x,cs,ow,hs,b,h,ho,hv,hg=>by
  simp only[aX,Option.some.injEq] at hg
  subst hg
  exact⟨cs,ow,rfl,fun _ h=>h,h⟩
 | .deref::p,.ptr t,m,x,cs,ow,hs,b,h,ho,hv,hg=>by
  simp only[aX] at hg
  simp only[valid] at hv
  simp only[M] at h
  rcases h with⟨hn,_⟩ |⟨hk,h⟩ |⟨T,tag,me,g,cur,rfl,rfl,ht,q8,hw,h⟩
  ·exact absurd hn ho.not_nil
  ·simp only[K] at h
   obtain⟨g,off,cur,T,fr,rfl,hng,hw,hl,h⟩:=h
   obtain⟨cJ,cB,h1,h2,h3⟩:=focus p (ow:=fun _=>False) (oh (pH hk) h) ho.sub hv hg
   exact⟨cJ,cB,by simp only[aN,bh hw hl,Option.bind_some];exact h1,fun g hg=>(h2 g hg).elim,h3⟩
  ·have hlen:=(eP t h).1
   obtain⟨cJ,cB,h1,h2,h3⟩:=focus p h ho.sub hv hg
   refine⟨cJ,cB,?_,fun g hg=>(h2 g hg).1,h3⟩
   have jg:0+t.size≤cur.size:=by rw[←hlen];simp
   simp only[aN,bh hw jg,Option.bind_some,List.drop_zero]
   rw[List.take_of_length_le (by omega)]
   exact h1
 | .fst::p,.pair a b',m,x,cs,ow,hs,b,h,ho,hv,hg=>by
  simp only[aX] at hg
  simp only[valid] at hv
  simp only[M] at h
  rcases h with⟨hn,_⟩ |⟨hk,h⟩ |⟨ma,mb,c0,c1,s,rfl,rfl,h0,h1⟩
  ·exact absurd hn ho.not_nil
  ·simp only[K] at h
   obtain⟨c0,c1,rfl,h0,h1⟩:=h
   obtain⟨cJ,cB,k1,k2,k3⟩:=focus p (ow:=fun _=>False) (oh (MJ hk) h0) ho.sub hv hg
   exact⟨cJ,cB,by simp only[aN];rw[←(lv a h0).1,List.take_left];exact k1,fun g hg=>(k2 g hg).elim,k3⟩
  ·obtain⟨cJ,cB,k1,k2,k3⟩:=focus p h0 ho.sub hv hg
   exact⟨cJ,cB,by simp only[aN];rw[←(eP a h0).1,List.take_left];exact k1,fun g hg=>(k2 g hg).1,k3⟩
 | .snd::p,.pair a b',m,x,cs,ow,hs,b,h,ho,hv,hg=>by
  simp only[aX] at hg
  simp only[valid] at hv
  simp only[M] at h
  rcases h with⟨hn,_⟩ |⟨hk,h⟩ |⟨ma,mb,c0,c1,s,rfl,rfl,h0,h1⟩
  ·exact absurd hn ho.not_nil
  ·simp only[K] at h
   obtain⟨c0,c1,rfl,h0,h1⟩:=h
   obtain⟨cJ,cB,k1,k2,k3⟩:=focus p (ow:=fun _=>False) (oh (MK hk) h1) ho.sub hv hg
   exact⟨cJ,cB,by simp only[aN];rw[←(lv a h0).1,List.drop_left];exact k1,fun g hg=>(k2 g hg).elim,k3⟩
  ·obtain⟨cJ,cB,k1,k2,k3⟩:=focus p h1 ho.sub hv hg
   exact⟨cJ,cB,by simp only[aN];rw[←(eP a h0).1,List.drop_left];exact k1,fun g hg=>(k2 g hg).1,k3⟩
 | .idx i::p,.sl t,m,xs,cs,ow,hs,b,h,ho,hv,hg=>by
  simp only[aX] at hg
  simp only[valid] at hv
  obtain⟨hi,hv⟩:=hv
  have e6:(show List t.I from xs).getD i t.z=(show List t.I from xs)[i]:=by simp[List.getD_eq_getElem?_getD,List.getElem?_eq_getElem hi]
  simp only[M] at h
  rcases h with⟨hn,_⟩ |⟨hk,h⟩ |⟨T,tag,me,A,c,rfl,rfl,hc,ht,h⟩
  ·exact absurd hn ho.not_nil
  ·simp only[K] at h
   obtain⟨A,c,rfl,hc,h⟩:=h
   obtain⟨g,off,cur,T,fr,rfl,hng,hw,hl,h⟩:=h (by omega)
   have hbound:off+i*t.size+t.size≤cur.size:=by
    have:=Nat.mul_le_mul_right t.size (show i+1≤xs.length from hi)
    rw[Nat.add_mul,Nat.one_mul] at this
    omega
   have hK:=h i hi
   rw[←e6] at hK
   obtain⟨cJ,cB,h1,h2,h3⟩:=focus p (ow:=fun _=>False) (oh (pH hk) hK) ho.sub hv hg
   exact⟨cJ,cB,by simp only[aN,bh hw hbound,Option.bind_some];exact h1,fun g hg=>(h2 g hg).elim,h3⟩
  ·rcases h with⟨rfl,_⟩ |⟨g,cur,τ,rfl,q8,hw,jg,hm,h⟩
   ·simp at hi
   ·have hbound:i*t.size+t.size≤cur.size:=by
     have h1:=Nat.mul_le_mul_right t.size (show i+1≤xs.length from hi)
     have h2:=Nat.mul_le_mul_right t.size hc
     rw[Nat.add_mul,Nat.one_mul] at h1
     omega
    have hM:=h i hi
    rw[←e6] at hM
    obtain⟨cJ,cB,h1,h2,h3⟩:=focus p hM ho.sub hv hg
    exact⟨cJ,cB,by simp only[aN,Nat.zero_add,bh hw hbound,Option.bind_some];exact h1,fun g hg=>(h2 g hg).1,h3⟩
end Go.Pv
namespace Go.Pv
set_option linter.unusedVariables false
set_option linter.unusedSimpArgs false
variable {w w':World} {Wr q7:Nat→Prop} {H:Nat→Value}
def putCells (cur:List Value) (off:Nat) (c:List Value):List Value:=cur.take off++c++cur.drop (off+c.length)
theorem iy (cur c:List Value) (off k:Nat) (h:off+c.length≤cur.length):
  (putCells cur off c)[k]?=if k<off then cur[k]? else if k<off+c.length then c[k - off]? else cur[k]?:=by
 unfold putCells
 have hl:(cur.take off).length=off:=by rw[List.length_take];omega
 by_cases h1:k<off
 ·rw[if_pos h1,List.append_assoc,List.getElem?_append_left (by omega),List.getElem?_take,if_pos h1]
 ·rw[if_neg h1]
  by_cases h2:k<off+c.length
  ·rw[if_pos h2,List.append_assoc,List.getElem?_append_right (by omega),hl,List.getElem?_append_left (by omega)]
  ·rw[if_neg h2,List.getElem?_append_right (by rw[List.length_append];omega),List.length_append,hl,List.getElem?_drop]
   congr 1
   omega
theorem iz (cur c:List Value) (off:Nat) (h:off+c.length≤cur.length):(putCells cur off c).length=cur.length:=by
 unfold putCells
 simp only[List.length_append,List.length_take,List.length_drop]
 omega
theorem aqw (cur c:List Value) (a off n:Nat) (h1:off+c.length≤n) (h2:a+n≤cur.length):
  ((putCells cur (a+off) c).drop a).take n=putCells ((cur.drop a).take n) off c:=by
 apply List.ext_getElem?
 intro k
 have hl:((cur.drop a).take n).length=n:=by simp;omega
 rw[iy _ _ _ _ (by omega)]
 by_cases hk:k<n
 ·rw[List.getElem?_take,if_pos hk,List.getElem?_drop,iy _ _ _ _ (by omega)]
  simp only[List.getElem?_take,if_pos hk,List.getElem?_drop]
  by_cases h3:k<off
  ·rw[if_pos h3,if_pos (by omega)]
  ·rw[if_neg h3,if_neg (by omega)]
   by_cases h4:k<off+c.length
   ·rw[if_pos h4,if_pos (by omega)];congr 1;omega
   ·rw[if_neg h4,if_neg (by omega)]
 ·rw[List.getElem?_take,if_neg hk,if_neg (by omega),if_neg (by omega),List.getElem?_take,if_neg hk]
theorem ah2 (cur c:List Value) (o a n:Nat) (h:o+c.length≤cur.length) (hd:a+n≤o∨o+c.length≤a):
  ((putCells cur o c).drop a).take n=(cur.drop a).take n:=by
 apply List.ext_getElem?
 intro k
 by_cases hk:k<n
 ·simp only[List.getElem?_take,if_pos hk,List.getElem?_drop]
  rw[iy _ _ _ _ h]
  by_cases h3:a+k<o
  ·rw[if_pos h3]
  ·rw[if_neg h3,if_neg (by omega)]
 ·simp only[List.getElem?_take,if_neg hk]
def aH:Path→Bool
 |[]=>true
 | .fst::p=>aH p
 | .snd::p=>aH p
 |_::_=>false
def aI:Path→Ty→Nat
 | .fst::p,.pair a _=>aI p a
 | .snd::p,.pair a b=>a.size+aI p b
 |_,_=>0
def pI:Path→Ty→List Value→List Value→List Value
 |[],_,_,c=>c
 | .fst::p,.pair a _,cs,c=>pI p a (cs.take a.size) c++cs.drop a.size
 | .snd::p,.pair a b,cs,c=>cs.take a.size++pI p b (cs.drop a.size) c
 |_,_,cs,_=>cs
def lx (w w':World) (loc:Option (Nat×Nat)) (c:List Value) (g:Nat):Prop:=match loc with
 |some q=>if g=q.1 then ∃ cur T,w.heap[g]?=some (.cells cur T (0,0))∧w'.heap[g]?=some (.cells (putCells cur.toList q.2 c).toArray T (0,0)) else w'.heap[g]?=w.heap[g]?
 |none=>w'.heap[g]?=w.heap[g]?
theorem eF:∀ (p:Path) {t:Ty} {m:Md} {x:t.I} {b:TV},aH p=true→aX p t m x=some b→aI p t+b.t.size≤t.size
 |[],t,m,x,b,_,hg=>by simp only[aX,Option.some.injEq] at hg;subst hg;simp[aI]
 | .fst::p,.pair a b',m,x,b,hm,hg=>by
  simp only[aX] at hg
  have:=eF p (by simpa[aH] using hm) hg
  simp only[aI,Ty.size];omega
 | .snd::p,.pair a b',m,x,b,hm,hg=>by
  simp only[aX] at hg
  have:=eF p (by simpa[aH] using hm) hg
  simp only[aI,Ty.size];omega
theorem eG:∀ (p:Path) {t:Ty} {cs:List Value},aH p=true→addrAt w p t cs none=none
 |[],_,_,_=>rfl
 | .fst::p,.pair a b,cs,h=>by simp only[addrAt];exact eG p (by simpa[aH] using h)
 | .snd::p,.pair a b,cs,h=>by simp only[addrAt,Option.map_none];exact eG p (by simpa[aH] using h)
 | .fst::p,.int _,_,_ | .fst::p,.bool,_,_ | .fst::p,.str,_,_ | .fst::p,.sl _,_,_ | .fst::p,.ptr _,_,_ | .fst::p,.unit,_,_ | .fst::p,.arr _ _,_,_=>by simp[addrAt]
 | .snd::p,.int _,_,_ | .snd::p,.bool,_,_ | .snd::p,.str,_,_ | .snd::p,.sl _,_,_ | .snd::p,.ptr _,_,_ | .snd::p,.unit,_,_ | .snd::p,.arr _ _,_,_=>by simp[addrAt]
theorem jq:∀ (p:Path) {t:Ty} {m:Md} {x:t.I} {cs:List Value} {b:TV} {g o:Nat},aH p=true→aX p t m x=some b→addrAt w p t cs (some (g,o))=some (g,o+aI p t)
 |[],_,_,_,_,_,_,_,_,_=>by simp[addrAt,aI]
 | .fst::p,.pair a b,m,x,cs,_,_,_,h,hg=>by simp only[aX] at hg;simp only[addrAt,aI];exact jq p (by simpa[aH] using h) hg
 | .snd::p,.pair a b,m,x,cs,_,g,o,h,hg=>by
  simp only[aX] at hg;simp only[addrAt,aI,Option.map_some]
  rw[jq p (by simpa[aH] using h) hg,Nat.add_assoc]
theorem nt:∀ (p:Path) {t:Ty} {cs:List Value} (l l':Option (Nat×Nat)),aH p=false→addrAt w p t cs l=addrAt w p t cs l'
 |[],_,_,_,_,h=>by simp[aH] at h
 | .fst::p,.pair a b,cs,l,l',h=>by simp only[addrAt];exact nt p _ _ (by simpa[aH] using h)
 | .snd::p,.pair a b,cs,l,l',h=>by simp only[addrAt];exact nt p _ _ (by simpa[aH] using h)
 | .deref::p,.ptr t,cs,l,l',h=>by
  unfold addrAt
  split<;>simp_all
 | .idx i::p,.sl t,cs,l,l',h=>by
  unfold addrAt
  split<;>simp_all
 | .fst::p,.int _,_,_,_,_ | .fst::p,.bool,_,_,_,_ | .fst::p,.str,_,_,_,_ | .fst::p,.sl _,_,_,_,_ | .fst::p,.ptr _,_,_,_,_ | .fst::p,.unit,_,_,_,_ | .fst::p,.arr _ _,_,_,_,_=>by simp[addrAt]
 | .snd::p,.int _,_,_,_,_ | .snd::p,.bool,_,_,_,_ | .snd::p,.str,_,_,_,_ | .snd::p,.sl _,_,_,_,_ | .snd::p,.ptr _,_,_,_,_ | .snd::p,.unit,_,_,_,_ | .snd::p,.arr _ _,_,_,_,_=>by simp[addrAt]
 | .deref::p,.int _,_,_,_,_ | .deref::p,.bool,_,_,_,_ | .deref::p,.str,_,_,_,_ | .deref::p,.sl _,_,_,_,_ | .deref::p,.pair _ _,_,_,_,_ | .deref::p,.unit,_,_,_,_ | .deref::p,.arr _ _,_,_,_,_=>by simp[addrAt]
 | .idx _::p,.int _,_,_,_,_ | .idx _::p,.bool,_,_,_,_ | .idx _::p,.str,_,_,_,_ | .idx _::p,.ptr _,_,_,_,_ | .idx _::p,.pair _ _,_,_,_,_ | .idx _::p,.unit,_,_,_,_ | .idx _::p,.arr _ _,_,_,_,_=>by simp[addrAt]
theorem eQ:∀ (p:Path) {t:Ty} {m:Md} {x:t.I} {cs:List Value} {b:TV},aH p=true→aX p t m x=some b→cs.length=t.size→aN w p t cs=some ((cs.drop (aI p t)).take b.t.size)
 |[],t,m,x,cs,b,_,hg,hl=>by
  simp only[aX,Option.some.injEq] at hg;subst hg
  simp only[aN,aI,List.drop_zero]
  rw[List.take_of_length_le (by show cs.length≤t.size;omega)]
 | .fst::p,.pair a b',m,x,cs,b,h,hg,hl=>by
  simp only[aX] at hg;simp only[Ty.size] at hl
  have hf:=eF p (by simpa[aH] using h) hg
  simp only[aN,aI]
  rw[eQ p (by simpa[aH] using h) hg (by rw[List.length_take];omega),List.drop_take,List.take_take]
  congr 2;omega
 | .snd::p,.pair a b',m,x,cs,b,h,hg,hl=>by
  simp only[aX] at hg;simp only[Ty.size] at hl
  simp only[aN,aI]
  rw[eQ p (by simpa[aH] using h) hg (by rw[List.length_drop];omega),List.drop_drop]
theorem kX:∀ (p:Path) {t:Ty} {m:Md} {x:t.I} {cs c:List Value} {b:TV},aH p=true→aX p t m x=some b→cs.length=t.size→c.length=b.t.size→pI p t cs c=putCells cs (aI p t) c
 |[],t,m,x,cs,c,b,_,hg,hl,hc=>by
  simp only[aX,Option.some.injEq] at hg;subst hg
  simp only[pI,aI,putCells,List.take_zero,List.nil_append,Nat.zero_add]
  rw[List.drop_of_length_le (by have YA:c.length=t.size:=hc;omega),List.append_nil]
 | .fst::p,.pair a b',m,x,cs,c,b,h,hg,hl,hc=>by
  simp only[aX] at hg;simp only[Ty.size] at hl
  have hf:=eF p (by simpa[aH] using h) hg
  simp only[pI,aI]
  rw[kX p (by simpa[aH] using h) hg (by rw[List.length_take];omega) hc]
  unfold putCells
  rw[List.take_take,Nat.min_eq_left (by omega),List.append_assoc,List.append_assoc,List.append_assoc,List.drop_take]
  congr 2
  rw[show cs.drop a.size=(cs.drop (aI p a+c.length)).drop (a.size - (aI p a+c.length)) from by rw[List.drop_drop];congr 1;omega,List.take_append_drop]
 | .snd::p,.pair a b',m,x,cs,c,b,h,hg,hl,hc=>by
  simp only[aX] at hg;simp only[Ty.size] at hl
  simp only[pI,aI]
  rw[kX p (by simpa[aH] using h) hg (by rw[List.length_drop];omega) hc]
  unfold putCells
  rw[←List.append_assoc,←List.append_assoc,←List.take_add,List.drop_drop]
  congr 2;omega
theorem ke:∀ (p:Path) {t:Ty} {cs c:List Value},aH p=false→pI p t cs c=cs
 |[],_,_,_,h=>by simp[aH] at h
 | .fst::p,.pair a b,cs,c,h=>by simp only[pI];rw[ke p (by simpa[aH] using h),List.take_append_drop]
 | .snd::p,.pair a b,cs,c,h=>by simp only[pI];rw[ke p (by simpa[aH] using h),List.take_append_drop]
 | .deref::p,t,cs,c,h=>by simp[pI]
 | .idx i::p,t,cs,c,h=>by simp[pI]
 | .fst::p,.int _,_,_,_ | .fst::p,.bool,_,_,_ | .fst::p,.str,_,_,_ | .fst::p,.sl _,_,_,_ | .fst::p,.ptr _,_,_,_ | .fst::p,.unit,_,_,_ | .fst::p,.arr _ _,_,_,_=>by simp[pI]
 | .snd::p,.int _,_,_,_ | .snd::p,.bool,_,_,_ | .snd::p,.str,_,_,_ | .snd::p,.sl _,_,_,_ | .snd::p,.ptr _,_,_,_ | .snd::p,.unit,_,_,_ | .snd::p,.arr _ _,_,_,_=>by simp[pI]
end Go.Pv
namespace Go.Pv
set_option linter.unusedVariables false
set_option linter.unusedSimpArgs false
variable {w w':World} {Wr q7:Nat→Prop} {H:Nat→Value}
def awO (w:World) (Wr:Nat→Prop) (H:Nat→Value) (p:Path) (t:Ty) (m:Md) (x:t.I) (cs:List Value) (ow cB:Nat→Prop) (hs:List Path) (b:TV) (cJ:List Value):Prop:=
 ∀ (b2:TV) (r:Md×t.I),b2.t=b.t→gw b2 p t m x=some r→
  (∀ g off,addrAt w p t cs none=some (g,off)→ow g∧ ¬cB g∧∃ cur T,w.heap[g]?=some (.cells cur T (0,0))∧off+b.t.size≤cur.size∧cJ=(cur.toList.drop off).take b.t.size)∧
  ∀ (w':World) (q7:Nat→Prop) (c:List Value) (kg:Nat→Prop) (oe:List Path),aP w w' Wr q7→c.length=b.t.size→
   (∀ g,ow g→¬cB g→g<w.heap.size→lx w w' (addrAt w p t cs none) c g)→M w' q7 H b2.t b2.m b2.x c kg (w8 p oe)→
   (∀ g,kg g→g<w.heap.size→ow g→cB g)→(∀ h,(∀ q,h≠p++q)→h∈hs→h∈oe)→
   M w' q7 H t r.1 r.2 (pI p t cs c) (fun g=>(ow g∧ ¬cB g)∨kg g) oe
theorem mg {s:Step} {p:Path} {hs oe:List Path} (h:∀ h,(∀ q,h≠s::p++q)→h∈hs→h∈oe):∀ h,(∀ q,h≠p++q)→h∈sub s hs→h∈sub s oe:=fun q hq hm=>
 dx.2 (h _ (fun r e=>hq r (by rw[List.cons_append] at e;injection e)) (dx.1 hm))
theorem rL {s s':Step} (ly:s'≠s) {p:Path} {hs oe:List Path} (h:∀ h,(∀ q,h≠s::p++q)→h∈hs→h∈oe):∀ q∈sub s' hs,q∈sub s' oe:=fun q hq=>
 dx.2 (h _ (fun r e=>by rw[List.cons_append] at e;injection e with e _;exact ly e) (dx.1 hq))
theorem DZ {b2:TV} {i:Nat} {p:Path} {t:Ty} {T:TypeId} {tag:Option Nat} {me:Md} {xs:List t.I} {r:Md×List t.I} (h:gw b2 (.idx i::p) (.sl t) (.o T tag me) xs=some r):
  ∃ r1,gw b2 p t me (List.getD xs i t.z)=some r1∧r1.1=me∧r=(.o T tag me,List.set xs i r1.2):=by
 unfold gw at h
 split at h
 ·rename_i r1 h1
  split at h
  ·rename_i h2
   injection h with h
   exact⟨r1,h1,h2,h.symm⟩
  ·cases h
 ·cases h
theorem zW:∀ (p:Path) {t:Ty} {m:Md} {x:t.I} {cs:List Value} {ow:Nat→Prop} {hs:List Path} {b:TV},M w Wr H t m x cs ow hs→open_ p hs→valid p t x→aX p t m x=some b→
  ∃ cJ cB,aN w p t cs=some cJ∧(∀ g,cB g→ow g)∧M w Wr H b.t b.m b.x cJ cB (w8 p hs)∧awO w Wr H p t m x cs ow cB hs b cJ
 |[],t,m,x,cs,ow,hs,b,h,ho,hv,hg=>by
  simp only[aX,Option.some.injEq] at hg
  subst hg
  refine⟨cs,ow,rfl,fun _ h=>h,h,fun b2 r ht hr=>⟨fun g off e=>by simp[addrAt] at e,fun w' q7 c kg oe bQ hc hb hm rG hh=>?_⟩⟩
  obtain⟨t2,m2,x2⟩:=b2
  simp only at ht
  subst ht
  simp only[gw,dite_true,Option.some.injEq] at hr
  subst hr
  exact aG (aP.refl _ _) t2 (fun _ _ _=>rfl) (fun g hg _=>.inr hg) (fun _ h=>h) hm
 | .deref::p,.ptr t,m,x,cs,ow,hs,b,h,ho,hv,hg=>by
  simp only[aX] at hg
  simp only[valid] at hv
  simp only[M] at h
  rcases h with⟨hn,_⟩ |⟨hk,h⟩ |⟨T,tag,me,g,cur,rfl,rfl,ht,q8,hw,h⟩
  ·exact absurd hn ho.not_nil
  ·obtain⟨cJ,cB,h1,h2,h3⟩:=focus (H:=H) (ow:=ow) (.deref::p) (oh (t:=.ptr t) hk h) ho hv (by simpa only[aX] using hg)
   exact⟨cJ,cB,h1,h2,h3,fun b2 r _ hr=>by cases m<;>simp[gw,Md.bG] at hr hk⟩
  ·have hlen:=(eP t h).1
   obtain⟨cJ,cB,h1,h2,h3,h4⟩:=zW p h ho.sub hv hg
   have jg:0+t.size≤cur.size:=by rw[←hlen];simp
   have gZ:rowAt w g 0 t.size=some cur.toList:=by rw[bh hw jg,List.drop_zero,List.take_of_length_le (by omega)]
   refine⟨cJ,cB,?_,fun g hg=>(h2 g hg).1,h3,fun b2 r zX hr=>?_⟩
   ·simp only[aN,gZ,Option.bind_some];exact h1
   simp only[gw] at hr
   cases Q1:gw b2 p t me x with
   |none=>simp[Q1] at hr
   |some r1=>
    simp only[Q1,Option.some.injEq] at hr
    subst hr
    obtain⟨ha,kY⟩:=h4 b2 r1 zX Q1
    have om:addrAt w (.deref::p) (.ptr t) [.pointer (some ⟨g,0,none⟩)] none=addrAt w p t cur.toList (some (g,0)):=by simp only[addrAt,gZ,Option.bind_some]
    cases zY:aH p with
    |true=>
     have dE:=jq (w:=w) (cs:=cur.toList) (g:=g) (o:=0) p zY hg
     have w9:=eF p zY hg
     have gg:=eQ (w:=w) p zY hg hlen
     rw[h1] at gg
     injection gg with gg
     rw[om,dE]
     refine⟨fun g' off e=>?_,fun w' q7 c kg oe bQ hc hb hm rG hh=>?_⟩
     ·injection e with e
      injection e with e1 e2
      subst e1 e2
      exact⟨q8,fun hx=>(h2 g hx).2 rfl,cur,T,hw,by rw[←hlen] at w9;simp at w9 ⊢;omega,by rw[Nat.zero_add];exact gg⟩
     ·have b9:=a7 hw
      have a8:=hb g q8 (fun hx=>(h2 g hx).2 rfl) b9
      simp only[lx,if_true,Nat.zero_add] at a8
      obtain⟨gq,T2,e2,rB⟩:=a8
      rw[hw] at e2
      injection e2 with e2
      injection e2 with e2 e3
      subst e2 e3
      have hM:=kY w' q7 c kg (sub .deref oe) bQ hc (fun g' eO rC hl=>by
       rw[eG p zY]
       have:=hb g' eO.1 rC hl
       simp only[lx,eO.2,if_false] at this
       exact this) hm (fun g' eO hl rC=>rG g' eO hl rC.1) (mg hh)
      rw[kX p zY hg hlen hc] at hM
      simp only[pI,M]
      refine .inr (.inr ⟨T,tag,r1.1,g,_,rfl,rfl,ht,.inl ⟨q8,fun hx=>(h2 g hx).2 rfl⟩,rB,?_⟩)
      refine aG (aP.refl _ _) t (fun _ _ _=>rfl) (fun g' eO hl=>?_) (fun _ h=>h) hM
      rcases eO with⟨⟨a1,a2⟩,a3⟩ |a
      ·exact⟨.inl ⟨a1,a3⟩,a2⟩
      ·refine⟨.inr a,fun e=>?_⟩
       subst e
       exact(h2 g' (rG g' a b9 q8)).2 rfl
    |false=>
     have dE:=nt (w:=w) (t:=t) (cs:=cur.toList) p (some (g,0)) none zY
     rw[om,dE]
     refine⟨fun g' off e=>?_,fun w' q7 c kg oe bQ hc hb hm rG hh=>?_⟩
     ·obtain⟨a1,a2,a3⟩:=ha g' off e
      exact⟨a1.1,a2,a3⟩
     ·have b9:=a7 hw
      have hM:=kY w' q7 c kg (sub .deref oe) bQ hc (fun g' eO rC hl=>hb g' eO.1 rC hl) hm (fun g' eO hl rC=>rG g' eO hl rC.1) (mg hh)
      rw[ke p zY] at hM
      have rB:w'.heap[g]?=some (.cells cur T (0,0)):=by
       have a8:=hb g q8 (fun hx=>(h2 g hx).2 rfl) b9
       cases pJ:addrAt w p t cur.toList none with
       |none=>rw[pJ] at a8;exact a8.trans hw
       |some q=>
        rw[pJ] at a8
        have ly:g≠q.1:=fun e=>(ha q.1 q.2 pJ).1.2 e.symm
        simp only[lx,ly,if_false] at a8
        exact a8.trans hw
      simp only[pI,M]
      refine .inr (.inr ⟨T,tag,r1.1,g,_,rfl,rfl,ht,.inl ⟨q8,fun hx=>(h2 g hx).2 rfl⟩,rB,?_⟩)
      refine aG (aP.refl _ _) t (fun _ _ _=>rfl) (fun g' eO hl=>?_) (fun _ h=>h) hM
      rcases eO with⟨⟨a1,a2⟩,a3⟩ |a
      ·exact⟨.inl ⟨a1,a3⟩,a2⟩
      ·refine⟨.inr a,fun e=>?_⟩
       subst e
       exact(h2 g' (rG g' a b9 q8)).2 rfl
 | .fst::p,.pair a b',m,x,cs,ow,hs,b,h,ho,hv,hg=>by
  simp only[aX] at hg
  simp only[valid] at hv
  have kh:∃ c0 c1,∃ s:Nat→Prop,cs=c0++c1∧M w Wr H a m.l x.1 c0 (fun g=>ow g∧s g) (sub .fst hs)∧M w Wr H b' m.r x.2 c1 (fun g=>ow g∧ ¬s g) (sub .snd hs):=by
   simp only[M] at h
   rcases h with⟨hn,_⟩ |⟨hk,h⟩ |⟨ma,mb,c0,c1,s,rfl,rfl,h0,h1⟩
   ·exact absurd hn ho.not_nil
   ·simp only[K] at h
    obtain⟨c0,c1,rfl,h0,h1⟩:=h
    exact⟨c0,c1,fun _=>True,rfl,oh (MJ hk) h0,oh (MK hk) h1⟩
   ·exact⟨c0,c1,s,rfl,h0,h1⟩
  obtain⟨c0,c1,s,rfl,h0,h1⟩:=kh
  obtain⟨cJ,cB,k1,k2,k3,k4⟩:=zW p h0 ho.sub hv hg
  have l0:=(eP a h0).1
  have ht:(c0++c1).take a.size=c0:=by rw[←l0,List.take_left]
  have hd:(c0++c1).drop a.size=c1:=by rw[←l0,List.drop_left]
  refine⟨cJ,cB,by simp only[aN,ht];exact k1,fun g hg=>(k2 g hg).1,k3,fun b2 r zX hr=>?_⟩
  simp only[gw] at hr
  cases Q1:gw b2 p a m.l x.1 with
  |none=>simp[Q1] at hr
  |some r1=>
   simp only[Q1,Option.some.injEq] at hr
   subst hr
   obtain⟨ha,kY⟩:=k4 b2 r1 zX Q1
   have om:addrAt w (.fst::p) (.pair a b') (c0++c1) none=addrAt w p a c0 none:=by simp only[addrAt,ht]
   rw[om]
   refine⟨fun g' off e=>?_,fun w' q7 c kg oe bQ hc hb hm rG hh=>?_⟩
   ·obtain⟨a1,a2,a3⟩:=ha g' off e
    exact⟨a1.1,a2,a3⟩
   ·have hM:=kY w' q7 c kg (sub .fst oe) bQ hc (fun g' eO rC hl=>hb g' eO.1 rC hl) hm (fun g' eO hl rC=>rG g' eO hl rC.1) (mg hh)
    simp only[pI,ht,hd]
    refine w7 (s:=fun g=>(s g∧ow g)∨kg g) ?_ ?_
    ·refine aG (aP.refl _ _) a (fun _ _ _=>rfl) (fun g' eO hl=>?_) (fun _ h=>h) hM
     rcases eO with⟨⟨a1,a2⟩,a3⟩ |q
     ·exact⟨.inl ⟨a1,a3⟩,.inl ⟨a2,a1⟩⟩
     ·exact⟨.inr q,.inr q⟩
    ·refine aG bQ b' (fun g' eO hl=>?_) (fun g' eO hl=>⟨.inl ⟨eO.1,fun hx=>eO.2 (k2 g' hx).2⟩,fun hx=>?_⟩) (rL (by decide) hh) h1
     ·have a8:=hb g' eO.1 (fun hx=>eO.2 (k2 g' hx).2) hl
      cases pJ:addrAt w p a c0 none with
      |none=>rw[pJ] at a8;exact a8
      |some q=>
       rw[pJ] at a8
       have ly:g'≠q.1:=fun e=>eO.2 (by rw[e];exact(ha q.1 q.2 pJ).1.2)
       simp only[lx,ly,if_false] at a8
       exact a8
     ·rcases hx with hx |hx
      ·exact eO.2 hx.1
      ·exact eO.2 (k2 g' (rG g' hx hl eO.1)).2
 | .snd::p,.pair a b',m,x,cs,ow,hs,b,h,ho,hv,hg=>by
  simp only[aX] at hg
  simp only[valid] at hv
  have kh:∃ c0 c1,∃ s:Nat→Prop,cs=c0++c1∧M w Wr H a m.l x.1 c0 (fun g=>ow g∧s g) (sub .fst hs)∧M w Wr H b' m.r x.2 c1 (fun g=>ow g∧ ¬s g) (sub .snd hs):=by
   simp only[M] at h
   rcases h with⟨hn,_⟩ |⟨hk,h⟩ |⟨ma,mb,c0,c1,s,rfl,rfl,h0,h1⟩
   ·exact absurd hn ho.not_nil
   ·simp only[K] at h
    obtain⟨c0,c1,rfl,h0,h1⟩:=h
    exact⟨c0,c1,fun _=>True,rfl,oh (MJ hk) h0,oh (MK hk) h1⟩
   ·exact⟨c0,c1,s,rfl,h0,h1⟩
  obtain⟨c0,c1,s,rfl,h0,h1⟩:=kh
  obtain⟨cJ,cB,k1,k2,k3,k4⟩:=zW p h1 ho.sub hv hg
  have l0:=(eP a h0).1
  have ht:(c0++c1).take a.size=c0:=by rw[←l0,List.take_left]
  have hd:(c0++c1).drop a.size=c1:=by rw[←l0,List.drop_left]
  refine⟨cJ,cB,by simp only[aN,hd];exact k1,fun g hg=>(k2 g hg).1,k3,fun b2 r zX hr=>?_⟩
  simp only[gw] at hr
  cases Q1:gw b2 p b' m.r x.2 with
  |none=>simp[Q1] at hr
  |some r1=>
   simp only[Q1,Option.some.injEq] at hr
   subst hr
   obtain⟨ha,kY⟩:=k4 b2 r1 zX Q1
   have om:addrAt w (.snd::p) (.pair a b') (c0++c1) none=addrAt w p b' c1 none:=by simp only[addrAt,hd,Option.map_none]
   rw[om]
   refine⟨fun g' off e=>?_,fun w' q7 c kg oe bQ hc hb hm rG hh=>?_⟩
   ·obtain⟨a1,a2,a3⟩:=ha g' off e
    exact⟨a1.1,a2,a3⟩
   ·have hM:=kY w' q7 c kg (sub .snd oe) bQ hc (fun g' eO rC hl=>hb g' eO.1 rC hl) hm (fun g' eO hl rC=>rG g' eO hl rC.1) (mg hh)
    simp only[pI,ht,hd]
    refine w7 (s:=fun g=>(s g∧ow g)∧ ¬kg g) ?_ ?_
    ·refine aG bQ a (fun g' eO hl=>?_) (fun g' eO hl=>⟨.inl ⟨eO.1,fun hx=>(k2 g' hx).2 eO.2⟩,⟨eO.2,eO.1⟩,fun hx=>(k2 g' (rG g' hx hl eO.1)).2 eO.2⟩) (rL (by decide) hh) h0
     have a8:=hb g' eO.1 (fun hx=>(k2 g' hx).2 eO.2) hl
     cases pJ:addrAt w p b' c1 none with
     |none=>rw[pJ] at a8;exact a8
     |some q=>
      rw[pJ] at a8
      have ly:g'≠q.1:=fun e=>(ha q.1 q.2 pJ).1.2 (by rw[←e];exact eO.2)
      simp only[lx,ly,if_false] at a8
      exact a8
    ·refine aG (aP.refl _ _) b' (fun _ _ _=>rfl) (fun g' eO hl=>?_) (fun _ h=>h) hM
     rcases eO with⟨⟨a1,a2⟩,a3⟩ |q
     ·exact⟨.inl ⟨a1,a3⟩,fun hx=>a2 hx.1.1⟩
     ·exact⟨.inr q,fun hx=>hx.2 q⟩
 | .idx i::p,.sl t,m,xs,cs,ow,hs,b,h,ho,hv,hg=>by
  simp only[aX] at hg
  have hv0:=hv
  simp only[valid] at hv
  obtain⟨hi,hv⟩:=hv
  have e6:List.getD xs i t.z=xs[i]:=by simp[List.getD_eq_getElem?_getD,List.getElem?_eq_getElem hi]
  simp only[M] at h
  rcases h with⟨hn,_⟩ |⟨hk,h⟩ |⟨T,tag,me,A,c,rfl,rfl,hc,ht,h⟩
  ·exact absurd hn ho.not_nil
  ·obtain⟨cJ,cB,h1,h2,h3⟩:=focus (H:=H) (ow:=ow) (.idx i::p) (oh (t:=.sl t) hk h) ho hv0 (by simpa only[aX] using hg)
   exact⟨cJ,cB,h1,h2,h3,fun b2 r _ hr=>by cases m<;>simp[gw,Md.bG] at hr hk⟩
  ·rcases h with⟨rfl,_⟩ |⟨g,cur,τ,rfl,q8,hw,jg,hm,h⟩
   ·simp at hi
   ·have aby:i*t.size+t.size≤cur.size:=by
     have h1:=Nat.mul_le_mul_right t.size (show i+1≤xs.length from hi)
     have h2:=Nat.mul_le_mul_right t.size hc
     rw[Nat.add_mul,Nat.one_mul] at h1
     omega
    have ML:=h i hi
    rw[←e6] at ML
    have hlen:=(eP t ML).1
    obtain⟨cJ,cB,h1,h2,h3,h4⟩:=zW p ML ho.sub hv hg
    have gZ:rowAt w g (0+i*t.size) t.size=some ((cur.toList.drop (i*t.size)).take t.size):=by rw[Nat.zero_add,bh hw aby]
    refine⟨cJ,cB,?_,fun g hg=>(h2 g hg).1,h3,fun b2 r zX hr=>?_⟩
    ·simp only[aN,gZ,Option.bind_some];exact h1
    obtain⟨r1,Q1,hme,rfl⟩:=DZ hr
    obtain⟨ha,kY⟩:=h4 b2 r1 zX Q1
    have om:addrAt w (.idx i::p) (.sl t) [.slice (some ⟨g,0,none⟩) xs.length c] none=addrAt w p t ((cur.toList.drop (i*t.size)).take t.size) (some (g,i*t.size)):=by
     simp only[addrAt];rw[gZ];simp only[Option.bind_some,Nat.zero_add]
    -- the other elements,and this one,behind the change
    have b9:=a7 hw
    have rest:∀ (w':World) (q7:Nat→Prop) (c2:List Value) (kg:Nat→Prop) (oe:List Path) (gq:Array Value),aP w w' Wr q7→
      (∀ g',ow g'→g'≠g→¬cB g'→(∀ q,addrAt w p t ((cur.toList.drop (i*t.size)).take t.size) none=some q→g'≠q.1)→g'<w.heap.size→w'.heap[g']?=w.heap[g']?)→
      w'.heap[g]?=some (.cells gq T (0,0))→gq.size=cur.size→
      (∀ j,j<xs.length→j≠i→(gq.toList.drop (j*t.size)).take t.size=(cur.toList.drop (j*t.size)).take t.size)→
      M w' q7 H t r1.1 r1.2 ((gq.toList.drop (i*t.size)).take t.size) (fun g'=>((ow g'∧g'≠g∧τ g'=i)∧ ¬cB g')∨kg g') (sub (.idx i) oe)→
      (∀ g',kg g'→g'<w.heap.size→ow g'→cB g')→(∀ h,(∀ q,h≠ .idx i::p++q)→h∈hs→h∈oe)→
      M w' q7 H (.sl t) (.o T tag me) (List.set xs i r1.2) [.slice (some ⟨g,0,none⟩) xs.length c] (fun g'=>(ow g'∧ ¬cB g')∨kg g') oe:=by
     intro w' q7 c2 kg oe gq bQ jr rB awP lz hM rG hh
     have hng: ¬cB g:=fun hx=>(h2 g hx).2.1 rfl
     simp only[M]
     refine .inr (.inr ⟨T,tag,me,some ⟨g,0,none⟩,c,rfl,by rw[List.length_set],by rw[List.length_set];exact hc,fun h hh=>by rw[List.length_set];exact ht h hh,.inr ⟨g,gq,fun g'=>open Classical in if kg g' then i else τ g',rfl,.inl ⟨q8,hng⟩,rB,by rw[awP,jg],hm,fun j hj=>?_⟩⟩)
     rw[List.length_set] at hj
     by_cases lA:j=i
     ·subst lA
      rw[List.getElem_set_self,←hme]
      refine aG (aP.refl _ _) t (fun _ _ _=>rfl) (fun g' eO hl=>?_) (fun _ h=>h) hM
      rcases eO with⟨⟨a1,a2,a3⟩,a4⟩ |a
      ·exact⟨.inl ⟨a1,a4⟩,a2,by simp only;split<;>first |rfl |exact a3⟩
      ·refine⟨.inr a,fun e=>?_,by simp only;rw[if_pos a]⟩
       subst e
       exact hng (rG g' a b9 q8)
     ·rw[List.getElem_set_ne (fun e=>lA e.symm),lz j hj lA]
      have auF:∀ g',(ow g'∧g'≠g∧τ g'=j)→g'<w.heap.size→¬kg g':=fun g' eO hl hx=>lA (by rw[←eO.2.2];exact(h2 g' (rG g' hx hl eO.1)).2.2)
      have auG:∀ g',(ow g'∧g'≠g∧τ g'=j)→¬cB g':=fun g' eO hx=>lA (by rw[←eO.2.2];exact(h2 g' hx).2.2)
      refine aG bQ t (fun g' eO hl=>jr g' eO.1 eO.2.1 (auG g' eO) (fun q hq e=>?_) hl) (fun g' eO hl=>⟨.inl ⟨eO.1,auG g' eO⟩,eO.2.1,?_⟩) (rL (by intro e;injection e with e;exact lA e) hh) (h j hj)
      ·have:=(ha q.1 q.2 hq).1.2.2
       rw[←e,eO.2.2] at this
       exact lA this
      ·simp only
       rw[if_neg (auF g' eO hl)]
       exact eO.2.2
    cases zY:aH p with
    |true=>
     have dE:=jq (w:=w) (cs:=(cur.toList.drop (i*t.size)).take t.size) (g:=g) (o:=i*t.size) p zY hg
     have w9:=eF p zY hg
     have gg:=eQ (w:=w) p zY hg hlen
     rw[h1] at gg
     injection gg with gg
     rw[om,dE]
     refine⟨fun g' off e=>?_,fun w' q7 c2 kg oe bQ zZ hb hm2 rG hh=>?_⟩
     ·injection e with e
      injection e with e1 e2
      subst e1 e2
      refine⟨q8,fun hx=>(h2 g hx).2.1 rfl,cur,T,hw,by omega,?_⟩
      rw[gg,List.drop_take,List.drop_drop,List.take_take]
      congr 1
      omega
     ·have a8:=hb g q8 (fun hx=>(h2 g hx).2.1 rfl) b9
      simp only[lx,if_true] at a8
      obtain⟨gq,T2,e2,rB⟩:=a8
      rw[hw] at e2
      injection e2 with e2
      injection e2 with e2 e3
      subst e2 e3
      have auH:i*t.size+aI p t+c2.length≤cur.toList.length:=by rw[zZ,Array.length_toList];omega
      have hM:=kY w' q7 c2 kg (sub (.idx i) oe) bQ zZ (fun g' eO rC hl=>by
       rw[eG p zY]
       have:=hb g' eO.1 rC hl
       simp only[lx,eO.2.1,if_false] at this
       exact this) hm2 (fun g' eO hl rC=>rG g' eO hl rC.1) (mg hh)
      rw[kX p zY hg hlen zZ] at hM
      refine rest w' q7 c2 kg oe _ bQ (fun g' eO rC hg3 _ hl=>?_) rB (by rw[List.size_toArray,iz _ _ _ auH,Array.length_toList]) (fun j hj lA=>?_) ?_ rG hh
      ·have:=hb g' eO hg3 hl
       simp only[lx,rC,if_false] at this
       exact this
      ·rw[List.toList_toArray]
       refine ah2 _ _ _ _ _ auH ?_
       rcases Nat.lt_or_gt_of_ne lA with aqx |aqx
       ·left
        have:=Nat.mul_le_mul_right t.size (show j+1≤i from aqx)
        rw[Nat.add_mul,Nat.one_mul] at this
        omega
       ·right
        have:=Nat.mul_le_mul_right t.size (show i+1≤j from aqx)
        rw[Nat.add_mul,Nat.one_mul] at this
        rw[zZ]
        omega
      ·rw[List.toList_toArray,aqw _ _ _ _ _ (by rw[zZ];omega) (by rw[Array.length_toList];omega)]
       exact hM
    |false=>
     have dE:=nt (w:=w) (t:=t) (cs:=(cur.toList.drop (i*t.size)).take t.size) p (some (g,i*t.size)) none zY
     rw[om,dE]
     refine⟨fun g' off e=>?_,fun w' q7 c2 kg oe bQ zZ hb hm2 rG hh=>?_⟩
     ·obtain⟨a1,a2,a3⟩:=ha g' off e
      exact⟨a1.1,a2,a3⟩
     ·have hM:=kY w' q7 c2 kg (sub (.idx i) oe) bQ zZ (fun g' eO rC hl=>hb g' eO.1 rC hl) hm2 (fun g' eO hl rC=>rG g' eO hl rC.1) (mg hh)
      rw[ke p zY] at hM
      have same:∀ g',ow g'→¬cB g'→(∀ q,addrAt w p t ((cur.toList.drop (i*t.size)).take t.size) none=some q→g'≠q.1)→g'<w.heap.size→w'.heap[g']?=w.heap[g']?:=by
       intro g' eO rC hq hl
       have a8:=hb g' eO rC hl
       cases pJ:addrAt w p t ((cur.toList.drop (i*t.size)).take t.size) none with
       |none=>rw[pJ] at a8;exact a8
       |some q=>
        rw[pJ] at a8
        simp only[lx,hq q pJ,if_false] at a8
        exact a8
      have rB:w'.heap[g]?=some (.cells cur T (0,0)):=(same g q8 (fun hx=>(h2 g hx).2.1 rfl) (fun q hq e=>(ha q.1 q.2 hq).1.2.1 e.symm) b9).trans hw
      exact rest w' q7 c2 kg oe cur bQ (fun g' eO _ hg3 hq hl=>same g' eO hg3 hq hl) rB rfl (fun j hj lA=>rfl) hM rG hh
end Go.Pv
namespace Go.Pv
set_option linter.unusedVariables false
set_option linter.unusedSimpArgs false
structure aa where
 res:List TV
 refs:List TV
inductive Arg where
 |tv (a:TV)
 |fn (f:FuncId) (cu:List TV)
inductive Pass where
 |val |take |kZ
 deriving DecidableEq
structure jt where
 sig:FuncId→List Pass
 run:FuncId→List Arg→(aa→Option aa)→Option aa
structure Entry where
 f:FuncId
 sig:List Pass
 run:List Arg→(aa→Option aa)→Option aa
def entry:List Entry→FuncId→Option Entry
 |[],_=>none
 |e::r,f=>bif Nat.beq e.f f then some e else entry r f
def jt.of (l:List Entry):jt where
 sig f:=match entry l f with
  |some e=>e.sig
  |none=>[]
 run f:=match entry l f with
  |some e=>e.run
  |none=>fun _ _=>none
inductive Ex where
 |n |x (id:Nat) |r
inductive CK where
 |kv (t:Ty) |pl (t:Ty) (s:Nat) (p:Path)
@[reducible] def D0:List CK→Type
 |[]=>Unit
 | .kv t::r=>t.I×D0 r
 | .pl _ _ _::r=>D0 r
def my:(cs:List CK)→D0 cs→List IG
 |[],_=>[]
 | .kv t::r,x=>.kv ⟨t,.k,x.1⟩::my r x.2
 | .pl t s p::r,x=>.pl t s p::my r x
def rM:(cs:List CK)→List IG→Option (D0 cs)
 |[],[]=>some ()
 | .kv t::r,.kv ⟨t',m',x⟩::S=>if h:t'=t then(if m'=.k then match rM r S with
   |some y=>some (h▸x,y)
   |none=>none else none) else none
 | .pl t s p::r,.pl t' s' p'::S=>if t'=t then(bif Nat.beq s' s then(if p'=p then rM r S else none) else none) else none
 |_,_=>none
inductive Kd where
 |dead |v (t:Ty) (m:Md) |al (t:Ty) (s:Nat) |lu (f:FuncId) (cs:List CK)
@[reducible] def rD:List Kd→Type
 |[]=>Unit
 | .v t _::r=>t.I×rD r
 | .dead::r=>rD r
 | .al _ _::r=>rD r
 | .lu _ cs::r=>D0 cs×rD r
def shape:(ks:List Kd)→rD ks→St
 |[],_=>[]
 | .v t m::r,x=>.v ⟨t,m,x.1⟩ []::shape r x.2
 | .dead::r,x=>.dead::shape r x
 | .al t s::r,x=>.al t s []::shape r x
 | .lu f cs::r,x=>.lu f (my cs x.1)::shape r x.2
def proj:(ks:List Kd)→St→Option (rD ks)
 |[],[]=>some ()
 | .v t m::r,.v ⟨t',m',x⟩ []::S=>if h:t'=t then(if m'=m then match proj r S with
   |some y=>some (h▸x,y)
   |none=>none else none) else none
 | .dead::r,_::S=>proj r S
 | .al t s::r,.al t' s' []::S=>if t'=t then(bif Nat.beq s' s then proj r S else none) else none
 | .lu f cs::r,.lu f' cu::S=>bif Nat.beq f' f then(match rM cs cu,proj r S with
   |some y,some z=>some (y,z)
   |_,_=>none) else none
 |_,_=>none
def gP (all:List Kd):List Kd→Bool
 |[]=>true
 | .al _ s::r=>(match all[s]? with
  |some (.v _ _)=>true
  |_=>false)&&gP all r
 | .lu _ cs::r=>(cs.all fun c=>match c with
  | .kv _=>true
  | .pl _ s _=>match all[s]? with
   |some (.v _ _)=>true
   |_=>false)&&gP all r
 |_::r=>gP all r
inductive OT where
 |done |one (i:Nat) (t:OT) |any (l:List Nat) (t:OT) |par (l:List Nat) (ds:List (List Nat)) (t:OT) |own (d:Nat) (t:OT)
def OT.seq:List Nat→OT→OT
 |[],t=>t
 |i::r,t=>.one i (OT.seq r t)
structure Hint where
 tab:dq
 hn:Hn:=[]
 loops:List (Nat×List Kd):=[]
 outs:List (Nat×Nat×List Kd):=[]
 bj:List (Nat×OT):=[]
 xa:Option (Nat×Bool):=none
 frz:List (Nat×List (Nat×Path)):=[]
def MM:Path→Bool
 |[]=>true | .idx _::_=>false |_::p=>MM p
def St.aqy (S:St) (q:Nat×Path):St:=match S.at q.1 with
 | .v r []=>match aX q.2 r.t r.m r.x with
  |some b=>bif b.m.bG|| !MM q.2 then S else(match q.2 with
   |[]=>S.put (some q.1) (.v (Ra r) [])
   |_=>(match gw (Ra b) q.2 r.t r.m r.x with
    |some (m,z)=>St.put (((S.weaken q.1).cover q.1 q.2).set q.1 (.v r [q.2])) (some q.1) (.v ⟨r.t,m,z⟩ [])
    |none=>S))
  |none=>S
 |_=>S
def YB:List (Nat×List (Nat×Path))→Nat→St→St
 |[],_,S=>S
 |q::r,id,S=>bif Nat.beq q.1 id then q.2.foldl St.aqy S else YB r id S
def oo:List (Nat×List Kd)→Nat→Option (List Kd)
 |[],_=>none
 |q::r,k=>bif Nat.beq q.1 k then some q.2 else oo r k
def ah3 (S:St) (i:Nat):Kd→St
 | .v _ m=>bif m.bG then S else match S.at i with
  | .al t s []=>(match S.dN (.tmp i) (.al t s []) with
   |some (a,S1)=>S1.put (some i) (.v a [])
   |none=>S)
  |_=>S
 |_=>S
def Rc:List Kd→Nat→St→St
 |[],_,S=>S
 |k::r,i,S=>Rc r (i+1) (ah3 S i k)
def tq (ks:List Kd) (S:St):Option St:=bif gP ks ks then(match proj ks (Rc ks 0 S) with
  |some x=>some (shape ks x)
  |none=>none) else none
def Hint.clean (h:Hint) (key:Nat) (S:St):Option St:=match oo h.loops key with
 |some ks=>tq ks S
 |none=>none
def Ex.num:Ex→Nat
 | .n=>0 | .r=>1 | .x id=>id+2
def ao6:List (Nat×Nat×List Kd)→Nat→Nat→Option (List Kd)
 |[],_,_=>none
 |q::r,k,e=>bif Nat.beq q.1 k&&Nat.beq q.2.1 e then some q.2.2 else ao6 r k e
def Hp (S:St):IG→Option TV
 | .pl _ s p=>match S.place s p with
  |some a=>some (Ra a)
  |none=>none
 | .kv a=>some a
def pK (S:St):List IG→Option (List TV)
 |[]=>some []
 |c::r=>match Hp S c,pK S r with
  |some a,some l=>some (a::l)
  |_,_=>none
def gh (Θ:dq):St→List Operand→List TypeId→List Pass→Option (List (Option TV)×St)
 |S,[],_,_=>some ([],S)
 |S,x::xs,T::Ts,p::ps=>match p with
  | .val=>match gh Θ S xs Ts ps with
   |some r=>some (none::r.1,r.2)
   |none=>none
  | .take=>match S.take Θ T x with
   |some (a,S1)=>match gh Θ S1 xs Ts ps with
    |some r=>some (some a::r.1,r.2)
    |none=>none
   |none=>none
  | .kZ=>none
 |_,_,_,_=>none
def reads (Θ:dq) (S:St):List Operand→List TypeId→List (Option TV)→Option (List Arg)
 |[],_,_=>some []
 |x::xs,T::Ts,p::ps=>match p with
  |some a=>match reads Θ S xs Ts ps with
   |some r=>some (.tv a::r)
   |none=>none
  |none=>match S.dX Θ T x with
   |some (.lu f cu)=>match pK S cu,reads Θ S xs Ts ps with
    |some l,some r=>some (.fn f l::r)
    |_,_=>none
   |some av=>match S.tp av,reads Θ S xs Ts ps with
    |some a,some r=>some (.tv (Ra a)::r)
    |_,_=>none
   |none=>none
 |_,_,_=>none
def Hq:List TV→AV
 |[a]=>.v a []
 |l=>.ud (l.map some)
def Vm (a:TV):Bool:=match a.t with
 | .ptr _=>a.m.bG
 |_=>false
def rO (S:St) (f:FuncId):Option Nat→Option (List TV)
 |none=>some []
 |some i=>match S.at i with
  | .lu f' cu=>bif Nat.beq f' f then(match pK S cu with
   |some l=>bif l.all Vm then some l else none
   |none=>none) else none
  |_=>none
def q9:Md→Bool
 | .k=>true | .o _ tag m=>(match tag with
  |none=>true
  |some _=>false)&&q9 m
 | .p a b=>q9 a&&q9 b
def iA:Ty→Bool
 | .sl _=>false | .ptr _=>false | .pair a b=>iA a&&iA b | .arr _ t=>iA t |_=>true
def fQ:Ty→Md→Bool
 | .sl t,.o _ _ m=>fQ t m
 | .ptr t,.o _ _ m=>fQ t m
 | .pair a b,.p m n=>fQ a m&&fQ b n
 |t,m=>m.bG&&iA t
def uq (S:St):Operand→Bool
 | .tmp i=>(match S.at i with
  | .v b []=>b.m.bG
  |_=>false)
 | .const _=>true
 |_=>false
def ju (S:St):List Operand→List (Option TV)→List Arg→Bool
 |[],_,_=>true
 |x::xs,p::ps,r::rs=>((match p with
  |some _=>true
  |none=>false)||(match r with
  | .tv b=>fQ b.t b.m||uq S x
  | .fn _ cs=>cs.isEmpty))&&ju S xs ps rs
 |_,_,_=>false
def hJ (h:Hint) (O:jt) (o:Oper) (f:FuncId) (cal:Option Nat) (args:List Operand) (ts:List TypeId) (S:St) (K:St→Option aa):Option aa:=
 match gh h.tab S args ts (O.sig f) with
 |some (l,S1)=>match reads h.tab S1 args ts l,rO S1 f cal with
  |some as,some cs=>O.run f (as++cs.map .tv) fun ret=>match ret.refs with
   |[]=>bif ret.res.all (fun d=>fQ d.t d.m)||(cs.isEmpty&&ju S1 args l as) then K (S1.put o.dst (Hq ret.res)) else none
   |_::_=>none
  |_,_=>none
 |none=>none
def fb:Ty→Md→Bool
 | .sl _,.o _ _ m=>q9 m
 | .ptr _,.o _ _ m=>q9 m
 | .pair a b,.p m n=>fb a m&&fb b n
 |_,m=>m.bG
def rP:Ty→Md→Bool
 | .sl t,.o _ _ m=>fQ t m
 | .ptr t,.o _ _ m=>fQ t m
 | .pair a b,.p m n=>rP a m&&rP b n
 |_,m=>m.bG
def jv:Ty→Md→Nat→Md
 | .sl _,.o T _ m,n=>.o T (some n) m
 | .ptr _,.o T _ m,n=>.o T (some n) m
 | .pair a b,.p ma mb,n=>.p (jv a ma n) (jv b mb (n+a.size))
 |_,m,_=>m
def fE:(t:Ty)→Md→t.I→t.I→t.I
 | .sl _,.o ..,_,y=>y
 | .ptr _,.o ..,_,y=>y
 | .pair a b,.p ma mb,x,y=>(fE a ma x.1 y.1,fE b mb x.2 y.2)
 |_,_,x,_=>x
def uW:List Pass→Nat→Option Nat
 |[],_=>none
 | .kZ::_,j=>some j
 |_::r,j=>uW r (j+1)
def ki (x:Operand):AV→Option (Nat×Path)
 | .v _ _=>match x with
  | .tmp i=>some (i,[])
  |_=>none
 | .al _ s p=>some (s,p)
 |_=>none
def St.pL (S:St) (s:Nat) (b:TV):Path→Option St
 |[]=>some (S.put (some s) (.v b []))
 |p=>match S.at s with
  | .v r ex=>match gw b p r.t r.m r.x with
   |some (m,z)=>some (S.put (some s) (.v ⟨r.t,m,z⟩ ex.dropLast))
   |none=>none
  |_=>none
def rQ (h:Hint) (O:jt) (o:Oper) (f:FuncId) (j:Nat) (args:List Operand) (ts:List TypeId) (S:St) (K:St→Option aa):Option aa:=
 match args[j]?,ts[j]? with
 |some x,some T=>match S.dX h.tab T x with
  |some av=>match ki x av,S.dN x av with
   |some (s,p),some (b,S1)=>bif !b.m.bG&&fb b.t b.m then
     (match reads h.tab S1 args ts ((List.replicate args.length none).set j (some ⟨b.t,jv b.t b.m 0,b.x⟩)) with
     |some as=>bif rP b.t b.m||ju S1 args ((List.replicate args.length none).set j (some ⟨b.t,jv b.t b.m 0,b.x⟩)) as then O.run f as fun ret=>match ret.refs with
      |[c]=>bif ret.res.all (fun d=>fQ d.t d.m&&q9 d.m) then(if hc:c.t=b.t then(if c.m=jv b.t b.m 0 then
        (match S1.pL s ⟨b.t,b.m,fE b.t b.m b.x (hc▸c.x)⟩ p with
        |some S2=>K (S2.put o.dst (Hq ret.res))
        |none=>none) else none) else none) else none
      |_=>none else none
     |none=>none) else none
   |_,_=>none
  |none=>none
 |_,_=>none
noncomputable def both (a b:Option aa):Option aa:=open Classical in if a=b then a else none
theorem mh (a:Option aa):both a a=a:=by simp[both]
theorem YC {a b:Option aa} {r:aa} (h:both a b=some r):a=some r∧b=some r:=by
 unfold both at h
 split at h
 ·rename_i e;exact⟨h,by rw[←e];exact h⟩
 ·cases h
noncomputable def Vn (h:Hint) (dst:Option Nat) (T:TypeId) (eq:Bool) (x:Operand) (S:St) (K:St→Option aa):Option aa:=match S.rd h.tab 0 x with
 |some ⟨.sl t,_,xs⟩=>bif h.tab.is T (.sl t) then(bif List.isEmpty xs then both (K (S.put dst (.v ⟨.bool,.k,true⟩ []))) (K (S.put dst (.v ⟨.bool,.k,false⟩ []))) else K (S.put dst (.v ⟨.bool,.k,!eq⟩ []))) else none
 |_=>none
def pM:Op→Bool
 | .binOp _ _ _ (.const (.slice none _ _)) _=>true
 |_=>false
noncomputable def hY (h:Hint) (O:jt) (o:Oper) (S:St) (K:St→Option aa):Option aa:=match o.op with
 | .call { callee:=.value (.func f),args:=as,argTypes:=ts }=>match uW (O.sig f) 0 with
  |some j=>rQ h O o f j as.toList ts.toList S K
  |none=>hJ h O o f none as.toList ts.toList S K
 | .call { callee:=.value (.tmp i),args:=as,argTypes:=ts }=>match S.at i with
  | .lu f _=>hJ h O o f (some i) as.toList ts.toList S K
  |_=>none
 | .binOp .eql T x (.const (.slice none 0 0)) _=>Vn h o.dst T true x S K
 | .binOp .neq T x (.const (.slice none 0 0)) _=>Vn h o.dst T false x S K
 |_=>match ev h.tab h.hn S o with
  |some (g,S1)=>bif g then K S1 else none
  |none=>none
noncomputable def aT (h:Hint) (O:jt) (ops:Array Oper) (i:Nat) (S:St) (K:St→Option aa):Option aa:=match ops[i]? with
 |none=>none
 |some o=>match o.guard with
  |none=>hY h O o S K
  |some (j,want)=>match (ops[j]?).bind (·.dst) with
   |some d=>match S.at d with
    | .v ⟨.bool,m,q⟩ ex=>bif q then
      (bif want then hY h O o (S.set d (.v ⟨.bool,m,true⟩ ex)) K else K (St.put (S.set d (.v ⟨.bool,m,true⟩ ex)) o.dst .undef))
     else(bif want then K (St.put (S.set d (.v ⟨.bool,m,false⟩ ex)) o.dst .undef) else hY h O o (S.set d (.v ⟨.bool,m,false⟩ ex)) K)
    | .undef=>K (S.put o.dst .undef)
    |_=>none
   |none=>none
noncomputable def nu (h:Hint) (O:jt) (ops:Array Oper):List Nat→St→(St→Option aa)→Option aa
 |[],S,K=>K S
 |i::r,S,K=>aT h O ops i S (fun S1=>nu h O ops r S1 K)
def ig (S:St):Operand→Bool
 | .tmp i=>(match S.at i with
  | .v _ []=>true
  |_=>false)
 | .const _=>true
 |_=>false
def Re (S:St):Operand→Bool
 | .tmp i=>(match S.at i with
  | .v ⟨_,.k,_⟩ []=>true
  |_=>false)
 | .const _=>true
 |_=>false
def B6 (S:St):Option Operand→Bool
 |none=>true
 |some x=>ig S x
def abz (O:jt) (f:FuncId):Bool:=(O.sig f).all fun p=>match p with
 | .val=>true
 |_=>false
def abA (ops:Array Oper) (x:Nat):Option Nat:=ops.toList.findSome? fun o=>match o.dst,o.op with
 |some d,.fieldAddr _ (.tmp s) _=>bif Nat.beq d x then some s else none
 |_,_=>none
def jY (O:jt) (ops:Array Oper) (S:St) (o:Oper):Bool:=(match o.guard with
  |none=>true
  |some _=>false)&&(match o.dst with
  |some d=>!(S.at d).zU&&Nat.blt d S.length
  |none=>false)&&(match o.op with
  | .call { callee:=.value (.func f),args:=as,.. }=>abz O f&&as.toList.all (ig S)
  | .call { callee:=.builtin .append,args:=as,.. }=>as.toList.all (ig S)
  | .buildSlice _ _ ps=>ps.toList.all fun q=>ig S q.2
  | .load _ (.tmp x)=>(match abA ops x,S.at x with
   |some s,.ad _ s' p=>Nat.beq s' s&&(match S.da s p with
    |some a=>a.m.bG
    |none=>false)
   |none,.v ⟨.ptr _,.k,_⟩ []=>true
   |none,.v ⟨.ptr _,.o ..,_⟩ []=>(match S.da x [.deref] with
    |some a=>a.m.bG
    |none=>false)
   |_,_=>false)
  | .slice _ x lo hi none=>Re S x&&(B6 S lo&&B6 S hi)
  | .indexAddr _ x ix=>Re S x&&ig S ix
  |_=>false)
noncomputable def nw (h:Hint) (O:jt) (ops:Array Oper):List Nat→St→(St→Option aa)→Option aa
 |[],S,K=>K S
 |i::r,S,K=>match ops[i]? with
  |some o=>bif jY O ops S o then aT h O ops i S (fun S1=>nw h O ops r S1 K) else none
  |none=>none
def slotsOf:AV→List Nat
 | .al _ s _=>[s] | .ad _ s _=>[s] | .cut _ s _ _ _=>[s]
 | .lu _ cu=>cu.filterMap fun c=>match c with
  | .pl _ s _=>some s
  | .kv _=>none
 |_=>[]
def kK (Δ:Nat→Bool):St→Nat→Bool
 |[],_=>true
 |a::r,i=>((slotsOf a).all fun s=>Δ i==Δ s)&&kK Δ r (i+1)
def mj (Δ:Nat→Bool):Operand→Bool
 | .tmp i=>Δ i
 | .const _=>true
 | .func _=>true
 | .global _=>false
def ah4 (Δ:Nat→Bool) (o:Oper):Bool:=match o.dst,o.op with
 |some d,.store ..=>false
 |some d,_=>Δ d
 |none,.store ..=>true
 |none,_=>false
def dV (Δ:Nat→Bool) (o:Oper):Bool:=(match o.guard with
  |none=>true
  |some _=>false)&&ah4 Δ o&&(match o.op with
 | .store _ x y=>mj Δ x&&mj Δ y
 | .makeSlice _ l c=>mj Δ l&&mj Δ c
 | .alloc _=>true
 | .buildSlice _ _ ps=>ps.toList.all fun q=>mj Δ q.2
 | .load _ x=>mj Δ x
 | .move x=>mj Δ x
 | .extract x _=>mj Δ x
 | .binOp _ _ x y _=>mj Δ x&&(mj Δ y&& !pM o.op)
 | .fieldAddr _ x _=>mj Δ x
 | .indexAddr _ x ix=>mj Δ x&&mj Δ ix
 | .convert _ _ x=>mj Δ x
 | .call { callee:=.builtin .append,args:=as,.. }=>as.toList.all (mj Δ)
 | .call { callee:=.value (.func _),args:=as,.. }=>as.toList.all (mj Δ)
 |_=>false)
def YD (l:List Nat) (i:Nat):Bool:=l.any (Nat.beq i)
def Rf (l:List Nat) (i:Nat):Bool:=!YD l i
def lB (ds:List (List Nat)) (S:St):Bool:=ds.all fun d=>kK (YD d) S 0
def D1 (ds:List (List Nat)) (o:Oper):Bool:=ds.all fun d=>dV (YD d) o||dV (Rf d) o
def YE (ds:List (List Nat)) (oi oj:Oper):Bool:=ds.any fun d=>(dV (YD d) oi&&dV (Rf d) oj)||(dV (Rf d) oi&&dV (YD d) oj)
def exB (oi oj:Oper):Bool:=match oi.guard,oj.guard,oi.dst,oj.dst,oi.op,oj.op with
 |none,none,some a,some b,.extract (.tmp x) p,.extract (.tmp y) q=>Nat.beq x y&&(!Nat.beq p q&&(!Nat.beq a b&&(!Nat.beq a x&& !Nat.beq b x)))
 |_,_,_,_,_,_=>false
def Vo (S:St) (d:Nat):Option (Bool×St):=match S.at d with
 | .al _ s (st::pp)=>(match S.at s with
  | .v r ex=>(match aX (st::pp) r.t r.m r.x with
   |some b=>bif b.m.bG then none else some (ex.all (fun h=>!pD h (st::pp)),St.put (((S.weaken s).cover s (st::pp)).set s (.v r (ex++[st::pp]))) (some d) (.v b []))
   |none=>none)
  |_=>none)
 |_=>none
noncomputable def fF (h:Hint) (O:jt) (ops:Array Oper):OT→St→(St→Option aa)→Option aa
 | .done,S,K=>K S
 | .one i t,S,K=>aT h O ops i S (fun S1=>fF h O ops t S1 K)
 | .any l t,S,K=>nw h O ops l S (fun S1=>fF h O ops t S1 K)
 | .own d t,S,K=>match Vo S d with
  |some (g,S1)=>bif g then fF h O ops t S1 K else none
  |none=>none
 | .par l ds t,S,K=>bif lB ds S then nu h O ops l S (fun S1=>fF h O ops t S1 K) else none
def quiet:Op→Bool
 | .move _=>true | .assign _=>true | .pick ..=>true | .build ..=>true | .load ..=>true | .nilCheck _=>true | .fieldAddr ..=>true | .field ..=>true | .indexAddr ..=>true | .index ..=>true
 | .extract ..=>true | .slice ..=>true | .convert ..=>true | .binOp ..=>true | .unOp ..=>true | .makeFunc ..=>true | .call { callee:=.builtin .len,.. }=>true |_=>false
def C8 (O:jt):Op→Bool
 | .alloc _=>true | .box ..=>true | .buildSlice ..=>true | .makeSlice ..=>true
 | .call { callee:=.value (.func f),.. }=>(O.sig f).all fun p=>match p with
  | .val=>true
  |_=>false
 |o=>quiet o
def still:Op→Bool
 | .extract ..=>true | .indexAddr ..=>true | .binOp ..=>true | .slice ..=>true | .move _=>true | .convert ..=>true | .fieldAddr ..=>true | .call { callee:=.builtin .len,.. }=>true |_=>false
def z6 (Θ:dq) (o:Op):Bool:=still o&& !pM o&&(match o with
 | .convert _ T' _=>(match Θ.find T' with
  |some i=>(match i.ty with
   | .int _=>true
   |_=>false)
  |none=>false)
 |_=>true)
def kj (ops:Array Oper) (oi:Oper) (rest:Nat):List Oper→Nat→Bool
 |[],_=>true
 |oj::r,j=>(bif Nat.testBit rest j then oi.apart ops oj else true)&&kj ops oi rest r (j+1)
def aZ (o:Oper):Nat:=o.after.toList.foldr (fun e m=>bif Region.binds .any e then m|||2^e.on else m) 0
def aQ (i:Nat):List Nat→Nat→Nat→Nat
 |[],_,acc=>acc
 |m::r,j,acc=>aQ i r (j+1) (bif Nat.beq j i|| !(Nat.beq (m&&&acc) 0) then acc|||2^j else acc)
def xb (O:jt) (ops:Array Oper) (oi:Oper) (rest:Nat):List Oper→Nat→Bool
 |[],_=>true
 |oj::r,j=>(bif Nat.testBit rest j then oi.apart ops oj&&C8 O oj.op else true)&&xb O ops oi rest r (j+1)
def abB (Θ:dq) (O:jt) (ops:Array Oper) (as:List Nat) (full L i:Nat):Bool:=match as[i]?,ops[i]? with
 |some m,some oi=>!Nat.testBit L i&&Nat.beq (m&&&L) m&&Nat.beq (aQ i as 0 0&&&L) 0&&(Nat.beq (full^^^(aQ i as 0 0|||L)) 0||(quiet oi.op&&(!pM oi.op&&xb O ops oi (full^^^(aQ i as 0 0|||L)) ops.toList 0))||(z6 Θ oi.op&&kj ops oi (full^^^(aQ i as 0 0|||L)) ops.toList 0))
 |_,_=>false
def aM:Operand→List Nat
 | .tmp i=>[i]
 |_=>[]
def fc:Option Operand→List Nat
 |none=>[]
 |some x=>aM x
def aR (ops:Array Oper) (o:Oper):List Nat:=match o.op with
 | .call c=>c.args.toList.flatMap aM
 | .buildSlice _ _ ps=>ps.toList.flatMap fun q=>aM q.2
 | .load _ (.tmp x)=>(match abA ops x with
  |some s=>[x,s]
  |none=>[x])
 | .slice _ x lo hi _=>aM x++(fc lo++fc hi)
 | .indexAddr _ x ix=>aM x++aM ix
 |_=>[]
def jZ (o:Oper):Bool:=match o.op with
 | .call { callee:=.value (.func _),.. }=>true
 | .load ..=>true
 | .slice ..=>true
 | .indexAddr ..=>true
 |_=>false
def Hr (ops:Array Oper) (oi oj:Oper):Bool:=(match oi.dst,oj.dst with
  |some a,some b=>!Nat.beq a b&& !(aR ops oj).any (Nat.beq a)&& !(aR ops oi).any (Nat.beq b)
  |_,_=>false)&&((jZ oi&&jZ oj)|| !(aR ops oi).any fun r=>(aR ops oj).any (Nat.beq r))
def D2 (ops:Array Oper) (as:List Nat):List Nat→Bool
 |[]=>true
 |i::r=>(r.all fun j=>match as[j]?,ops[i]?,ops[j]? with
   |some m,some oi,some oj=>!Nat.beq i j&&(Nat.testBit m i||Hr ops oi oj)
   |_,_,_=>false)&&D2 ops as r
def eo (l:List Nat):Nat:=l.foldr (fun i m=>m|||2^i) 0
def mA (as:List Nat):Nat→List Nat→Bool
 |_,[]=>true
 |L,i::r=>(match as[i]? with
  |some m=>Nat.beq (m&&&L) m
  |none=>false)&&mA as (L|||2^i) r
def ah5 (ops:Array Oper) (as:List Nat) (full L:Nat) (l:List Nat):Bool:=
 !l.isEmpty&&(l.all fun i=>Nat.blt i ops.size&& !Nat.testBit L i&&Nat.beq (aQ i as 0 0&&&L) 0&&Nat.beq (full^^^(aQ i as 0 0|||L|||eo l)) 0)&&D2 ops as l&&mA as L l
def rR (ops:Array Oper) (as:List Nat) (ds:List (List Nat)):List Nat→Bool
 |[]=>true
 |i::r=>(r.all fun j=>match ops[i]?,ops[j]? with
   |some oi,some oj=>!Nat.beq i j&&(Nat.testBit (aQ i as 0 0) j||(YE ds oi oj||exB oi oj))
   |_,_=>false)&&rR ops as ds r
def abC (Θ:dq) (ops:Array Oper) (as:List Nat) (full L i:Nat):Bool:=match ops[i]? with
 |some oi=>z6 Θ oi.op&&kj ops oi (full^^^(full&&&(aQ i as 0 0|||L|||aZ oi))) ops.toList 0
 |none=>false
def ah6 (Θ:dq) (ops:Array Oper) (as:List Nat) (full L:Nat) (l:List Nat) (ds:List (List Nat)):Bool:=
 !l.isEmpty&&(l.all fun i=>Nat.blt i ops.size&& !Nat.testBit L i&&Nat.beq (aQ i as 0 0&&&L) 0&&(Nat.beq (full^^^(aQ i as 0 0|||L|||eo l)) 0||abC Θ ops as full L i))&&rR ops as ds l&&mA as L l&&l.all fun i=>match ops[i]? with
  |some o=>D1 ds o&& !pM o.op
  |none=>false
def fR (Θ:dq) (O:jt) (ops:Array Oper) (as:List Nat) (full:Nat):Nat→OT→Bool
 |L,.done=>Nat.beq L full
 |L,.one i t=>abB Θ O ops as full L i&&fR Θ O ops as full (L|||2^i) t
 |L,.any l t=>ah5 ops as full L l&&fR Θ O ops as full (L|||eo l) t
 |L,.own _ t=>fR Θ O ops as full L t
 |L,.par l ds t=>ah6 Θ ops as full L l ds&&fR Θ O ops as full (L|||eo l) t
def OT.len:OT→Nat
 | .done=>0 | .one _ t=>t.len+1 | .any l t=>t.len+l.length | .par l _ t=>t.len+l.length | .own _ t=>t.len
def aqz (Θ:dq) (O:jt) (ops:Array Oper) (l:OT):Bool:=Region.noSelect ops&&Nat.ble l.len ops.size&&fR Θ O ops (ops.toList.map aZ) (2^ops.size - 1) 0 l
def B7 (S:St):St:=S.map fun a=>match a with
 | .al t s []=>.al t s []
 | .al ..=>.dead
 | .ad ..=>.dead
 | .cut ..=>.dead
 |a=>a
def abD:List (Nat×OT)→Nat→Option OT
 |[],_=>none
 |q::r,k=>bif Nat.beq q.1 k then some q.2 else abD r k
def fe (h:Hint) (O:jt):Code→Bool
 | .region id ops true=>(match abD h.bj id with
  |some l=>aqz h.tab O ops l
  |none=>true)
 | .seq a b=>fe h O a&&fe h O b
 | .cond _ a b=>fe h O a&&fe h O b
 | .block _ c=>fe h O c
 | .loop c=>fe h O c
 |_=>true
def keyOf:Code→Nat
 | .region id _ _=>id
 | .seq a _=>keyOf a
 | .block _ c=>keyOf c
 | .loop c=>keyOf c
 |_=>0
def oq (ops:Array Oper):Bool:=ops.toList.all fun o=>!pM o.op
def gd:Code→Bool
 | .region _ ops _=>oq ops
 | .seq a b=>gd a&&gd b
 | .cond _ a b=>gd a&&gd b
 | .block _ c=>gd c
 | .loop c=>gd c
 |_=>true
abbrev Ks:=Ex→St→Option aa
def Hint.fS (h:Hint) (key:Nat) (K:Ks):Ks:=fun e S=>match ao6 h.outs key e.num with
 |some ks=>(match tq ks S with
  |some S1=>K e S1
  |none=>none)
 |none=>none
noncomputable def pe (h:Hint) (O:jt) (L:Nat→St→Ks→Option aa):Code→St→Ks→Option aa
 | .skip,S,K=>K .n S
 | .region id ops false,S,K=>nu h O ops (List.range ops.size) S (fun S1=>K .n (YB h.frz id (B7 S1)))
 | .region id ops true,S,K=>match abD h.bj id with
  |some l=>fF h O ops l S (fun S1=>K .n (YB h.frz id (B7 S1)))
  |none=>none
 | .seq a b,S,K=>pe h O L a S (fun e S1=>match e with
  | .n=>pe h O L b S1 K
  |e=>K e S1)
 | .cond c x y,S,K=>match S.rd h.tab 0 c with
  |some ⟨.bool,_,q⟩=>bif q then pe h O L x S K else pe h O L y S K
  |_=>none
 | .block id c,S,K=>pe h O L c S (fun e S1=>match e with
  | .x id'=>bif Nat.beq id' id then K .n S1 else K (.x id') S1
  |e=>K e S1)
 | .loop c,S,K=>match h.clean (keyOf c) S with
  |some S1=>L (keyOf c) S1 (h.fS (keyOf c) K)
  |none=>none
 | .exit id,S,K=>K (.x id) S
 | .ret,S,K=>K .r S
 |_,_,_=>none
def ue (Lf:Nat→Nat→St→Ks→Option aa) (N n awQ:Nat):Nat→St→Ks→Option aa:=fun key S K=>bif Nat.beq key awQ then Lf n key S K else Lf N key S K
noncomputable def kL (h:Hint) (O:jt) (L:Nat→St→Ks→Option aa) (c:Code) (S:St) (K:Ks):Option aa:=
 pe h O L c S (fun e S1=>match e with
  | .n=>(match h.clean (keyOf c) S1 with
   |some S2=>L (keyOf c) S2 K
   |none=>none)
  |e=>K e S1)
def nZ (Θ:dq) (S:St):List ResultVar→Option (List TV×St)
 |[]=>some ([],S)
 | .tmp t::r=>match S.dN (.tmp t) (S.at t) with
  |some (a,S1)=>match nZ Θ S1 r with
   |some (l,S2)=>some (a::l,S2)
   |none=>none
  |none=>none
 | .cell t T::r=>match S.at t with
  | .v ⟨.ptr ty,.o _ _ me,x⟩ []=>match nZ Θ (S.put (some t) .dead) r with
   |some (l,S2)=>bif Θ.is T ty then some (⟨ty,me,x⟩::l,S2) else none
   |none=>none
  |_=>none
def ao7:Arg→AV
 | .tv a=>.v a []
 | .fn f cu=>.lu f (cu.map .kv)
def start (fn:Func) (args:List Arg):St:=args.map ao7++List.replicate (fn.ntmps - args.length) .undef
def D3:Bool→TV→Option TV
 |false,b=>some b
 |true,⟨.ptr t,.o _ _ me,x⟩=>some ⟨t,me,x⟩
 |true,_=>none
noncomputable def km (h:Hint) (O:jt) (L:Nat→St→Ks→Option aa) (fn:Func) (args:List Arg) (K:aa→Option aa):Option aa:=
 match fn.body with
 |some c=>pe h O L c (start fn args) (fun e S=>match e with
  | .x _=>none
  |_=>match nZ h.tab S fn.results.toList with
   |some (l,S1)=>(match h.xa with
    |none=>K ⟨l,[]⟩
    |some q=>match S1.at q.1 with
     | .v b []=>(match D3 q.2 b with
      |some c=>K ⟨l,[c]⟩
      |none=>none)
     |_=>none)
   |none=>none)
 |none=>none
end Go.Pv
namespace Go.Pv
set_option linter.unusedVariables false
set_option linter.unusedSimpArgs false
def cK {σ:Type} (X:(σ→Option aa)→Option aa):Prop:=∃ o:Option σ,∀ K,X K=o.bind K
theorem cK.none {σ:Type}:cK (σ:=σ) fun _=>none:=⟨.none,fun _=>rfl⟩
theorem cK.pure {σ:Type} (s:σ):cK fun K=>K s:=⟨some s,fun _=>rfl⟩
theorem cK.bind {σ τ:Type} {X:(σ→Option aa)→Option aa} {Y:σ→(τ→Option aa)→Option aa} (h:cK X) (hy:∀ s,cK (Y s)):cK fun K=>X fun s=>Y s K:=by
 obtain⟨o,ho⟩:=h
 cases o with
 |none=>exact⟨.none,fun K=>ho _⟩
 |some s=>
  obtain⟨o',G3⟩:=hy s
  exact⟨o',fun K=>(ho _).trans (G3 K)⟩
theorem cK.bif {σ:Type} {X Y:(σ→Option aa)→Option aa} (c:Bool) (hx:cK X) (hy:cK Y):cK fun K=>bif c then X K else Y K:=by cases c<;>assumption
def ot (O:jt):Prop:=∀ f as,cK (O.run f as)
def dI (X:Ks→Option aa):Prop:=∃ o:Option (Ex×St),∀ K,X K=o.bind fun q=>K q.1 q.2
theorem dI.none:dI fun _=>none:=⟨.none,fun _=>rfl⟩
theorem dI.pure (e:Ex) (S:St):dI fun K=>K e S:=⟨some (e,S),fun _=>rfl⟩
theorem dI.bind {X:Ks→Option aa} {Y:Ex→St→Ks→Option aa} (h:dI X) (hy:∀ e S,dI (Y e S)):dI fun K=>X fun e S=>Y e S K:=by
 obtain⟨o,ho⟩:=h
 cases o with
 |none=>exact⟨.none,fun K=>ho _⟩
 |some s=>
  obtain⟨o',G3⟩:=hy s.1 s.2
  exact⟨o',fun K=>(ho _).trans (G3 K)⟩
theorem dI.of {X:(St→Option aa)→Option aa} {Y:St→Ks→Option aa} (h:cK X) (hy:∀ S,dI (Y S)):dI fun K=>X fun S=>Y S K:=by
 obtain⟨o,ho⟩:=h
 cases o with
 |none=>exact⟨.none,fun K=>ho _⟩
 |some s=>
  obtain⟨o',G3⟩:=hy s
  exact⟨o',fun K=>(ho _).trans (G3 K)⟩
theorem dI.to {X:Ks→Option aa} {Y:Ex→St→(aa→Option aa)→Option aa} (h:dI X) (hy:∀ e S,cK (Y e S)):cK fun K=>X fun e S=>Y e S K:=by
 obtain⟨o,ho⟩:=h
 cases o with
 |none=>exact⟨.none,fun K=>ho _⟩
 |some s=>
  obtain⟨o',G3⟩:=hy s.1 s.2
  exact⟨o',fun K=>(ho _).trans (G3 K)⟩
variable {h:Hint} {O:jt} {ops:Array Oper}
theorem D4 (hO:ot O) (o:Oper) (f:FuncId) (cal:Option Nat) (as:List Operand) (ts:List TypeId) (S:St):cK (hJ h O o f cal as ts S):=by
 unfold hJ
 split
 ·split
  ·refine(hO f _).bind fun ret=>?_
   split
   ·exact cK.bif _ (cK.pure _) cK.none
   ·exact cK.none
  ·exact cK.none
 ·exact cK.none
theorem Rg (hO:ot O) (o:Oper) (f:FuncId) (j:Nat) (as:List Operand) (ts:List TypeId) (S:St):cK (rQ h O o f j as ts S):=by
 unfold rQ
 split
 ·split
  ·split
   ·refine cK.bif _ ?_ cK.none
    split
    ·refine cK.bif _ ?_ cK.none
     refine(hO f _).bind fun ret=>?_
     split
     ·refine cK.bif _ ?_ cK.none
      split
      ·split
       ·split
        ·exact cK.pure _
        ·exact cK.none
       ·exact cK.none
      ·exact cK.none
     ·exact cK.none
    ·exact cK.none
   ·exact cK.none
  ·exact cK.none
 ·exact cK.none
theorem D5 (hO:ot O) (o:Oper) (hn:pM o.op=false) (S:St):cK (hY h O o S):=by
 unfold hY
 split
 ·split
  ·exact Rg hO ..
  ·exact D4 hO ..
 ·split
  ·exact D4 hO ..
  ·exact cK.none
 ·rename_i ho;rw[ho] at hn;cases hn
 ·rename_i ho;rw[ho] at hn;cases hn
 ·split
  ·exact cK.bif _ (cK.pure _) cK.none
  ·exact cK.none
theorem iI (hO:ot O) (i:Nat) (hn:∀ o,ops[i]?=some o→pM o.op=false) (S:St):cK (aT h O ops i S):=by
 unfold aT
 split
 ·exact cK.none
 ·rename_i o ho
  have hn:=hn o ho
  split
  ·exact D5 hO _ hn _
  ·split
   ·split
    ·exact cK.bif _ (cK.bif _ (D5 hO _ hn _) (cK.pure _)) (cK.bif _ (cK.pure _) (D5 hO _ hn _))
    ·exact cK.pure _
    ·exact cK.none
   ·exact cK.none
theorem D6 (hp:oq ops=true) (i:Nat) (o:Oper) (ho:ops[i]?=some o):pM o.op=false:=by
 unfold oq at hp
 have:=List.all_eq_true.1 hp o (by rw[←Array.getElem?_toList] at ho;exact List.mem_of_getElem? ho)
 simpa using this
theorem z7 (hO:ot O) (hp:oq ops=true):∀ (l:List Nat) (S:St),cK (nu h O ops l S)
 |[],S=>cK.pure S
 |i::r,S=>(iI hO i (D6 hp i) S).bind fun S1=>z7 hO hp r S1
theorem Hs (hO:ot O) (hp:oq ops=true):∀ (l:List Nat) (S:St),cK (nw h O ops l S)
 |[],S=>cK.pure S
 |i::r,S=>by
  simp only[show nw h O ops (i::r) S=fun K=>nw h O ops (i::r) S K from rfl,nw]
  split
  ·exact cK.bif _ ((iI hO i (D6 hp i) S).bind fun S1=>Hs hO hp r S1) cK.none
  ·exact cK.none
theorem mB (hO:ot O) (hp:oq ops=true):∀ (t:OT) (S:St),cK (fF h O ops t S)
 | .done,S=>cK.pure S
 | .one i t,S=>(iI hO i (D6 hp i) S).bind fun S1=>mB hO hp t S1
 | .any l t,S=>(Hs hO hp l S).bind fun S1=>mB hO hp t S1
 | .own d t,S=>by
  show cK fun K=>fF h O ops (.own d t) S K
  simp only[fF]
  cases Vo S d with
  |none=>exact cK.none
  |some q=>exact cK.bif _ (mB hO hp t q.2) cK.none
 | .par l ds t,S=>cK.bif _ ((z7 hO hp l S).bind fun S1=>mB hO hp t S1) cK.none
def YF (h:Hint) (L:Nat→St→Ks→Option aa) (key:Nat):Prop:=∀ (ks:List Kd) (x:rD ks),oo h.loops key=some ks→dI fun K=>L key (shape ks x) (h.fS key K)
def eR:Code→List Nat
 | .seq a b=>eR a++eR b
 | .cond _ a b=>eR a++eR b
 | .block _ c=>eR c
 | .loop c=>keyOf c::eR c
 |_=>[]
theorem xc {S S1:St} {key:Nat} (e:h.clean key S=some S1):∃ ks x,oo h.loops key=some ks∧S1=shape ks x:=by
 unfold Hint.clean at e
 split at e
 case h_2=>cases e
 rename_i ks zQ
 unfold tq at e
 cases hk:gP ks ks with
 |false=>rw[hk] at e;cases e
 |true=>
  rw[hk] at e
  simp only[cond_true] at e
  split at e
  case h_2=>cases e
  rename_i x hx
  injection e with e
  exact⟨ks,x,zQ,e.symm⟩
theorem uX (hO:ot O) {L:Nat→St→Ks→Option aa}:∀ (c:Code) (S:St),gd c=true→(∀ k∈eR c,YF h L k)→dI (pe h O L c S)
 | .skip,S,_,_=>dI.pure _ _
 | .region id ops false,S,hp,_=>dI.of (z7 hO hp _ S) fun S1=>dI.pure _ _
 | .region id ops true,S,hp,_=>by
  show dI fun K=>pe h O L (.region id ops true) S K
  simp only[pe]
  split
  ·exact dI.of (mB hO hp _ S) fun S1=>dI.pure _ _
  ·exact dI.none
 | .seq a b,S,hp,hL=>by
  simp only[gd,Bool.and_eq_true] at hp
  show dI fun K=>pe h O L (.seq a b) S K
  simp only[pe]
  refine dI.bind (uX hO a S hp.1 fun k hk=>hL k (by simp[eR,hk])) fun e S1=>?_
  cases e with
  |n=>exact uX hO b S1 hp.2 fun k hk=>hL k (by simp[eR,hk])
  |x id=>exact dI.pure _ _
  |r=>exact dI.pure _ _
 | .cond c x y,S,hp,hL=>by
  simp only[gd,Bool.and_eq_true] at hp
  show dI fun K=>pe h O L (.cond c x y) S K
  simp only[pe]
  split
  ·rename_i q _
   cases q with
   |true=>exact uX hO x S hp.1 fun k hk=>hL k (by simp[eR,hk])
   |false=>exact uX hO y S hp.2 fun k hk=>hL k (by simp[eR,hk])
  ·exact dI.none
 | .block id c,S,hp,hL=>by
  simp only[gd] at hp
  show dI fun K=>pe h O L (.block id c) S K
  simp only[pe]
  refine dI.bind (uX hO c S hp fun k hk=>hL k (by simpa[eR] using hk)) fun e S1=>?_
  cases e with
  |n=>exact dI.pure _ _
  |x id'=>
   cases h:Nat.beq id' id with
   |true=>exact⟨some (.n,S1),fun K=>by simp[h]⟩
   |false=>exact⟨some (.x id',S1),fun K=>by simp[h]⟩
  |r=>exact dI.pure _ _
 | .loop c,S,_,hL=>by
  show dI fun K=>pe h O L (.loop c) S K
  simp only[pe]
  split
  ·rename_i S1 hS1
   obtain⟨ks,x,hk,rfl⟩:=xc hS1
   exact hL (keyOf c) (by simp[eR]) ks x hk
  ·exact dI.none
 | .exit id,S,_,_=>dI.pure _ _
 | .ret,S,_,_=>dI.pure _ _
 | .rangeFunc ..,S,_,_=>dI.none
 | .scope _,S,_,_=>dI.none
 | .label _,S,_,_=>dI.none
 | .goto _,S,_,_=>dI.none
 | .refuse _,S,_,_=>dI.none
theorem Ht (h:Hint) (key:Nat) (e:Ex) (S:St):dI fun K=>h.fS key K e S:=by
 unfold Hint.fS
 split
 ·split
  ·exact dI.pure _ _
  ·exact dI.none
 ·exact dI.none
theorem D7 (fn:Func) (S:St):cK fun(K:aa→Option aa)=>(match nZ h.tab S fn.results.toList with
   |some (l,S1)=>(match h.xa with
    |none=>K ⟨l,[]⟩
    |some q=>match S1.at q.1 with
     | .v b []=>(match D3 q.2 b with
      |some c=>K ⟨l,[c]⟩
      |none=>none)
     |_=>none)
   |none=>none):=by
 split
 ·split
  ·exact cK.pure _
  ·split
   ·split
    ·exact cK.pure _
    ·exact cK.none
   ·exact cK.none
 ·exact cK.none
theorem Rh (hO:ot O) {L:Nat→St→Ks→Option aa} {fn:Func} {body:Code} (hb:fn.body=some body) (hp:gd body=true) (hL:∀ k∈eR body,YF h L k) (args:List Arg):cK (km h O L fn args):=by
 unfold km
 rw[hb]
 simp only
 refine dI.to (uX hO body _ hp hL) fun e S=>?_
 cases e with
 |n=>exact D7 fn S
 |x id=>exact cK.none
 |r=>exact D7 fn S
end Go.Pv
namespace Go.Pv
set_option linter.unusedVariables false
set_option linter.unusedSimpArgs false
def isAgg:Ty→Bool
 | .pair _ _=>true | .unit=>true | .arr _ _=>true |_=>false
def aq (t:Ty) (v:Value) (cs:List Value):Prop:=if isAgg t=true then v=.agg cs.toArray else cs=[v]
section
variable (w:World) (Av:Nat→Prop) (H:Nat→Value) (tm:Nat→Value) (S:St)
structure Ref (t:Ty) (s:Nat) (p:Path) (r:TV) (cN:List Value):Prop where
 at_:∃ ex,S.at s=.v r ex∧open_ p ex
 val:valid p r.t r.x
 get:∃ b,aX p r.t r.m r.x=some b∧b.t=t
 mat:aq r.t (tm s) cN
def mC:IG→Value→Prop
 | .kv a,u=>K w Av a.t a.x [u]
 | .pl t s p,u=>∃ r cN cs,Ref tm S (.ptr t) s p r cN∧aN w p r.t cN=some cs∧aq (.ptr t) u cs
def Holds (own:Nat→Prop):AV→Value→Prop
 | .dead,_=>True
 | .undef,v=>v=undef
 | .v a ex,v=>∃ cs,aq a.t v cs∧M w Av H a.t a.m a.x cs own ex
 | .ud l,v=>∃ (vs:List Value) (τ:Nat→Nat),v=.tuple vs.toArray∧vs.length=l.length∧
   ∀ (j:Nat) (a:TV),l[j]?=some (some a)→∃ u cs,vs[j]?=some u∧aq a.t u cs∧M w Av H a.t a.m a.x cs (fun g=>own g∧τ g=j) []
 | .al t s p,v=>∃ r cN cs,Ref tm S t s p r cN∧aN w p r.t cN=some cs∧aq t v cs
 | .ad t s p,v=>∃ r cN g off,Ref tm S t s p r cN∧addrAt w p r.t cN none=some (g,off)∧v=.pointer (some ⟨g,off,none⟩)
 | .cut t s p lo hi,v=>∃ r cN t' A n c,Ref tm S t s p r cN∧t=.sl t'∧aN w p r.t cN=some [.slice A n c]∧lo≤hi∧hi≤n∧
   v=.slice (if c=lo then A else A.map (·.add (lo*t'.size))) (hi - lo) (c - lo)
 | .lu f cu,v=>∃ vs:List Value,v=.func (.func f) #[] vs.toArray∧vs.length=cu.length∧∀ (j:Nat) (c:IG),cu[j]?=some c→∃ u,vs[j]?=some u∧mC w Av tm S c u
end
structure Fr (w0:World) (W0:Nat→Prop) (w:World):Prop where
 os:w.os=w0.os
 tape:w.tape=w0.tape
 output:w.output=w0.output
 size:w0.heap.size≤w.heap.size
 block:∀ g,g<w0.heap.size→¬W0 g→w.heap[g]?=w0.heap[g]?
def Av (σ:Nat→Option Nat) (Z:Nat→Prop) (g:Nat):Prop:=(∃ i,σ g=some i)∨Z g
def bU (a:Act) (i:Nat):Value:=a.tmps.getD i undef
structure aW (σ:Nat→Option Nat) (w0:World) (W0 Z:Nat→Prop) (H:Nat→Value) (S:St) (a:Act) (w:World):Prop where
 len:S.length=a.tmps.size
 defers:a.defers=[]
 fr:Fr w0 W0 w
 new:∀ g i,σ g=some i→w0.heap.size≤g∨W0 g
 lt:∀ g i,σ g=some i→g<w.heap.size
 old:∀ g,Z g→σ g=none∧g<w0.heap.size
 holds:∀ i,Holds w (Av σ Z) H (bU a) S (fun g=>σ g=some i) (S.at i) (bU a i)
def Rel (w0:World) (W0 Z:Nat→Prop) (H:Nat→Value) (S:St) (a:Act) (w:World):Prop:=∃ σ,aW σ w0 W0 Z H S a w
theorem eS {w w':World} {Wr q7:Nat→Prop} {H:Nat→Value} (bQ:aP w w' Wr q7):∀ (p:Path) {t:Ty} {m:Md} {x:t.I} {cs:List Value} {ow:Nat→Prop} {hs:List Path} (l:Option (Nat×Nat)),
  M w Wr H t m x cs ow hs→(∀ g,ow g→g<w.heap.size→w'.heap[g]?=w.heap[g]?)→open_ p hs→valid p t x→aN w' p t cs=aN w p t cs∧addrAt w' p t cs l=addrAt w p t cs l
 |[],_,_,_,_,_,_,_,_,_,_,_=>⟨rfl,rfl⟩
 | .deref::p,.ptr t,m,x,cs,ow,hs,l,h,hb,ho,hv=>by
  simp only[valid] at hv
  simp only[M] at h
  rcases h with⟨hn,_⟩ |⟨hk,h⟩ |⟨T,tag,me,g,cur,rfl,rfl,ht,q8,hw,h⟩
  ·exact absurd hn ho.not_nil
  ·simp only[K] at h
   obtain⟨g,off,cur,T,fr,rfl,hng,hw,hl,h⟩:=h
   have G4:=(bQ.same g hng (a7 hw)).trans hw
   have ih:=eS bQ p (H:=H) (some (g,off)) (gb (ow:=fun _=>False) (hs:=sub .deref hs) t h) (fun _ h=>h.elim) ho.sub hv
   simp only[aN,addrAt,bh hw hl,bh G4 hl,Option.bind_some]
   exact ih
  ·have G4:=(hb g q8 (a7 hw)).trans hw
   have jg:0+t.size≤cur.size:=by rw[←(eP t h).1];simp
   have gZ:(cur.toList.drop 0).take t.size=cur.toList:=by rw[List.drop_zero,List.take_of_length_le (by rw[(eP t h).1];exact Nat.le_refl _)]
   have ih:=eS bQ p (some (g,0)) h (fun g hg=>hb g hg.1) ho.sub hv
   simp only[aN,addrAt,bh hw jg,bh G4 jg,Option.bind_some,gZ]
   exact ih
 | .fst::p,.pair a b',m,x,cs,ow,hs,l,h,hb,ho,hv=>by
  simp only[valid] at hv
  simp only[M] at h
  simp only[aN,addrAt]
  rcases h with⟨hn,_⟩ |⟨hk,h⟩ |⟨ma,mb,c0,c1,s,rfl,rfl,h0,h1⟩
  ·exact absurd hn ho.not_nil
  ·simp only[K] at h
   obtain⟨c0,c1,rfl,h0,h1⟩:=h
   rw[←(lv a h0).1,List.take_left]
   exact eS bQ p (H:=H) l (gb (ow:=fun _=>False) (hs:=sub .fst hs) a h0) (fun _ h=>h.elim) ho.sub hv
  ·rw[←(eP a h0).1,List.take_left]
   exact eS bQ p l h0 (fun g hg=>hb g hg.1) ho.sub hv
 | .snd::p,.pair a b',m,x,cs,ow,hs,l,h,hb,ho,hv=>by
  simp only[valid] at hv
  simp only[M] at h
  simp only[aN,addrAt]
  rcases h with⟨hn,_⟩ |⟨hk,h⟩ |⟨ma,mb,c0,c1,s,rfl,rfl,h0,h1⟩
  ·exact absurd hn ho.not_nil
  ·simp only[K] at h
   obtain⟨c0,c1,rfl,h0,h1⟩:=h
   rw[←(lv a h0).1,List.drop_left]
   exact eS bQ p (H:=H) _ (gb (ow:=fun _=>False) (hs:=sub .snd hs) b' h1) (fun _ h=>h.elim) ho.sub hv
  ·rw[←(eP a h0).1,List.drop_left]
   exact eS bQ p _ h1 (fun g hg=>hb g hg.1) ho.sub hv
 | .idx i::p,.sl t,m,xs,cs,ow,hs,l,h,hb,ho,hv=>by
  simp only[valid] at hv
  obtain⟨hi,hv⟩:=hv
  have e6:List.getD xs i t.z=xs[i]:=by simp[List.getD_eq_getElem?_getD,List.getElem?_eq_getElem hi]
  simp only[M] at h
  rcases h with⟨hn,_⟩ |⟨hk,h⟩ |⟨T,tag,me,A,c,rfl,rfl,hc,ht,h⟩
  ·exact absurd hn ho.not_nil
  ·simp only[K] at h
   obtain⟨A,c,rfl,hc,h⟩:=h
   obtain⟨g,off,cur,T,fr,rfl,hng,hw,hl,h⟩:=h (by omega)
   have G4:=(bQ.same g hng (a7 hw)).trans hw
   have hbound:off+i*t.size+t.size≤cur.size:=by
    have:=Nat.mul_le_mul_right t.size (show i+1≤xs.length from hi)
    rw[Nat.add_mul,Nat.one_mul] at this
    omega
   have hK:=h i hi
   rw[←e6] at hK
   have ih:=eS bQ p (H:=H) (some (g,off+i*t.size)) (gb (ow:=fun _=>False) (hs:=sub (.idx i) hs) t hK) (fun _ h=>h.elim) ho.sub hv
   simp only[aN,addrAt,bh hw hbound,bh G4 hbound,Option.bind_some]
   exact ih
  ·rcases h with⟨rfl,_⟩ |⟨g,cur,τ,rfl,q8,hw,jg,hm,h⟩
   ·simp at hi
   ·have G4:=(hb g q8 (a7 hw)).trans hw
    have hbound:i*t.size+t.size≤cur.size:=by
     have h1:=Nat.mul_le_mul_right t.size (show i+1≤xs.length from hi)
     have h2:=Nat.mul_le_mul_right t.size hc
     rw[Nat.add_mul,Nat.one_mul] at h1
     omega
    have hM:=h i hi
    rw[←e6] at hM
    have ih:=eS bQ p (some (g,i*t.size)) hM (fun g hg=>hb g hg.1) ho.sub hv
    simp only[aN,addrAt,Nat.zero_add,bh hw hbound,bh G4 hbound,Option.bind_some]
    exact ih
variable {w w':World} {A A':Nat→Prop} {H:Nat→Value} {tm rH:Nat→Value} {S S':St}
structure Kept (w w':World) (A:Nat→Prop) (H:Nat→Value) (tm rH:Nat→Value) (S S':St) (s:Nat):Prop where
 at_:∀ r ex,S.at s=.v r ex→S'.at s=.v r ex
 tm_:rH s=tm s
 hold:∃ own,Holds w A H tm S own (S.at s) (tm s)∧∀ g,own g→g<w.heap.size→w'.heap[g]?=w.heap[g]?
theorem eT {t:Ty} {v:Value} {cs cJ:List Value} (h:aq t v cs) (h':aq t v cJ):cs=cJ:=by
 unfold aq at*
 split at h
 ·rename_i ha
  rw[if_pos ha] at h'
  rw[h] at h'
  injection h' with h'
  simpa using h'
 ·rename_i ha
  rw[if_neg ha] at h'
  rw[h,h']
theorem Ref.kept {t:Ty} {s:Nat} {p:Path} {r:TV} {cN:List Value} (bQ:aP w w' A A') (hk:Kept w w' A H tm rH S S' s) (h:Ref tm S t s p r cN):
  Ref rH S' t s p r cN∧∀ l,aN w' p r.t cN=aN w p r.t cN∧addrAt w' p r.t cN l=addrAt w p r.t cN l:=by
 obtain⟨⟨ex,h1,h2⟩,h3,h4,h5⟩:=h
 refine⟨⟨⟨ex,hk.at_ _ _ h1,h2⟩,h3,h4,by rw[hk.tm_];exact h5⟩,fun l=>?_⟩
 obtain⟨own,hh,hb⟩:=hk.hold
 rw[h1] at hh
 obtain⟨cs,hm,hM⟩:=hh
 obtain rfl:=eT h5 hm
 exact eS bQ p l hM hb h2 h3
theorem mC.kept {c:IG} {u:Value} (bQ:aP w w' A A') (hk:∀ t s p,c=.pl t s p→Kept w w' A H tm rH S S' s) (h:mC w A tm S c u):mC w' A' rH S' c u:=by
 cases c with
 |kv a=>exact bR bQ _ h
 |pl t s p=>
  obtain⟨r,cN,cs,hr,hc,hm⟩:=h
  obtain⟨h1,h2⟩:=hr.kept bQ (hk t s p rfl)
  exact⟨r,cN,cs,h1,by rw[(h2 none).1];exact hc,hm⟩
theorem Holds.kept {own IJ:Nat→Prop} {a:AV} {v:Value} (bQ:aP w w' A A') (ho:∀ g,own g→g<w.heap.size→w'.heap[g]?=w.heap[g]? ∧IJ g)
  (hk:∀ s,a.refs s=true→Kept w w' A H tm rH S S' s) (h:Holds w A H tm S own a v):Holds w' A' H rH S' IJ a v:=by
 cases a with
 |dead=>trivial
 |undef=>exact h
 |v a ex=>
  obtain⟨cs,h1,h2⟩:=h
  exact⟨cs,h1,aG bQ _ (fun g hg hl=>(ho g hg hl).1) (fun g hg hl=>(ho g hg hl).2) (fun _ h=>h) h2⟩
 |ud l=>
  obtain⟨vs,τ,h1,h2,h3⟩:=h
  refine⟨vs,τ,h1,h2,fun j a hj=>?_⟩
  obtain⟨u,cs,k1,k2,k3⟩:=h3 j a hj
  exact⟨u,cs,k1,k2,aG bQ _ (fun g hg hl=>(ho g hg.1 hl).1) (fun g hg hl=>⟨(ho g hg.1 hl).2,hg.2⟩) (fun _ h=>h) k3⟩
 |al t s p=>
  obtain⟨r,cN,cs,hr,hc,hm⟩:=h
  obtain⟨h1,h2⟩:=hr.kept bQ (hk s (by simp[AV.refs]))
  exact⟨r,cN,cs,h1,by rw[(h2 none).1];exact hc,hm⟩
 |ad t s p=>
  obtain⟨r,cN,g,off,hr,hc,hm⟩:=h
  obtain⟨h1,h2⟩:=hr.kept bQ (hk s (by simp[AV.refs]))
  exact⟨r,cN,g,off,h1,by rw[(h2 none).2];exact hc,hm⟩
 |cut t s p lo hi=>
  obtain⟨r,cN,t',A1,n,c,hr,ht,hc,hm⟩:=h
  obtain⟨h1,h2⟩:=hr.kept bQ (hk s (by simp[AV.refs]))
  exact⟨r,cN,t',A1,n,c,h1,ht,by rw[(h2 none).1];exact hc,hm⟩
 |lu f cu=>
  obtain⟨vs,h1,h2,h3⟩:=h
  refine⟨vs,h1,h2,fun j c hj=>?_⟩
  obtain⟨u,k1,k2⟩:=h3 j c hj
  refine⟨u,k1,k2.kept bQ (fun t s p e=>hk s ?_)⟩
  subst e
  simp only[AV.refs,List.any_eq_true]
  exact⟨_,List.mem_of_getElem? hj,by simp⟩
theorem cQ (S:St) (d:Nat) (a:AV) (i:Nat):St.at (S.set d a) i=if i=d∧d<S.length then a else S.at i:=by
 unfold St.at
 rw[List.getD_eq_getElem?_getD,List.getD_eq_getElem?_getD,List.getElem?_set]
 by_cases h:d=i
 ·subst h
  by_cases hl:d<S.length
  ·simp[hl]
  ·simp[hl]
 ·have h': ¬i=d:=fun e=>h e.symm
  simp[h,h']
theorem D8 (S:St) (f:AV→AV) (hf:f .dead=.dead) (i:Nat):St.at (S.map f) i=f (S.at i):=by
 unfold St.at
 rw[List.getD_eq_getElem?_getD,List.getD_eq_getElem?_getD,List.getElem?_map]
 cases S[i]? with
 |none=>simp[hf]
 |some a=>rfl
theorem ah7 (S:St) (d i:Nat):(S.kill d).at i=bif (S.at i).refs d then .dead else S.at i:=D8 S _ (by simp[AV.refs]) i
theorem kn (S:St) (d i:Nat):(S.weaken d).at i=bif (S.at i).e9 d then .dead else S.at i:=D8 S _ (by simp[AV.e9]) i
theorem abE (S:St) (d:Nat):(S.kill d).length=S.length:=by simp[St.kill]
theorem dP (S:St) (d:Nat) (a:AV) (i:Nat):(S.put (some d) a).at i=if i=d∧d<S.length then(bif a.refs d then .dead else a) else bif (S.at i).refs d&&(S.at d).zU then .dead else S.at i:=by
 simp only[St.put]
 cases (S.at d).zU
 ·simp only[cond_false,cQ,Bool.and_false]
 ·simp only[cond_true,cQ,abE,ah7,Bool.and_true]
theorem bW (S:St) (dst:Option Nat) (a:AV):(S.put dst a).length=S.length:=by
 cases dst with
 |none=>rfl
 |some d=>simp only[St.put];cases (S.at d).zU<;>simp[St.kill]
theorem aqA {own:Nat→Prop} {w:World} {A:Nat→Prop} {H:Nat→Value} {tm:Nat→Value} {S:St} {av:AV} {v:Value} {d:Nat} (h:Holds w A H tm S own av v) (hr:av.refs d=true):(S.at d).zU=true:=by
 cases av with
 |dead=>cases hr
 |undef=>cases hr
 |v a ex=>cases hr
 |ud l=>cases hr
 |al t s p=>
  obtain rfl:s=d:=Nat.eq_of_beq_eq_true hr
  obtain⟨r,cN,cs,h1,_⟩:=h
  obtain⟨ex,h2,_⟩:=h1.at_
  rw[h2];rfl
 |ad t s p=>
  obtain rfl:s=d:=Nat.eq_of_beq_eq_true hr
  obtain⟨r,cN,g,off,h1,_⟩:=h
  obtain⟨ex,h2,_⟩:=h1.at_
  rw[h2];rfl
 |cut t s p lo hi=>
  obtain rfl:s=d:=Nat.eq_of_beq_eq_true hr
  obtain⟨r,cN,t',A,n,c,h1,_⟩:=h
  obtain⟨ex,h2,_⟩:=h1.at_
  rw[h2];rfl
 |lu f cu=>
  simp only[AV.refs,List.any_eq_true] at hr
  obtain⟨c,hc,hr⟩:=hr
  obtain⟨vs,_,_,h3⟩:=h
  obtain⟨j,hj⟩:=List.mem_iff_getElem?.1 hc
  obtain⟨u,_,h4⟩:=h3 j c hj
  cases c with
  |kv a=>cases hr
  |pl t s p=>
   obtain rfl:s=d:=Nat.eq_of_beq_eq_true hr
   obtain⟨r,cN,cs,h1,_⟩:=h4
   obtain⟨ex,h2,_⟩:=h1.at_
   rw[h2];rfl
theorem z8 (a:Act) (d:Nat) (v:Value) (i:Nat):bU (a.put (some d) v) i=if i=d∧d<a.tmps.size then v else bU a i:=by
 unfold bU Act.put
 simp only[Array.getD_eq_getD_getElem?,Array.getElem?_setIfInBounds]
 by_cases h:d=i
 ·subst h
  by_cases hl:d<a.tmps.size
  ·simp[hl]
  ·simp[hl]
 ·have h': ¬i=d:=fun e=>h e.symm
  simp[h,h']
theorem abF (a:Act) (dst:Option Nat) (v:Value):(a.put dst v).tmps.size=a.tmps.size:=by
 cases dst<;>simp[Act.put]
theorem put_defers (a:Act) (dst:Option Nat) (v:Value):(a.put dst v).defers=a.defers:=by cases dst<;>rfl
theorem aW.put {σ dA:Nat→Option Nat} {w0:World} {W0 Z:Nat→Prop} {a:Act} {dst:Option Nat} {av:AV} {v:Value} (h:aW σ w0 W0 Z H S a w)
  (bQ:aP w w' (Av σ Z) (Av dA Z)) (ra:Fr w0 W0 w') (YG:∀ g i,dA g=some i→(w0.heap.size≤g∨W0 g)∧g<w'.heap.size) (hold:∀ g,Z g→dA g=none)
  (lz:∀ i g,i<S.length→dst≠some i→σ g=some i→w'.heap[g]?=w.heap[g]? ∧dA g=some i)
  (nm:∀ d,dst=some d→d<S.length→av.refs d=false→Holds w' (Av dA Z) H (bU (a.put dst v)) (S.put dst av) (fun g=>dA g=some d) av v):
  aW dA w0 W0 Z H (S.put dst av) (a.put dst v) w':=by
 have rb:∀ i,¬i<S.length→S.at i=.dead:=fun i hl=>by
  unfold St.at
  rw[List.getD_eq_getElem?_getD,List.getElem?_eq_none (by omega)]
  rfl
 refine⟨by rw[bW,abF];exact h.len,by rw[put_defers];exact h.defers,ra,fun g i hg=>(YG g i hg).1,fun g i hg=>(YG g i hg).2,fun g hg=>⟨hold g hg,(h.old g hg).2⟩,fun i=>?_⟩
 by_cases Hu:i<S.length
 rotate_left
 ·have:(S.put dst av).at i=.dead:=by
   unfold St.at
   rw[List.getD_eq_getElem?_getD,List.getElem?_eq_none (by rw[bW];omega)]
   rfl
  rw[this]
  trivial
 cases dst with
 |none=>
  have hk:∀ s,Kept w w' (Av σ Z) H (bU a) (bU a) S S s:=fun s=>by
   by_cases hs:s<S.length
   ·exact⟨fun _ _ h=>h,rfl,_,h.holds s,fun g hg _=>(lz s g hs (by simp) hg).1⟩
   ·exact⟨fun _ _ h=>h,rfl,fun _=>False,by rw[rb s hs];trivial,fun _ h=>h.elim⟩
  exact(h.holds i).kept bQ (fun g hg _=>lz i g Hu (by simp) hg) (fun s _=>hk s)
 |some d=>
  by_cases hi:i=d∧d<S.length
  ·obtain⟨rfl,hl⟩:=hi
   rw[dP,if_pos ⟨rfl,hl⟩,z8,if_pos ⟨rfl,by rw[←h.len];exact hl⟩]
   cases hr:av.refs i with
   |true=>simp[Holds]
   |false=>exact nm i rfl hl hr
  ·have nj: ¬(i=d∧d<a.tmps.size):=by rw[←h.len];exact hi
   rw[dP,if_neg hi,z8,if_neg nj]
   cases hr:(S.at i).refs d with
   |true=>rw[aqA (h.holds i) hr];simp[Holds]
   |false=>
    simp only[Bool.false_and,cond_false]
    by_cases hd:i=d
    ·subst hd
     rw[rb i (fun hl=>hi ⟨rfl,hl⟩)]
     trivial
    ·refine(h.holds i).kept bQ (fun g hg _=>lz i g Hu (by simpa using fun e=>hd e.symm) hg) (fun s hs=>?_)
     have z':s≠d:=fun e=>by subst e;rw[hr] at hs;cases hs
     refine⟨?_,?_,?_⟩
     ·intro r ex hv
      rw[dP,if_neg (fun e=>z' e.1),hv]
      rfl
     ·rw[z8,if_neg (fun e=>z' e.1)]
     ·by_cases hs:s<S.length
      ·exact⟨_,h.holds s,fun g hg _=>(lz s g hs (by simpa using fun e=>z' e.symm) hg).1⟩
      ·exact⟨fun _=>False,by rw[rb s hs];trivial,fun _ h=>h.elim⟩
def release (σ:Nat→Option Nat) (dst:Option Nat) (g:Nat):Option Nat:=if dst.isSome=true∧σ g=dst then none else σ g
theorem fG {σ:Nat→Option Nat} {dst:Option Nat} {g i:Nat} (h:release σ dst g=some i):σ g=some i∧dst≠some i:=by
 unfold release at h
 split at h
 ·cases h
 ·rename_i hn
  refine⟨h,fun e=>hn ⟨by rw[e];rfl,by rw[h,e]⟩⟩
theorem lS {σ:Nat→Option Nat} {dst:Option Nat} {g i:Nat} (hd:dst≠some i) (h:σ g=some i):release σ dst g=some i:=by
 unfold release
 rw[if_neg (fun e=>hd (by rw[←e.2,h])),h]
theorem uY {σ:Nat→Option Nat} {dst:Option Nat} {Z:Nat→Prop} {g:Nat} (h:Av (release σ dst) Z g):Av σ Z g:=by
 rcases h with⟨i,h⟩ |h
 ·exact .inl ⟨i,(fG h).1⟩
 ·exact .inr h
theorem aW.pure {σ:Nat→Option Nat} {w0:World} {W0 Z:Nat→Prop} {a:Act} {dst:Option Nat} {av:AV} {v:Value} (h:aW σ w0 W0 Z H S a w)
  (hv:Holds w (Av σ Z) H (bU a) S (fun _=>False) av v):aW (release σ dst) w0 W0 Z H (S.put dst av) (a.put dst v) w:=by
 have bQ:aP w w (Av σ Z) (Av (release σ dst) Z):=⟨fun _ _ _=>rfl,fun g _ hg=>uY hg⟩
 refine h.put bQ h.fr (fun g i hg=>⟨h.new g i (fG hg).1,h.lt g i (fG hg).1⟩) (fun g hg=>by unfold release;split<;>first |rfl |exact(h.old g hg).1) (fun i g _ hd hg=>⟨rfl,lS hd hg⟩) (fun d hd hl hr=>?_)
 subst hd
 refine hv.kept bQ (fun _ h _=>h.elim) (fun s hs=>?_)
 have z':s≠d:=fun e=>by subst e;rw[hr] at hs;cases hs
 refine⟨fun r ex hv=>?_,by rw[z8,if_neg (fun e=>z' e.1)],_,h.holds s,fun _ _ _=>rfl⟩
 rw[dP,if_neg (fun e=>z' e.1),hv]
 rfl
def ao8 (σ:Nat→Option Nat) (x:Operand) (g:Nat):Prop:=∃ i,x=.tmp i∧σ g=some i
theorem bo {σ:Nat→Option Nat} {w0:World} {W0 Z:Nat→Prop} {a:Act} {Θ:dq} {T:TypeId} {x:Operand} {av:AV} (h:aW σ w0 W0 Z H S a w) (he:S.dX Θ T x=some av):
  Holds w (Av σ Z) H (bU a) S (ao8 σ x) av (a.eval x):=by
 cases x with
 |tmp i=>
  simp only[St.dX,Option.some.injEq] at he
  subst he
  refine(h.holds i).kept (aP.refl _ _) (fun g hg _=>⟨rfl,i,rfl,hg⟩) (fun s _=>⟨fun _ _ h=>h,rfl,_,h.holds s,fun _ _ _=>rfl⟩)
 |const c=>
  simp only[St.dX] at he
  split at he
  ·rename_i b hb
   injection he with he
   subst he
   unfold nr at hb
   split at hb
   ·injection hb with hb;subst hb
    exact⟨[a.eval (.const _)],by simp only[aq,isAgg];rfl,by simp[M,K,Act.eval,Md.bG]⟩
   ·injection hb with hb;subst hb
    exact⟨[a.eval (.const _)],by simp only[aq,isAgg];rfl,by simp[M,K,Act.eval,Md.bG]⟩
   ·injection hb with hb;subst hb
    exact⟨[a.eval (.const _)],by simp only[aq,isAgg];rfl,by simp[M,K,Act.eval,Md.bG]⟩
   ·split at hb
    ·rename_i i hi
     split at hb
     ·rename_i t ht
      injection hb with hb
      subst hb
      refine⟨[.slice none 0 0],by simp[aq,isAgg,Act.eval],?_⟩
      simp only[M]
      exact .inr (.inr ⟨_,_,_,none,0,rfl,rfl,Nat.le_refl _,fun h hh=>(by cases hh),.inl (by simp)⟩)
     ·cases hb
    ·cases hb
   ·cases hb
  ·cases he
 |func f=>
  simp only[St.dX,Option.some.injEq] at he
  subst he
  exact⟨[],by simp[Act.eval],rfl,fun j c hj=>by simp at hj⟩
 |global g=>simp[St.dX] at he
theorem Ri {own:Nat→Prop} {t:Ty} {m:Md} {x:t.I} {cs:List Value} (h:M w A H t m x cs own []):K w (fun _=>False) t x cs:=M_K (fun _ _ h=>h.elim) t rfl (fun _ _ h=>h) h
theorem IK {t:Ty} {v:Value} {cs:List Value} (h:aq t v cs) (h1:∀ u∈cs,u.oneCell'=true):v.cells.toList=cs:=by
 unfold aq at h
 split at h
 ·subst h;rfl
 ·subst h
  have:=h1 v (by simp)
  cases v<;>first |rfl |(simp[Value.oneCell'] at this)
theorem ou:∀ (q r:Path),gy q (q++r)=true
 |[],_=>by simp[gy]
 | .idx i::q,r=>by simp[gy];exact ou q r
 | .deref::q,r=>by simp[gy];exact ou q r
 | .fst::q,r=>by simp[gy];exact ou q r
 | .snd::q,r=>by simp[gy];exact ou q r
theorem ov:∀ (q r:Path),gy (q++r) q=true
 |[],[]=>by simp[gy]
 |[],_::_=>by simp[gy]
 | .idx i::q,r=>by simp[gy];exact ov q r
 | .deref::q,r=>by simp[gy];exact ov q r
 | .fst::q,r=>by simp[gy];exact ov q r
 | .snd::q,r=>by simp[gy];exact ov q r
theorem ur {p:Path} {ex:List Path} (h:∀ q∈ex,gy q p=false):open_ p ex:=fun q hq s r e=>by
 have:=h q hq
 rw[e,ou] at this
 cases this
theorem uu {p:Path} {ex:List Path} (h:∀ q∈ex,gy q p=false):w8 p ex=[]:=by
 cases hs:w8 p ex with
 |nil=>rfl
 |cons q r=>
  have:q∈w8 p ex:=by rw[hs];simp
  have:=h _ (DY.1 this)
  rw[ov] at this
  cases this
end Go.Pv
