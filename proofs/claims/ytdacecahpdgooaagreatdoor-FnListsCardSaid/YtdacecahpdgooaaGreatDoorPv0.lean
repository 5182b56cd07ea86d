/- A verified evaluator of the program's form over pure values, part 0: what it tells of a function holds. -/
import Derived.Calls
import Derived.KernelRfl
import Derived.Laws.AppendOwn
import Derived.Laws.Sem
import Derived.Orders
namespace Go.Pv
set_option linter.unusedVariables false
set_option linter.unusedSimpArgs false
inductive Ty where
 |int (k:IntKind) |bool |str |sl (t:Ty) |ptr (t:Ty) |pair (a b:Ty) |unit |arr (n:Nat) (t:Ty)
 deriving DecidableEq,Inhabited
@[reducible] def Ty.I:Ty→Type
 | .int _=>Int | .bool=>Bool | .str=>ByteArray | .sl t=>List t.I | .ptr t=>t.I | .pair a b=>a.I×b.I | .unit=>Unit | .arr _ t=>List t.I
def Ty.size:Ty→Nat
 | .pair a b=>a.size+b.size | .unit=>0 | .arr n t=>n*t.size |_=>1
def Ty.z:(t:Ty)→t.I
 | .int _=>(0:Int) | .bool=>false | .str=>ByteArray.empty | .sl _=>[] | .ptr t=>t.z | .pair a b=>(a.z,b.z) | .unit=>() | .arr n t=>List.replicate n t.z
inductive Md where
 |k |o (T:TypeId) (tag:Option Nat) (m:Md) |p (a b:Md)
 deriving DecidableEq,Inhabited
def Md.bQ:Md→Bool
 | .k=>true | .o .. =>false | .p a b=>a.bQ&&b.bQ
inductive Step where
 |deref |fst |snd |idx (i:Nat)
 deriving DecidableEq,Inhabited
abbrev Path:=List Step
def sub (s:Step) (hs:List Path):List Path:=hs.filterMap fun p=>match p with
 |s'::r=>if s'=s then some r else none
 |[]=>none
section
variable (w:World) (Wr:Nat→Prop)
def K:(t:Ty)→t.I→List Value→Prop
 | .int k,n,cs=>cs=[.int k n]
 | .bool,b,cs=>cs=[.bool b]
 | .str,s,cs=>cs=[.string s]
 | .unit,_,cs=>cs=[]
 | .pair a b,x,cs=>∃ c0 c1,cs=c0++c1∧K a x.1 c0∧K b x.2 c1
 | .arr n t,xs,cs=>∃ eD:List (List Value),cs=eD.flatten∧eD.length=n∧xs.length=n∧∀ j (h:j<xs.length) (h':j<eD.length),K t xs[j] eD[j]
 | .sl t,xs,cs=>∃ A c,cs=[.slice A xs.length c]∧xs.length≤c∧(0<xs.length→∃ g off cur T fr,A=some ⟨g,off,none⟩∧ ¬Wr g∧w.heap[g]? =some (.cells cur T fr)∧off+xs.length*t.size≤cur.size∧∀ j (h:j<xs.length),K t xs[j] ((cur.toList.drop (off+j*t.size)).take t.size))
 | .ptr t,x,cs=>∃ g off cur T fr,cs=[.pointer (some ⟨g,off,none⟩)]∧ ¬Wr g∧w.heap[g]? =some (.cells cur T fr)∧off+t.size≤cur.size∧K t x ((cur.toList.drop off).take t.size)
def M (H:Nat→Value):(t:Ty)→(m:Md)→t.I→List Value→(Nat→Prop)→List Path→Prop
 | .sl t,m,xs,cs,ow,hs=>([]∈hs∧m.bQ=false∧∃ A c,cs=[.slice A xs.length c])∨(m.bQ=true∧K w Wr (.sl t) xs cs)∨
   ∃ T tag me A c,m=.o T tag me∧cs=[.slice A xs.length c]∧xs.length≤c∧(∀ h,tag=some h→H h=.slice A xs.length c)∧
    ((xs=[]∧c=0)∨∃ g cur,∃ τ:Nat→Nat,A=some ⟨g,0,none⟩∧ow g∧w.heap[g]? =some (.cells cur T (0,0))∧cur.size=c*t.size∧c≤maxLen∧
     ∀ j (h:j<xs.length),M H t me xs[j] ((cur.toList.drop (j*t.size)).take t.size) (fun g'=>ow g'∧g'≠g∧τ g'=j) (sub (.idx j) hs))
 | .ptr t,m,x,cs,ow,hs=>([]∈hs∧m.bQ=false∧cs.length=1∧∀ u∈cs,u.oneCell'=true)∨(m.bQ=true∧K w Wr (.ptr t) x cs)∨
   ∃ T tag me g cur,m=.o T tag me∧cs=[.pointer (some ⟨g,0,none⟩)]∧(∀ h,tag=some h→H h=.pointer (some ⟨g,0,none⟩))∧ow g∧w.heap[g]? =some (.cells cur T (0,0))∧
    M H t me x cur.toList (fun g'=>ow g'∧g'≠g) (sub .deref hs)
 | .pair a b,m,x,cs,ow,hs=>([]∈hs∧m.bQ=false∧cs.length=a.size+b.size∧∀ u∈cs,u.oneCell'=true)∨(m.bQ=true∧K w Wr (.pair a b) x cs)∨
   ∃ ma mb c0 c1,∃ s:Nat→Prop,m=.p ma mb∧cs=c0++c1∧M H a ma x.1 c0 (fun g'=>ow g'∧s g') (sub .fst hs)∧M H b mb x.2 c1 (fun g'=>ow g'∧ ¬s g') (sub .snd hs)
 | .int k,m,x,cs,_,_=>m.bQ=true∧K w Wr (.int k) x cs
 | .bool,m,x,cs,_,_=>m.bQ=true∧K w Wr .bool x cs
 | .str,m,x,cs,_,_=>m.bQ=true∧K w Wr .str x cs
 | .unit,m,x,cs,_,_=>m.bQ=true∧K w Wr .unit x cs
 | .arr n t,m,x,cs,_,_=>m.bQ=true∧K w Wr (.arr n t) x cs
end
end Go.Pv
namespace Go.Pv
set_option linter.unusedVariables false
set_option linter.unusedSimpArgs false
structure TV where
 t:Ty
 m:Md
 x:t.I
inductive Dj where
 |pl (t:Ty) (s:Nat) (p:Path)
 |kv (a:TV)
inductive AV where
 |dead
 |undef
 |v (a:TV) (ex:List Path)
 |qZ (l:List (Option TV))
 |al (t:Ty) (s:Nat) (p:Path)
 |ad (t:Ty) (s:Nat) (p:Path)
 |cut (t:Ty) (s:Nat) (p:Path) (lo hi:Nat)
 |nc (f:FuncId) (cq:List Dj)
abbrev St:=List AV
structure TI where
 T:TypeId
 ty:Ty
 e:TypeId
 fs:List TypeId
abbrev cK:=List TI
def cK.find (Θ:cK) (T:TypeId):Option TI:=match Θ with
 |[]=>none
 |i::r=>bif Nat.beq i.T T then some i else cK.find r T
def Md.B8:Md→Md
 | .o _ _ m=>m |_=>.k
def Md.l:Md→Md
 | .p a _=>a |m=>m
def Md.r:Md→Md
 | .p _ b=>b |m=>m
def XY (a b:Md):Md:=bif a.bQ&&b.bQ then .k else .p a b
def a8:Path→(t:Ty)→Md→t.I→Option TV
 |[],t,m,x=>some ⟨t,m,x⟩
 | .deref::p,.ptr t,m,x=>a8 p t m.B8 x
 | .fst::p,.pair a _,m,x=>a8 p a m.l x.1
 | .snd::p,.pair _ b,m,x=>a8 p b m.r x.2
 | .idx i::p,.sl t,m,xs=>a8 p t m.B8 (xs.getD i t.z)
 |_::_,_,_,_=>none
def fD (b:TV):Path→(t:Ty)→Md→t.I→Option (Md×t.I)
 |[],t,_,_=>if h:b.t=t then some (b.m,h▸b.x) else none
 | .deref::p,.ptr t,.o T tag me,x=>match fD b p t me x with
  |some r=>some (.o T tag r.1,r.2)
  |none=>none
 | .fst::p,.pair t u,m,x=>match fD b p t m.l x.1 with
  |some r=>some (XY r.1 m.r,(r.2,x.2))
  |none=>none
 | .snd::p,.pair t u,m,x=>match fD b p u m.r x.2 with
  |some r=>some (XY m.l r.1,(x.1,r.2))
  |none=>none
 | .idx i::p,.sl t,.o T tag me,xs=>match fD b p t me (xs.getD i t.z) with
  |some r=>if r.1=me then some (.o T tag me,xs.set i r.2) else none
  |none=>none
 |_::_,_,_,_=>none
def c7:Path→Path→Bool
 |[],_=>true
 |_,[]=>true
 | .idx _::p,.idx _::q=>c7 p q
 |s::p,s'::q=>if s=s' then c7 p q else false
def under:Path→Path→Bool
 |[],[]=>false
 |[],_::_=>true
 |_::_,[]=>false
 | .idx _::p,.idx _::q=>under p q
 |s::p,s'::q=>if s=s' then under p q else false
def pre:Path→Path→Bool
 |[],_=>true
 | .deref::p,.deref::q=>pre p q
 | .fst::p,.fst::q=>pre p q
 | .snd::p,.snd::q=>pre p q
 |_,_=>false
def nP:Path→Path→Bool
 |[],_=>true
 |_,[]=>true
 | .idx i::p,.idx j::q=>nP p q&&Nat.beq i j
 |s::p,s'::q=>if s=s' then nP p q else false
def fp:Path→Path→Bool
 |[],[]=>true
 | .idx _::p,.idx _::q=>fp p q
 | .deref::p,.deref::q=>fp p q
 | .fst::p,.fst::q=>fp p q
 | .snd::p,.snd::q=>fp p q
 |_,_=>false
def vH:Path→Path→Bool
 | .idx i::p,.idx j::q=>vH p q&&Nat.beq i j
 |_::p,_::q=>vH p q
 |_,_=>true
def dv (p:Path):List Path→Bool×List Path
 |[]=>(true,[])
 |h::r=>bif fp p h then(vH p h,r) else((dv p r).1,h::(dv p r).2)
def depth:Path→Nat
 |[]=>0 | .deref::p=>depth p+1 | .idx _::p=>depth p+1 |_::p=>depth p
def AV.refs (d:Nat):AV→Bool
 | .al _ s _=>Nat.beq s d | .ad _ s _=>Nat.beq s d | .cut _ s _ _ _=>Nat.beq s d
 | .nc _ cq=>cq.any fun c=>match c with
  | .pl _ s _=>Nat.beq s d
  | .kv _=>false
 |_=>false
def AV.eG (d:Nat):AV→Bool
 | .al _ s p=>Nat.beq s d&&match p with
  |[]=>false
  |_=>true
 | .ad _ s p=>Nat.beq s d&&Nat.ble 2 (depth p)
 | .cut _ s _ _ _=>Nat.beq s d
 | .nc _ cq=>cq.any fun c=>match c with
  | .pl _ s (_::_)=>Nat.beq s d
  |_=>false
 |_=>false
def St.at (S:St) (i:Nat):AV:=S.getD i .dead
def St.kill (S:St) (d:Nat):St:=S.map fun a=>bif a.refs d then .dead else a
def St.weaken (S:St) (d:Nat):St:=S.map fun a=>bif a.eG d then .dead else a
def St.cover (S:St) (d:Nat) (p:Path):St:=S.map fun a=>match a with
 | .ad t s q=>bif Nat.beq s d&&under p q then .dead else .ad t s q
 |a=>a
def AV.sY:AV→Bool
 | .v .. =>true |_=>false
def St.put (S:St) (dst:Option Nat) (a:AV):St:=match dst with
 |none=>S
 |some d=>(bif (S.at d).sY then S.kill d else S).set d (bif a.refs d then .dead else a)
def uK (s:Nat) (t':Ty) (a b:AV):AV:=match a,b with
 | .al t q [],.dead=>bif Nat.beq q s&&decide (t=t') then .al t q [] else .dead
 |_,b=>b
def St.again (S S2:St) (s:Nat):St:=match S2.at s with
 | .v r _=>List.zipWith (uK s r.t) S S2
 |_=>S2
def JV (a:TV):TV:=⟨a.t,.k,a.x⟩
def mj (Θ:cK) (T:TypeId):Value→Option TV
 | .int k n=>some ⟨.int k,.k,n⟩
 | .bool b=>some ⟨.bool,.k,b⟩
 | .string s=>some ⟨.str,.k,s⟩
 | .slice none 0 0=>match Θ.find T with
  |some i=>match i.ty with
   | .sl t=>some ⟨.sl t,.o i.e none .k,[]⟩
   |_=>none
  |none=>none
 |_=>none
def St.place (S:St) (s:Nat) (p:Path):Option TV:=match S.at s with
 | .v a ex=>bif ex.all (fun h=> !c7 h p) then a8 p a.t a.m a.x else none
 |_=>none
def St.ca (S:St) (s:Nat) (p:Path):Option TV:=match S.at s with
 | .v a ex=>bif ex.all (fun h=> !under h p) then a8 p a.t a.m a.x else none
 |_=>none
def St.dn (Θ:cK) (S:St) (T:TypeId):Operand→Option AV
 | .tmp i=>some (S.at i)
 | .const c=>match mj Θ T c with
  |some a=>some (.v a [])
  |none=>none
 | .func f=>some (.nc f [])
 | .global _=>none
def St.qF (S:St):AV→Option TV
 | .v a []=>some a
 | .al _ s p=>S.place s p
 | .cut _ s p lo hi=>match S.place s p with
  |some ⟨.sl t,m,xs⟩=>some ⟨.sl t,m,(xs.take hi).drop lo⟩
  |_=>none
 |_=>none
def St.rd (Θ:cK) (S:St) (T:TypeId) (x:Operand):Option TV:=match S.dn Θ T x with
 |some a=>S.qF a
 |none=>none
def St.jP (Θ:cK) (S:St) (x:Operand):Option Int:=match S.rd Θ 0 x with
 |some ⟨.int _,_,n⟩=>some n
 |_=>none
def St.db (S:St) (x:Operand):AV→Option (TV×St)
 | .v a ex=>bif a.m.bQ then some (a,S) else match ex,x with
  |[],.tmp i=>some (a,S.put (some i) .dead)
  |[],_=>some (a,S)
  |_,_=>none
 | .al _ s p=>match S.place s p with
  |some a=>bif a.m.bQ then some (a,S) else match p,S.at s with
   |[],_=>some (a,S.put (some s) .dead)
   |_,.v r ex=>some (a,((S.weaken s).cover s p).set s (.v r (ex++[p])))
   |_,_=>none
  |none=>none
 | .cut _ s [] lo hi=>match S.place s [] with
  |some ⟨.sl t,.o T _ me,xs⟩=>bif Nat.beq lo 0 then some (⟨.sl t,.o T none me,xs.take hi⟩,S.put (some s) .dead) else none
  |_=>none
 |_=>none
def St.take (Θ:cK) (S:St) (T:TypeId) (x:Operand):Option (TV×St):=match S.dn Θ T x with
 |some a=>S.db x a
 |none=>none
def St.copy (S:St) (x:Operand):AV→Option AV
 | .v a ex=>bif a.m.bQ then some (.v a []) else match x with
  | .tmp i=>some (.al a.t i [])
  |_=>match ex with
   |[]=>some (.v a [])
   |_=>none
 | .qZ _=>none
 | .dead=>none
 |a=>some a
def mm (i n:Nat):Path:=bif Nat.beq (i+1) n then(bif Nat.beq n 1 then [.fst] else List.replicate i .snd) else List.replicate i .snd++[.fst]
def zgo (f:TypeId→Md):List TypeId→Md
 |[]=>.k
 |[a]=>f a
 |a::r=>XY (f a) (zgo f r)
def Ga (Θ:cK):Nat→TypeId→Md
 |0,_=>.k
 |n+1,T=>match Θ.find T with
  |none=>.k
  |some i=>match i.ty with
   | .sl _=>.o i.e none (Ga Θ n i.e)
   | .pair _ _=>zgo (Ga Θ n) i.fs
   |_=>.k
def jj:Ty→Bool
 | .ptr _=>false | .arr _ _=>false | .pair a b=>jj a&&jj b |_=>true
def rO:Ty→Md→Bool
 | .pair a b,.p ma mb=>(rO a ma&&rO b mb)||(ma.bQ&&mb.bQ&&jj a&&jj b)
 | .sl _,.o _ none _=>true
 |t,m=>m.bQ&&jj t
inductive OL where
 |k (a:TV)
 |pl (t:Ty) (s:Nat) (p:Path)
def OL.ty:OL→Ty
 | .k a=>a.t
 | .pl t _ _=>t
def St.rh (S:St) (x:Operand):AV→Option OL
 | .v ⟨.ptr t,m,y⟩ []=>match m,x with
  | .k,_=>some (.k ⟨t,.k,y⟩)
  | .o ..,.tmp i=>some (.pl t i [.deref])
  |_,_=>none
 | .v ⟨.ptr t,.o ..,_⟩ _=>match x with
  | .tmp i=>some (.pl t i [.deref])
  |_=>none
 | .al (.ptr t) s p=>match S.ca s p with
  |some ⟨.ptr t',.k,y⟩=>some (.k ⟨t',.k,y⟩)
  |some ⟨.ptr _,.o ..,_⟩=>some (.pl t s (p++[.deref]))
  |_=>none
 | .ad t s p=>some (.pl t s p)
 |_=>none
def St.loadAt (S:St):OL→Option AV
 | .k a=>some (.v (JV a) [])
 | .pl t s p=>match S.ca s p with
  |some a=>bif a.m.bQ then(match S.place s p with
   |some a=>some (.v (JV a) [])
   |none=>none) else some (.al t s p)
  |none=>none
def bt (s:ByteArray) (i:Int):Int:=if h:i.toNat<s.size then((s[i.toNat]'h).toNat:Int) else 0
def Wk (op:BinOp) (k:IntKind) (x y:Int):Option (Bool×TV):=match op with
 | .add=>some (true,⟨.int k,.k,k.wrap (x+y)⟩)
 | .sub=>some (true,⟨.int k,.k,k.wrap (x - y)⟩)
 | .mul=>some (true,⟨.int k,.k,k.wrap (x*y)⟩)
 | .quo=>some (!decide (y=0),⟨.int k,.k,k.wrap (x.tdiv y)⟩)
 | .rem=>some (!decide (y=0),⟨.int k,.k,x.tmod y⟩)
 | .and=>some (true,⟨.int k,.k,k.wrap (BitVec.ofInt k.bits x&&&BitVec.ofInt k.bits y).toNat⟩)
 | .or=>some (true,⟨.int k,.k,k.wrap (BitVec.ofInt k.bits x|||BitVec.ofInt k.bits y).toNat⟩)
 | .xor=>some (true,⟨.int k,.k,k.wrap (BitVec.ofInt k.bits x^^^BitVec.ofInt k.bits y).toNat⟩)
 | .eql=>some (true,⟨.bool,.k,x==y⟩)
 | .neq=>some (true,⟨.bool,.k,x != y⟩)
 | .lss=>some (true,⟨.bool,.k,decide (x<y)⟩)
 | .leq=>some (true,⟨.bool,.k,decide (x≤y)⟩)
 | .gtr=>some (true,⟨.bool,.k,decide (x>y)⟩)
 | .geq=>some (true,⟨.bool,.k,decide (x≥y)⟩)
 | .shl=>some (decide (0≤y),⟨.int k,.k,k.wrap (x*2^(min y.toNat k.bits))⟩)
 | .shr=>some (decide (0≤y),⟨.int k,.k,x.fdiv (2^(min y.toNat k.bits))⟩)
 |_=>none
def Wl (op:BinOp) (x y:ByteArray):Option (Bool×TV):=match op with
 | .add=>some (decide (x.size+y.size≤9223372036854775807),⟨.str,.k,x++y⟩)
 | .eql=>some (true,⟨.bool,.k,x.toList==y.toList⟩)
 | .neq=>some (true,⟨.bool,.k, !(x.toList==y.toList)⟩)
 |_=>none
def F9:(t:Ty)→t.I→t.I→Option Bool
 | .int _,x,y=>some (decide ((x:Int)=y))
 | .bool,x,y=>some ((x:Bool)==y)
 | .str,x,y=>some ((x:ByteArray)==y)
 | .pair a b,x,y=>match F9 a x.1 y.1,F9 b x.2 y.2 with
  |some p,some q=>some (p&&q)
  |_,_=>none
 | .unit,_,_=>some true
 |_,_,_=>none
def fZ (op:BinOp) (a b:TV):Option (Bool×TV):=match a,b with
 |⟨.int k,_,x⟩,⟨.int k',_,y⟩=>if k=k'∨op=.shl∨op=.shr then Wk op k x y else none
 |⟨.str,_,x⟩,⟨.str,_,y⟩=>Wl op x y
 |⟨.bool,_,x⟩,⟨.bool,_,y⟩=>match op with
  | .eql=>some (true,⟨.bool,.k,x==y⟩)
  | .neq=>some (true,⟨.bool,.k, !(x==y)⟩)
  |_=>none
 |⟨.pair t u,_,x⟩,⟨t',_,y⟩=>if h:t'=.pair t u then match op,F9 (.pair t u) x (h▸y) with
   | .eql,some r=>some (true,⟨.bool,.k,r⟩)
   | .neq,some r=>some (true,⟨.bool,.k, !r⟩)
   |_,_=>none
  else none
 |_,_=>none
def Wm (op:UnOp) (a:TV):Option TV:=match op,a with
 | .not,⟨.bool,_,x⟩=>some ⟨.bool,.k, !x⟩
 | .neg,⟨.int k,_,x⟩=>some ⟨.int k,.k,k.wrap (0 - x)⟩
 | .xor,⟨.int k,_,x⟩=>some ⟨.int k,.k,k.wrap (BitVec.ofInt k.bits (if k.signed then -1 else k.max)^^^BitVec.ofInt k.bits x).toNat⟩
 |_,_=>none
def BE:List TV→TV
 |[]=>⟨.unit,.k,()⟩
 |[a]=>a
 |a::r=>⟨.pair a.t (BE r).t,XY a.m (BE r).m,(a.x,(BE r).x)⟩
def dw (l:List TV):TV:=match l with
 |[a]=>⟨.pair a.t .unit,XY a.m .k,(a.x,())⟩
 |l=>BE l
def pj (Θ:cK) (T:TypeId):Option TV:=match Θ.find T with
 |some i=>bif rO i.ty (Ga Θ 9 T) then some ⟨i.ty,Ga Θ 9 T,i.ty.z⟩ else none
 |none=>none
def St.parts (Θ:cK) (S:St) (ps:List (Nat×Operand)):List TypeId→Nat→Option (List TV×St)
 |[],_=>some ([],S)
 |T::r,j=>match ps.find? (fun q=>Nat.beq q.1 j) with
  |some q=>match S.take Θ T q.2 with
   |some (a,S1)=>match S1.parts Θ ps r (j+1) with
    |some (l,S2)=>some (a::l,S2)
    |none=>none
   |none=>none
  |none=>match pj Θ T with
   |some a=>match S.parts Θ ps r (j+1) with
    |some (l,S2)=>some (a::l,S2)
    |none=>none
   |none=>none
def ja (n:Nat):List (Nat×Operand)→Bool
 |[]=>true
 |q::r=>Nat.blt q.1 n&& !(r.any fun q'=>Nat.beq q'.1 q.1)&&ja n r
def pk (t:Ty) (m:Md):List TV→Option (List t.I)
 |[]=>some []
 |a::r=>if h:a.t=t then(if a.m=m then match pk t m r with
   |some l=>some ((h▸a.x)::l)
   |none=>none else none) else none
abbrev Hn:=List (Nat×Md)
def Hn.find (h:Hn) (d:Option Nat) (m:Md):Md:=match d with
 |none=>m
 |some d=>match h with
  |[]=>m
  |q::r=>bif Nat.beq q.1 d then q.2 else Hn.find r (some d) m
def Hn.OM (h:Hn) (d:Option Nat):Bool:=match h.find d (.o 0 none .k) with
 | .k=>true
 |_=>false
def cK.is (Θ:cK) (T:TypeId) (t:Ty):Bool:=match Θ.find T with
 |some i=>decide (i.ty=t)
 |none=>false
abbrev uH:=Option (Bool×St)
def nQ (Θ:cK) (S:St) (dst:Option Nat) (T:TypeId) (x:Operand):uH:=match S.dn Θ T x with
 |some (.qZ l)=>(match dst,x with
  |some d,.tmp i=>bif Nat.beq d i|| !Nat.blt d S.length then none else some (true,(S.put (some i) .dead).put (some d) (.qZ l))
  |_,_=>none)
 |some a=>match S.copy x a with
  |some a=>some (true,S.put dst a)
  |none=>none
 |none=>none
def yf (Θ:cK) (S:St) (dst:Option Nat) (T:TypeId) (x:Operand):uH:=match S.dn Θ T x with
 |some a=>match dst,x,a with
  |some d,.tmp i,.v a ex=>bif a.m.bQ then some (true,S.put dst (.v a [])) else match ex with
   |[]=>bif Nat.beq d i|| !Nat.blt d S.length then none else some (true,(St.put (S.put (some i) .dead) dst (.v a [])).set i (.al a.t d []))
   |_=>none
  |_,_,.v a ex=>bif a.m.bQ then some (true,S.put dst (.v a [])) else match ex,x with
   |[],.const _=>some (true,S.put dst (.v a []))
   |_,_=>none
  |some d,_,.al t s []=>bif Nat.beq s d then none else some (true,S.put dst (.al t s []))
  |some d,_,.nc f c=>bif AV.refs d (.nc f c) then none else some (true,S.put dst (.nc f c))
  |_,_,.undef=>some (true,S.put dst .undef)
  |_,_,a=>match S.db x a with
   |some (a,S1)=>some (true,S1.put dst (.v a []))
   |none=>none
 |none=>match x with
  | .const _=>some (true,S.put dst .dead)
  |_=>none
def JW (Θ:cK) (S:St) (dst:Option Nat) (T:TypeId) (c a b:Operand):uH:=match S.rd Θ 0 c with
 |some ⟨.bool,_,q⟩=>match S.dn Θ T a,S.dn Θ T b with
  |some (.v ⟨.bool,_,x⟩ _),some (.v ⟨.bool,_,y⟩ _)=>some (true,S.put dst (.v ⟨.bool,.k,bif q then x else y⟩ []))
  |some p,some r=>match (bif q then S.copy a p else S.copy b r) with
   |some a=>some (true,S.put dst a)
   |none=>none
  |_,_=>none
 |_=>none
def nR (Θ:cK) (hn:Hn) (S:St) (dst:Option Nat) (T:TypeId):uH:=match pj Θ T with
 |some z=>bif rO z.t (hn.find dst z.m) then some (true,S.put dst (.v ⟨.ptr z.t,.o T none (hn.find dst z.m),z.t.z⟩ [])) else none
 |none=>none
def P6 (Θ:cK) (S:St) (dst:Option Nat) (T:TypeId) (x:Operand):uH:=match S.take Θ T x with
 |some (a,S1)=>bif Θ.is T a.t then some (true,S1.put dst (.v ⟨.ptr a.t,.o T none a.m,a.x⟩ [])) else none
 |none=>none
def xG (Θ:cK) (S:St) (dst:Option Nat) (T:TypeId) (ps:List (Nat×Operand)):uH:=match Θ.find T with
 |some i=>match S.parts Θ ps i.fs 0 with
  |some (l,S1)=>bif decide ((dw l).t=i.ty)&&P7 i.ty&&ja l.length ps then some (true,S1.put dst (.v (dw l) [])) else none
  |none=>none
 |none=>none
 where P7:Ty→Bool
 | .pair _ _=>true
 |_=>false
def bF (Θ:cK) (hn:Hn) (S:St) (dst:Option Nat) (T:TypeId) (n:Nat) (ps:List (Nat×Operand)):uH:=match Θ.find T with
 |some ⟨_,.sl t,e,_⟩=>bif ja n ps&&Nat.ble n 1800 then(match S.parts Θ ps (List.replicate n e) 0 with
  |some (l,S1)=>(match l with
   |[]=>some (true,S1.put dst (.v ⟨.sl t,bif hn.OM dst then .k else .o e none (hn.find dst .k),[]⟩ []))
   |a::_=>match pk t a.m l with
    |some xs=>some (true,S1.put dst (.v ⟨.sl t,bif hn.OM dst&&a.m.bQ then .k else .o e none a.m,xs⟩ []))
    |none=>none)
  |none=>none) else none
 |_=>none
def Ty.flat:Ty→Bool
 | .int _=>true | .bool=>true | .str=>true |_=>false
def Gb (t:Ty):AV→Bool
 | .al .. => !t.flat
 |_=>true
def eW (Θ:cK) (S:St) (dst:Option Nat) (T:TypeId) (x:Operand):uH:=match S.dn Θ 0 x with
 |some a=>match S.rh x a with
  |some g=>match S.loadAt g with
   |some r=>bif Gb g.ty r&&Θ.is T g.ty then some (true,S.put dst r) else none
   |none=>none
  |none=>none
 |none=>none
def gX (Θ:cK) (S:St) (T:TypeId) (x y:Operand):uH:=match S.dn Θ 0 x with
 |some a=>match S.rh x a with
  |some (.pl _ s p)=>match S.take Θ T y with
   |some (b,S1)=>bif Θ.is T b.t then(match S1.at s with
    | .v r ex=>match fD b p r.t r.m r.x with
     |some (m,z)=>bif ex.all (fun h=> !under h p) then some ((dv p (ex.filter fun h=> !pre p h)).1,(S1.weaken s).set s (.v ⟨r.t,m,z⟩ (dv p (ex.filter fun h=> !pre p h)).2)) else none
     |none=>none
    |_=>none) else none
   |none=>none
  |_=>none
 |none=>none
def nS (Θ:cK) (S S1:St) (T:TypeId) (y:Operand):St:=match S.dn Θ T y with
 |some (.al _ s [])=>(match S.at s,S1.at s with
  | .v ⟨.sl t,m,xs⟩ [],.dead=>bif m.bQ then S1 else S1.set s (.v ⟨.sl t,m,xs⟩ [[]])
  |_,_=>S1)
 |_=>S1
def rP (Θ:cK) (S:St) (dst:Option Nat) (x:Operand):uH:=match S.dn Θ 0 x with
 |some a=>match S.rh x a with
  |some g=>match S.copy x a,(match g with
   | .k _=>some ()
   | .pl _ s p=>match S.ca s p with
    |some _=>some ()
    |none=>none) with
   |some a,some _=>some (true,S.put dst a)
   |_,_=>none
  |none=>none
 |none=>none
def fE (Θ:cK) (S:St) (dst:Option Nat) (T:TypeId) (x:Operand) (f:Nat):uH:=match S.dn Θ 0 x,Θ.find T with
 |some a,some i=>bif Nat.blt f i.fs.length then(match S.rh x a with
  |some (.k ⟨t,m,y⟩)=>bif decide (i.ty=t) then(match a8 (mm f i.fs.length) t .k y with
   |some b=>some (true,S.put dst (.v ⟨.ptr b.t,.k,b.x⟩ []))
   |none=>none) else none
  |some (.pl t s p)=>bif decide (i.ty=t) then(match S.ca s (p++mm f i.fs.length) with
   |some b=>some (true,S.put dst (.ad b.t s (p++mm f i.fs.length)))
   |none=>none) else none
  |none=>none) else none
 |_,_=>none
def Dk (Θ:cK) (S:St) (dst:Option Nat) (T:TypeId) (x:Operand) (f:Nat):uH:=match S.dn Θ 0 x,Θ.find T with
 |some (.v a ex),some i=>bif Nat.blt f i.fs.length&&decide (i.ty=a.t) then(match x with
  | .tmp j=>match a8 (mm f i.fs.length) a.t a.m a.x with
   |some b=>bif b.m.bQ then(match ex with
    |[]=>some (true,S.put dst (.v (JV b) []))
    |_=>none) else(match S.ca j (mm f i.fs.length) with
    |some _=>some (true,S.put dst (.al b.t j (mm f i.fs.length)))
    |none=>none)
   |none=>none
  |_=>none) else none
 |_,_=>none
def bw (n:Int) (len:Nat):Bool:=decide (0≤n)&&decide (n<(len:Int))
def b6 (Θ:cK) (S:St) (dst:Option Nat) (T:TypeId) (x ix:Operand):uH:=match S.dn Θ 0 x,S.jP Θ ix with
 |some (.v ⟨.sl t,m,xs⟩ ex),some n=>bif Θ.is T (.sl t) then(match m,x with
  | .k,_=>some (bw n xs.length,S.put dst (.v ⟨.ptr t,.k,xs.getD n.toNat t.z⟩ []))
  | .o ..,.tmp j=>match S.ca j [.idx n.toNat] with
   |some _=>some (bw n xs.length,S.put dst (.ad t j [.idx n.toNat]))
   |none=>none
  |_,_=>none) else none
 |some (.al (.sl t) s p),some n=>bif Θ.is T (.sl t) then(match S.ca s p with
  |some ⟨.sl t',.k,xs⟩=>some (bw n xs.length,S.put dst (.v ⟨.ptr t',.k,xs.getD n.toNat t'.z⟩ []))
  |some ⟨.sl t',.o ..,xs⟩=>match S.ca s (p++[.idx n.toNat]) with
   |some _=>some (bw n xs.length,S.put dst (.ad t' s (p++[.idx n.toNat])))
   |none=>none
  |_=>none) else none
 |_,_=>none
def Dl (Θ:cK) (S:St) (dst:Option Nat) (T:TypeId) (x ix:Operand):uH:=match S.rd Θ 0 x,S.jP Θ ix with
 |some ⟨.str,_,s⟩,some n=>bif Θ.is T .str then some (bw n s.size,S.put dst (.v ⟨.int .u8,.k,bt s n⟩ [])) else none
 |_,_=>none
def fj (S:St) (dst:Option Nat) (x:Operand) (j:Nat):uH:=match x with
 | .tmp i=>match S.at i with
  | .qZ l=>match l.getD j none with
   |some a=>bif a.m.bQ then some (true,S.put dst (.v a [])) else(match dst with
    |some d=>bif Nat.beq d i then none else some (true,St.put (S.set i (.qZ (l.set j none))) (some d) (.v a []))
    |none=>none)
   |none=>none
  |_=>none
 |_=>none
def gf (Θ:cK) (S:St) (d:Int):Option Operand→Option Int
 |none=>some d
 |some x=>S.jP Θ x
def dM (Θ:cK) (S:St) (dst:Option Nat) (T:TypeId) (x:Operand) (lo hi mx:Option Operand):uH:=match S.dn Θ 0 x,S.rd Θ 0 x,gf Θ S 0 lo with
 |some a,some ⟨.str,_,s⟩,some l=>match mx,gf Θ S (s.size:Int) hi with
  |none,some h=>bif Θ.is T .str then some (decide (0≤l)&&decide (l≤h)&&decide (h≤(s.size:Int)),S.put dst (.v ⟨.str,.k,s.extract l.toNat h.toNat⟩ [])) else none
  |_,_=>none
 |some a,some ⟨.sl t,m,xs⟩,some l=>bif Θ.is T (.sl t) then(match gf Θ S (xs.length:Int) hi,mx,Θ.find T with
  |some h,none,_=>match m,a,x with
   | .k,_,_=>some (decide (0≤l)&&decide (l≤h)&&decide (h≤(xs.length:Int)),S.put dst (.v ⟨.sl t,.k,(xs.take h.toNat).drop l.toNat⟩ []))
   |_,.v ..,.tmp i=>some (decide (0≤l)&&decide (l≤h)&&decide (h≤(xs.length:Int)),S.put dst (.cut (.sl t) i [] l.toNat h.toNat))
   |_,.al _ s p,_=>some (decide (0≤l)&&decide (l≤h)&&decide (h≤(xs.length:Int)),S.put dst (.cut (.sl t) s p l.toNat h.toNat))
   |_,_,_=>none
  |some h,some z,some i=>match S.jP Θ z,hi with
   |some c,some _=>some (decide (l=0)&&decide (h=0)&&decide (c=0),S.put dst (.v ⟨.sl t,.o i.e none .k,[]⟩ []))
   |_,_=>none
  |_,_,_=>none) else none
 |_,_,_=>none
def bytesOf (xs:List Int):ByteArray:=xs.foldl (fun r n=>r.push (UInt8.ofNat n.toNat)) ByteArray.empty
def fS (Θ:cK) (S:St) (dst:Option Nat) (T T':TypeId) (x:Operand):uH:=match S.rd Θ 0 x,Θ.find T,Θ.find T' with
 |some ⟨.int _,_,n⟩,some _,some ⟨_,.int k,_,_⟩=>some (true,S.put dst (.v ⟨.int k,.k,k.wrap n⟩ []))
 |some ⟨.sl (.int .u8),_,xs⟩,some ⟨_,.sl (.int .u8),_,_⟩,some ⟨_,.str,_,_⟩=>some (true,S.put dst (.v ⟨.str,.k,bytesOf xs⟩ []))
 |_,_,_=>none
def yg (Θ:cK) (S:St) (dst:Option Nat) (op:BinOp) (T:TypeId) (x y:Operand):uH:=match S.rd Θ T x,S.rd Θ T y with
 |some a,some b=>match a.t with
  | .bool=>bif Θ.is T .bool then(match fZ op a b with
   |some (g,r)=>some (g,S.put dst (.v r []))
   |none=>none) else none
  | .pair _ _=>bif Θ.is T a.t then(match fZ op a b with
   |some (g,r)=>some (g,S.put dst (.v r []))
   |none=>none) else none
  |_=>match fZ op a b with
   |some (g,r)=>some (g,S.put dst (.v r []))
   |none=>none
 |_,_=>none
def aaP (Θ:cK) (S:St) (dst:Option Nat) (op:UnOp) (x:Operand):uH:=match S.rd Θ 0 x with
 |some a=>match Wm op a with
  |some r=>some (true,S.put dst (.v r []))
  |none=>none
 |none=>none
def fF (Θ:cK) (S:St) (dst:Option Nat) (T:TypeId) (l c:Operand):uH:=match Θ.find T,S.jP Θ l,S.jP Θ c with
 |some ⟨_,.sl t,e,_⟩,some n,some n'=>match pj Θ e with
  |some z=>if z.t=t then some (decide (n=n')&&decide (0≤n)&&decide (n≤1099511627776),S.put dst (.v ⟨.sl t,.o e none z.m,List.replicate n.toNat t.z⟩ [])) else none
  |none=>none
 |_,_,_=>none
def XZ (S:St):Operand→Option Dj
 | .tmp i=>match S.at i with
  | .v ⟨.ptr t,.o ..,_⟩ _=>some (Dj.pl t i [])
  | .v ⟨.ptr t,.k,y⟩ _=>some (Dj.kv ⟨.ptr t,.k,y⟩)
  | .al (.ptr t) s p=>some (Dj.pl t s p)
  |_=>none
 |_=>none
def yh (S:St):List Operand→Option (List Dj)
 |[]=>some []
 |x::r=>match XZ S x,yh S r with
  |some c,some l=>some (c::l)
  |_,_=>none
def rQ (S:St) (dst:Option Nat) (f:FuncId) (first cq:List Operand):uH:=match first,yh S cq with
 |[],some l=>match dst with
  |some d=>bif AV.refs d (.nc f l) then none else some (true,S.put dst (.nc f l))
  |none=>none
 |_,_=>none
def X0:TV→Option Int
 |⟨.sl _,_,xs⟩=>some (xs.length:Int)
 |⟨.str,_,b⟩=>some (b.size:Int)
 |_=>none
def P8 (Θ:cK) (S:St) (dst:Option Nat) (ts:List TypeId) (as:List Operand):uH:=match as,ts with
 |[x],[T]=>match (match S.dn Θ 0 x with
   |some (.v a ex)=>bif ex.any List.isEmpty then none else some a
   |some (.al t s p)=>(match S.place s p with
    |some b=>some b
    |none=>match S.ca s p with
     |some ⟨.sl t,m,xs⟩=>some ⟨.sl t,m,xs⟩
     |_=>none)
   |some a=>S.qF a
   |none=>none) with
  |some b=>bif Θ.is T b.t then(match X0 b with
   |some n=>some (true,S.put dst (.v ⟨.int .i64,.k,n⟩ []))
   |none=>none) else none
  |none=>none
 |_,_=>none
def b7 (Θ:cK) (S:St) (dst:Option Nat) (ts:List TypeId) (as:List Operand):uH:=match as,ts with
 |[x,y],[T,T']=>match S.take Θ T x,Θ.find T with
  |some (⟨.sl t,.o e _ me,xs⟩,S1),some i=>bif decide (i.ty=.sl t)&&Nat.beq i.e e&&Θ.is T' (.sl t) then
    (bif me.bQ then(match S1.rd Θ T' y with
     |some ⟨.sl t',m',ys⟩=>bif m'.B8.bQ then(if h:t'=t then
       some (decide ((xs.length+ys.length)*t.size≤4398046511104),S1.put dst (.v ⟨.sl t,.o e none me,xs++(h▸ys)⟩ [])) else none) else none
     |_=>none)
    else(match S1.take Θ T' y with
     |some (⟨.sl t',m',ys⟩,S2)=>if h:t'=t then
       (if m'.B8=me then some (decide ((xs.length+ys.length)*t.size≤4398046511104),S2.put dst (.v ⟨.sl t,.o e none me,xs++(h▸ys)⟩ [])) else none) else none
     |_=>none)) else none
  |_,_=>none
 |_,_=>none
def fk (Θ:cK) (S:St) (dst:Option Nat) (ts:List TypeId) (as:List Operand):uH:=match as,ts with
 |[x,y],[T,T']=>match S.dn Θ T x with
  |some (.al _ s (st::pp))=>(match S.at s with
   | .v r ex=>(match a8 (st::pp) r.t r.m r.x,Θ.find T with
    |some ⟨.sl t,.o e _ me,xs⟩,some i=>bif decide (i.ty=.sl t)&&Nat.beq i.e e&&Θ.is T' (.sl t)&&me.bQ then
      (match St.rd Θ (((S.weaken s).cover s (st::pp)).set s (.v r (ex++[st::pp]))) T' y with
      |some ⟨.sl t',m',ys⟩=>bif m'.B8.bQ then(if h:t'=t then
        some (ex.all (fun h=> !nP h (st::pp))&&decide ((xs.length+ys.length)*t.size≤4398046511104),St.put (((S.weaken s).cover s (st::pp)).set s (.v r (ex++[st::pp]))) dst (.v ⟨.sl t,.o e none me,xs++(h▸ys)⟩ [])) else none) else none
      |_=>none) else none
    |_,_=>none)
   |_=>none)
  |_=>none
 |_,_=>none
def ev (Θ:cK) (hn:Hn) (S:St) (o:Oper):uH:=match o.op with
 | .move x=>nQ Θ S o.dst o.type x
 | .assign x=>yf Θ S o.dst o.type x
 | .pick c a b=>JW Θ S o.dst o.type c a b
 | .alloc T=>nR Θ hn S o.dst T
 | .box T x=>P6 Θ S o.dst T x
 | .build T ps=>xG Θ S o.dst T ps.toList
 | .buildSlice T n ps=>bF Θ hn S o.dst T n ps.toList
 | .load T x=>eW Θ S o.dst T x
 | .store T x y=>match o.dst with
  |none=>(match gX Θ S T x y with
   |some (g,S1)=>some (g,nS Θ S S1 T y)
   |none=>none)
  |some _=>none
 | .nilCheck x=>rP Θ S o.dst x
 | .fieldAddr T x f=>fE Θ S o.dst T x f
 | .field T x f=>Dk Θ S o.dst T x f
 | .indexAddr T x ix=>b6 Θ S o.dst T x ix
 | .index T x ix=>Dl Θ S o.dst T x ix
 | .extract x j=>fj S o.dst x j
 | .slice T x lo hi mx=>dM Θ S o.dst T x lo hi mx
 | .convert T T' x=>fS Θ S o.dst T T' x
 | .binOp op T x y _=>yg Θ S o.dst op T x y
 | .unOp op _ x=>aaP Θ S o.dst op x
 | .makeSlice T l c=>fF Θ S o.dst T l c
 | .makeFunc (.func f) first cq=>rQ S o.dst f first.toList cq.toList
 | .call { callee:=.builtin .len,args:=as,argTypes:=ts }=>P8 Θ S o.dst ts.toList as.toList
 | .call { callee:=.builtin .append,args:=as,argTypes:=ts }=>match b7 Θ S o.dst ts.toList as.toList with
  |some r=>some r
  |none=>fk Θ S o.dst ts.toList as.toList
 |_=>none
end Go.Pv
namespace Go.Pv
set_option linter.unusedVariables false
set_option linter.unusedSimpArgs false
variable {w w':World} {Wr oP:Nat→Prop} {H:Nat→Value}
theorem jk {α:Type} (n:Nat):∀ {eD:List (List α)},(∀ c∈eD,c.length=n)→eD.flatten.length=eD.length*n
 |[],_=>by simp
 |c::r,h=>by
  have h1:=h c (by simp)
  have h2:=jk n (eD:=r) fun c hc=>h c (by simp[hc])
  simp[h1,h2,Nat.add_mul,Nat.add_comm]
theorem jF:∀ (t:Ty) {x:t.I} {cs:List Value},K w Wr t x cs→cs.length=t.size∧∀ u∈cs,u.oneCell'=true
 | .int k,n,cs,h=>by simp only[K] at h;subst h;exact⟨rfl,by simp[Value.oneCell']⟩
 | .bool,n,cs,h=>by simp only[K] at h;subst h;exact⟨rfl,by simp[Value.oneCell']⟩
 | .str,n,cs,h=>by simp only[K] at h;subst h;exact⟨rfl,by simp[Value.oneCell']⟩
 | .unit,n,cs,h=>by simp only[K] at h;subst h;exact⟨rfl,by simp⟩
 | .pair a b,x,cs,h=>by
  simp only[K] at h
  obtain⟨c0,c1,rfl,h0,h1⟩:=h
  obtain⟨l0,o0⟩:=jF a h0
  obtain⟨l1,o1⟩:=jF b h1
  refine⟨by simp[l0,l1,Ty.size],fun u hu=> ?_⟩
  rcases List.mem_append.1 hu with hu |hu
  ·exact o0 u hu
  ·exact o1 u hu
 | .arr n t,xs,cs,h=>by
  simp only[K] at h
  obtain⟨eD,rfl,hl,hx,hj⟩:=h
  have fq:∀ c∈eD,c.length=t.size∧∀ u∈c,u.oneCell'=true:=by
   intro c hc
   obtain⟨j,JN,rfl⟩:=List.mem_iff_getElem.1 hc
   exact jF t (hj j (by omega) JN)
  refine⟨by rw[jk t.size fun c hc=>(fq c hc).1,hl];rfl,fun u hu=> ?_⟩
  obtain⟨c,hc,hu⟩:=List.mem_flatten.1 hu
  exact(fq c hc).2 u hu
 | .sl t,xs,cs,h=>by
  simp only[K] at h
  obtain⟨A,c,rfl,_⟩:=h
  exact⟨rfl,by simp[Value.oneCell']⟩
 | .ptr t,xs,cs,h=>by
  simp only[K] at h
  obtain⟨g,off,cur,T,fr,rfl,_⟩:=h
  exact⟨rfl,by simp[Value.oneCell']⟩
structure a6 (w w':World) (Wr oP:Nat→Prop):Prop where
 same:∀ g, ¬Wr g→g<w.heap.size→w'.heap[g]? =w.heap[g]?
 wr:∀ g,g<w.heap.size→oP g→Wr g
theorem a6.refl (w:World) (Wr:Nat→Prop):a6 w w Wr Wr:=⟨fun _ _ _=>rfl,fun _ _ h=>h⟩
theorem bO {α:Type} {a:Array α} {g:Nat} {o:α} (h:a[g]? =some o):g<a.size:=(Array.getElem?_eq_some_iff.1 h).1
theorem bR (hs:a6 w w' Wr oP):∀ (t:Ty) {x:t.I} {cs:List Value},K w Wr t x cs→K w' oP t x cs
 | .int k,n,cs,h=>h
 | .bool,n,cs,h=>h
 | .str,n,cs,h=>h
 | .unit,n,cs,h=>h
 | .pair a b,x,cs,h=>by
  simp only[K] at h ⊢
  obtain⟨c0,c1,rfl,h0,h1⟩:=h
  exact⟨c0,c1,rfl,bR hs a h0,bR hs b h1⟩
 | .arr n t,xs,cs,h=>by
  simp only[K] at h ⊢
  obtain⟨eD,rfl,hl,hx,hj⟩:=h
  exact⟨eD,rfl,hl,hx,fun j h1 h2=>bR hs t (hj j h1 h2)⟩
 | .sl t,xs,cs,h=>by
  simp only[K] at h ⊢
  obtain⟨A,c,rfl,hc,h⟩:=h
  refine⟨A,c,rfl,hc,fun hp=> ?_⟩
  obtain⟨g,off,cur,T,fr,rfl,hg,hw,ho,hj⟩:=h hp
  have cI:=bO hw
  exact⟨g,off,cur,T,fr,rfl,fun bX=>hg (hs.wr g cI bX),(hs.same g hg cI).trans hw,ho,fun j JN=>bR hs t (hj j JN)⟩
 | .ptr t,x,cs,h=>by
  simp only[K] at h ⊢
  obtain⟨g,off,cur,T,fr,rfl,hg,hw,ho,hj⟩:=h
  have cI:=bO hw
  exact⟨g,off,cur,T,fr,rfl,fun bX=>hg (hs.wr g cI bX),(hs.same g hg cI).trans hw,ho,bR hs t hj⟩
theorem eS:∀ (t:Ty) {m:Md} {x:t.I} {cs:List Value} {ow:Nat→Prop} {hs:List Path},M w Wr H t m x cs ow hs→cs.length=t.size∧∀ u∈cs,u.oneCell'=true
 | .int k,m,n,cs,_,_,h=>jF (.int k) (by simp only[M] at h;exact h.2)
 | .bool,m,n,cs,_,_,h=>jF .bool (by simp only[M] at h;exact h.2)
 | .str,m,n,cs,_,_,h=>jF .str (by simp only[M] at h;exact h.2)
 | .unit,m,n,cs,_,_,h=>jF .unit (by simp only[M] at h;exact h.2)
 | .arr n t,m,_,cs,_,_,h=>jF (.arr n t) (by simp only[M] at h;exact h.2)
 | .pair a b,m,x,cs,ow,hs,h=>by
  simp only[M] at h
  rcases h with⟨_,_,h⟩ |⟨_,h⟩ |⟨ma,mb,c0,c1,s,_,rfl,h0,h1⟩
  ·exact h
  ·exact jF _ h
  ·obtain⟨l0,o0⟩:=eS a h0
   obtain⟨l1,o1⟩:=eS b h1
   refine⟨by simp[l0,l1,Ty.size],fun u hu=> ?_⟩
   rcases List.mem_append.1 hu with hu |hu
   ·exact o0 u hu
   ·exact o1 u hu
 | .sl t,m,xs,cs,ow,hs,h=>by
  simp only[M] at h
  rcases h with⟨_,_,A,c,rfl⟩ |⟨_,h⟩ |⟨T,tag,me,A,c,_,rfl,_⟩
  ·exact⟨rfl,by simp[Value.oneCell']⟩
  ·exact jF _ h
  ·exact⟨rfl,by simp[Value.oneCell']⟩
 | .ptr t,m,xs,cs,ow,hs,h=>by
  simp only[M] at h
  rcases h with⟨_,_,h⟩ |⟨_,h⟩ |⟨T,tag,me,g,cur,_,rfl,_⟩
  ·exact h
  ·exact jF _ h
  ·exact⟨rfl,by simp[Value.oneCell']⟩
theorem c8 {s:Step} {p:Path} {hs:List Path}:p∈sub s hs↔(s::p)∈hs:=by
 unfold sub
 rw[List.mem_filterMap]
 constructor
 ·rintro⟨q,hq,h⟩
  cases q with
  |nil=>simp at h
  |cons a r=>by_cases e:a=s<;>simp[e] at h;subst h e;exact hq
 ·intro h
  exact⟨_,h,by simp⟩
theorem lF {s:Step} {hs mc:List Path} (h:∀ p∈hs,p∈mc):∀ p∈sub s hs,p∈sub s mc:=fun p hp=>c8.2 (h _ (c8.1 hp))
theorem aN (cc:a6 w w' Wr oP):∀ (t:Ty) {m:Md} {x:t.I} {cs:List Value} {ow cG:Nat→Prop} {hs mc:List Path},
  (∀ g,ow g→g<w.heap.size→w'.heap[g]? =w.heap[g]?)→(∀ g,ow g→g<w.heap.size→cG g)→(∀ p∈hs,p∈mc)→M w Wr H t m x cs ow hs→M w' oP H t m x cs cG mc
 | .int k,m,n,cs,_,_,_,_,_,_,_,h=>by simp only[M] at h ⊢;exact h
 | .bool,m,n,cs,_,_,_,_,_,_,_,h=>by simp only[M] at h ⊢;exact h
 | .str,m,n,cs,_,_,_,_,_,_,_,h=>by simp only[M] at h ⊢;exact h
 | .unit,m,n,cs,_,_,_,_,_,_,_,h=>by simp only[M] at h ⊢;exact h
 | .arr n t,m,_,cs,_,_,_,_,_,_,_,h=>by simp only[M] at h ⊢;exact⟨h.1,bR cc _ h.2⟩
 | .pair a b,m,x,cs,ow,cG,hs,mc,hb,ho,hp,h=>by
  simp only[M] at h ⊢
  rcases h with⟨h1,h⟩ |⟨h1,h⟩ |⟨ma,mb,c0,c1,s,e,rfl,h0,h1⟩
  ·exact .inl ⟨hp _ h1,h⟩
  ·exact .inr (.inl ⟨h1,bR cc _ h⟩)
  ·exact .inr (.inr ⟨ma,mb,c0,c1,s,e,rfl,aN cc a (fun g hg=>hb g hg.1) (fun g hg hl=>⟨ho g hg.1 hl,hg.2⟩) (lF hp) h0,
    aN cc b (fun g hg=>hb g hg.1) (fun g hg hl=>⟨ho g hg.1 hl,hg.2⟩) (lF hp) h1⟩)
 | .sl t,m,xs,cs,ow,cG,hs,mc,hb,ho,hp,h=>by
  simp only[M] at h ⊢
  rcases h with⟨h1,h⟩ |⟨h1,h⟩ |⟨T,tag,me,A,c,e,rfl,hc,ht,h⟩
  ·exact .inl ⟨hp _ h1,h⟩
  ·exact .inr (.inl ⟨h1,bR cc _ h⟩)
  ·refine .inr (.inr ⟨T,tag,me,A,c,e,rfl,hc,ht, ?_⟩)
   rcases h with h |⟨g,cur,τ,rfl,hg,hw,iD,hm,hj⟩
   ·exact .inl h
   ·have cI:=bO hw
    exact .inr ⟨g,cur,τ,rfl,ho g hg cI,(hb g hg cI).trans hw,iD,hm,fun j JN=>aN cc t (fun g' bX=>hb g' bX.1) (fun g' bX hl=>⟨ho g' bX.1 hl,bX.2⟩) (lF hp) (hj j JN)⟩
 | .ptr t,m,x,cs,ow,cG,hs,mc,hb,ho,hp,h=>by
  simp only[M] at h ⊢
  rcases h with⟨h1,h⟩ |⟨h1,h⟩ |⟨T,tag,me,g,cur,e,rfl,ht,hg,hw,h⟩
  ·exact .inl ⟨hp _ h1,h⟩
  ·exact .inr (.inl ⟨h1,bR cc _ h⟩)
  ·have cI:=bO hw
   exact .inr (.inr ⟨T,tag,me,g,cur,e,rfl,ht,ho g hg cI,(hb g hg cI).trans hw,aN cc t (fun g' bX=>hb g' bX.1) (fun g' bX hl=>⟨ho g' bX.1 hl,bX.2⟩) (lF hp) h⟩)
theorem PV (hw:∀ g,g<w.heap.size→oP g→Wr g):∀ (t:Ty) {m:Md} {x:t.I} {cs:List Value} {ow:Nat→Prop} {hs:List Path},hs=[]→(∀ g,ow g→ ¬oP g)→M w Wr H t m x cs ow hs→K w oP t x cs
 | .int k,m,n,cs,_,_,_,_,h=>by simp only[M] at h;exact h.2
 | .bool,m,n,cs,_,_,_,_,h=>by simp only[M] at h;exact h.2
 | .str,m,n,cs,_,_,_,_,h=>by simp only[M] at h;exact h.2
 | .unit,m,n,cs,_,_,_,_,h=>by simp only[M] at h;exact h.2
 | .arr n t,m,_,cs,_,_,_,_,h=>by simp only[M] at h;exact bR ⟨fun _ _ _=>rfl,hw⟩ _ h.2
 | .pair a b,m,x,cs,ow,hs,e,hn,h=>by
  subst e
  simp only[M] at h
  rcases h with⟨h1,h⟩ |⟨h1,h⟩ |⟨ma,mb,c0,c1,s,e,rfl,h0,h1⟩
  ·simp at h1
  ·exact bR ⟨fun _ _ _=>rfl,hw⟩ _ h
  ·simp only[K]
   exact⟨c0,c1,rfl,PV hw a rfl (fun g hg=>hn g hg.1) h0,PV hw b rfl (fun g hg=>hn g hg.1) h1⟩
 | .sl t,m,xs,cs,ow,hs,e,hn,h=>by
  subst e
  simp only[M] at h
  rcases h with⟨h1,h⟩ |⟨h1,h⟩ |⟨T,tag,me,A,c,e,rfl,hc,ht,h⟩
  ·simp at h1
  ·exact bR ⟨fun _ _ _=>rfl,hw⟩ _ h
  ·simp only[K]
   refine⟨A,c,rfl,hc,fun hp=> ?_⟩
   rcases h with⟨rfl,_⟩ |⟨g,cur,τ,rfl,hg,hh,iD,hm,hj⟩
   ·simp at hp
   ·exact⟨g,0,cur,T,(0,0),rfl,hn g hg,hh,by rw[iD];have:=Nat.mul_le_mul_right t.size hc;omega,fun j JN=>by
     rw[Nat.zero_add];exact PV hw t rfl (fun g' bX=>hn g' bX.1) (hj j JN)⟩
 | .ptr t,m,x,cs,ow,hs,e,hn,h=>by
  subst e
  simp only[M] at h
  rcases h with⟨h1,h⟩ |⟨h1,h⟩ |⟨T,tag,me,g,cur,e,rfl,ht,hg,hh,h⟩
  ·simp at h1
  ·exact bR ⟨fun _ _ _=>rfl,hw⟩ _ h
  ·have hl:=(eS t h).1
   simp only[K]
   refine⟨g,0,cur,T,(0,0),rfl,hn g hg,hh,by rw[←hl];simp, ?_⟩
   rw[List.drop_zero,List.take_of_length_le (by omega)]
   exact PV hw t rfl (fun g' bX=>hn g' bX.1) h
end Go.Pv
namespace Go.Pv
set_option linter.unusedVariables false
set_option linter.unusedSimpArgs false
variable {w w':World} {Wr oP:Nat→Prop} {H:Nat→Value}
theorem eX:∀ (t:Ty) {x:t.I} {cs:List Value} {ow:Nat→Prop} {hs:List Path},K w Wr t x cs→M w Wr H t .k x cs ow hs
 | .int _,_,_,_,_,h=>by simp only[M];exact⟨rfl,h⟩
 | .bool,_,_,_,_,h=>by simp only[M];exact⟨rfl,h⟩
 | .str,_,_,_,_,h=>by simp only[M];exact⟨rfl,h⟩
 | .unit,_,_,_,_,h=>by simp only[M];exact⟨rfl,h⟩
 | .arr _ _,_,_,_,_,h=>by simp only[M];exact⟨rfl,h⟩
 | .pair _ _,_,_,_,_,h=>by simp only[M];exact .inr (.inl ⟨rfl,h⟩)
 | .sl _,_,_,_,_,h=>by simp only[M];exact .inr (.inl ⟨rfl,h⟩)
 | .ptr _,_,_,_,_,h=>by simp only[M];exact .inr (.inl ⟨rfl,h⟩)
theorem eU:∀ (t:Ty) {m:Md} {x:t.I} {cs:List Value} {ow:Nat→Prop} {hs:List Path},m.bQ=true→M w Wr H t m x cs ow hs→K w Wr t x cs
 | .int _,_,_,_,_,_,_,h=>by simp only[M] at h;exact h.2
 | .bool,_,_,_,_,_,_,h=>by simp only[M] at h;exact h.2
 | .str,_,_,_,_,_,_,h=>by simp only[M] at h;exact h.2
 | .unit,_,_,_,_,_,_,h=>by simp only[M] at h;exact h.2
 | .arr _ _,_,_,_,_,_,_,h=>by simp only[M] at h;exact h.2
 | .sl _,m,_,_,_,_,hk,h=>by
  simp only[M] at h
  rcases h with⟨_,h,_⟩ |⟨_,h⟩ |⟨T,tag,me,A,c,rfl,_⟩
  ·rw[hk] at h;cases h
  ·exact h
  ·simp[Md.bQ] at hk
 | .ptr _,m,_,_,_,_,hk,h=>by
  simp only[M] at h
  rcases h with⟨_,h,_⟩ |⟨_,h⟩ |⟨T,tag,me,g,cur,rfl,_⟩
  ·rw[hk] at h;cases h
  ·exact h
  ·simp[Md.bQ] at hk
 | .pair a b,m,_,_,_,_,hk,h=>by
  simp only[M] at h
  rcases h with⟨_,h,_⟩ |⟨_,h⟩ |⟨ma,mb,c0,c1,s,rfl,rfl,h0,h1⟩
  ·rw[hk] at h;cases h
  ·exact h
  ·simp[Md.bQ] at hk
   simp only[K]
   exact⟨c0,c1,rfl,eU a hk.1 h0,eU b hk.2 h1⟩
theorem ng {t:Ty} {m:Md} {x:t.I} {cs:List Value} {ow:Nat→Prop} {hs:List Path} (hk:m.bQ=true) (h:K w Wr t x cs):M w Wr H t m x cs ow hs:=by
 cases t<;>simp only[M]<;>first |exact⟨hk,h⟩ |exact .inr (.inl ⟨hk,h⟩)
theorem nT {m:Md} (h:m.bQ=true):m.B8.bQ=true:=by cases m<;>simp_all [Md.bQ,Md.B8]
theorem Gc {m:Md} (h:m.bQ=true):m.l.bQ=true:=by cases m<;>simp_all [Md.bQ,Md.l]
theorem Gd {m:Md} (h:m.bQ=true):m.r.bQ=true:=by cases m<;>simp_all [Md.bQ,Md.r]
theorem s5 {a b:Ty} {ma mb:Md} {x:a.I} {y:b.I} {c0 c1:List Value} {ow s:Nat→Prop} {hs:List Path}
  (h0:M w Wr H a ma x c0 (fun g=>ow g∧s g) (sub .fst hs)) (h1:M w Wr H b mb y c1 (fun g=>ow g∧ ¬s g) (sub .snd hs)):
  M w Wr H (.pair a b) (XY ma mb) (x,y) (c0++c1) ow hs:=by
 unfold XY
 cases h:ma.bQ&&mb.bQ with
 |false=>simp only[cond_false,M];exact .inr (.inr ⟨ma,mb,c0,c1,s,rfl,rfl,h0,h1⟩)
 |true=>
  simp at h
  exact eX _ (by simp only[K];exact⟨c0,c1,rfl,eU a h.1 h0,eU b h.2 h1⟩)
def rowAt (w:World) (g off n:Nat):Option (List Value):=match w.heap[g]? with
 |some (.cells cur _ _)=>if off+n≤cur.size then some ((cur.toList.drop off).take n) else none
 |_=>none
def aJ (w:World):Path→(t:Ty)→List Value→Option (List Value)
 |[],_,cs=>some cs
 | .deref::p,.ptr t,[.pointer (some ⟨g,off,none⟩)]=>(rowAt w g off t.size).bind (aJ w p t)
 | .fst::p,.pair a _,cs=>aJ w p a (cs.take a.size)
 | .snd::p,.pair a b,cs=>aJ w p b (cs.drop a.size)
 | .idx i::p,.sl t,[.slice (some ⟨g,off,none⟩) _ _]=>(rowAt w g (off+i*t.size) t.size).bind (aJ w p t)
 |_::_,_,_=>none
def addrAt (w:World):Path→(t:Ty)→List Value→Option (Nat×Nat)→Option (Nat×Nat)
 |[],_,_,l=>l
 | .deref::p,.ptr t,[.pointer (some ⟨g,off,none⟩)],_=>(rowAt w g off t.size).bind fun cs=>addrAt w p t cs (some (g,off))
 | .fst::p,.pair a _,cs,l=>addrAt w p a (cs.take a.size) l
 | .snd::p,.pair a b,cs,l=>addrAt w p b (cs.drop a.size) (l.map fun q=>(q.1,q.2+a.size))
 | .idx i::p,.sl t,[.slice (some ⟨g,off,none⟩) _ _],_=>(rowAt w g (off+i*t.size) t.size).bind fun cs=>addrAt w p t cs (some (g,off+i*t.size))
 |_::_,_,_,_=>none
def valid:Path→(t:Ty)→t.I→Prop
 |[],_,_=>True
 | .deref::p,.ptr t,x=>valid p t x
 | .fst::p,.pair a _,x=>valid p a x.1
 | .snd::p,.pair _ b,x=>valid p b x.2
 | .idx i::p,.sl t,xs=>i<xs.length∧valid p t (xs.getD i t.z)
 |_::_,_,_=>False
def s6:Path→List Path→List Path
 |[],hs=>hs
 |s::p,hs=>s6 p (sub s hs)
theorem yi {p q:Path}:∀ {hs:List Path},q∈s6 p hs↔(p++q)∈hs:=by
 induction p with
 |nil=>intro hs;rfl
 |cons s p ih=>intro hs;simp only[s6,ih,c8,List.cons_append]
def open_ (p:Path) (hs:List Path):Prop:=∀ h∈hs,∀ s r,p≠h++s::r
theorem open_.sub {s:Step} {p:Path} {hs:List Path} (h:open_ (s::p) hs):open_ p (sub s hs):=fun q hq s' r e=>h _ (c8.1 hq) s' r (by rw[e];rfl)
theorem open_.not_nil {s:Step} {p:Path} {hs:List Path} (h:open_ (s::p) hs):[]∉hs:=fun hn=>h [] hn s p rfl
theorem bz {cur:Array Value} {T:TypeId} {fr:Nat×Nat} {g off n:Nat} (h:w.heap[g]? =some (.cells cur T fr)) (hl:off+n≤cur.size):rowAt w g off n=some ((cur.toList.drop off).take n):=by
 simp[rowAt,h,hl]
theorem focus:∀ (p:Path) {t:Ty} {m:Md} {x:t.I} {cs:List Value} {ow:Nat→Prop} {hs:List Path} {b:TV},M w Wr H t m x cs ow hs→open_ p hs→valid p t x→a8 p t m x=some b→
  ∃ cL cG,aJ w p t cs=some cL∧(∀ g,cG g→ow g)∧M w Wr H b.t b.m b.x cL cG (s6 p hs)
 |[],t,m,x,cs,ow,hs,b,h,ho,hv,hg=>by
  simp only[a8,Option.some.injEq] at hg
  subst hg
  exact⟨cs,ow,rfl,fun _ h=>h,h⟩
 | .deref::p,.ptr t,m,x,cs,ow,hs,b,h,ho,hv,hg=>by
  simp only[a8] at hg
  simp only[valid] at hv
  simp only[M] at h
  rcases h with⟨hn,_⟩ |⟨hk,h⟩ |⟨T,tag,me,g,cur,rfl,rfl,ht,oQ,hw,h⟩
  ·exact absurd hn ho.not_nil
  ·simp only[K] at h
   obtain⟨g,off,cur,T,fr,rfl,Wa,hw,hl,h⟩:=h
   obtain⟨cL,cG,h1,h2,h3⟩:=focus p (ow:=fun _=>False) (ng (nT hk) h) ho.sub hv hg
   exact⟨cL,cG,by simp only[aJ,bz hw hl,Option.bind_some];exact h1,fun g hg=>(h2 g hg).elim,h3⟩
  ·have hlen:=(eS t h).1
   obtain⟨cL,cG,h1,h2,h3⟩:=focus p h ho.sub hv hg
   refine⟨cL,cG, ?_,fun g hg=>(h2 g hg).1,h3⟩
   have iD:0+t.size≤cur.size:=by rw[←hlen];simp
   simp only[aJ,bz hw iD,Option.bind_some,List.drop_zero]
   rw[List.take_of_length_le (by omega)]
   exact h1
 | .fst::p,.pair a b',m,x,cs,ow,hs,b,h,ho,hv,hg=>by
  simp only[a8] at hg
  simp only[valid] at hv
  simp only[M] at h
  rcases h with⟨hn,_⟩ |⟨hk,h⟩ |⟨ma,mb,c0,c1,s,rfl,rfl,h0,h1⟩
  ·exact absurd hn ho.not_nil
  ·simp only[K] at h
   obtain⟨c0,c1,rfl,h0,h1⟩:=h
   obtain⟨cL,cG,k1,k2,k3⟩:=focus p (ow:=fun _=>False) (ng (Gc hk) h0) ho.sub hv hg
   exact⟨cL,cG,by simp only[aJ];rw[←(jF a h0).1,List.take_left];exact k1,fun g hg=>(k2 g hg).elim,k3⟩
  ·obtain⟨cL,cG,k1,k2,k3⟩:=focus p h0 ho.sub hv hg
   exact⟨cL,cG,by simp only[aJ];rw[←(eS a h0).1,List.take_left];exact k1,fun g hg=>(k2 g hg).1,k3⟩
 | .snd::p,.pair a b',m,x,cs,ow,hs,b,h,ho,hv,hg=>by
  simp only[a8] at hg
  simp only[valid] at hv
  simp only[M] at h
  rcases h with⟨hn,_⟩ |⟨hk,h⟩ |⟨ma,mb,c0,c1,s,rfl,rfl,h0,h1⟩
  ·exact absurd hn ho.not_nil
  ·simp only[K] at h
   obtain⟨c0,c1,rfl,h0,h1⟩:=h
   obtain⟨cL,cG,k1,k2,k3⟩:=focus p (ow:=fun _=>False) (ng (Gd hk) h1) ho.sub hv hg
   exact⟨cL,cG,by simp only[aJ];rw[←(jF a h0).1,List.drop_left];exact k1,fun g hg=>(k2 g hg).elim,k3⟩
  ·obtain⟨cL,cG,k1,k2,k3⟩:=focus p h1 ho.sub hv hg
   exact⟨cL,cG,by simp only[aJ];rw[←(eS a h0).1,List.drop_left];exact k1,fun g hg=>(k2 g hg).1,k3⟩
 | .idx i::p,.sl t,m,xs,cs,ow,hs,b,h,ho,hv,hg=>by
  simp only[a8] at hg
  simp only[valid] at hv
  obtain⟨hi,hv⟩:=hv
  have eY:(show List t.I from xs).getD i t.z=(show List t.I from xs)[i]:=by simp[List.getD_eq_getElem?_getD,List.getElem?_eq_getElem hi]
  simp only[M] at h
  rcases h with⟨hn,_⟩ |⟨hk,h⟩ |⟨T,tag,me,A,c,rfl,rfl,hc,ht,h⟩
  ·exact absurd hn ho.not_nil
  ·simp only[K] at h
   obtain⟨A,c,rfl,hc,h⟩:=h
   obtain⟨g,off,cur,T,fr,rfl,Wa,hw,hl,h⟩:=h (by omega)
   have hbound:off+i*t.size+t.size≤cur.size:=by
    have:=Nat.mul_le_mul_right t.size (show i+1≤xs.length from hi)
    rw[Nat.add_mul,Nat.one_mul] at this
    omega
   have hK:=h i hi
   rw[←eY] at hK
   obtain⟨cL,cG,h1,h2,h3⟩:=focus p (ow:=fun _=>False) (ng (nT hk) hK) ho.sub hv hg
   exact⟨cL,cG,by simp only[aJ,bz hw hbound,Option.bind_some];exact h1,fun g hg=>(h2 g hg).elim,h3⟩
  ·rcases h with⟨rfl,_⟩ |⟨g,cur,τ,rfl,oQ,hw,iD,hm,h⟩
   ·simp at hi
   ·have hbound:i*t.size+t.size≤cur.size:=by
     have h1:=Nat.mul_le_mul_right t.size (show i+1≤xs.length from hi)
     have h2:=Nat.mul_le_mul_right t.size hc
     rw[Nat.add_mul,Nat.one_mul] at h1
     omega
    have hM:=h i hi
    rw[←eY] at hM
    obtain⟨cL,cG,h1,h2,h3⟩:=focus p hM ho.sub hv hg
    exact⟨cL,cG,by simp only[aJ,Nat.zero_add,bz hw hbound,Option.bind_some];exact h1,fun g hg=>(h2 g hg).1,h3⟩
end Go.Pv
namespace Go.Pv
set_option linter.unusedVariables false
set_option linter.unusedSimpArgs false
variable {w w':World} {Wr oP:Nat→Prop} {H:Nat→Value}
def putCells (cur:List Value) (off:Nat) (c:List Value):List Value:=cur.take off++c++cur.drop (off+c.length)
theorem nU (cur c:List Value) (off k:Nat) (h:off+c.length≤cur.length):
  (putCells cur off c)[k]? =if k<off then cur[k]? else if k<off+c.length then c[k - off]? else cur[k]? :=by
 unfold putCells
 have hl:(cur.take off).length=off:=by rw[List.length_take];omega
 by_cases h1:k<off
 ·rw[if_pos h1,List.append_assoc,List.getElem?_append_left (by omega),List.getElem?_take,if_pos h1]
 ·rw[if_neg h1]
  by_cases h2:k<off+c.length
  ·rw[if_pos h2,List.append_assoc,List.getElem?_append_right (by omega),hl,List.getElem?_append_left (by omega)]
  ·rw[if_neg h2,List.getElem?_append_right (by rw[List.length_append];omega),List.length_append,hl,List.getElem?_drop]
   congr 1
   omega
theorem Dm (cur c:List Value) (off:Nat) (h:off+c.length≤cur.length):(putCells cur off c).length=cur.length:=by
 unfold putCells
 simp only[List.length_append,List.length_take,List.length_drop]
 omega
theorem aaQ (cur c:List Value) (a off n:Nat) (h1:off+c.length≤n) (h2:a+n≤cur.length):
  ((putCells cur (a+off) c).drop a).take n=putCells ((cur.drop a).take n) off c:=by
 apply List.ext_getElem?
 intro k
 have hl:((cur.drop a).take n).length=n:=by simp;omega
 rw[nU _ _ _ _ (by omega)]
 by_cases hk:k<n
 ·rw[List.getElem?_take,if_pos hk,List.getElem?_drop,nU _ _ _ _ (by omega)]
  simp only[List.getElem?_take,if_pos hk,List.getElem?_drop]
  by_cases h3:k<off
  ·rw[if_pos h3,if_pos (by omega)]
  ·rw[if_neg h3,if_neg (by omega)]
   by_cases h4:k<off+c.length
   ·rw[if_pos h4,if_pos (by omega)];congr 1;omega
   ·rw[if_neg h4,if_neg (by omega)]
 ·rw[List.getElem?_take,if_neg hk,if_neg (by omega),if_neg (by omega),List.getElem?_take,if_neg hk]
theorem Mb (cur c:List Value) (o a n:Nat) (h:o+c.length≤cur.length) (hd:a+n≤o∨o+c.length≤a):
  ((putCells cur o c).drop a).take n=(cur.drop a).take n:=by
 apply List.ext_getElem?
 intro k
 by_cases hk:k<n
 ·simp only[List.getElem?_take,if_pos hk,List.getElem?_drop]
  rw[nU _ _ _ _ h]
  by_cases h3:a+k<o
  ·rw[if_pos h3]
  ·rw[if_neg h3,if_neg (by omega)]
 ·simp only[List.getElem?_take,if_neg hk]
def aK:Path→Bool
 |[]=>true
 | .fst::p=>aK p
 | .snd::p=>aK p
 |_::_=>false
def aE:Path→Ty→Nat
 | .fst::p,.pair a _=>aE p a
 | .snd::p,.pair a b=>a.size+aE p b
 |_,_=>0
def nV:Path→Ty→List Value→List Value→List Value
 |[],_,_,c=>c
 | .fst::p,.pair a _,cs,c=>nV p a (cs.take a.size) c++cs.drop a.size
 | .snd::p,.pair a b,cs,c=>cs.take a.size++nV p b (cs.drop a.size) c
 |_,_,cs,_=>cs
def jG (w w':World) (loc:Option (Nat×Nat)) (c:List Value) (g:Nat):Prop:=match loc with
 |some q=>if g=q.1 then ∃ cur T,w.heap[g]? =some (.cells cur T (0,0))∧w'.heap[g]? =some (.cells (putCells cur.toList q.2 c).toArray T (0,0)) else w'.heap[g]? =w.heap[g]?
 |none=>w'.heap[g]? =w.heap[g]?
theorem cT:∀ (p:Path) {t:Ty} {m:Md} {x:t.I} {b:TV},aK p=true→a8 p t m x=some b→aE p t+b.t.size≤t.size
 |[],t,m,x,b,_,hg=>by simp only[a8,Option.some.injEq] at hg;subst hg;simp[aE]
 | .fst::p,.pair a b',m,x,b,hm,hg=>by
  simp only[a8] at hg
  have:=cT p (by simpa[aK] using hm) hg
  simp only[aE,Ty.size];omega
 | .snd::p,.pair a b',m,x,b,hm,hg=>by
  simp only[a8] at hg
  have:=cT p (by simpa[aK] using hm) hg
  simp only[aE,Ty.size];omega
theorem dN:∀ (p:Path) {t:Ty} {cs:List Value},aK p=true→addrAt w p t cs none=none
 |[],_,_,_=>rfl
 | .fst::p,.pair a b,cs,h=>by simp only[addrAt];exact dN p (by simpa[aK] using h)
 | .snd::p,.pair a b,cs,h=>by simp only[addrAt,Option.map_none];exact dN p (by simpa[aK] using h)
 | .fst::p,.int _,_,_ | .fst::p,.bool,_,_ | .fst::p,.str,_,_ | .fst::p,.sl _,_,_ | .fst::p,.ptr _,_,_ | .fst::p,.unit,_,_ | .fst::p,.arr _ _,_,_=>by simp[addrAt]
 | .snd::p,.int _,_,_ | .snd::p,.bool,_,_ | .snd::p,.str,_,_ | .snd::p,.sl _,_,_ | .snd::p,.ptr _,_,_ | .snd::p,.unit,_,_ | .snd::p,.arr _ _,_,_=>by simp[addrAt]
theorem fT:∀ (p:Path) {t:Ty} {m:Md} {x:t.I} {cs:List Value} {b:TV} {g o:Nat},aK p=true→a8 p t m x=some b→addrAt w p t cs (some (g,o))=some (g,o+aE p t)
 |[],_,_,_,_,_,_,_,_,_=>by simp[addrAt,aE]
 | .fst::p,.pair a b,m,x,cs,_,_,_,h,hg=>by simp only[a8] at hg;simp only[addrAt,aE];exact fT p (by simpa[aK] using h) hg
 | .snd::p,.pair a b,m,x,cs,_,g,o,h,hg=>by
  simp only[a8] at hg;simp only[addrAt,aE,Option.map_some]
  rw[fT p (by simpa[aK] using h) hg,Nat.add_assoc]
theorem mn:∀ (p:Path) {t:Ty} {cs:List Value} (l l':Option (Nat×Nat)),aK p=false→addrAt w p t cs l=addrAt w p t cs l'
 |[],_,_,_,_,h=>by simp[aK] at h
 | .fst::p,.pair a b,cs,l,l',h=>by simp only[addrAt];exact mn p _ _ (by simpa[aK] using h)
 | .snd::p,.pair a b,cs,l,l',h=>by simp only[addrAt];exact mn p _ _ (by simpa[aK] using h)
 | .deref::p,.ptr t,cs,l,l',h=>by
  unfold addrAt
  split<;>simp_all
 | .idx i::p,.sl t,cs,l,l',h=>by
  unfold addrAt
  split<;>simp_all
 | .fst::p,.int _,_,_,_,_ | .fst::p,.bool,_,_,_,_ | .fst::p,.str,_,_,_,_ | .fst::p,.sl _,_,_,_,_ | .fst::p,.ptr _,_,_,_,_ | .fst::p,.unit,_,_,_,_ | .fst::p,.arr _ _,_,_,_,_=>by simp[addrAt]
 | .snd::p,.int _,_,_,_,_ | .snd::p,.bool,_,_,_,_ | .snd::p,.str,_,_,_,_ | .snd::p,.sl _,_,_,_,_ | .snd::p,.ptr _,_,_,_,_ | .snd::p,.unit,_,_,_,_ | .snd::p,.arr _ _,_,_,_,_=>by simp[addrAt]
 | .deref::p,.int _,_,_,_,_ | .deref::p,.bool,_,_,_,_ | .deref::p,.str,_,_,_,_ | .deref::p,.sl _,_,_,_,_ | .deref::p,.pair _ _,_,_,_,_ | .deref::p,.unit,_,_,_,_ | .deref::p,.arr _ _,_,_,_,_=>by simp[addrAt]
 | .idx _::p,.int _,_,_,_,_ | .idx _::p,.bool,_,_,_,_ | .idx _::p,.str,_,_,_,_ | .idx _::p,.ptr _,_,_,_,_ | .idx _::p,.pair _ _,_,_,_,_ | .idx _::p,.unit,_,_,_,_ | .idx _::p,.arr _ _,_,_,_,_=>by simp[addrAt]
theorem dp:∀ (p:Path) {t:Ty} {m:Md} {x:t.I} {cs:List Value} {b:TV},aK p=true→a8 p t m x=some b→cs.length=t.size→aJ w p t cs=some ((cs.drop (aE p t)).take b.t.size)
 |[],t,m,x,cs,b,_,hg,hl=>by
  simp only[a8,Option.some.injEq] at hg;subst hg
  simp only[aJ,aE,List.drop_zero]
  rw[List.take_of_length_le (by show cs.length≤t.size;omega)]
 | .fst::p,.pair a b',m,x,cs,b,h,hg,hl=>by
  simp only[a8] at hg;simp only[Ty.size] at hl
  have hf:=cT p (by simpa[aK] using h) hg
  simp only[aJ,aE]
  rw[dp p (by simpa[aK] using h) hg (by rw[List.length_take];omega),List.drop_take,List.take_take]
  congr 2;omega
 | .snd::p,.pair a b',m,x,cs,b,h,hg,hl=>by
  simp only[a8] at hg;simp only[Ty.size] at hl
  simp only[aJ,aE]
  rw[dp p (by simpa[aK] using h) hg (by rw[List.length_drop];omega),List.drop_drop]
theorem jn:∀ (p:Path) {t:Ty} {m:Md} {x:t.I} {cs c:List Value} {b:TV},aK p=true→a8 p t m x=some b→cs.length=t.size→c.length=b.t.size→nV p t cs c=putCells cs (aE p t) c
 |[],t,m,x,cs,c,b,_,hg,hl,hc=>by
  simp only[a8,Option.some.injEq] at hg;subst hg
  simp only[nV,aE,putCells,List.take_zero,List.nil_append,Nat.zero_add]
  rw[List.drop_of_length_le (by have ON:c.length=t.size:=hc;omega),List.append_nil]
 | .fst::p,.pair a b',m,x,cs,c,b,h,hg,hl,hc=>by
  simp only[a8] at hg;simp only[Ty.size] at hl
  have hf:=cT p (by simpa[aK] using h) hg
  simp only[nV,aE]
  rw[jn p (by simpa[aK] using h) hg (by rw[List.length_take];omega) hc]
  unfold putCells
  rw[List.take_take,Nat.min_eq_left (by omega),List.append_assoc,List.append_assoc,List.append_assoc,List.drop_take]
  congr 2
  rw[show cs.drop a.size=(cs.drop (aE p a+c.length)).drop (a.size - (aE p a+c.length)) from by rw[List.drop_drop];congr 1;omega,List.take_append_drop]
 | .snd::p,.pair a b',m,x,cs,c,b,h,hg,hl,hc=>by
  simp only[a8] at hg;simp only[Ty.size] at hl
  simp only[nV,aE]
  rw[jn p (by simpa[aK] using h) hg (by rw[List.length_drop];omega) hc]
  unfold putCells
  rw[←List.append_assoc, ←List.append_assoc, ←List.take_add,List.drop_drop]
  congr 2;omega
theorem iE:∀ (p:Path) {t:Ty} {cs c:List Value},aK p=false→nV p t cs c=cs
 |[],_,_,_,h=>by simp[aK] at h
 | .fst::p,.pair a b,cs,c,h=>by simp only[nV];rw[iE p (by simpa[aK] using h),List.take_append_drop]
 | .snd::p,.pair a b,cs,c,h=>by simp only[nV];rw[iE p (by simpa[aK] using h),List.take_append_drop]
 | .deref::p,t,cs,c,h=>by simp[nV]
 | .idx i::p,t,cs,c,h=>by simp[nV]
 | .fst::p,.int _,_,_,_ | .fst::p,.bool,_,_,_ | .fst::p,.str,_,_,_ | .fst::p,.sl _,_,_,_ | .fst::p,.ptr _,_,_,_ | .fst::p,.unit,_,_,_ | .fst::p,.arr _ _,_,_,_=>by simp[nV]
 | .snd::p,.int _,_,_,_ | .snd::p,.bool,_,_,_ | .snd::p,.str,_,_,_ | .snd::p,.sl _,_,_,_ | .snd::p,.ptr _,_,_,_ | .snd::p,.unit,_,_,_ | .snd::p,.arr _ _,_,_,_=>by simp[nV]
end Go.Pv
namespace Go.Pv
set_option linter.unusedVariables false
set_option linter.unusedSimpArgs false
variable {w w':World} {Wr oP:Nat→Prop} {H:Nat→Value}
def ai7 (w:World) (Wr:Nat→Prop) (H:Nat→Value) (p:Path) (t:Ty) (m:Md) (x:t.I) (cs:List Value) (ow cG:Nat→Prop) (hs:List Path) (b:TV) (cL:List Value):Prop:=
 ∀ (b2:TV) (r:Md×t.I),b2.t=b.t→fD b2 p t m x=some r→
  (∀ g off,addrAt w p t cs none=some (g,off)→ow g∧ ¬cG g∧∃ cur T,w.heap[g]? =some (.cells cur T (0,0))∧off+b.t.size≤cur.size∧cL=(cur.toList.drop off).take b.t.size)∧
  ∀ (w':World) (oP:Nat→Prop) (c:List Value) (iF:Nat→Prop) (mc:List Path),a6 w w' Wr oP→c.length=b.t.size→
   (∀ g,ow g→ ¬cG g→g<w.heap.size→jG w w' (addrAt w p t cs none) c g)→M w' oP H b2.t b2.m b2.x c iF (s6 p mc)→
   (∀ g,iF g→g<w.heap.size→ow g→cG g)→(∀ h,(∀ q,h≠p++q)→h∈hs→h∈mc)→
   M w' oP H t r.1 r.2 (nV p t cs c) (fun g=>(ow g∧ ¬cG g)∨iF g) mc
theorem ku {s:Step} {p:Path} {hs mc:List Path} (h:∀ h,(∀ q,h≠s::p++q)→h∈hs→h∈mc):∀ h,(∀ q,h≠p++q)→h∈sub s hs→h∈sub s mc:=fun q hq hm=>
 c8.2 (h _ (fun r e=>hq r (by rw[List.cons_append] at e;injection e)) (c8.1 hm))
theorem pn {s s':Step} (mo:s'≠s) {p:Path} {hs mc:List Path} (h:∀ h,(∀ q,h≠s::p++q)→h∈hs→h∈mc):∀ q∈sub s' hs,q∈sub s' mc:=fun q hq=>
 c8.2 (h _ (fun r e=>by rw[List.cons_append] at e;injection e with e _;exact mo e) (c8.1 hq))
theorem yj {b2:TV} {i:Nat} {p:Path} {t:Ty} {T:TypeId} {tag:Option Nat} {me:Md} {xs:List t.I} {r:Md×List t.I} (h:fD b2 (.idx i::p) (.sl t) (.o T tag me) xs=some r):
  ∃ r1,fD b2 p t me (List.getD xs i t.z)=some r1∧r1.1=me∧r=(.o T tag me,List.set xs i r1.2):=by
 unfold fD at h
 split at h
 ·rename_i r1 h1
  split at h
  ·rename_i h2
   injection h with h
   exact⟨r1,h1,h2,h.symm⟩
  ·cases h
 ·cases h
theorem uL:∀ (p:Path) {t:Ty} {m:Md} {x:t.I} {cs:List Value} {ow:Nat→Prop} {hs:List Path} {b:TV},M w Wr H t m x cs ow hs→open_ p hs→valid p t x→a8 p t m x=some b→
  ∃ cL cG,aJ w p t cs=some cL∧(∀ g,cG g→ow g)∧M w Wr H b.t b.m b.x cL cG (s6 p hs)∧ai7 w Wr H p t m x cs ow cG hs b cL
 |[],t,m,x,cs,ow,hs,b,h,ho,hv,hg=>by
  simp only[a8,Option.some.injEq] at hg
  subst hg
  refine⟨cs,ow,rfl,fun _ h=>h,h,fun b2 r ht hr=>⟨fun g off e=>by simp[addrAt] at e,fun w' oP c iF mc cc hc hb hm pf hh=> ?_⟩⟩
  obtain⟨t2,m2,x2⟩:=b2
  simp only at ht
  subst ht
  simp only[fD,dite_true,Option.some.injEq] at hr
  subst hr
  exact aN (a6.refl _ _) t2 (fun _ _ _=>rfl) (fun g hg _=>.inr hg) (fun _ h=>h) hm
 | .deref::p,.ptr t,m,x,cs,ow,hs,b,h,ho,hv,hg=>by
  simp only[a8] at hg
  simp only[valid] at hv
  simp only[M] at h
  rcases h with⟨hn,_⟩ |⟨hk,h⟩ |⟨T,tag,me,g,cur,rfl,rfl,ht,oQ,hw,h⟩
  ·exact absurd hn ho.not_nil
  ·obtain⟨cL,cG,h1,h2,h3⟩:=focus (H:=H) (ow:=ow) (.deref::p) (ng (t:=.ptr t) hk h) ho hv (by simpa only[a8] using hg)
   exact⟨cL,cG,h1,h2,h3,fun b2 r _ hr=>by cases m<;>simp[fD,Md.bQ] at hr hk⟩
  ·have hlen:=(eS t h).1
   obtain⟨cL,cG,h1,h2,h3,h4⟩:=uL p h ho.sub hv hg
   have iD:0+t.size≤cur.size:=by rw[←hlen];simp
   have fU:rowAt w g 0 t.size=some cur.toList:=by rw[bz hw iD,List.drop_zero,List.take_of_length_le (by omega)]
   refine⟨cL,cG, ?_,fun g hg=>(h2 g hg).1,h3,fun b2 r s7 hr=> ?_⟩
   ·simp only[aJ,fU,Option.bind_some];exact h1
   simp only[fD] at hr
   cases Dn:fD b2 p t me x with
   |none=>simp[Dn] at hr
   |some r1=>
    simp only[Dn,Option.some.injEq] at hr
    subst hr
    obtain⟨ha,jo⟩:=h4 b2 r1 s7 Dn
    have jQ:addrAt w (.deref::p) (.ptr t) [.pointer (some ⟨g,0,none⟩)] none=addrAt w p t cur.toList (some (g,0)):=by simp only[addrAt,fU,Option.bind_some]
    cases JO:aK p with
    |true=>
     have dG:=fT (w:=w) (cs:=cur.toList) (g:=g) (o:=0) p JO hg
     have po:=cT p JO hg
     have l9:=dp (w:=w) p JO hg hlen
     rw[h1] at l9
     injection l9 with l9
     rw[jQ,dG]
     refine⟨fun g' off e=> ?_,fun w' oP c iF mc cc hc hb hm pf hh=> ?_⟩
     ·injection e with e
      injection e with e1 e2
      subst e1 e2
      exact⟨oQ,fun hx=>(h2 g hx).2 rfl,cur,T,hw,by rw[←hlen] at po;simp at po ⊢;omega,by rw[Nat.zero_add];exact l9⟩
     ·have cI:=bO hw
      have bX:=hb g oQ (fun hx=>(h2 g hx).2 rfl) cI
      simp only[jG,if_true,Nat.zero_add] at bX
      obtain⟨BJ,T2,e2,xw⟩:=bX
      rw[hw] at e2
      injection e2 with e2
      injection e2 with e2 e3
      subst e2 e3
      have hM:=jo w' oP c iF (sub .deref mc) cc hc (fun g' dZ o6 hl=>by
       rw[dN p JO]
       have:=hb g' dZ.1 o6 hl
       simp only[jG,dZ.2,if_false] at this
       exact this) hm (fun g' dZ hl o6=>pf g' dZ hl o6.1) (ku hh)
      rw[jn p JO hg hlen hc] at hM
      simp only[nV,M]
      refine .inr (.inr ⟨T,tag,r1.1,g,_,rfl,rfl,ht,.inl ⟨oQ,fun hx=>(h2 g hx).2 rfl⟩,xw, ?_⟩)
      refine aN (a6.refl _ _) t (fun _ _ _=>rfl) (fun g' dZ hl=> ?_) (fun _ h=>h) hM
      rcases dZ with⟨⟨a1,a2⟩,a3⟩ |a
      ·exact⟨.inl ⟨a1,a3⟩,a2⟩
      ·refine⟨.inr a,fun e=> ?_⟩
       subst e
       exact(h2 g' (pf g' a cI oQ)).2 rfl
    |false=>
     have dG:=mn (w:=w) (t:=t) (cs:=cur.toList) p (some (g,0)) none JO
     rw[jQ,dG]
     refine⟨fun g' off e=> ?_,fun w' oP c iF mc cc hc hb hm pf hh=> ?_⟩
     ·obtain⟨a1,a2,a3⟩:=ha g' off e
      exact⟨a1.1,a2,a3⟩
     ·have cI:=bO hw
      have hM:=jo w' oP c iF (sub .deref mc) cc hc (fun g' dZ o6 hl=>hb g' dZ.1 o6 hl) hm (fun g' dZ hl o6=>pf g' dZ hl o6.1) (ku hh)
      rw[iE p JO] at hM
      have xw:w'.heap[g]? =some (.cells cur T (0,0)):=by
       have bX:=hb g oQ (fun hx=>(h2 g hx).2 rfl) cI
       cases nW:addrAt w p t cur.toList none with
       |none=>rw[nW] at bX;exact bX.trans hw
       |some q=>
        rw[nW] at bX
        have mo:g≠q.1:=fun e=>(ha q.1 q.2 nW).1.2 e.symm
        simp only[jG,mo,if_false] at bX
        exact bX.trans hw
      simp only[nV,M]
      refine .inr (.inr ⟨T,tag,r1.1,g,_,rfl,rfl,ht,.inl ⟨oQ,fun hx=>(h2 g hx).2 rfl⟩,xw, ?_⟩)
      refine aN (a6.refl _ _) t (fun _ _ _=>rfl) (fun g' dZ hl=> ?_) (fun _ h=>h) hM
      rcases dZ with⟨⟨a1,a2⟩,a3⟩ |a
      ·exact⟨.inl ⟨a1,a3⟩,a2⟩
      ·refine⟨.inr a,fun e=> ?_⟩
       subst e
       exact(h2 g' (pf g' a cI oQ)).2 rfl
 | .fst::p,.pair a b',m,x,cs,ow,hs,b,h,ho,hv,hg=>by
  simp only[a8] at hg
  simp only[valid] at hv
  have iG:∃ c0 c1,∃ s:Nat→Prop,cs=c0++c1∧M w Wr H a m.l x.1 c0 (fun g=>ow g∧s g) (sub .fst hs)∧M w Wr H b' m.r x.2 c1 (fun g=>ow g∧ ¬s g) (sub .snd hs):=by
   simp only[M] at h
   rcases h with⟨hn,_⟩ |⟨hk,h⟩ |⟨ma,mb,c0,c1,s,rfl,rfl,h0,h1⟩
   ·exact absurd hn ho.not_nil
   ·simp only[K] at h
    obtain⟨c0,c1,rfl,h0,h1⟩:=h
    exact⟨c0,c1,fun _=>True,rfl,ng (Gc hk) h0,ng (Gd hk) h1⟩
   ·exact⟨c0,c1,s,rfl,h0,h1⟩
  obtain⟨c0,c1,s,rfl,h0,h1⟩:=iG
  obtain⟨cL,cG,k1,k2,k3,k4⟩:=uL p h0 ho.sub hv hg
  have l0:=(eS a h0).1
  have ht:(c0++c1).take a.size=c0:=by rw[←l0,List.take_left]
  have hd:(c0++c1).drop a.size=c1:=by rw[←l0,List.drop_left]
  refine⟨cL,cG,by simp only[aJ,ht];exact k1,fun g hg=>(k2 g hg).1,k3,fun b2 r s7 hr=> ?_⟩
  simp only[fD] at hr
  cases Dn:fD b2 p a m.l x.1 with
  |none=>simp[Dn] at hr
  |some r1=>
   simp only[Dn,Option.some.injEq] at hr
   subst hr
   obtain⟨ha,jo⟩:=k4 b2 r1 s7 Dn
   have jQ:addrAt w (.fst::p) (.pair a b') (c0++c1) none=addrAt w p a c0 none:=by simp only[addrAt,ht]
   rw[jQ]
   refine⟨fun g' off e=> ?_,fun w' oP c iF mc cc hc hb hm pf hh=> ?_⟩
   ·obtain⟨a1,a2,a3⟩:=ha g' off e
    exact⟨a1.1,a2,a3⟩
   ·have hM:=jo w' oP c iF (sub .fst mc) cc hc (fun g' dZ o6 hl=>hb g' dZ.1 o6 hl) hm (fun g' dZ hl o6=>pf g' dZ hl o6.1) (ku hh)
    simp only[nV,ht,hd]
    refine s5 (s:=fun g=>(s g∧ow g)∨iF g) ?_ ?_
    ·refine aN (a6.refl _ _) a (fun _ _ _=>rfl) (fun g' dZ hl=> ?_) (fun _ h=>h) hM
     rcases dZ with⟨⟨a1,a2⟩,a3⟩ |q
     ·exact⟨.inl ⟨a1,a3⟩,.inl ⟨a2,a1⟩⟩
     ·exact⟨.inr q,.inr q⟩
    ·refine aN cc b' (fun g' dZ hl=> ?_) (fun g' dZ hl=>⟨.inl ⟨dZ.1,fun hx=>dZ.2 (k2 g' hx).2⟩,fun hx=> ?_⟩) (pn (by decide) hh) h1
     ·have bX:=hb g' dZ.1 (fun hx=>dZ.2 (k2 g' hx).2) hl
      cases nW:addrAt w p a c0 none with
      |none=>rw[nW] at bX;exact bX
      |some q=>
       rw[nW] at bX
       have mo:g'≠q.1:=fun e=>dZ.2 (by rw[e];exact(ha q.1 q.2 nW).1.2)
       simp only[jG,mo,if_false] at bX
       exact bX
     ·rcases hx with hx |hx
      ·exact dZ.2 hx.1
      ·exact dZ.2 (k2 g' (pf g' hx hl dZ.1)).2
 | .snd::p,.pair a b',m,x,cs,ow,hs,b,h,ho,hv,hg=>by
  simp only[a8] at hg
  simp only[valid] at hv
  have iG:∃ c0 c1,∃ s:Nat→Prop,cs=c0++c1∧M w Wr H a m.l x.1 c0 (fun g=>ow g∧s g) (sub .fst hs)∧M w Wr H b' m.r x.2 c1 (fun g=>ow g∧ ¬s g) (sub .snd hs):=by
   simp only[M] at h
   rcases h with⟨hn,_⟩ |⟨hk,h⟩ |⟨ma,mb,c0,c1,s,rfl,rfl,h0,h1⟩
   ·exact absurd hn ho.not_nil
   ·simp only[K] at h
    obtain⟨c0,c1,rfl,h0,h1⟩:=h
    exact⟨c0,c1,fun _=>True,rfl,ng (Gc hk) h0,ng (Gd hk) h1⟩
   ·exact⟨c0,c1,s,rfl,h0,h1⟩
  obtain⟨c0,c1,s,rfl,h0,h1⟩:=iG
  obtain⟨cL,cG,k1,k2,k3,k4⟩:=uL p h1 ho.sub hv hg
  have l0:=(eS a h0).1
  have ht:(c0++c1).take a.size=c0:=by rw[←l0,List.take_left]
  have hd:(c0++c1).drop a.size=c1:=by rw[←l0,List.drop_left]
  refine⟨cL,cG,by simp only[aJ,hd];exact k1,fun g hg=>(k2 g hg).1,k3,fun b2 r s7 hr=> ?_⟩
  simp only[fD] at hr
  cases Dn:fD b2 p b' m.r x.2 with
  |none=>simp[Dn] at hr
  |some r1=>
   simp only[Dn,Option.some.injEq] at hr
   subst hr
   obtain⟨ha,jo⟩:=k4 b2 r1 s7 Dn
   have jQ:addrAt w (.snd::p) (.pair a b') (c0++c1) none=addrAt w p b' c1 none:=by simp only[addrAt,hd,Option.map_none]
   rw[jQ]
   refine⟨fun g' off e=> ?_,fun w' oP c iF mc cc hc hb hm pf hh=> ?_⟩
   ·obtain⟨a1,a2,a3⟩:=ha g' off e
    exact⟨a1.1,a2,a3⟩
   ·have hM:=jo w' oP c iF (sub .snd mc) cc hc (fun g' dZ o6 hl=>hb g' dZ.1 o6 hl) hm (fun g' dZ hl o6=>pf g' dZ hl o6.1) (ku hh)
    simp only[nV,ht,hd]
    refine s5 (s:=fun g=>(s g∧ow g)∧ ¬iF g) ?_ ?_
    ·refine aN cc a (fun g' dZ hl=> ?_) (fun g' dZ hl=>⟨.inl ⟨dZ.1,fun hx=>(k2 g' hx).2 dZ.2⟩,⟨dZ.2,dZ.1⟩,fun hx=>(k2 g' (pf g' hx hl dZ.1)).2 dZ.2⟩) (pn (by decide) hh) h0
     have bX:=hb g' dZ.1 (fun hx=>(k2 g' hx).2 dZ.2) hl
     cases nW:addrAt w p b' c1 none with
     |none=>rw[nW] at bX;exact bX
     |some q=>
      rw[nW] at bX
      have mo:g'≠q.1:=fun e=>(ha q.1 q.2 nW).1.2 (by rw[←e];exact dZ.2)
      simp only[jG,mo,if_false] at bX
      exact bX
    ·refine aN (a6.refl _ _) b' (fun _ _ _=>rfl) (fun g' dZ hl=> ?_) (fun _ h=>h) hM
     rcases dZ with⟨⟨a1,a2⟩,a3⟩ |q
     ·exact⟨.inl ⟨a1,a3⟩,fun hx=>a2 hx.1.1⟩
     ·exact⟨.inr q,fun hx=>hx.2 q⟩
 | .idx i::p,.sl t,m,xs,cs,ow,hs,b,h,ho,hv,hg=>by
  simp only[a8] at hg
  have hv0:=hv
  simp only[valid] at hv
  obtain⟨hi,hv⟩:=hv
  have eY:List.getD xs i t.z=xs[i]:=by simp[List.getD_eq_getElem?_getD,List.getElem?_eq_getElem hi]
  simp only[M] at h
  rcases h with⟨hn,_⟩ |⟨hk,h⟩ |⟨T,tag,me,A,c,rfl,rfl,hc,ht,h⟩
  ·exact absurd hn ho.not_nil
  ·obtain⟨cL,cG,h1,h2,h3⟩:=focus (H:=H) (ow:=ow) (.idx i::p) (ng (t:=.sl t) hk h) ho hv0 (by simpa only[a8] using hg)
   exact⟨cL,cG,h1,h2,h3,fun b2 r _ hr=>by cases m<;>simp[fD,Md.bQ] at hr hk⟩
  ·rcases h with⟨rfl,_⟩ |⟨g,cur,τ,rfl,oQ,hw,iD,hm,h⟩
   ·simp at hi
   ·have agk:i*t.size+t.size≤cur.size:=by
     have h1:=Nat.mul_le_mul_right t.size (show i+1≤xs.length from hi)
     have h2:=Nat.mul_le_mul_right t.size hc
     rw[Nat.add_mul,Nat.one_mul] at h1
     omega
    have JX:=h i hi
    rw[←eY] at JX
    have hlen:=(eS t JX).1
    obtain⟨cL,cG,h1,h2,h3,h4⟩:=uL p JX ho.sub hv hg
    have fU:rowAt w g (0+i*t.size) t.size=some ((cur.toList.drop (i*t.size)).take t.size):=by rw[Nat.zero_add,bz hw agk]
    refine⟨cL,cG, ?_,fun g hg=>(h2 g hg).1,h3,fun b2 r s7 hr=> ?_⟩
    ·simp only[aJ,fU,Option.bind_some];exact h1
    obtain⟨r1,Dn,Wb,rfl⟩:=yj hr
    obtain⟨ha,jo⟩:=h4 b2 r1 s7 Dn
    have jQ:addrAt w (.idx i::p) (.sl t) [.slice (some ⟨g,0,none⟩) xs.length c] none=addrAt w p t ((cur.toList.drop (i*t.size)).take t.size) (some (g,i*t.size)):=by
     simp only[addrAt];rw[fU];simp only[Option.bind_some,Nat.zero_add]
    -- the other elements, and this one, behind the change
    have cI:=bO hw
    have rest:∀ (w':World) (oP:Nat→Prop) (c2:List Value) (iF:Nat→Prop) (mc:List Path) (BJ:Array Value),a6 w w' Wr oP→
      (∀ g',ow g'→g'≠g→ ¬cG g'→(∀ q,addrAt w p t ((cur.toList.drop (i*t.size)).take t.size) none=some q→g'≠q.1)→g'<w.heap.size→w'.heap[g']? =w.heap[g']?)→
      w'.heap[g]? =some (.cells BJ T (0,0))→BJ.size=cur.size→
      (∀ j,j<xs.length→j≠i→(BJ.toList.drop (j*t.size)).take t.size=(cur.toList.drop (j*t.size)).take t.size)→
      M w' oP H t r1.1 r1.2 ((BJ.toList.drop (i*t.size)).take t.size) (fun g'=>((ow g'∧g'≠g∧τ g'=i)∧ ¬cG g')∨iF g') (sub (.idx i) mc)→
      (∀ g',iF g'→g'<w.heap.size→ow g'→cG g')→(∀ h,(∀ q,h≠ .idx i::p++q)→h∈hs→h∈mc)→
      M w' oP H (.sl t) (.o T tag me) (List.set xs i r1.2) [.slice (some ⟨g,0,none⟩) xs.length c] (fun g'=>(ow g'∧ ¬cG g')∨iF g') mc:=by
     intro w' oP c2 iF mc BJ cc pq xw ai8 xx hM pf hh
     have Wa: ¬cG g:=fun hx=>(h2 g hx).2.1 rfl
     simp only[M]
     refine .inr (.inr ⟨T,tag,me,some ⟨g,0,none⟩,c,rfl,by rw[List.length_set],by rw[List.length_set];exact hc,fun h hh=>by rw[List.length_set];exact ht h hh,.inr ⟨g,BJ,fun g'=>open Classical in if iF g' then i else τ g',rfl,.inl ⟨oQ,Wa⟩,xw,by rw[ai8,iD],hm,fun j hj=> ?_⟩⟩)
     rw[List.length_set] at hj
     by_cases kd:j=i
     ·subst kd
      rw[List.getElem_set_self, ←Wb]
      refine aN (a6.refl _ _) t (fun _ _ _=>rfl) (fun g' dZ hl=> ?_) (fun _ h=>h) hM
      rcases dZ with⟨⟨a1,a2,a3⟩,a4⟩ |a
      ·exact⟨.inl ⟨a1,a4⟩,a2,by simp only;split<;>first |rfl |exact a3⟩
      ·refine⟨.inr a,fun e=> ?_,by simp only;rw[if_pos a]⟩
       subst e
       exact Wa (pf g' a cI oQ)
     ·rw[List.getElem_set_ne (fun e=>kd e.symm),xx j hj kd]
      have agl:∀ g',(ow g'∧g'≠g∧τ g'=j)→g'<w.heap.size→ ¬iF g':=fun g' dZ hl hx=>kd (by rw[←dZ.2.2];exact(h2 g' (pf g' hx hl dZ.1)).2.2)
      have agm:∀ g',(ow g'∧g'≠g∧τ g'=j)→ ¬cG g':=fun g' dZ hx=>kd (by rw[←dZ.2.2];exact(h2 g' hx).2.2)
      refine aN cc t (fun g' dZ hl=>pq g' dZ.1 dZ.2.1 (agm g' dZ) (fun q hq e=> ?_) hl) (fun g' dZ hl=>⟨.inl ⟨dZ.1,agm g' dZ⟩,dZ.2.1, ?_⟩) (pn (by intro e;injection e with e;exact kd e) hh) (h j hj)
      ·have:=(ha q.1 q.2 hq).1.2.2
       rw[←e,dZ.2.2] at this
       exact kd this
      ·simp only
       rw[if_neg (agl g' dZ hl)]
       exact dZ.2.2
    cases JO:aK p with
    |true=>
     have dG:=fT (w:=w) (cs:=(cur.toList.drop (i*t.size)).take t.size) (g:=g) (o:=i*t.size) p JO hg
     have po:=cT p JO hg
     have l9:=dp (w:=w) p JO hg hlen
     rw[h1] at l9
     injection l9 with l9
     rw[jQ,dG]
     refine⟨fun g' off e=> ?_,fun w' oP c2 iF mc cc gp hb PW pf hh=> ?_⟩
     ·injection e with e
      injection e with e1 e2
      subst e1 e2
      refine⟨oQ,fun hx=>(h2 g hx).2.1 rfl,cur,T,hw,by omega, ?_⟩
      rw[l9,List.drop_take,List.drop_drop,List.take_take]
      congr 1
      omega
     ·have bX:=hb g oQ (fun hx=>(h2 g hx).2.1 rfl) cI
      simp only[jG,if_true] at bX
      obtain⟨BJ,T2,e2,xw⟩:=bX
      rw[hw] at e2
      injection e2 with e2
      injection e2 with e2 e3
      subst e2 e3
      have agn:i*t.size+aE p t+c2.length≤cur.toList.length:=by rw[gp,Array.length_toList];omega
      have hM:=jo w' oP c2 iF (sub (.idx i) mc) cc gp (fun g' dZ o6 hl=>by
       rw[dN p JO]
       have:=hb g' dZ.1 o6 hl
       simp only[jG,dZ.2.1,if_false] at this
       exact this) PW (fun g' dZ hl o6=>pf g' dZ hl o6.1) (ku hh)
      rw[jn p JO hg hlen gp] at hM
      refine rest w' oP c2 iF mc _ cc (fun g' dZ o6 hg3 _ hl=> ?_) xw (by rw[List.size_toArray,Dm _ _ _ agn,Array.length_toList]) (fun j hj kd=> ?_) ?_ pf hh
      ·have:=hb g' dZ hg3 hl
       simp only[jG,o6,if_false] at this
       exact this
      ·rw[List.toList_toArray]
       refine Mb _ _ _ _ _ agn ?_
       rcases Nat.lt_or_gt_of_ne kd with aaR |aaR
       ·left
        have:=Nat.mul_le_mul_right t.size (show j+1≤i from aaR)
        rw[Nat.add_mul,Nat.one_mul] at this
        omega
       ·right
        have:=Nat.mul_le_mul_right t.size (show i+1≤j from aaR)
        rw[Nat.add_mul,Nat.one_mul] at this
        rw[gp]
        omega
      ·rw[List.toList_toArray,aaQ _ _ _ _ _ (by rw[gp];omega) (by rw[Array.length_toList];omega)]
       exact hM
    |false=>
     have dG:=mn (w:=w) (t:=t) (cs:=(cur.toList.drop (i*t.size)).take t.size) p (some (g,i*t.size)) none JO
     rw[jQ,dG]
     refine⟨fun g' off e=> ?_,fun w' oP c2 iF mc cc gp hb PW pf hh=> ?_⟩
     ·obtain⟨a1,a2,a3⟩:=ha g' off e
      exact⟨a1.1,a2,a3⟩
     ·have hM:=jo w' oP c2 iF (sub (.idx i) mc) cc gp (fun g' dZ o6 hl=>hb g' dZ.1 o6 hl) PW (fun g' dZ hl o6=>pf g' dZ hl o6.1) (ku hh)
      rw[iE p JO] at hM
      have same:∀ g',ow g'→ ¬cG g'→(∀ q,addrAt w p t ((cur.toList.drop (i*t.size)).take t.size) none=some q→g'≠q.1)→g'<w.heap.size→w'.heap[g']? =w.heap[g']? :=by
       intro g' dZ o6 hq hl
       have bX:=hb g' dZ o6 hl
       cases nW:addrAt w p t ((cur.toList.drop (i*t.size)).take t.size) none with
       |none=>rw[nW] at bX;exact bX
       |some q=>
        rw[nW] at bX
        simp only[jG,hq q nW,if_false] at bX
        exact bX
      have xw:w'.heap[g]? =some (.cells cur T (0,0)):=(same g oQ (fun hx=>(h2 g hx).2.1 rfl) (fun q hq e=>(ha q.1 q.2 hq).1.2.1 e.symm) cI).trans hw
      exact rest w' oP c2 iF mc cur cc (fun g' dZ _ hg3 hq hl=>same g' dZ hg3 hq hl) xw rfl (fun j hj kd=>rfl) hM pf hh
end Go.Pv
namespace Go.Pv
set_option linter.unusedVariables false
set_option linter.unusedSimpArgs false
structure af where
 res:List TV
 refs:List TV
inductive Arg where
 |tv (a:TV)
 |fn (f:FuncId) (cq:List TV)
inductive Pass where
 |val |take |dA
 deriving DecidableEq
structure bE where
 sig:FuncId→List Pass
 run:FuncId→List Arg→(af→Option af)→Option af
structure Entry where
 f:FuncId
 sig:List Pass
 run:List Arg→(af→Option af)→Option af
def entry:List Entry→FuncId→Option Entry
 |[],_=>none
 |e::r,f=>bif Nat.beq e.f f then some e else entry r f
def bE.of (l:List Entry):bE where
 sig f:=match entry l f with
  |some e=>e.sig
  |none=>[]
 run f:=match entry l f with
  |some e=>e.run
  |none=>fun _ _=>none
inductive Ex where
 |n |x (id:Nat) |r
inductive CK where
 |kv (t:Ty) |pl (t:Ty) (s:Nat) (p:Path)
@[reducible] def yk:List CK→Type
 |[]=>Unit
 | .kv t::r=>t.I×yk r
 | .pl _ _ _::r=>yk r
def lG:(cs:List CK)→yk cs→List Dj
 |[],_=>[]
 | .kv t::r,x=>.kv ⟨t,.k,x.1⟩::lG r x.2
 | .pl t s p::r,x=>.pl t s p::lG r x
def pr:(cs:List CK)→List Dj→Option (yk cs)
 |[],[]=>some ()
 | .kv t::r,.kv ⟨t',m',x⟩::S=>if h:t'=t then(if m'=.k then match pr r S with
   |some y=>some (h▸x,y)
   |none=>none else none) else none
 | .pl t s p::r,.pl t' s' p'::S=>if t'=t then(bif Nat.beq s' s then(if p'=p then pr r S else none) else none) else none
 |_,_=>none
inductive Kd where
 |dead |v (t:Ty) (m:Md) |al (t:Ty) (s:Nat) |nc (f:FuncId) (cs:List CK)
@[reducible] def cj:List Kd→Type
 |[]=>Unit
 | .v t _::r=>t.I×cj r
 | .dead::r=>cj r
 | .al _ _::r=>cj r
 | .nc _ cs::r=>yk cs×cj r
def shape:(ks:List Kd)→cj ks→St
 |[],_=>[]
 | .v t m::r,x=>.v ⟨t,m,x.1⟩ []::shape r x.2
 | .dead::r,x=>.dead::shape r x
 | .al t s::r,x=>.al t s []::shape r x
 | .nc f cs::r,x=>.nc f (lG cs x.1)::shape r x.2
def proj:(ks:List Kd)→St→Option (cj ks)
 |[],[]=>some ()
 | .v t m::r,.v ⟨t',m',x⟩ []::S=>if h:t'=t then(if m'=m then match proj r S with
   |some y=>some (h▸x,y)
   |none=>none else none) else none
 | .dead::r,_::S=>proj r S
 | .al t s::r,.al t' s' []::S=>if t'=t then(bif Nat.beq s' s then proj r S else none) else none
 | .nc f cs::r,.nc f' cq::S=>bif Nat.beq f' f then(match pr cs cq,proj r S with
   |some y,some z=>some (y,z)
   |_,_=>none) else none
 |_,_=>none
def fV (all:List Kd):List Kd→Bool
 |[]=>true
 | .al _ s::r=>(match all[s]? with
  |some (.v _ _)=>true
  |_=>false)&&fV all r
 | .nc _ cs::r=>(cs.all fun c=>match c with
  | .kv _=>true
  | .pl _ s _=>match all[s]? with
   |some (.v _ _)=>true
   |_=>false)&&fV all r
 |_::r=>fV all r
inductive OT where
 |done |one (i:Nat) (t:OT) |any (l:List Nat) (t:OT) |par (l:List Nat) (ds:List (List Nat)) (t:OT) |own (d:Nat) (t:OT) |cut (ks:List Kd) (t:OT) |Mc (i:Nat) (t:OT)
def OT.seq:List Nat→OT→OT
 |[],t=>t
 |i::r,t=>.one i (OT.seq r t)
structure Hint where
 bA:cK
 hn:Hn:=[]
 loops:List (Nat×List Kd):=[]
 outs:List (Nat×Nat×List Kd):=[]
 bH:List (Nat×OT):=[]
 pv:Option (Nat×Bool):=none
 frz:List (Nat×List (Nat×Path)):=[]
 yl:List Nat:=[]
def Ge:Path→Bool
 |[]=>true | .idx _::_=>false |_::p=>Ge p
def St.aaS (S:St) (q:Nat×Path):St:=match S.at q.1 with
 | .v r []=>match a8 q.2 r.t r.m r.x with
  |some b=>bif b.m.bQ|| !Ge q.2 then S else(match q.2 with
   |[]=>S.put (some q.1) (.v (JV r) [])
   |_=>(match fD (JV b) q.2 r.t r.m r.x with
    |some (m,z)=>St.put (((S.weaken q.1).cover q.1 q.2).set q.1 (.v r [q.2])) (some q.1) (.v ⟨r.t,m,z⟩ [])
    |none=>S))
  |none=>S
 |_=>S
def JY:List (Nat×List (Nat×Path))→Nat→St→St
 |[],_,S=>S
 |q::r,id,S=>bif Nat.beq q.1 id then q.2.foldl St.aaS S else JY r id S
def oS:List (Nat×List Kd)→Nat→Option (List Kd)
 |[],_=>none
 |q::r,k=>bif Nat.beq q.1 k then some q.2 else oS r k
def Wn (S:St) (i:Nat):Kd→St
 | .v _ m=>bif m.bQ then S else match S.at i with
  | .al t s []=>(match S.db (.tmp i) (.al t s []) with
   |some (a,S1)=>S1.put (some i) (.v a [])
   |none=>S)
  |_=>S
 |_=>S
def JZ:List Kd→Nat→St→St
 |[],_,S=>S
 |k::r,i,S=>JZ r (i+1) (Wn S i k)
def mq (ks:List Kd) (S:St):Option St:=bif fV ks ks then(match proj ks (JZ ks 0 S) with
  |some x=>some (shape ks x)
  |none=>none) else none
def Hint.clean (h:Hint) (key:Nat) (S:St):Option St:=match oS h.loops key with
 |some ks=>mq ks S
 |none=>none
def Ex.num:Ex→Nat
 | .n=>0 | .r=>1 | .x id=>id+2
def X1:List (Nat×Nat×List Kd)→Nat→Nat→Option (List Kd)
 |[],_,_=>none
 |q::r,k,e=>bif Nat.beq q.1 k&&Nat.beq q.2.1 e then some q.2.2 else X1 r k e
def B9 (S:St):Dj→Option TV
 | .pl _ s p=>match S.place s p with
  |some a=>some (JV a)
  |none=>none
 | .kv a=>some a
def nX (S:St):List Dj→Option (List TV)
 |[]=>some []
 |c::r=>match B9 S c,nX S r with
  |some a,some l=>some (a::l)
  |_,_=>none
def fv (Θ:cK):St→List Operand→List TypeId→List Pass→Option (List (Option TV)×St)
 |S,[],_,_=>some ([],S)
 |S,x::xs,T::Ts,p::ps=>match p with
  | .val=>match fv Θ S xs Ts ps with
   |some r=>some (none::r.1,r.2)
   |none=>none
  | .take=>match S.take Θ T x with
   |some (a,S1)=>match fv Θ S1 xs Ts ps with
    |some r=>some (some a::r.1,r.2)
    |none=>none
   |none=>none
  | .dA=>none
 |_,_,_,_=>none
def reads (Θ:cK) (S:St):List Operand→List TypeId→List (Option TV)→Option (List Arg)
 |[],_,_=>some []
 |x::xs,T::Ts,p::ps=>match p with
  |some a=>match reads Θ S xs Ts ps with
   |some r=>some (.tv a::r)
   |none=>none
  |none=>match S.dn Θ T x with
   |some (.nc f cq)=>match nX S cq,reads Θ S xs Ts ps with
    |some l,some r=>some (.fn f l::r)
    |_,_=>none
   |some av=>match S.qF av,reads Θ S xs Ts ps with
    |some a,some r=>some (.tv (JV a)::r)
    |_,_=>none
   |none=>none
 |_,_,_=>none
def B':List TV→AV
 |[a]=>.v a []
 |l=>.qZ (l.map some)
def Me (a:TV):Bool:=match a.t with
 | .ptr _=>a.m.bQ
 |_=>false
def pw (S:St) (f:FuncId):Option Nat→Option (List TV)
 |none=>some []
 |some i=>match S.at i with
  | .nc f' cq=>bif Nat.beq f' f then(match nX S cq with
   |some l=>bif l.all Me then some l else none
   |none=>none) else none
  |_=>none
def oT:Md→Bool
 | .k=>true | .o _ tag m=>(match tag with
  |none=>true
  |some _=>false)&&oT m
 | .p a b=>oT a&&oT b
def gC:Ty→Bool
 | .sl _=>false | .ptr _=>false | .pair a b=>gC a&&gC b | .arr _ t=>gC t |_=>true
def fG:Ty→Md→Bool
 | .sl t,.o _ _ m=>fG t m
 | .ptr t,.o _ _ m=>fG t m
 | .pair a b,.p m n=>fG a m&&fG b n
 |t,m=>m.bQ&&gC t
def rk (S:St):Operand→Bool
 | .tmp i=>(match S.at i with
  | .v b []=>b.m.bQ
  |_=>false)
 | .const _=>true
 |_=>false
def gq (S:St):List Operand→List (Option TV)→List Arg→Bool
 |[],_,_=>true
 |x::xs,p::ps,r::rs=>((match p with
  |some _=>true
  |none=>false)||(match r with
  | .tv b=>fG b.t b.m||rk S x
  | .fn _ cs=>cs.isEmpty))&&gq S xs ps rs
 |_,_,_=>false
def gg (h:Hint) (O:bE) (o:Oper) (f:FuncId) (cal:Option Nat) (args:List Operand) (ts:List TypeId) (S:St) (K:St→Option af):Option af:=
 match fv h.bA S args ts (O.sig f) with
 |some (l,S1)=>match reads h.bA S1 args ts l,pw S1 f cal with
  |some as,some cs=>O.run f (as++cs.map .tv) fun ret=>match ret.refs with
   |[]=>bif ret.res.all (fun d=>fG d.t d.m)||(cs.isEmpty&&gq S1 args l as) then K (S1.put o.dst (B' ret.res)) else none
   |_::_=>none
  |_,_=>none
 |none=>none
def eH:Ty→Md→Bool
 | .sl _,.o _ _ m=>oT m
 | .ptr _,.o _ _ m=>oT m
 | .pair a b,.p m n=>eH a m&&eH b n
 |_,m=>m.bQ
def py:Ty→Md→Bool
 | .sl t,.o _ _ m=>fG t m
 | .ptr t,.o _ _ m=>fG t m
 | .pair a b,.p m n=>py a m&&py b n
 |_,m=>m.bQ
def gH:Ty→Md→Nat→Md
 | .sl _,.o T _ m,n=>.o T (some n) m
 | .ptr _,.o T _ m,n=>.o T (some n) m
 | .pair a b,.p ma mb,n=>.p (gH a ma n) (gH b mb (n+a.size))
 |_,m,_=>m
def eZ:(t:Ty)→Md→t.I→t.I→t.I
 | .sl _,.o ..,_,y=>y
 | .ptr _,.o ..,_,y=>y
 | .pair a b,.p ma mb,x,y=>(eZ a ma x.1 y.1,eZ b mb x.2 y.2)
 |_,_,x,_=>x
def rR:List Pass→Nat→Option Nat
 |[],_=>none
 | .dA::_,j=>some j
 |_::r,j=>rR r (j+1)
def iH (x:Operand):AV→Option (Nat×Path)
 | .v _ _=>match x with
  | .tmp i=>some (i,[])
  |_=>none
 | .al _ s p=>some (s,p)
 |_=>none
def St.nY (S:St) (s:Nat) (b:TV):Path→Option St
 |[]=>some (S.put (some s) (.v b []))
 |p=>match S.at s with
  | .v r ex=>match fD b p r.t r.m r.x with
   |some (m,z)=>some (S.put (some s) (.v ⟨r.t,m,z⟩ ex.dropLast))
   |none=>none
  |_=>none
def pz (h:Hint) (O:bE) (o:Oper) (f:FuncId) (j:Nat) (args:List Operand) (ts:List TypeId) (S:St) (K:St→Option af):Option af:=
 match args[j]?,ts[j]? with
 |some x,some T=>match S.dn h.bA T x with
  |some av=>match iH x av,S.db x av with
   |some (s,p),some (b,S1)=>bif !b.m.bQ&&eH b.t b.m then
     (match reads h.bA S1 args ts ((List.replicate args.length none).set j (some ⟨b.t,gH b.t b.m 0,b.x⟩)) with
     |some as=>bif py b.t b.m||gq S1 args ((List.replicate args.length none).set j (some ⟨b.t,gH b.t b.m 0,b.x⟩)) as then O.run f as fun ret=>match ret.refs with
      |[c]=>bif ret.res.all (fun d=>oT d.m&&(fG d.t d.m||gq S1 args ((List.replicate args.length none).set j (some ⟨b.t,gH b.t b.m 0,b.x⟩)) as)) then(if hc:c.t=b.t then(if c.m=gH b.t b.m 0 then
        (match S1.nY s ⟨b.t,b.m,eZ b.t b.m b.x (hc▸c.x)⟩ p with
        |some S2=>K ((S.again S2 s).put o.dst (B' ret.res))
        |none=>none) else none) else none) else none
      |_=>none else none
     |none=>none) else none
   |_,_=>none
  |none=>none
 |_,_=>none
noncomputable def both (a b:Option af):Option af:=open Classical in if a=b then a else none
theorem OO {a b:Option af} {r:af} (h:both a b=some r):a=some r∧b=some r:=by
 unfold both at h
 split at h
 ·rename_i e;exact⟨h,by rw[←e];exact h⟩
 ·cases h
noncomputable def Mf (h:Hint) (dst:Option Nat) (T:TypeId) (eq:Bool) (x:Operand) (S:St) (K:St→Option af):Option af:=match S.rd h.bA 0 x with
 |some ⟨.sl t,_,xs⟩=>bif h.bA.is T (.sl t) then(bif List.isEmpty xs then both (K (S.put dst (.v ⟨.bool,.k,true⟩ []))) (K (S.put dst (.v ⟨.bool,.k,false⟩ []))) else K (S.put dst (.v ⟨.bool,.k, !eq⟩ []))) else none
 |_=>none
def nZ:Op→Bool
 | .binOp _ _ _ (.const (.slice none _ _)) _=>true
 |_=>false
noncomputable def fW (h:Hint) (O:bE) (o:Oper) (S:St) (K:St→Option af):Option af:=match o.op with
 | .call { callee:=.value (.func f),args:=as,argTypes:=ts }=>match rR (O.sig f) 0 with
  |some j=>pz h O o f j as.toList ts.toList S K
  |none=>gg h O o f none as.toList ts.toList S K
 | .call { callee:=.value (.tmp i),args:=as,argTypes:=ts }=>match S.at i with
  | .nc f _=>gg h O o f (some i) as.toList ts.toList S K
  |_=>none
 | .binOp .eql T x (.const (.slice none 0 0)) _=>Mf h o.dst T true x S K
 | .binOp .neq T x (.const (.slice none 0 0)) _=>Mf h o.dst T false x S K
 |_=>match ev h.bA h.hn S o with
  |some (g,S1)=>bif g then K S1 else none
  |none=>none
noncomputable def aY (h:Hint) (O:bE) (ops:Array Oper) (i:Nat) (S:St) (K:St→Option af):Option af:=match ops[i]? with
 |none=>none
 |some o=>match o.guard with
  |none=>fW h O o S K
  |some (j,want)=>match (ops[j]?).bind (·.dst) with
   |some d=>match S.at d with
    | .v ⟨.bool,m,q⟩ ex=>bif q then
      (bif want then fW h O o (S.set d (.v ⟨.bool,m,true⟩ ex)) K else K (St.put (S.set d (.v ⟨.bool,m,true⟩ ex)) o.dst .undef))
     else(bif want then K (St.put (S.set d (.v ⟨.bool,m,false⟩ ex)) o.dst .undef) else fW h O o (S.set d (.v ⟨.bool,m,false⟩ ex)) K)
    | .undef=>K (S.put o.dst .undef)
    |_=>none
   |none=>none
noncomputable def mr (h:Hint) (O:bE) (ops:Array Oper):List Nat→St→(St→Option af)→Option af
 |[],S,K=>K S
 |i::r,S,K=>aY h O ops i S (fun S1=>mr h O ops r S1 K)
def gu (S:St):Operand→Bool
 | .tmp i=>(match S.at i with
  | .v _ []=>true
  |_=>false)
 | .const _=>true
 |_=>false
def J0 (S:St):Operand→Bool
 | .tmp i=>(match S.at i with
  | .v ⟨_,.k,_⟩ []=>true
  |_=>false)
 | .const _=>true
 |_=>false
def vI (S:St):Option Operand→Bool
 |none=>true
 |some x=>gu S x
def P9 (O:bE) (f:FuncId):Bool:=(O.sig f).all fun p=>match p with
 | .val=>true
 |_=>false
def P' (ops:Array Oper) (x:Nat):Option Nat:=ops.toList.findSome? fun o=>match o.dst,o.op with
 |some d,.fieldAddr _ (.tmp s) _=>bif Nat.beq d x then some s else none
 |_,_=>none
def iz (O:bE) (ops:Array Oper) (S:St) (o:Oper):Bool:=(match o.guard with
  |none=>true
  |some _=>false)&&(match o.dst with
  |some d=> !(S.at d).sY&&Nat.blt d S.length
  |none=>false)&&(match o.op with
  | .call { callee:=.value (.func f),args:=as,.. }=>P9 O f&&as.toList.all (gu S)
  | .call { callee:=.builtin .append,args:=as,.. }=>as.toList.all (gu S)
  | .buildSlice _ _ ps=>ps.toList.all fun q=>gu S q.2
  | .load _ (.tmp x)=>(match P' ops x,S.at x with
   |some s,.ad _ s' p=>Nat.beq s' s&&(match S.ca s p with
    |some a=>a.m.bQ
    |none=>false)
   |none,.v ⟨.ptr _,.k,_⟩ []=>true
   |none,.v ⟨.ptr _,.o ..,_⟩ []=>(match S.ca x [.deref] with
    |some a=>a.m.bQ
    |none=>false)
   |_,_=>false)
  | .slice _ x lo hi none=>J0 S x&&(vI S lo&&vI S hi)
  | .indexAddr _ x ix=>J0 S x&&gu S ix
  |_=>false)
noncomputable def mu (h:Hint) (O:bE) (ops:Array Oper):List Nat→St→(St→Option af)→Option af
 |[],S,K=>K S
 |i::r,S,K=>match ops[i]? with
  |some o=>bif iz O ops S o then aY h O ops i S (fun S1=>mu h O ops r S1 K) else none
  |none=>none
def slotsOf:AV→List Nat
 | .al _ s _=>[s] | .ad _ s _=>[s] | .cut _ s _ _ _=>[s]
 | .nc _ cq=>cq.filterMap fun c=>match c with
  | .pl _ s _=>some s
  | .kv _=>none
 |_=>[]
def fw (Δ:Nat→Bool):St→Nat→Bool
 |[],_=>true
 |a::r,i=>((slotsOf a).all fun s=>Δ i==Δ s)&&fw Δ r (i+1)
def kx (Δ:Nat→Bool):Operand→Bool
 | .tmp i=>Δ i
 | .const _=>true
 | .func _=>true
 | .global _=>false
def Wo (Δ:Nat→Bool) (o:Oper):Bool:=match o.dst,o.op with
 |some d,.store .. =>false
 |some d,_=>Δ d
 |none,.store .. =>true
 |none,_=>false
def eE (Δ:Nat→Bool) (o:Oper):Bool:=(match o.guard with
  |none=>true
  |some _=>false)&&Wo Δ o&&(match o.op with
 | .store _ x y=>kx Δ x&&kx Δ y
 | .makeSlice _ l c=>kx Δ l&&kx Δ c
 | .alloc _=>true
 | .buildSlice _ _ ps=>ps.toList.all fun q=>kx Δ q.2
 | .load _ x=>kx Δ x
 | .move x=>kx Δ x
 | .extract x _=>kx Δ x
 | .binOp _ _ x y _=>kx Δ x&&(kx Δ y&& !nZ o.op)
 | .fieldAddr _ x _=>kx Δ x
 | .indexAddr _ x ix=>kx Δ x&&kx Δ ix
 | .convert _ _ x=>kx Δ x
 | .call { callee:=.builtin .append,args:=as,.. }=>as.toList.all (kx Δ)
 | .call { callee:=.value (.func _),args:=as,.. }=>as.toList.all (kx Δ)
 |_=>false)
def rS (l:List Nat) (i:Nat):Bool:=l.any (Nat.beq i)
def OP (l:List Nat) (i:Nat):Bool:= !rS l i
def lH (ds:List (List Nat)) (S:St):Bool:=ds.all fun d=>fw (rS d) S 0
def ago (ds:List (List Nat)) (oi oj:Oper):Bool:=ds.any fun d=>(eE (rS d) oi&&eE (OP d) oj)||(eE (OP d) oi&&eE (rS d) oj)
def exB (oi oj:Oper):Bool:=match oi.guard,oj.guard,oi.dst,oj.dst,oi.op,oj.op with
 |none,none,some a,some b,.extract (.tmp x) p,.extract (.tmp y) q=>Nat.beq x y&&(!Nat.beq p q&&(!Nat.beq a b&&(!Nat.beq a x&& !Nat.beq b x)))
 |_,_,_,_,_,_=>false
def ldB (oi oj:Oper):Bool:=match oi.guard,oj.guard,oi.dst,oj.dst,oi.op,oj.op with
 |none,none,some a,some b,.load _ (.tmp x),.load _ (.tmp y)=> !Nat.beq a b&&(!Nat.beq a x&&(!Nat.beq a y&&(!Nat.beq b x&& !Nat.beq b y)))
 |_,_,_,_,_,_=>false
def Qa (o:Oper):List Nat:=match o.dst with
 |some d=>[d]
 |none=>[]
def Qb (Θ:cK) (o:Oper):Bool:=match o.guard,o.dst,o.op with
 |none,some _,.load T (.tmp _)=>(match Θ.find T with
  |some i=>i.ty.flat
  |none=>false)
 |_,_,_=>false
def pA (Θ:cK) (d:List Nat) (o:Oper):Bool:=eE (rS d) o||(eE (OP d) o||Qb Θ o)
def eqN:List Nat→List Nat→Bool
 |[],[]=>true
 |a::r,b::s=>Nat.beq a b&&eqN r s
 |_,_=>false
def Mg (us:List (List Nat)) (d:List Nat):Bool:=us.any (eqN d)
def s8 (us:List (List Nat)) (oi oj:Oper):Bool:=exB oi oj||((ldB oi oj&&(Mg us (Qa oi)&&Mg us (Qa oj)))||ago us oi oj)
def Mh (S:St) (d:Nat):Option (Bool×St):=match S.at d with
 | .al _ s (st::pp)=>(match S.at s with
  | .v r ex=>(match a8 (st::pp) r.t r.m r.x with
   |some b=>bif b.m.bQ then none else some (ex.all (fun h=> !nP h (st::pp)),St.put (((S.weaken s).cover s (st::pp)).set s (.v r (ex++[st::pp]))) (some d) (.v b []))
   |none=>none)
  |_=>none)
 |_=>none
def pB:Path→Bool
 |[]=>true | .fst::p=>pB p | .snd::p=>pB p |_=>false
def J1:Path→Bool
 | .deref::p=>pB p
 |_=>false
def St.J2 (S1:St) (k:Nat) (t:Ty) (s:Nat) (q:Path):St:=match S1.at k,S1.ca s q with
 | .dead,some c=>if c.t=t then S1.set k (.al t s q) else S1
 |_,_=>S1
def St.xH (S:St) (s:Nat) (p:Path):List Nat→St→St
 |[],S1=>S1
 |k::r,S1=>St.xH S s p r (match S.at k with
  | .al t s' q=>bif Nat.beq s' s&&(J1 q&& !c7 q p) then S1.J2 k t s q else S1
  |_=>S1)
def ym (Θ:cK) (ks:List Nat) (S:St) (T:TypeId) (x y:Operand):uH:=match gX Θ S T x y,S.dn Θ 0 x with
 |some (g,S1),some a=>match S.rh x a with
  |some (.pl _ s p)=>bif J1 p then some (g,S.xH s p ks (match y with
    | .tmp i=>match S.at i with
     | .al t v []=>S1.J2 v t s p
     |_=>S1
    |_=>S1)) else none
  |_=>none
 |_,_=>none
noncomputable def cB (h:Hint) (O:bE) (ops:Array Oper):OT→St→(St→Option af)→Option af
 | .done,S,K=>K S
 | .one i t,S,K=>aY h O ops i S (fun S1=>cB h O ops t S1 K)
 | .any l t,S,K=>mu h O ops l S (fun S1=>cB h O ops t S1 K)
 | .own d t,S,K=>match Mh S d with
  |some (g,S1)=>bif g then cB h O ops t S1 K else none
  |none=>none
 | .cut ks t,S,K=>match mq ks S with
  |some S1=>cB h O ops t S1 K
  |none=>none
 | .Mc i t,S,K=>match ops[i]? with
  |some o=>match o.guard,o.dst,o.op with
   |none,none,.store T x y=>(match ym h.bA h.yl S T x y with
    |some (g,S1)=>bif g then cB h O ops t S1 K else none
    |none=>none)
   |_,_,_=>none
  |none=>none
 | .par l ds t,S,K=>bif lH ds S then mr h O ops l S (fun S1=>cB h O ops t S1 K) else none
def quiet:Op→Bool
 | .move _=>true | .assign _=>true | .pick .. =>true | .build .. =>true | .load .. =>true | .nilCheck _=>true | .fieldAddr .. =>true | .field .. =>true | .indexAddr .. =>true | .index .. =>true
 | .extract .. =>true | .slice .. =>true | .convert .. =>true | .binOp .. =>true | .unOp .. =>true | .makeFunc .. =>true | .call { callee:=.builtin .len,.. }=>true |_=>false
def xy (O:bE):Op→Bool
 | .alloc _=>true | .box .. =>true | .buildSlice .. =>true | .makeSlice .. =>true
 | .call { callee:=.value (.func f),.. }=>(O.sig f).all fun p=>match p with
  | .val=>true
  |_=>false
 |o=>quiet o
def still:Op→Bool
 | .extract .. =>true | .indexAddr .. =>true | .binOp .. =>true | .slice .. =>true | .move _=>true | .convert .. =>true | .fieldAddr .. =>true | .build .. =>true | .call { callee:=.builtin .len,.. }=>true |_=>false
def uM (Θ:cK) (o:Op):Bool:=still o&& !nZ o&&(match o with
 | .convert _ T' _=>(match Θ.find T' with
  |some i=>(match i.ty with
   | .int _=>true
   |_=>false)
  |none=>false)
 |_=>true)
def iI (ops:Array Oper) (oi:Oper) (rest:Nat):List Oper→Nat→Bool
 |[],_=>true
 |oj::r,j=>(bif Nat.testBit rest j then oi.apart ops oj else true)&&iI ops oi rest r (j+1)
def bq (o:Oper):Nat:=o.after.toList.foldr (fun e m=>bif Region.binds .any e then m|||2^e.on else m) 0
def bc (i:Nat):List Nat→Nat→Nat→Nat
 |[],_,acc=>acc
 |m::r,j,acc=>bc i r (j+1) (bif Nat.beq j i|| !(Nat.beq (m&&&acc) 0) then acc|||2^j else acc)
def s9 (O:bE) (ops:Array Oper) (oi:Oper) (rest:Nat):List Oper→Nat→Bool
 |[],_=>true
 |oj::r,j=>(bif Nat.testBit rest j then oi.apart ops oj&&xy O oj.op else true)&&s9 O ops oi rest r (j+1)
def Qc (Θ:cK) (O:bE) (ops:Array Oper) (as:List Nat) (full L i:Nat):Bool:=match as[i]?,ops[i]? with
 |some m,some oi=> !Nat.testBit L i&&Nat.beq (m&&&L) m&&Nat.beq (bc i as 0 0&&&L) 0&&(Nat.beq (full^^^(bc i as 0 0|||L)) 0||(quiet oi.op&&(!nZ oi.op&&s9 O ops oi (full^^^(bc i as 0 0|||L)) ops.toList 0))||(uM Θ oi.op&&iI ops oi (full^^^(bc i as 0 0|||L)) ops.toList 0))
 |_,_=>false
def aS:Operand→List Nat
 | .tmp i=>[i]
 |_=>[]
def eI:Option Operand→List Nat
 |none=>[]
 |some x=>aS x
def aZ (ops:Array Oper) (o:Oper):List Nat:=match o.op with
 | .call c=>c.args.toList.flatMap aS
 | .buildSlice _ _ ps=>ps.toList.flatMap fun q=>aS q.2
 | .load _ (.tmp x)=>(match P' ops x with
  |some s=>[x,s]
  |none=>[x])
 | .slice _ x lo hi _=>aS x++(eI lo++eI hi)
 | .indexAddr _ x ix=>aS x++aS ix
 |_=>[]
def iA (o:Oper):Bool:=match o.op with
 | .call { callee:=.value (.func _),.. }=>true
 | .load .. =>true
 | .slice .. =>true
 | .indexAddr .. =>true
 |_=>false
def Ca (ops:Array Oper) (oi oj:Oper):Bool:=(match oi.dst,oj.dst with
  |some a,some b=> !Nat.beq a b&& !(aZ ops oj).any (Nat.beq a)&& !(aZ ops oi).any (Nat.beq b)
  |_,_=>false)&&((iA oi&&iA oj)|| !(aZ ops oi).any fun r=>(aZ ops oj).any (Nat.beq r))
def yn (ops:Array Oper) (as:List Nat):List Nat→Bool
 |[]=>true
 |i::r=>(r.all fun j=>match as[j]?,ops[i]?,ops[j]? with
   |some m,some oi,some oj=> !Nat.beq i j&&(Nat.testBit m i||Ca ops oi oj)
   |_,_,_=>false)&&yn ops as r
def dD (l:List Nat):Nat:=l.foldr (fun i m=>m|||2^i) 0
def lI (as:List Nat):Nat→List Nat→Bool
 |_,[]=>true
 |L,i::r=>(match as[i]? with
  |some m=>Nat.beq (m&&&L) m
  |none=>false)&&lI as (L|||2^i) r
def Wp (ops:Array Oper) (as:List Nat) (full L:Nat) (l:List Nat):Bool:=
 !l.isEmpty&&(l.all fun i=>Nat.blt i ops.size&& !Nat.testBit L i&&Nat.beq (bc i as 0 0&&&L) 0&&Nat.beq (full^^^(bc i as 0 0|||L|||dD l)) 0)&&yn ops as l&&lI as L l
def Dp (Θ:cK) (ops:Array Oper) (as:List Nat) (l:List Nat) (i j:Nat) (d:List Nat):Bool:=l.all fun z=>Nat.beq z i||(Nat.beq z j||(Nat.testBit (bc i as 0 0) z||(Nat.testBit (bc j as 0 0) z||(match ops[z]? with
 |some oz=>pA Θ d oz
 |none=>false))))
def nh (Θ:cK) (ops:Array Oper) (as:List Nat) (ds:List (List Nat)) (l:List Nat):List Nat→Bool
 |[]=>true
 |i::r=>(r.all fun j=>match ops[i]?,ops[j]? with
   |some oi,some oj=> !Nat.beq i j&&(!Nat.testBit (bc j as 0 0) i&&(Nat.testBit (bc i as 0 0) j||s8 (ds.filter (Dp Θ ops as l i j)) oi oj))
   |_,_=>false)&&nh Θ ops as ds l r
def Qd (Θ:cK) (ops:Array Oper) (as:List Nat) (full L i:Nat):Bool:=match ops[i]? with
 |some oi=>uM Θ oi.op&&iI ops oi (full^^^(full&&&(bc i as 0 0|||L|||bq oi))) ops.toList 0
 |none=>false
def Wq (Θ:cK) (ops:Array Oper) (as:List Nat) (full L:Nat) (l:List Nat) (ds:List (List Nat)):Bool:=
 !l.isEmpty&&(l.all fun i=>Nat.blt i ops.size&& !Nat.testBit L i&&Nat.beq (bc i as 0 0&&&L) 0&&(Nat.beq (full^^^(bc i as 0 0|||L|||dD l)) 0||Qd Θ ops as full L i))&&nh Θ ops as ds l l&&lI as L l&&l.all fun i=>match ops[i]? with
  |some o=> !nZ o.op
  |none=>false
def eB (Θ:cK) (O:bE) (ops:Array Oper) (as:List Nat) (full:Nat):Nat→OT→Bool
 |L,.done=>Nat.beq L full
 |L,.one i t=>Qc Θ O ops as full L i&&eB Θ O ops as full (L|||2^i) t
 |L,.any l t=>Wp ops as full L l&&eB Θ O ops as full (L|||dD l) t
 |L,.own _ t=>eB Θ O ops as full L t
 |L,.cut _ t=>eB Θ O ops as full L t
 |_,.Mc _ _=>false
 |L,.par l ds t=>Wq Θ ops as full L l ds&&eB Θ O ops as full (L|||dD l) t
def OT.len:OT→Nat
 | .done=>0 | .one _ t=>t.len+1 | .any l t=>t.len+l.length | .par l _ t=>t.len+l.length | .own _ t=>t.len | .cut _ t=>t.len | .Mc _ t=>t.len+1
def aaT (Θ:cK) (O:bE) (ops:Array Oper) (l:OT):Bool:=Region.noSelect ops&&Nat.ble l.len ops.size&&eB Θ O ops (ops.toList.map bq) (2^ops.size - 1) 0 l
def Cb (S:St):St:=S.map fun a=>match a with
 | .al t s []=>.al t s []
 | .al .. =>.dead
 | .ad .. =>.dead
 | .cut .. =>.dead
 |a=>a
def qG (ks:List Nat):Nat→St→St
 |_,[]=>[]
 |i,a::r=>(bif rS ks i then a else match a with
  | .al t s []=>.al t s []
  | .al .. =>.dead
  | .ad .. =>.dead
  | .cut .. =>.dead
  |a=>a)::qG ks (i+1) r
def yo (ks:List Nat) (S:St):St:=match ks with
 |[]=>Cb S
 |_=>qG ks 0 S
def OT.line:OT→Option (List Nat)
 | .done=>some []
 | .one j t=>t.line.map (j:: ·)
 | .cut _ t=>t.line
 | .Mc j t=>t.line.map (j:: ·)
 |_=>none
def X4 (l:OT) (n:Nat):Bool:=match l.line with
 |some q=>eqN q (List.range n)
 |none=>false
def Gf:List (Nat×OT)→Nat→Option OT
 |[],_=>none
 |q::r,k=>bif Nat.beq q.1 k then some q.2 else Gf r k
def e7 (h:Hint) (O:bE):Code→Bool
 | .region id ops true=>(match Gf h.bH id with
  |some l=>aaT h.bA O ops l
  |none=>true)
 | .region id ops false=>(match Gf h.bH id with
  |some l=>X4 l ops.size
  |none=>true)
 | .seq a b=>e7 h O a&&e7 h O b
 | .cond _ a b=>e7 h O a&&e7 h O b
 | .block _ c=>e7 h O c
 | .loop c=>e7 h O c
 |_=>true
def keyOf:Code→Nat
 | .region id _ _=>id
 | .seq a _=>keyOf a
 | .block _ c=>keyOf c
 | .loop c=>keyOf c
 |_=>0
def ni (ops:Array Oper):Bool:=ops.toList.all fun o=> !nZ o.op
def gh:Code→Bool
 | .region _ ops _=>ni ops
 | .seq a b=>gh a&&gh b
 | .cond _ a b=>gh a&&gh b
 | .block _ c=>gh c
 | .loop c=>gh c
 |_=>true
abbrev Ks:=Ex→St→Option af
def Hint.aH (h:Hint) (key:Nat) (K:Ks):Ks:=fun e S=>match X1 h.outs key e.num with
 |some ks=>(match mq ks S with
  |some S1=>K e S1
  |none=>none)
 |none=>none
noncomputable def pe (h:Hint) (O:bE) (L:Nat→St→Ks→Option af):Code→St→Ks→Option af
 | .skip,S,K=>K .n S
 | .region id ops false,S,K=>match Gf h.bH id with
  |some l=>cB h O ops l S (fun S1=>K .n (JY h.frz id (yo h.yl S1)))
  |none=>mr h O ops (List.range ops.size) S (fun S1=>K .n (JY h.frz id (yo h.yl S1)))
 | .region id ops true,S,K=>match Gf h.bH id with
  |some l=>cB h O ops l S (fun S1=>K .n (JY h.frz id (yo h.yl S1)))
  |none=>none
 | .seq a b,S,K=>pe h O L a S (fun e S1=>match e with
  | .n=>pe h O L b S1 K
  |e=>K e S1)
 | .cond c x y,S,K=>match S.rd h.bA 0 c with
  |some ⟨.bool,_,q⟩=>bif q then pe h O L x S K else pe h O L y S K
  |_=>none
 | .block id c,S,K=>pe h O L c S (fun e S1=>match e with
  | .x X5=>bif Nat.beq X5 id then K .n S1 else K (.x X5) S1
  |e=>K e S1)
 | .loop c,S,K=>match h.clean (keyOf c) S with
  |some S1=>L (keyOf c) S1 (h.aH (keyOf c) K)
  |none=>none
 | .exit id,S,K=>K (.x id) S
 | .ret,S,K=>K .r S
 |_,_,_=>none
def cw (Lf:Nat→Nat→St→Ks→Option af) (N n ai9:Nat):Nat→St→Ks→Option af:=fun key S K=>bif Nat.beq key ai9 then Lf n key S K else Lf N key S K
noncomputable def aX (h:Hint) (O:bE) (L:Nat→St→Ks→Option af) (c:Code) (S:St) (K:Ks):Option af:=
 pe h O L c S (fun e S1=>match e with
  | .n=>(match h.clean (keyOf c) S1 with
   |some S2=>L (keyOf c) S2 K
   |none=>none)
  |e=>K e S1)
def mL (Θ:cK) (S:St):List ResultVar→Option (List TV×St)
 |[]=>some ([],S)
 | .tmp t::r=>match S.db (.tmp t) (S.at t) with
  |some (a,S1)=>match mL Θ S1 r with
   |some (l,S2)=>some (a::l,S2)
   |none=>none
  |none=>none
 | .cell t T::r=>match S.at t with
  | .v ⟨.ptr ty,.o _ _ me,x⟩ []=>match mL Θ (S.put (some t) .dead) r with
   |some (l,S2)=>bif Θ.is T ty then some (⟨ty,me,x⟩::l,S2) else none
   |none=>none
  |_=>none
def X6:Arg→AV
 | .tv a=>.v a []
 | .fn f cq=>.nc f (cq.map .kv)
def start (fn:Func) (args:List Arg):St:=args.map X6++List.replicate (fn.ntmps - args.length) .undef
def yp:Bool→TV→Option TV
 |false,b=>some b
 |true,⟨.ptr t,.o _ _ me,x⟩=>some ⟨t,me,x⟩
 |true,_=>none
noncomputable def aG (h:Hint) (O:bE) (L:Nat→St→Ks→Option af) (fn:Func) (args:List Arg) (K:af→Option af):Option af:=
 match fn.body with
 |some c=>pe h O L c (start fn args) (fun e S=>match e with
  | .x _=>none
  |_=>match mL h.bA S fn.results.toList with
   |some (l,S1)=>(match h.pv with
    |none=>K ⟨l,[]⟩
    |some q=>match S1.at q.1 with
     | .v b []=>(match yp q.2 b with
      |some c=>K ⟨l,[c]⟩
      |none=>none)
     |_=>none)
   |none=>none)
 |none=>none
end Go.Pv
namespace Go.Pv
set_option linter.unusedVariables false
set_option linter.unusedSimpArgs false
def dc {σ:Type} (X:(σ→Option af)→Option af):Prop:=∃ o:Option σ,∀ K,X K=o.bind K
theorem dc.none {σ:Type}:dc (σ:=σ) fun _=>none:=⟨.none,fun _=>rfl⟩
theorem dc.pure {σ:Type} (s:σ):dc fun K=>K s:=⟨some s,fun _=>rfl⟩
theorem dc.bind {σ τ:Type} {X:(σ→Option af)→Option af} {Y:σ→(τ→Option af)→Option af} (h:dc X) (hy:∀ s,dc (Y s)):dc fun K=>X fun s=>Y s K:=by
 obtain⟨o,ho⟩:=h
 cases o with
 |none=>exact⟨.none,fun K=>ho _⟩
 |some s=>
  obtain⟨o',BK⟩:=hy s
  exact⟨o',fun K=>(ho _).trans (BK K)⟩
theorem dc.bif {σ:Type} {X Y:(σ→Option af)→Option af} (c:Bool) (hx:dc X) (hy:dc Y):dc fun K=>bif c then X K else Y K:=by cases c<;>assumption
def nj (O:bE):Prop:=∀ f as,dc (O.run f as)
def da (X:Ks→Option af):Prop:=∃ o:Option (Ex×St),∀ K,X K=o.bind fun q=>K q.1 q.2
theorem da.none:da fun _=>none:=⟨.none,fun _=>rfl⟩
theorem da.pure (e:Ex) (S:St):da fun K=>K e S:=⟨some (e,S),fun _=>rfl⟩
theorem da.bind {X:Ks→Option af} {Y:Ex→St→Ks→Option af} (h:da X) (hy:∀ e S,da (Y e S)):da fun K=>X fun e S=>Y e S K:=by
 obtain⟨o,ho⟩:=h
 cases o with
 |none=>exact⟨.none,fun K=>ho _⟩
 |some s=>
  obtain⟨o',BK⟩:=hy s.1 s.2
  exact⟨o',fun K=>(ho _).trans (BK K)⟩
theorem da.of {X:(St→Option af)→Option af} {Y:St→Ks→Option af} (h:dc X) (hy:∀ S,da (Y S)):da fun K=>X fun S=>Y S K:=by
 obtain⟨o,ho⟩:=h
 cases o with
 |none=>exact⟨.none,fun K=>ho _⟩
 |some s=>
  obtain⟨o',BK⟩:=hy s
  exact⟨o',fun K=>(ho _).trans (BK K)⟩
theorem da.to {X:Ks→Option af} {Y:Ex→St→(af→Option af)→Option af} (h:da X) (hy:∀ e S,dc (Y e S)):dc fun K=>X fun e S=>Y e S K:=by
 obtain⟨o,ho⟩:=h
 cases o with
 |none=>exact⟨.none,fun K=>ho _⟩
 |some s=>
  obtain⟨o',BK⟩:=hy s.1 s.2
  exact⟨o',fun K=>(ho _).trans (BK K)⟩
variable {h:Hint} {O:bE} {ops:Array Oper}
theorem yq (hO:nj O) (o:Oper) (f:FuncId) (cal:Option Nat) (as:List Operand) (ts:List TypeId) (S:St):dc (gg h O o f cal as ts S):=by
 unfold gg
 split
 ·split
  ·refine(hO f _).bind fun ret=> ?_
   split
   ·exact dc.bif _ (dc.pure _) dc.none
   ·exact dc.none
  ·exact dc.none
 ·exact dc.none
theorem J3 (hO:nj O) (o:Oper) (f:FuncId) (j:Nat) (as:List Operand) (ts:List TypeId) (S:St):dc (pz h O o f j as ts S):=by
 unfold pz
 split
 ·split
  ·split
   ·refine dc.bif _ ?_ dc.none
    split
    ·refine dc.bif _ ?_ dc.none
     refine(hO f _).bind fun ret=> ?_
     split
     ·refine dc.bif _ ?_ dc.none
      split
      ·split
       ·split
        ·exact dc.pure _
        ·exact dc.none
       ·exact dc.none
      ·exact dc.none
     ·exact dc.none
    ·exact dc.none
   ·exact dc.none
  ·exact dc.none
 ·exact dc.none
theorem yr (hO:nj O) (o:Oper) (hn:nZ o.op=false) (S:St):dc (fW h O o S):=by
 unfold fW
 split
 ·split
  ·exact J3 hO ..
  ·exact yq hO ..
 ·split
  ·exact yq hO ..
  ·exact dc.none
 ·rename_i ho;rw[ho] at hn;cases hn
 ·rename_i ho;rw[ho] at hn;cases hn
 ·split
  ·exact dc.bif _ (dc.pure _) dc.none
  ·exact dc.none
theorem gI (hO:nj O) (i:Nat) (hn:∀ o,ops[i]? =some o→nZ o.op=false) (S:St):dc (aY h O ops i S):=by
 unfold aY
 split
 ·exact dc.none
 ·rename_i o ho
  have hn:=hn o ho
  split
  ·exact yr hO _ hn _
  ·split
   ·split
    ·exact dc.bif _ (dc.bif _ (yr hO _ hn _) (dc.pure _)) (dc.bif _ (dc.pure _) (yr hO _ hn _))
    ·exact dc.pure _
    ·exact dc.none
   ·exact dc.none
theorem yt (hp:ni ops=true) (i:Nat) (o:Oper) (ho:ops[i]? =some o):nZ o.op=false:=by
 unfold ni at hp
 have:=List.all_eq_true.1 hp o (by rw[←Array.getElem?_toList] at ho;exact List.mem_of_getElem? ho)
 simpa using this
theorem uN (hO:nj O) (hp:ni ops=true):∀ (l:List Nat) (S:St),dc (mr h O ops l S)
 |[],S=>dc.pure S
 |i::r,S=>(gI hO i (yt hp i) S).bind fun S1=>uN hO hp r S1
theorem Cc (hO:nj O) (hp:ni ops=true):∀ (l:List Nat) (S:St),dc (mu h O ops l S)
 |[],S=>dc.pure S
 |i::r,S=>by
  simp only[show mu h O ops (i::r) S=fun K=>mu h O ops (i::r) S K from rfl,mu]
  split
  ·exact dc.bif _ ((gI hO i (yt hp i) S).bind fun S1=>Cc hO hp r S1) dc.none
  ·exact dc.none
theorem fH (hO:nj O) (hp:ni ops=true):∀ (t:OT) (S:St),dc (cB h O ops t S)
 | .done,S=>dc.pure S
 | .one i t,S=>(gI hO i (yt hp i) S).bind fun S1=>fH hO hp t S1
 | .any l t,S=>(Cc hO hp l S).bind fun S1=>fH hO hp t S1
 | .own d t,S=>by
  show dc fun K=>cB h O ops (.own d t) S K
  simp only[cB]
  cases Mh S d with
  |none=>exact dc.none
  |some q=>exact dc.bif _ (fH hO hp t q.2) dc.none
 | .cut ks t,S=>by
  show dc fun K=>cB h O ops (.cut ks t) S K
  simp only[cB]
  cases mq ks S with
  |none=>exact dc.none
  |some S1=>exact fH hO hp t S1
 | .Mc i t,S=>by
  show dc fun K=>cB h O ops (.Mc i t) S K
  simp only[cB]
  split
  ·split
   ·split
    ·exact dc.bif _ (fH hO hp t _) dc.none
    ·exact dc.none
   ·exact dc.none
  ·exact dc.none
 | .par l ds t,S=>dc.bif _ ((uN hO hp l S).bind fun S1=>fH hO hp t S1) dc.none
def OQ (h:Hint) (L:Nat→St→Ks→Option af) (key:Nat):Prop:=∀ (ks:List Kd) (x:cj ks),oS h.loops key=some ks→da fun K=>L key (shape ks x) (h.aH key K)
def ed:Code→List Nat
 | .seq a b=>ed a++ed b
 | .cond _ a b=>ed a++ed b
 | .block _ c=>ed c
 | .loop c=>keyOf c::ed c
 |_=>[]
theorem ta {S S1:St} {key:Nat} (e:h.clean key S=some S1):∃ ks x,oS h.loops key=some ks∧S1=shape ks x:=by
 unfold Hint.clean at e
 split at e
 case h_2=>cases e
 rename_i ks vJ
 unfold mq at e
 cases hk:fV ks ks with
 |false=>rw[hk] at e;cases e
 |true=>
  rw[hk] at e
  simp only[cond_true] at e
  split at e
  case h_2=>cases e
  rename_i x hx
  injection e with e
  exact⟨ks,x,vJ,e.symm⟩
theorem rT (hO:nj O) {L:Nat→St→Ks→Option af}:∀ (c:Code) (S:St),gh c=true→(∀ k∈ed c,OQ h L k)→da (pe h O L c S)
 | .skip,S,_,_=>da.pure _ _
 | .region id ops false,S,hp,_=>by
  show da fun K=>pe h O L (.region id ops false) S K
  simp only[pe]
  split
  ·exact da.of (fH hO hp _ S) fun S1=>da.pure _ _
  ·exact da.of (uN hO hp _ S) fun S1=>da.pure _ _
 | .region id ops true,S,hp,_=>by
  show da fun K=>pe h O L (.region id ops true) S K
  simp only[pe]
  split
  ·exact da.of (fH hO hp _ S) fun S1=>da.pure _ _
  ·exact da.none
 | .seq a b,S,hp,hL=>by
  simp only[gh,Bool.and_eq_true] at hp
  show da fun K=>pe h O L (.seq a b) S K
  simp only[pe]
  refine da.bind (rT hO a S hp.1 fun k hk=>hL k (by simp[ed,hk])) fun e S1=> ?_
  cases e with
  |n=>exact rT hO b S1 hp.2 fun k hk=>hL k (by simp[ed,hk])
  |x id=>exact da.pure _ _
  |r=>exact da.pure _ _
 | .cond c x y,S,hp,hL=>by
  simp only[gh,Bool.and_eq_true] at hp
  show da fun K=>pe h O L (.cond c x y) S K
  simp only[pe]
  split
  ·rename_i q _
   cases q with
   |true=>exact rT hO x S hp.1 fun k hk=>hL k (by simp[ed,hk])
   |false=>exact rT hO y S hp.2 fun k hk=>hL k (by simp[ed,hk])
  ·exact da.none
 | .block id c,S,hp,hL=>by
  simp only[gh] at hp
  show da fun K=>pe h O L (.block id c) S K
  simp only[pe]
  refine da.bind (rT hO c S hp fun k hk=>hL k (by simpa[ed] using hk)) fun e S1=> ?_
  cases e with
  |n=>exact da.pure _ _
  |x X5=>
   cases h:Nat.beq X5 id with
   |true=>exact⟨some (.n,S1),fun K=>by simp[h]⟩
   |false=>exact⟨some (.x X5,S1),fun K=>by simp[h]⟩
  |r=>exact da.pure _ _
 | .loop c,S,_,hL=>by
  show da fun K=>pe h O L (.loop c) S K
  simp only[pe]
  split
  ·rename_i S1 hS1
   obtain⟨ks,x,hk,rfl⟩:=ta hS1
   exact hL (keyOf c) (by simp[ed]) ks x hk
  ·exact da.none
 | .exit id,S,_,_=>da.pure _ _
 | .ret,S,_,_=>da.pure _ _
 | .rangeFunc ..,S,_,_=>da.none
 | .scope _,S,_,_=>da.none
 | .label _,S,_,_=>da.none
 | .goto _,S,_,_=>da.none
 | .refuse _,S,_,_=>da.none
theorem Cd (h:Hint) (key:Nat) (e:Ex) (S:St):da fun K=>h.aH key K e S:=by
 unfold Hint.aH
 split
 ·split
  ·exact da.pure _ _
  ·exact da.none
 ·exact da.none
theorem yu (fn:Func) (S:St):dc fun(K:af→Option af)=>(match mL h.bA S fn.results.toList with
   |some (l,S1)=>(match h.pv with
    |none=>K ⟨l,[]⟩
    |some q=>match S1.at q.1 with
     | .v b []=>(match yp q.2 b with
      |some c=>K ⟨l,[c]⟩
      |none=>none)
     |_=>none)
   |none=>none):=by
 split
 ·split
  ·exact dc.pure _
  ·split
   ·split
    ·exact dc.pure _
    ·exact dc.none
   ·exact dc.none
 ·exact dc.none
theorem J4 (hO:nj O) {L:Nat→St→Ks→Option af} {fn:Func} {body:Code} (hb:fn.body=some body) (hp:gh body=true) (hL:∀ k∈ed body,OQ h L k) (args:List Arg):dc (aG h O L fn args):=by
 unfold aG
 rw[hb]
 simp only
 refine da.to (rT hO body _ hp hL) fun e S=> ?_
 cases e with
 |n=>exact yu fn S
 |x id=>exact dc.none
 |r=>exact yu fn S
end Go.Pv
namespace Go.Pv
set_option linter.unusedVariables false
set_option linter.unusedSimpArgs false
def isAgg:Ty→Bool
 | .pair _ _=>true | .unit=>true | .arr _ _=>true |_=>false
def an (t:Ty) (v:Value) (cs:List Value):Prop:=if isAgg t=true then v=.agg cs.toArray else cs=[v]
section
variable (w:World) (Av:Nat→Prop) (H:Nat→Value) (tm:Nat→Value) (S:St)
structure Ref (t:Ty) (s:Nat) (p:Path) (r:TV) (bY:List Value):Prop where
 at_:∃ ex,S.at s=.v r ex∧open_ p ex
 val:valid p r.t r.x
 get:∃ b,a8 p r.t r.m r.x=some b∧b.t=t
 J5:an r.t (tm s) bY
def lJ:Dj→Value→Prop
 | .kv a,u=>K w Av a.t a.x [u]
 | .pl t s p,u=>∃ r bY cs,Ref tm S (.ptr t) s p r bY∧aJ w p r.t bY=some cs∧an (.ptr t) u cs
def Holds (own:Nat→Prop):AV→Value→Prop
 | .dead,_=>True
 | .undef,v=>v=undef
 | .v a ex,v=>∃ cs,an a.t v cs∧M w Av H a.t a.m a.x cs own ex
 | .qZ l,v=>∃ (vs:List Value) (τ:Nat→Nat),v=.tuple vs.toArray∧vs.length=l.length∧
   ∀ (j:Nat) (a:TV),l[j]? =some (some a)→∃ u cs,vs[j]? =some u∧an a.t u cs∧M w Av H a.t a.m a.x cs (fun g=>own g∧τ g=j) []
 | .al t s p,v=>∃ r bY cs,Ref tm S t s p r bY∧aJ w p r.t bY=some cs∧an t v cs
 | .ad t s p,v=>∃ r bY g off,Ref tm S t s p r bY∧addrAt w p r.t bY none=some (g,off)∧v=.pointer (some ⟨g,off,none⟩)
 | .cut t s p lo hi,v=>∃ r bY t' A n c,Ref tm S t s p r bY∧t=.sl t'∧aJ w p r.t bY=some [.slice A n c]∧lo≤hi∧hi≤n∧
   v=.slice (if c=lo then A else A.map (·.add (lo*t'.size))) (hi - lo) (c - lo)
 | .nc f cq,v=>∃ vs:List Value,v=.func (.func f) #[] vs.toArray∧vs.length=cq.length∧∀ (j:Nat) (c:Dj),cq[j]? =some c→∃ u,vs[j]? =some u∧lJ w Av tm S c u
end
structure Fr (w0:World) (W0:Nat→Prop) (w:World):Prop where
 os:w.os=w0.os
 tape:w.tape=w0.tape
 output:w.output=w0.output
 size:w0.heap.size≤w.heap.size
 block:∀ g,g<w0.heap.size→ ¬W0 g→w.heap[g]? =w0.heap[g]?
def Av (σ:Nat→Option Nat) (Z:Nat→Prop) (g:Nat):Prop:=(∃ i,σ g=some i)∨Z g
def bM (a:Act) (i:Nat):Value:=a.tmps.getD i undef
structure bd (σ:Nat→Option Nat) (w0:World) (W0 Z:Nat→Prop) (H:Nat→Value) (S:St) (a:Act) (w:World):Prop where
 len:S.length=a.tmps.size
 defers:a.defers=[]
 fr:Fr w0 W0 w
 new:∀ g i,σ g=some i→w0.heap.size≤g∨W0 g
 lt:∀ g i,σ g=some i→g<w.heap.size
 old:∀ g,Z g→σ g=none∧g<w0.heap.size
 holds:∀ i,Holds w (Av σ Z) H (bM a) S (fun g=>σ g=some i) (S.at i) (bM a i)
def Rel (w0:World) (W0 Z:Nat→Prop) (H:Nat→Value) (S:St) (a:Act) (w:World):Prop:=∃ σ,bd σ w0 W0 Z H S a w
theorem ee {w w':World} {Wr oP:Nat→Prop} {H:Nat→Value} (cc:a6 w w' Wr oP):∀ (p:Path) {t:Ty} {m:Md} {x:t.I} {cs:List Value} {ow:Nat→Prop} {hs:List Path} (l:Option (Nat×Nat)),
  M w Wr H t m x cs ow hs→(∀ g,ow g→g<w.heap.size→w'.heap[g]? =w.heap[g]?)→open_ p hs→valid p t x→aJ w' p t cs=aJ w p t cs∧addrAt w' p t cs l=addrAt w p t cs l
 |[],_,_,_,_,_,_,_,_,_,_,_=>⟨rfl,rfl⟩
 | .deref::p,.ptr t,m,x,cs,ow,hs,l,h,hb,ho,hv=>by
  simp only[valid] at hv
  simp only[M] at h
  rcases h with⟨hn,_⟩ |⟨hk,h⟩ |⟨T,tag,me,g,cur,rfl,rfl,ht,oQ,hw,h⟩
  ·exact absurd hn ho.not_nil
  ·simp only[K] at h
   obtain⟨g,off,cur,T,fr,rfl,Wa,hw,hl,h⟩:=h
   have F':=(cc.same g Wa (bO hw)).trans hw
   have ih:=ee cc p (H:=H) (some (g,off)) (eX (ow:=fun _=>False) (hs:=sub .deref hs) t h) (fun _ h=>h.elim) ho.sub hv
   simp only[aJ,addrAt,bz hw hl,bz F' hl,Option.bind_some]
   exact ih
  ·have F':=(hb g oQ (bO hw)).trans hw
   have iD:0+t.size≤cur.size:=by rw[←(eS t h).1];simp
   have fU:(cur.toList.drop 0).take t.size=cur.toList:=by rw[List.drop_zero,List.take_of_length_le (by rw[(eS t h).1];exact Nat.le_refl _)]
   have ih:=ee cc p (some (g,0)) h (fun g hg=>hb g hg.1) ho.sub hv
   simp only[aJ,addrAt,bz hw iD,bz F' iD,Option.bind_some,fU]
   exact ih
 | .fst::p,.pair a b',m,x,cs,ow,hs,l,h,hb,ho,hv=>by
  simp only[valid] at hv
  simp only[M] at h
  simp only[aJ,addrAt]
  rcases h with⟨hn,_⟩ |⟨hk,h⟩ |⟨ma,mb,c0,c1,s,rfl,rfl,h0,h1⟩
  ·exact absurd hn ho.not_nil
  ·simp only[K] at h
   obtain⟨c0,c1,rfl,h0,h1⟩:=h
   rw[←(jF a h0).1,List.take_left]
   exact ee cc p (H:=H) l (eX (ow:=fun _=>False) (hs:=sub .fst hs) a h0) (fun _ h=>h.elim) ho.sub hv
  ·rw[←(eS a h0).1,List.take_left]
   exact ee cc p l h0 (fun g hg=>hb g hg.1) ho.sub hv
 | .snd::p,.pair a b',m,x,cs,ow,hs,l,h,hb,ho,hv=>by
  simp only[valid] at hv
  simp only[M] at h
  simp only[aJ,addrAt]
  rcases h with⟨hn,_⟩ |⟨hk,h⟩ |⟨ma,mb,c0,c1,s,rfl,rfl,h0,h1⟩
  ·exact absurd hn ho.not_nil
  ·simp only[K] at h
   obtain⟨c0,c1,rfl,h0,h1⟩:=h
   rw[←(jF a h0).1,List.drop_left]
   exact ee cc p (H:=H) _ (eX (ow:=fun _=>False) (hs:=sub .snd hs) b' h1) (fun _ h=>h.elim) ho.sub hv
  ·rw[←(eS a h0).1,List.drop_left]
   exact ee cc p _ h1 (fun g hg=>hb g hg.1) ho.sub hv
 | .idx i::p,.sl t,m,xs,cs,ow,hs,l,h,hb,ho,hv=>by
  simp only[valid] at hv
  obtain⟨hi,hv⟩:=hv
  have eY:List.getD xs i t.z=xs[i]:=by simp[List.getD_eq_getElem?_getD,List.getElem?_eq_getElem hi]
  simp only[M] at h
  rcases h with⟨hn,_⟩ |⟨hk,h⟩ |⟨T,tag,me,A,c,rfl,rfl,hc,ht,h⟩
  ·exact absurd hn ho.not_nil
  ·simp only[K] at h
   obtain⟨A,c,rfl,hc,h⟩:=h
   obtain⟨g,off,cur,T,fr,rfl,Wa,hw,hl,h⟩:=h (by omega)
   have F':=(cc.same g Wa (bO hw)).trans hw
   have hbound:off+i*t.size+t.size≤cur.size:=by
    have:=Nat.mul_le_mul_right t.size (show i+1≤xs.length from hi)
    rw[Nat.add_mul,Nat.one_mul] at this
    omega
   have hK:=h i hi
   rw[←eY] at hK
   have ih:=ee cc p (H:=H) (some (g,off+i*t.size)) (eX (ow:=fun _=>False) (hs:=sub (.idx i) hs) t hK) (fun _ h=>h.elim) ho.sub hv
   simp only[aJ,addrAt,bz hw hbound,bz F' hbound,Option.bind_some]
   exact ih
  ·rcases h with⟨rfl,_⟩ |⟨g,cur,τ,rfl,oQ,hw,iD,hm,h⟩
   ·simp at hi
   ·have F':=(hb g oQ (bO hw)).trans hw
    have hbound:i*t.size+t.size≤cur.size:=by
     have h1:=Nat.mul_le_mul_right t.size (show i+1≤xs.length from hi)
     have h2:=Nat.mul_le_mul_right t.size hc
     rw[Nat.add_mul,Nat.one_mul] at h1
     omega
    have hM:=h i hi
    rw[←eY] at hM
    have ih:=ee cc p (some (g,i*t.size)) hM (fun g hg=>hb g hg.1) ho.sub hv
    simp only[aJ,addrAt,Nat.zero_add,bz hw hbound,bz F' hbound,Option.bind_some]
    exact ih
variable {w w':World} {A A':Nat→Prop} {H:Nat→Value} {tm o7:Nat→Value} {S S':St}
structure Kept (w w':World) (A:Nat→Prop) (H:Nat→Value) (tm o7:Nat→Value) (S S':St) (s:Nat):Prop where
 at_:∀ r ex,S.at s=.v r ex→S'.at s=.v r ex
 tm_:o7 s=tm s
 hold:∃ own,Holds w A H tm S own (S.at s) (tm s)∧∀ g,own g→g<w.heap.size→w'.heap[g]? =w.heap[g]?
theorem cC {t:Ty} {v:Value} {cs cL:List Value} (h:an t v cs) (h':an t v cL):cs=cL:=by
 unfold an at*
 split at h
 ·rename_i ha
  rw[if_pos ha] at h'
  rw[h] at h'
  injection h' with h'
  simpa using h'
 ·rename_i ha
  rw[if_neg ha] at h'
  rw[h,h']
theorem Ref.kept {t:Ty} {s:Nat} {p:Path} {r:TV} {bY:List Value} (cc:a6 w w' A A') (hk:Kept w w' A H tm o7 S S' s) (h:Ref tm S t s p r bY):
  Ref o7 S' t s p r bY∧∀ l,aJ w' p r.t bY=aJ w p r.t bY∧addrAt w' p r.t bY l=addrAt w p r.t bY l:=by
 obtain⟨⟨ex,h1,h2⟩,h3,h4,h5⟩:=h
 refine⟨⟨⟨ex,hk.at_ _ _ h1,h2⟩,h3,h4,by rw[hk.tm_];exact h5⟩,fun l=> ?_⟩
 obtain⟨own,hh,hb⟩:=hk.hold
 rw[h1] at hh
 obtain⟨cs,hm,hM⟩:=hh
 obtain rfl:=cC h5 hm
 exact ee cc p l hM hb h2 h3
theorem lJ.kept {c:Dj} {u:Value} (cc:a6 w w' A A') (hk:∀ t s p,c=.pl t s p→Kept w w' A H tm o7 S S' s) (h:lJ w A tm S c u):lJ w' A' o7 S' c u:=by
 cases c with
 |kv a=>exact bR cc _ h
 |pl t s p=>
  obtain⟨r,bY,cs,hr,hc,hm⟩:=h
  obtain⟨h1,h2⟩:=hr.kept cc (hk t s p rfl)
  exact⟨r,bY,cs,h1,by rw[(h2 none).1];exact hc,hm⟩
theorem Holds.kept {own Dq:Nat→Prop} {a:AV} {v:Value} (cc:a6 w w' A A') (ho:∀ g,own g→g<w.heap.size→w'.heap[g]? =w.heap[g]? ∧Dq g)
  (hk:∀ s,a.refs s=true→Kept w w' A H tm o7 S S' s) (h:Holds w A H tm S own a v):Holds w' A' H o7 S' Dq a v:=by
 cases a with
 |dead=>trivial
 |undef=>exact h
 |v a ex=>
  obtain⟨cs,h1,h2⟩:=h
  exact⟨cs,h1,aN cc _ (fun g hg hl=>(ho g hg hl).1) (fun g hg hl=>(ho g hg hl).2) (fun _ h=>h) h2⟩
 |qZ l=>
  obtain⟨vs,τ,h1,h2,h3⟩:=h
  refine⟨vs,τ,h1,h2,fun j a hj=> ?_⟩
  obtain⟨u,cs,k1,k2,k3⟩:=h3 j a hj
  exact⟨u,cs,k1,k2,aN cc _ (fun g hg hl=>(ho g hg.1 hl).1) (fun g hg hl=>⟨(ho g hg.1 hl).2,hg.2⟩) (fun _ h=>h) k3⟩
 |al t s p=>
  obtain⟨r,bY,cs,hr,hc,hm⟩:=h
  obtain⟨h1,h2⟩:=hr.kept cc (hk s (by simp[AV.refs]))
  exact⟨r,bY,cs,h1,by rw[(h2 none).1];exact hc,hm⟩
 |ad t s p=>
  obtain⟨r,bY,g,off,hr,hc,hm⟩:=h
  obtain⟨h1,h2⟩:=hr.kept cc (hk s (by simp[AV.refs]))
  exact⟨r,bY,g,off,h1,by rw[(h2 none).2];exact hc,hm⟩
 |cut t s p lo hi=>
  obtain⟨r,bY,t',A1,n,c,hr,ht,hc,hm⟩:=h
  obtain⟨h1,h2⟩:=hr.kept cc (hk s (by simp[AV.refs]))
  exact⟨r,bY,t',A1,n,c,h1,ht,by rw[(h2 none).1];exact hc,hm⟩
 |nc f cq=>
  obtain⟨vs,h1,h2,h3⟩:=h
  refine⟨vs,h1,h2,fun j c hj=> ?_⟩
  obtain⟨u,k1,k2⟩:=h3 j c hj
  refine⟨u,k1,k2.kept cc (fun t s p e=>hk s ?_)⟩
  subst e
  simp only[AV.refs,List.any_eq_true]
  exact⟨_,List.mem_of_getElem? hj,by simp⟩
theorem cr (S:St) (d:Nat) (a:AV) (i:Nat):St.at (S.set d a) i=if i=d∧d<S.length then a else S.at i:=by
 unfold St.at
 rw[List.getD_eq_getElem?_getD,List.getD_eq_getElem?_getD,List.getElem?_set]
 by_cases h:d=i
 ·subst h
  by_cases hl:d<S.length
  ·simp[hl]
  ·simp[hl]
 ·have h': ¬i=d:=fun e=>h e.symm
  simp[h,h']
theorem yv (S:St) (f:AV→AV) (hf:f .dead=.dead) (i:Nat):St.at (S.map f) i=f (S.at i):=by
 unfold St.at
 rw[List.getD_eq_getElem?_getD,List.getD_eq_getElem?_getD,List.getElem?_map]
 cases S[i]? with
 |none=>simp[hf]
 |some a=>rfl
theorem Ws (S:St) (d i:Nat):(S.kill d).at i=bif (S.at i).refs d then .dead else S.at i:=yv S _ (by simp[AV.refs]) i
theorem iJ (S:St) (d i:Nat):(S.weaken d).at i=bif (S.at i).eG d then .dead else S.at i:=yv S _ (by simp[AV.eG]) i
theorem Qe (S:St) (d:Nat):(S.kill d).length=S.length:=by simp[St.kill]
theorem cU (S:St) (d:Nat) (a:AV) (i:Nat):(S.put (some d) a).at i=if i=d∧d<S.length then(bif a.refs d then .dead else a) else bif (S.at i).refs d&&(S.at d).sY then .dead else S.at i:=by
 simp only[St.put]
 cases (S.at d).sY
 ·simp only[cond_false,cr,Bool.and_false]
 ·simp only[cond_true,cr,Qe,Ws,Bool.and_true]
theorem bB (S:St) (dst:Option Nat) (a:AV):(S.put dst a).length=S.length:=by
 cases dst with
 |none=>rfl
 |some d=>simp only[St.put];cases (S.at d).sY<;>simp[St.kill]
theorem J6 {own:Nat→Prop} {w:World} {A:Nat→Prop} {H:Nat→Value} {tm:Nat→Value} {S:St} {av:AV} {v:Value} {d:Nat} (h:Holds w A H tm S own av v) (hr:av.refs d=true):(S.at d).sY=true:=by
 cases av with
 |dead=>cases hr
 |undef=>cases hr
 |v a ex=>cases hr
 |qZ l=>cases hr
 |al t s p=>
  obtain rfl:s=d:=Nat.eq_of_beq_eq_true hr
  obtain⟨r,bY,cs,h1,_⟩:=h
  obtain⟨ex,h2,_⟩:=h1.at_
  rw[h2];rfl
 |ad t s p=>
  obtain rfl:s=d:=Nat.eq_of_beq_eq_true hr
  obtain⟨r,bY,g,off,h1,_⟩:=h
  obtain⟨ex,h2,_⟩:=h1.at_
  rw[h2];rfl
 |cut t s p lo hi=>
  obtain rfl:s=d:=Nat.eq_of_beq_eq_true hr
  obtain⟨r,bY,t',A,n,c,h1,_⟩:=h
  obtain⟨ex,h2,_⟩:=h1.at_
  rw[h2];rfl
 |nc f cq=>
  simp only[AV.refs,List.any_eq_true] at hr
  obtain⟨c,hc,hr⟩:=hr
  obtain⟨vs,_,_,h3⟩:=h
  obtain⟨j,hj⟩:=List.mem_iff_getElem?.1 hc
  obtain⟨u,_,h4⟩:=h3 j c hj
  cases c with
  |kv a=>cases hr
  |pl t s p=>
   obtain rfl:s=d:=Nat.eq_of_beq_eq_true hr
   obtain⟨r,bY,cs,h1,_⟩:=h4
   obtain⟨ex,h2,_⟩:=h1.at_
   rw[h2];rfl
theorem uO (a:Act) (d:Nat) (v:Value) (i:Nat):bM (a.put (some d) v) i=if i=d∧d<a.tmps.size then v else bM a i:=by
 unfold bM Act.put
 simp only[Array.getD_eq_getD_getElem?,Array.getElem?_setIfInBounds]
 by_cases h:d=i
 ·subst h
  by_cases hl:d<a.tmps.size
  ·simp[hl]
  ·simp[hl]
 ·have h': ¬i=d:=fun e=>h e.symm
  simp[h,h']
theorem Qf (a:Act) (dst:Option Nat) (v:Value):(a.put dst v).tmps.size=a.tmps.size:=by
 cases dst<;>simp[Act.put]
theorem put_defers (a:Act) (dst:Option Nat) (v:Value):(a.put dst v).defers=a.defers:=by cases dst<;>rfl
theorem bd.put {σ dH:Nat→Option Nat} {w0:World} {W0 Z:Nat→Prop} {a:Act} {dst:Option Nat} {av:AV} {v:Value} (h:bd σ w0 W0 Z H S a w)
  (cc:a6 w w' (Av σ Z) (Av dH Z)) (qH:Fr w0 W0 w') (agp:∀ g i,dH g=some i→(w0.heap.size≤g∨W0 g)∧g<w'.heap.size) (hold:∀ g,Z g→dH g=none)
  (xx:∀ i g,i<S.length→dst≠some i→σ g=some i→w'.heap[g]? =w.heap[g]? ∧dH g=some i)
  (ke:∀ d,dst=some d→d<S.length→av.refs d=false→Holds w' (Av dH Z) H (bM (a.put dst v)) (S.put dst av) (fun g=>dH g=some d) av v):
  bd dH w0 W0 Z H (S.put dst av) (a.put dst v) w':=by
 have oU:∀ i, ¬i<S.length→S.at i=.dead:=fun i hl=>by
  unfold St.at
  rw[List.getD_eq_getElem?_getD,List.getElem?_eq_none (by omega)]
  rfl
 refine⟨by rw[bB,Qf];exact h.len,by rw[put_defers];exact h.defers,qH,fun g i hg=>(agp g i hg).1,fun g i hg=>(agp g i hg).2,fun g hg=>⟨hold g hg,(h.old g hg).2⟩,fun i=> ?_⟩
 by_cases BL:i<S.length
 rotate_left
 ·have:(S.put dst av).at i=.dead:=by
   unfold St.at
   rw[List.getD_eq_getElem?_getD,List.getElem?_eq_none (by rw[bB];omega)]
   rfl
  rw[this]
  trivial
 cases dst with
 |none=>
  have hk:∀ s,Kept w w' (Av σ Z) H (bM a) (bM a) S S s:=fun s=>by
   by_cases hs:s<S.length
   ·exact⟨fun _ _ h=>h,rfl,_,h.holds s,fun g hg _=>(xx s g hs (by simp) hg).1⟩
   ·exact⟨fun _ _ h=>h,rfl,fun _=>False,by rw[oU s hs];trivial,fun _ h=>h.elim⟩
  exact(h.holds i).kept cc (fun g hg _=>xx i g BL (by simp) hg) (fun s _=>hk s)
 |some d=>
  by_cases hi:i=d∧d<S.length
  ·obtain⟨rfl,hl⟩:=hi
   rw[cU,if_pos ⟨rfl,hl⟩,uO,if_pos ⟨rfl,by rw[←h.len];exact hl⟩]
   cases hr:av.refs i with
   |true=>simp[Holds]
   |false=>exact ke i rfl hl hr
  ·have Gg: ¬(i=d∧d<a.tmps.size):=by rw[←h.len];exact hi
   rw[cU,if_neg hi,uO,if_neg Gg]
   cases hr:(S.at i).refs d with
   |true=>rw[J6 (h.holds i) hr];simp[Holds]
   |false=>
    simp only[Bool.false_and,cond_false]
    by_cases hd:i=d
    ·subst hd
     rw[oU i (fun hl=>hi ⟨rfl,hl⟩)]
     trivial
    ·refine(h.holds i).kept cc (fun g hg _=>xx i g BL (by simpa using fun e=>hd e.symm) hg) (fun s hs=> ?_)
     have uP:s≠d:=fun e=>by subst e;rw[hr] at hs;cases hs
     refine⟨?_, ?_, ?_⟩
     ·intro r ex hv
      rw[cU,if_neg (fun e=>uP e.1),hv]
      rfl
     ·rw[uO,if_neg (fun e=>uP e.1)]
     ·by_cases hs:s<S.length
      ·exact⟨_,h.holds s,fun g hg _=>(xx s g hs (by simpa using fun e=>uP e.symm) hg).1⟩
      ·exact⟨fun _=>False,by rw[oU s hs];trivial,fun _ h=>h.elim⟩
def release (σ:Nat→Option Nat) (dst:Option Nat) (g:Nat):Option Nat:=if dst.isSome=true∧σ g=dst then none else σ g
theorem dO {σ:Nat→Option Nat} {dst:Option Nat} {g i:Nat} (h:release σ dst g=some i):σ g=some i∧dst≠some i:=by
 unfold release at h
 split at h
 ·cases h
 ·rename_i hn
  refine⟨h,fun e=>hn ⟨by rw[e];rfl,by rw[h,e]⟩⟩
theorem kg {σ:Nat→Option Nat} {dst:Option Nat} {g i:Nat} (hd:dst≠some i) (h:σ g=some i):release σ dst g=some i:=by
 unfold release
 rw[if_neg (fun e=>hd (by rw[←e.2,h])),h]
theorem rU {σ:Nat→Option Nat} {dst:Option Nat} {Z:Nat→Prop} {g:Nat} (h:Av (release σ dst) Z g):Av σ Z g:=by
 rcases h with⟨i,h⟩ |h
 ·exact .inl ⟨i,(dO h).1⟩
 ·exact .inr h
theorem bd.pure {σ:Nat→Option Nat} {w0:World} {W0 Z:Nat→Prop} {a:Act} {dst:Option Nat} {av:AV} {v:Value} (h:bd σ w0 W0 Z H S a w)
  (hv:Holds w (Av σ Z) H (bM a) S (fun _=>False) av v):bd (release σ dst) w0 W0 Z H (S.put dst av) (a.put dst v) w:=by
 have cc:a6 w w (Av σ Z) (Av (release σ dst) Z):=⟨fun _ _ _=>rfl,fun g _ hg=>rU hg⟩
 refine h.put cc h.fr (fun g i hg=>⟨h.new g i (dO hg).1,h.lt g i (dO hg).1⟩) (fun g hg=>by unfold release;split<;>first |rfl |exact(h.old g hg).1) (fun i g _ hd hg=>⟨rfl,kg hd hg⟩) (fun d hd hl hr=> ?_)
 subst hd
 refine hv.kept cc (fun _ h _=>h.elim) (fun s hs=> ?_)
 have uP:s≠d:=fun e=>by subst e;rw[hr] at hs;cases hs
 refine⟨fun r ex hv=> ?_,by rw[uO,if_neg (fun e=>uP e.1)],_,h.holds s,fun _ _ _=>rfl⟩
 rw[cU,if_neg (fun e=>uP e.1),hv]
 rfl
def X7 (σ:Nat→Option Nat) (x:Operand) (g:Nat):Prop:=∃ i,x=.tmp i∧σ g=some i
theorem bC {σ:Nat→Option Nat} {w0:World} {W0 Z:Nat→Prop} {a:Act} {Θ:cK} {T:TypeId} {x:Operand} {av:AV} (h:bd σ w0 W0 Z H S a w) (he:S.dn Θ T x=some av):
  Holds w (Av σ Z) H (bM a) S (X7 σ x) av (a.eval x):=by
 cases x with
 |tmp i=>
  simp only[St.dn,Option.some.injEq] at he
  subst he
  refine(h.holds i).kept (a6.refl _ _) (fun g hg _=>⟨rfl,i,rfl,hg⟩) (fun s _=>⟨fun _ _ h=>h,rfl,_,h.holds s,fun _ _ _=>rfl⟩)
 |const c=>
  simp only[St.dn] at he
  split at he
  ·rename_i b hb
   injection he with he
   subst he
   unfold mj at hb
   split at hb
   ·injection hb with hb;subst hb
    exact⟨[a.eval (.const _)],by simp only[an,isAgg];rfl,by simp[M,K,Act.eval,Md.bQ]⟩
   ·injection hb with hb;subst hb
    exact⟨[a.eval (.const _)],by simp only[an,isAgg];rfl,by simp[M,K,Act.eval,Md.bQ]⟩
   ·injection hb with hb;subst hb
    exact⟨[a.eval (.const _)],by simp only[an,isAgg];rfl,by simp[M,K,Act.eval,Md.bQ]⟩
   ·split at hb
    ·rename_i i hi
     split at hb
     ·rename_i t ht
      injection hb with hb
      subst hb
      refine⟨[.slice none 0 0],by simp[an,isAgg,Act.eval], ?_⟩
      simp only[M]
      exact .inr (.inr ⟨_,_,_,none,0,rfl,rfl,Nat.le_refl _,fun h hh=>(by cases hh),.inl (by simp)⟩)
     ·cases hb
    ·cases hb
   ·cases hb
  ·cases he
 |func f=>
  simp only[St.dn,Option.some.injEq] at he
  subst he
  exact⟨[],by simp[Act.eval],rfl,fun j c hj=>by simp at hj⟩
 |global g=>simp[St.dn] at he
theorem J7 {own:Nat→Prop} {t:Ty} {m:Md} {x:t.I} {cs:List Value} (h:M w A H t m x cs own []):K w (fun _=>False) t x cs:=PV (fun _ _ h=>h.elim) t rfl (fun _ _ h=>h) h
theorem Dr {t:Ty} {v:Value} {cs:List Value} (h:an t v cs) (h1:∀ u∈cs,u.oneCell'=true):v.cells.toList=cs:=by
 unfold an at h
 split at h
 ·subst h;rfl
 ·subst h
  have:=h1 v (by simp)
  cases v<;>first |rfl |(simp[Value.oneCell'] at this)
theorem nk:∀ (q r:Path),c7 q (q++r)=true
 |[],_=>by simp[c7]
 | .idx i::q,r=>by simp[c7];exact nk q r
 | .deref::q,r=>by simp[c7];exact nk q r
 | .fst::q,r=>by simp[c7];exact nk q r
 | .snd::q,r=>by simp[c7];exact nk q r
theorem nm:∀ (q r:Path),c7 (q++r) q=true
 |[],[]=>by simp[c7]
 |[],_::_=>by simp[c7]
 | .idx i::q,r=>by simp[c7];exact nm q r
 | .deref::q,r=>by simp[c7];exact nm q r
 | .fst::q,r=>by simp[c7];exact nm q r
 | .snd::q,r=>by simp[c7];exact nm q r
theorem rn {p:Path} {ex:List Path} (h:∀ q∈ex,c7 q p=false):open_ p ex:=fun q hq s r e=>by
 have:=h q hq
 rw[e,nk] at this
 cases this
theorem rp {p:Path} {ex:List Path} (h:∀ q∈ex,c7 q p=false):s6 p ex=[]:=by
 cases hs:s6 p ex with
 |nil=>rfl
 |cons q r=>
  have:q∈s6 p ex:=by rw[hs];simp
  have:=h _ (yi.1 this)
  rw[nm] at this
  cases this
theorem J8 {S:St} {i:Nat} (h:S.length≤i):S.at i=.dead:=by
 unfold St.at
 rw[List.getD_eq_getElem?_getD,List.getElem?_eq_none h]
 rfl
theorem again_at {S S2:St} {s:Nat} (hl:S2.length=S.length) (i:Nat):(S.again S2 s).at i=S2.at i∨∃ t r ex,S.at i=.al t s []∧S2.at s=.v r ex∧t=r.t∧S2.at i=.dead∧(S.again S2 s).at i=.al t s []:=by
 unfold St.again
 split
 case h_2=>exact .inl rfl
 rename_i r ex hs
 have hz:St.at (List.zipWith (uK s r.t) S S2) i=uK s r.t (S.at i) (S2.at i):=by
  by_cases hi:i<S.length
  ·unfold St.at
   rw[List.getD_eq_getElem?_getD,List.getD_eq_getElem?_getD,List.getD_eq_getElem?_getD,List.getElem?_zipWith,List.getElem?_eq_getElem hi,List.getElem?_eq_getElem (by omega:i<S2.length)]
   rfl
  ·rw[J8 (S:=S) (by omega),J8 (S:=S2) (by omega),J8 (by rw[List.length_zipWith];omega)]
   rfl
 rw[hz]
 unfold uK
 split
 case h_2=>exact .inl rfl
 rename_i t q ha hb
 cases hq:Nat.beq q s&&decide (t=r.t) with
 |false=>rw[hb];exact .inl rfl
 |true=>
  simp only[Bool.and_eq_true,decide_eq_true_eq] at hq
  obtain rfl:=Nat.eq_of_beq_eq_true hq.1
  exact .inr ⟨t,r,ex,ha,hs,hq.2,hb,rfl⟩
end Go.Pv
