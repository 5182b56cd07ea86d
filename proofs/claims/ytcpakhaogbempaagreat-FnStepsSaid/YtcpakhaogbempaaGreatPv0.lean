/- A verified evaluator of the program's form over pure values, part 0: what it tells of a function holds. -/
import Derived.Calls
import Derived.KernelRfl
import Derived.Laws.AppendOwn
import Derived.Laws.Sem
import Derived.Orders
namespace Go.Pv
set_option linter.unusedVariables false
set_option linter.unusedSimpArgs false
inductive Ty where
 |int (k:IntKind) |bool |str |sl (t:Ty) |ptr (t:Ty) |pair (a b:Ty) |unit |arr (n:Nat) (t:Ty)
 deriving DecidableEq,Inhabited
@[reducible] def Ty.I:Ty→Type
 | .int _=>Int | .bool=>Bool | .str=>ByteArray | .sl t=>List t.I | .ptr t=>t.I | .pair a b=>a.I×b.I | .unit=>Unit | .arr _ t=>List t.I
def Ty.size:Ty→Nat
 | .pair a b=>a.size+b.size | .unit=>0 | .arr n t=>n*t.size |_=>1
def Ty.z:(t:Ty)→t.I
 | .int _=>(0:Int) | .bool=>false | .str=>ByteArray.empty | .sl _=>[] | .ptr t=>t.z | .pair a b=>(a.z,b.z) | .unit=>() | .arr n t=>List.replicate n t.z
inductive Md where
 |k |o (T:TypeId) (tag:Option Nat) (m:Md) |p (a b:Md)
 deriving DecidableEq,Inhabited
def Md.cy:Md→Bool
 | .k=>true | .o ..=>false | .p a b=>a.cy&&b.cy
inductive Step where
 |deref |fst |snd |idx (i:Nat)
 deriving DecidableEq,Inhabited
abbrev Path:=List Step
def sub (s:Step) (hs:List Path):List Path:=hs.filterMap fun p=>match p with
 |s'::r=>if s'=s then some r else none
 |[]=>none
section
variable (w:World) (Wr:Nat→Prop)
def K:(t:Ty)→t.I→List Value→Prop
 | .int k,n,cs=>cs=[.int k n]
 | .bool,b,cs=>cs=[.bool b]
 | .str,s,cs=>cs=[.string s]
 | .unit,_,cs=>cs=[]
 | .pair a b,x,cs=>∃ c0 c1,cs=c0++c1∧K a x.1 c0∧K b x.2 c1
 | .arr n t,xs,cs=>∃ fZ:List (List Value),cs=fZ.flatten∧fZ.length=n∧xs.length=n∧∀ j (h:j<xs.length) (h':j<fZ.length),K t xs[j] fZ[j]
 | .sl t,xs,cs=>∃ A c,cs=[.slice A xs.length c]∧xs.length≤c∧(0<xs.length→∃ g off cur T fr,A=some ⟨g,off,none⟩∧ ¬Wr g∧w.heap[g]?=some (.cells cur T fr)∧off+xs.length*t.size≤cur.size∧∀ j (h:j<xs.length),K t xs[j] ((cur.toList.drop (off+j*t.size)).take t.size))
 | .ptr t,x,cs=>∃ g off cur T fr,cs=[.pointer (some ⟨g,off,none⟩)]∧ ¬Wr g∧w.heap[g]?=some (.cells cur T fr)∧off+t.size≤cur.size∧K t x ((cur.toList.drop off).take t.size)
def M (H:Nat→Value):(t:Ty)→(m:Md)→t.I→List Value→(Nat→Prop)→List Path→Prop
 | .sl t,m,xs,cs,ow,hs=>([]∈hs∧m.cy=false∧∃ A c,cs=[.slice A xs.length c])∨(m.cy=true∧K w Wr (.sl t) xs cs)∨
   ∃ T tag me A c,m=.o T tag me∧cs=[.slice A xs.length c]∧xs.length≤c∧(∀ h,tag=some h→H h=.slice A xs.length c)∧
    ((xs=[]∧c=0)∨∃ g cur,∃ τ:Nat→Nat,A=some ⟨g,0,none⟩∧ow g∧w.heap[g]?=some (.cells cur T (0,0))∧cur.size=c*t.size∧c≤maxLen∧
     ∀ j (h:j<xs.length),M H t me xs[j] ((cur.toList.drop (j*t.size)).take t.size) (fun g'=>ow g'∧g'≠g∧τ g'=j) (sub (.idx j) hs))
 | .ptr t,m,x,cs,ow,hs=>([]∈hs∧m.cy=false∧cs.length=1∧∀ u∈cs,u.oneCell'=true)∨(m.cy=true∧K w Wr (.ptr t) x cs)∨
   ∃ T tag me g cur,m=.o T tag me∧cs=[.pointer (some ⟨g,0,none⟩)]∧(∀ h,tag=some h→H h=.pointer (some ⟨g,0,none⟩))∧ow g∧w.heap[g]?=some (.cells cur T (0,0))∧
    M H t me x cur.toList (fun g'=>ow g'∧g'≠g) (sub .deref hs)
 | .pair a b,m,x,cs,ow,hs=>([]∈hs∧m.cy=false∧cs.length=a.size+b.size∧∀ u∈cs,u.oneCell'=true)∨(m.cy=true∧K w Wr (.pair a b) x cs)∨
   ∃ ma mb c0 c1,∃ s:Nat→Prop,m=.p ma mb∧cs=c0++c1∧M H a ma x.1 c0 (fun g'=>ow g'∧s g') (sub .fst hs)∧M H b mb x.2 c1 (fun g'=>ow g'∧ ¬s g') (sub .snd hs)
 | .int k,m,x,cs,_,_=>m.cy=true∧K w Wr (.int k) x cs
 | .bool,m,x,cs,_,_=>m.cy=true∧K w Wr .bool x cs
 | .str,m,x,cs,_,_=>m.cy=true∧K w Wr .str x cs
 | .unit,m,x,cs,_,_=>m.cy=true∧K w Wr .unit x cs
 | .arr n t,m,x,cs,_,_=>m.cy=true∧K w Wr (.arr n t) x cs
end
end Go.Pv
namespace Go.Pv
set_option linter.unusedVariables false
set_option linter.unusedSimpArgs false
structure TV where
 t:Ty
 m:Md
 x:t.I
inductive I8 where
 |pl (t:Ty) (s:Nat) (p:Path)
 |kv (a:TV)
inductive AV where
 |dead
 |undef
 |v (a:TV) (ex:List Path)
 |u5 (l:List (Option TV))
 |al (t:Ty) (s:Nat) (p:Path)
 |ad (t:Ty) (s:Nat) (p:Path)
 |cut (t:Ty) (s:Nat) (p:Path) (lo hi:Nat)
 |mg (f:FuncId) (c8:List I8)
abbrev St:=List AV
structure TI where
 T:TypeId
 ty:Ty
 e:TypeId
 fs:List TypeId
abbrev ee:=List TI
def ee.find (Θ:ee) (T:TypeId):Option TI:=match Θ with
 |[]=>none
 |i::r=>bif Nat.beq i.T T then some i else ee.find r T
def Md.HU:Md→Md
 | .o _ _ m=>m |_=>.k
def Md.l:Md→Md
 | .p a _=>a |m=>m
def Md.r:Md→Md
 | .p _ b=>b |m=>m
def mkM (a b:Md):Md:=bif a.cy&&b.cy then .k else .p a b
def bQ:Path→(t:Ty)→Md→t.I→Option TV
 |[],t,m,x=>some ⟨t,m,x⟩
 | .deref::p,.ptr t,m,x=>bQ p t m.HU x
 | .fst::p,.pair a _,m,x=>bQ p a m.l x.1
 | .snd::p,.pair _ b,m,x=>bQ p b m.r x.2
 | .idx i::p,.sl t,m,xs=>bQ p t m.HU (xs.getD i t.z)
 |_::_,_,_,_=>none
def iA (b:TV):Path→(t:Ty)→Md→t.I→Option (Md×t.I)
 |[],t,_,_=>if h:b.t=t then some (b.m,h▸b.x) else none
 | .deref::p,.ptr t,.o T tag me,x=>match iA b p t me x with
  |some r=>some (.o T tag r.1,r.2)
  |none=>none
 | .fst::p,.pair t u,m,x=>match iA b p t m.l x.1 with
  |some r=>some (mkM r.1 m.r,(r.2,x.2))
  |none=>none
 | .snd::p,.pair t u,m,x=>match iA b p u m.r x.2 with
  |some r=>some (mkM m.l r.1,(x.1,r.2))
  |none=>none
 | .idx i::p,.sl t,.o T tag me,xs=>match iA b p t me (xs.getD i t.z) with
  |some r=>if r.1=me then some (.o T tag me,xs.set i r.2) else none
  |none=>none
 |_::_,_,_,_=>none
def iB:Path→Path→Bool
 |[],_=>true
 |_,[]=>true
 | .idx _::p,.idx _::q=>iB p q
 |s::p,s'::q=>if s=s' then iB p q else false
def under:Path→Path→Bool
 |[],[]=>false
 |[],_::_=>true
 |_::_,[]=>false
 | .idx _::p,.idx _::q=>under p q
 |s::p,s'::q=>if s=s' then under p q else false
def pre:Path→Path→Bool
 |[],_=>true
 | .deref::p,.deref::q=>pre p q
 | .fst::p,.fst::q=>pre p q
 | .snd::p,.snd::q=>pre p q
 |_,_=>false
def qk:Path→Path→Bool
 |[],_=>true
 |_,[]=>true
 | .idx i::p,.idx j::q=>qk p q&&Nat.beq i j
 |s::p,s'::q=>if s=s' then qk p q else false
def ia:Path→Path→Bool
 |[],[]=>true
 | .idx _::p,.idx _::q=>ia p q
 | .deref::p,.deref::q=>ia p q
 | .fst::p,.fst::q=>ia p q
 | .snd::p,.snd::q=>ia p q
 |_,_=>false
def CL:Path→Path→Bool
 | .idx i::p,.idx j::q=>CL p q&&Nat.beq i j
 |_::p,_::q=>CL p q
 |_,_=>true
def eR (p:Path):List Path→Bool×List Path
 |[]=>(true,[])
 |h::r=>bif ia p h then(CL p h,r) else((eR p r).1,h::(eR p r).2)
def depth:Path→Nat
 |[]=>0 | .deref::p=>depth p+1 | .idx _::p=>depth p+1 |_::p=>depth p
def AV.refs (d:Nat):AV→Bool
 | .al _ s _=>Nat.beq s d | .ad _ s _=>Nat.beq s d | .cut _ s _ _ _=>Nat.beq s d
 | .mg _ c8=>c8.any fun c=>match c with
  | .pl _ s _=>Nat.beq s d
  | .kv _=>false
 |_=>false
def AV.ga (d:Nat):AV→Bool
 | .al _ s p=>Nat.beq s d&&match p with
  |[]=>false
  |_=>true
 | .ad _ s p=>Nat.beq s d&&Nat.ble 2 (depth p)
 | .cut _ s _ _ _=>Nat.beq s d
 | .mg _ c8=>c8.any fun c=>match c with
  | .pl _ s (_::_)=>Nat.beq s d
  |_=>false
 |_=>false
def St.at (S:St) (i:Nat):AV:=S.getD i .dead
def St.kill (S:St) (d:Nat):St:=S.map fun a=>bif a.refs d then .dead else a
def St.weaken (S:St) (d:Nat):St:=S.map fun a=>bif a.ga d then .dead else a
def St.cover (S:St) (d:Nat) (p:Path):St:=S.map fun a=>match a with
 | .ad t s q=>bif Nat.beq s d&&under p q then .dead else .ad t s q
 |a=>a
def AV.AN:AV→Bool
 | .v ..=>true |_=>false
def St.put (S:St) (dst:Option Nat) (a:AV):St:=match dst with
 |none=>S
 |some d=>(bif (S.at d).AN then S.kill d else S).set d (bif a.refs d then .dead else a)
def RQ (a:TV):TV:=⟨a.t,.k,a.x⟩
def nX (Θ:ee) (T:TypeId):Value→Option TV
 | .int k n=>some ⟨.int k,.k,n⟩
 | .bool b=>some ⟨.bool,.k,b⟩
 | .string s=>some ⟨.str,.k,s⟩
 | .slice none 0 0=>match Θ.find T with
  |some i=>match i.ty with
   | .sl t=>some ⟨.sl t,.o i.e none .k,[]⟩
   |_=>none
  |none=>none
 |_=>none
def St.place (S:St) (s:Nat) (p:Path):Option TV:=match S.at s with
 | .v a ex=>bif ex.all (fun h=>!iB h p) then bQ p a.t a.m a.x else none
 |_=>none
def St.dS (S:St) (s:Nat) (p:Path):Option TV:=match S.at s with
 | .v a ex=>bif ex.all (fun h=>!under h p) then bQ p a.t a.m a.x else none
 |_=>none
def St.fb (Θ:ee) (S:St) (T:TypeId):Operand→Option AV
 | .tmp i=>some (S.at i)
 | .const c=>match nX Θ T c with
  |some a=>some (.v a [])
  |none=>none
 | .func f=>some (.mg f [])
 | .global _=>none
def St.uk (S:St):AV→Option TV
 | .v a []=>some a
 | .al _ s p=>S.place s p
 | .cut _ s p lo hi=>match S.place s p with
  |some ⟨.sl t,m,xs⟩=>some ⟨.sl t,m,(xs.take hi).drop lo⟩
  |_=>none
 |_=>none
def St.rd (Θ:ee) (S:St) (T:TypeId) (x:Operand):Option TV:=match S.fb Θ T x with
 |some a=>S.uk a
 |none=>none
def St.mB (Θ:ee) (S:St) (x:Operand):Option Int:=match S.rd Θ 0 x with
 |some ⟨.int _,_,n⟩=>some n
 |_=>none
def St.eS (S:St) (x:Operand):AV→Option (TV×St)
 | .v a ex=>bif a.m.cy then some (a,S) else match ex,x with
  |[],.tmp i=>some (a,S.put (some i) .dead)
  |[],_=>some (a,S)
  |_,_=>none
 | .al _ s p=>match S.place s p with
  |some a=>bif a.m.cy then some (a,S) else match p,S.at s with
   |[],_=>some (a,S.put (some s) .dead)
   |_,.v r ex=>some (a,((S.weaken s).cover s p).set s (.v r (ex++[p])))
   |_,_=>none
  |none=>none
 | .cut _ s [] lo hi=>match S.place s [] with
  |some ⟨.sl t,.o T _ me,xs⟩=>bif Nat.beq lo 0 then some (⟨.sl t,.o T none me,xs.take hi⟩,S.put (some s) .dead) else none
  |_=>none
 |_=>none
def St.take (Θ:ee) (S:St) (T:TypeId) (x:Operand):Option (TV×St):=match S.fb Θ T x with
 |some a=>S.eS x a
 |none=>none
def St.copy (S:St) (x:Operand):AV→Option AV
 | .v a ex=>bif a.m.cy then some (.v a []) else match x with
  | .tmp i=>some (.al a.t i [])
  |_=>match ex with
   |[]=>some (.v a [])
   |_=>none
 | .u5 _=>none
 | .dead=>none
 |a=>some a
def nY (i n:Nat):Path:=bif Nat.beq (i+1) n then(bif Nat.beq n 1 then [.fst] else List.replicate i .snd) else List.replicate i .snd++[.fst]
def zgo (f:TypeId→Md):List TypeId→Md
 |[]=>.k
 |[a]=>f a
 |a::r=>mkM (f a) (zgo f r)
def Nl (Θ:ee):Nat→TypeId→Md
 |0,_=>.k
 |n+1,T=>match Θ.find T with
  |none=>.k
  |some i=>match i.ty with
   | .sl _=>.o i.e none (Nl Θ n i.e)
   | .pair _ _=>zgo (Nl Θ n) i.fs
   |_=>.k
def lR:Ty→Bool
 | .ptr _=>false | .arr _ _=>false | .pair a b=>lR a&&lR b |_=>true
def vM:Ty→Md→Bool
 | .pair a b,.p ma mb=>(vM a ma&&vM b mb)||(ma.cy&&mb.cy&&lR a&&lR b)
 | .sl _,.o _ none _=>true
 |t,m=>m.cy&&lR t
inductive Tgt where
 |k (a:TV)
 |pl (t:Ty) (s:Nat) (p:Path)
def Tgt.ty:Tgt→Ty
 | .k a=>a.t
 | .pl t _ _=>t
def St.HV (S:St) (x:Operand):AV→Option Tgt
 | .v ⟨.ptr t,m,y⟩ []=>match m,x with
  | .k,_=>some (.k ⟨t,.k,y⟩)
  | .o ..,.tmp i=>some (.pl t i [.deref])
  |_,_=>none
 | .v ⟨.ptr t,.o ..,_⟩ _=>match x with
  | .tmp i=>some (.pl t i [.deref])
  |_=>none
 | .al (.ptr t) s p=>match S.dS s p with
  |some ⟨.ptr t',.k,y⟩=>some (.k ⟨t',.k,y⟩)
  |some ⟨.ptr _,.o ..,_⟩=>some (.pl t s (p++[.deref]))
  |_=>none
 | .ad t s p=>some (.pl t s p)
 |_=>none
def St.loadAt (S:St):Tgt→Option AV
 | .k a=>some (.v (RQ a) [])
 | .pl t s p=>match S.dS s p with
  |some a=>bif a.m.cy then(match S.place s p with
   |some a=>some (.v (RQ a) [])
   |none=>none) else some (.al t s p)
  |none=>none
def bt (s:ByteArray) (i:Int):Int:=if h:i.toNat<s.size then((s[i.toNat]'h).toNat:Int) else 0
def ahW (op:BinOp) (k:IntKind) (x y:Int):Option (Bool×TV):=match op with
 | .add=>some (true,⟨.int k,.k,k.wrap (x+y)⟩)
 | .sub=>some (true,⟨.int k,.k,k.wrap (x - y)⟩)
 | .mul=>some (true,⟨.int k,.k,k.wrap (x*y)⟩)
 | .quo=>some (!decide (y=0),⟨.int k,.k,k.wrap (x.tdiv y)⟩)
 | .rem=>some (!decide (y=0),⟨.int k,.k,x.tmod y⟩)
 | .and=>some (true,⟨.int k,.k,k.wrap (BitVec.ofInt k.bits x&&&BitVec.ofInt k.bits y).toNat⟩)
 | .or=>some (true,⟨.int k,.k,k.wrap (BitVec.ofInt k.bits x|||BitVec.ofInt k.bits y).toNat⟩)
 | .xor=>some (true,⟨.int k,.k,k.wrap (BitVec.ofInt k.bits x^^^BitVec.ofInt k.bits y).toNat⟩)
 | .eql=>some (true,⟨.bool,.k,x==y⟩)
 | .neq=>some (true,⟨.bool,.k,x != y⟩)
 | .lss=>some (true,⟨.bool,.k,decide (x<y)⟩)
 | .leq=>some (true,⟨.bool,.k,decide (x≤y)⟩)
 | .gtr=>some (true,⟨.bool,.k,decide (x>y)⟩)
 | .geq=>some (true,⟨.bool,.k,decide (x≥y)⟩)
 | .shl=>some (decide (0≤y),⟨.int k,.k,k.wrap (x*2^(min y.toNat k.bits))⟩)
 | .shr=>some (decide (0≤y),⟨.int k,.k,x.fdiv (2^(min y.toNat k.bits))⟩)
 |_=>none
def ahX (op:BinOp) (x y:ByteArray):Option (Bool×TV):=match op with
 | .add=>some (decide (x.size+y.size≤9223372036854775807),⟨.str,.k,x++y⟩)
 | .eql=>some (true,⟨.bool,.k,x.toList==y.toList⟩)
 | .neq=>some (true,⟨.bool,.k,!(x.toList==y.toList)⟩)
 |_=>none
def Nj:(t:Ty)→t.I→t.I→Option Bool
 | .int _,x,y=>some (decide ((x:Int)=y))
 | .bool,x,y=>some ((x:Bool)==y)
 | .str,x,y=>some ((x:ByteArray)==y)
 | .pair a b,x,y=>match Nj a x.1 y.1,Nj b x.2 y.2 with
  |some p,some q=>some (p&&q)
  |_,_=>none
 | .unit,_,_=>some true
 |_,_,_=>none
def iR (op:BinOp) (a b:TV):Option (Bool×TV):=match a,b with
 |⟨.int k,_,x⟩,⟨.int k',_,y⟩=>if k=k'∨op=.shl∨op=.shr then ahW op k x y else none
 |⟨.str,_,x⟩,⟨.str,_,y⟩=>ahX op x y
 |⟨.bool,_,x⟩,⟨.bool,_,y⟩=>match op with
  | .eql=>some (true,⟨.bool,.k,x==y⟩)
  | .neq=>some (true,⟨.bool,.k,!(x==y)⟩)
  |_=>none
 |⟨.pair t u,_,x⟩,⟨t',_,y⟩=>if h:t'=.pair t u then match op,Nj (.pair t u) x (h▸y) with
   | .eql,some r=>some (true,⟨.bool,.k,r⟩)
   | .neq,some r=>some (true,⟨.bool,.k,!r⟩)
   |_,_=>none
  else none
 |_,_=>none
def ahY (op:UnOp) (a:TV):Option TV:=match op,a with
 | .not,⟨.bool,_,x⟩=>some ⟨.bool,.k,!x⟩
 | .neg,⟨.int k,_,x⟩=>some ⟨.int k,.k,k.wrap (0 - x)⟩
 | .xor,⟨.int k,_,x⟩=>some ⟨.int k,.k,k.wrap (BitVec.ofInt k.bits (if k.signed then -1 else k.max)^^^BitVec.ofInt k.bits x).toNat⟩
 |_,_=>none
def Hr:List TV→TV
 |[]=>⟨.unit,.k,()⟩
 |[a]=>a
 |a::r=>⟨.pair a.t (Hr r).t,mkM a.m (Hr r).m,(a.x,(Hr r).x)⟩
def eT (l:List TV):TV:=match l with
 |[a]=>⟨.pair a.t .unit,mkM a.m .k,(a.x,())⟩
 |l=>Hr l
def sE (Θ:ee) (T:TypeId):Option TV:=match Θ.find T with
 |some i=>bif vM i.ty (Nl Θ 9 T) then some ⟨i.ty,Nl Θ 9 T,i.ty.z⟩ else none
 |none=>none
def St.parts (Θ:ee) (S:St) (ps:List (Nat×Operand)):List TypeId→Nat→Option (List TV×St)
 |[],_=>some ([],S)
 |T::r,j=>match ps.find? (fun q=>Nat.beq q.1 j) with
  |some q=>match S.take Θ T q.2 with
   |some (a,S1)=>match S1.parts Θ ps r (j+1) with
    |some (l,S2)=>some (a::l,S2)
    |none=>none
   |none=>none
  |none=>match sE Θ T with
   |some a=>match S.parts Θ ps r (j+1) with
    |some (l,S2)=>some (a::l,S2)
    |none=>none
   |none=>none
def lG (n:Nat):List (Nat×Operand)→Bool
 |[]=>true
 |q::r=>Nat.blt q.1 n&& !(r.any fun q'=>Nat.beq q'.1 q.1)&&lG n r
def sF (t:Ty) (m:Md):List TV→Option (List t.I)
 |[]=>some []
 |a::r=>if h:a.t=t then(if a.m=m then match sF t m r with
   |some l=>some ((h▸a.x)::l)
   |none=>none else none) else none
abbrev Hn:=List (Nat×Md)
def Hn.find (h:Hn) (d:Option Nat) (m:Md):Md:=match d with
 |none=>m
 |some d=>match h with
  |[]=>m
  |q::r=>bif Nat.beq q.1 d then q.2 else Hn.find r (some d) m
def Hn.YM (h:Hn) (d:Option Nat):Bool:=match h.find d (.o 0 none .k) with
 | .k=>true
 |_=>false
def ee.is (Θ:ee) (T:TypeId) (t:Ty):Bool:=match Θ.find T with
 |some i=>decide (i.ty=t)
 |none=>false
abbrev AO:=Option (Bool×St)
def qm (Θ:ee) (S:St) (dst:Option Nat) (T:TypeId) (x:Operand):AO:=match S.fb Θ T x with
 |some (.u5 l)=>(match dst,x with
  |some d,.tmp i=>bif Nat.beq d i|| !Nat.blt d S.length then none else some (true,(S.put (some i) .dead).put (some d) (.u5 l))
  |_,_=>none)
 |some a=>match S.copy x a with
  |some a=>some (true,S.put dst a)
  |none=>none
 |none=>none
def Ev (Θ:ee) (S:St) (dst:Option Nat) (T:TypeId) (x:Operand):AO:=match S.fb Θ T x with
 |some a=>match dst,x,a with
  |some d,.tmp i,.v a ex=>bif a.m.cy then some (true,S.put dst (.v a [])) else match ex with
   |[]=>bif Nat.beq d i|| !Nat.blt d S.length then none else some (true,(St.put (S.put (some i) .dead) dst (.v a [])).set i (.al a.t d []))
   |_=>none
  |_,_,.v a ex=>bif a.m.cy then some (true,S.put dst (.v a [])) else match ex,x with
   |[],.const _=>some (true,S.put dst (.v a []))
   |_,_=>none
  |some d,_,.al t s []=>bif Nat.beq s d then none else some (true,S.put dst (.al t s []))
  |some d,_,.mg f c=>bif AV.refs d (.mg f c) then none else some (true,S.put dst (.mg f c))
  |_,_,.undef=>some (true,S.put dst .undef)
  |_,_,a=>match S.eS x a with
   |some (a,S1)=>some (true,S1.put dst (.v a []))
   |none=>none
 |none=>match x with
  | .const _=>some (true,S.put dst .dead)
  |_=>none
def RR (Θ:ee) (S:St) (dst:Option Nat) (T:TypeId) (c a b:Operand):AO:=match S.rd Θ 0 c with
 |some ⟨.bool,_,q⟩=>match S.fb Θ T a,S.fb Θ T b with
  |some (.v ⟨.bool,_,x⟩ _),some (.v ⟨.bool,_,y⟩ _)=>some (true,S.put dst (.v ⟨.bool,.k,bif q then x else y⟩ []))
  |some p,some r=>match (bif q then S.copy a p else S.copy b r) with
   |some a=>some (true,S.put dst a)
   |none=>none
  |_,_=>none
 |_=>none
def qn (Θ:ee) (hn:Hn) (S:St) (dst:Option Nat) (T:TypeId):AO:=match sE Θ T with
 |some z=>bif vM z.t (hn.find dst z.m) then some (true,S.put dst (.v ⟨.ptr z.t,.o T none (hn.find dst z.m),z.t.z⟩ [])) else none
 |none=>none
def abZ (Θ:ee) (S:St) (dst:Option Nat) (T:TypeId) (x:Operand):AO:=match S.take Θ T x with
 |some (a,S1)=>bif Θ.is T a.t then some (true,S1.put dst (.v ⟨.ptr a.t,.o T none a.m,a.x⟩ [])) else none
 |none=>none
def DM (Θ:ee) (S:St) (dst:Option Nat) (T:TypeId) (ps:List (Nat×Operand)):AO:=match Θ.find T with
 |some i=>match S.parts Θ ps i.fs 0 with
  |some (l,S1)=>bif decide ((eT l).t=i.ty)&&ab0 i.ty&&lG l.length ps then some (true,S1.put dst (.v (eT l) [])) else none
  |none=>none
 |none=>none
 where ab0:Ty→Bool
 | .pair _ _=>true
 |_=>false
def cn (Θ:ee) (hn:Hn) (S:St) (dst:Option Nat) (T:TypeId) (n:Nat) (ps:List (Nat×Operand)):AO:=match Θ.find T with
 |some ⟨_,.sl t,e,_⟩=>bif lG n ps&&Nat.ble n 1800 then(match S.parts Θ ps (List.replicate n e) 0 with
  |some (l,S1)=>(match l with
   |[]=>some (true,S1.put dst (.v ⟨.sl t,bif hn.YM dst then .k else .o e none (hn.find dst .k),[]⟩ []))
   |a::_=>match sF t a.m l with
    |some xs=>some (true,S1.put dst (.v ⟨.sl t,bif hn.YM dst&&a.m.cy then .k else .o e none a.m,xs⟩ []))
    |none=>none)
  |none=>none) else none
 |_=>none
def iC (Θ:ee) (S:St) (dst:Option Nat) (T:TypeId) (x:Operand):AO:=match S.fb Θ 0 x with
 |some a=>match S.HV x a with
  |some g=>match S.loadAt g with
   |some r=>bif Θ.is T g.ty then some (true,S.put dst r) else none
   |none=>none
  |none=>none
 |none=>none
def mI (Θ:ee) (S:St) (T:TypeId) (x y:Operand):AO:=match S.fb Θ 0 x with
 |some a=>match S.HV x a with
  |some (.pl _ s p)=>match S.take Θ T y with
   |some (b,S1)=>bif Θ.is T b.t then(match S1.at s with
    | .v r ex=>match iA b p r.t r.m r.x with
     |some (m,z)=>bif ex.all (fun h=>!under h p) then some ((eR p (ex.filter fun h=>!pre p h)).1,(S1.weaken s).set s (.v ⟨r.t,m,z⟩ (eR p (ex.filter fun h=>!pre p h)).2)) else none
     |none=>none
    |_=>none) else none
   |none=>none
  |_=>none
 |none=>none
def qo (Θ:ee) (S S1:St) (T:TypeId) (y:Operand):St:=match S.fb Θ T y with
 |some (.al _ s [])=>(match S.at s,S1.at s with
  | .v ⟨.sl t,m,xs⟩ [],.dead=>bif m.cy then S1 else S1.set s (.v ⟨.sl t,m,xs⟩ [[]])
  |_,_=>S1)
 |_=>S1
def vN (Θ:ee) (S:St) (dst:Option Nat) (x:Operand):AO:=match S.fb Θ 0 x with
 |some a=>match S.HV x a with
  |some g=>match S.copy x a,(match g with
   | .k _=>some ()
   | .pl _ s p=>match S.dS s p with
    |some _=>some ()
    |none=>none) with
   |some a,some _=>some (true,S.put dst a)
   |_,_=>none
  |none=>none
 |none=>none
def iD (Θ:ee) (S:St) (dst:Option Nat) (T:TypeId) (x:Operand) (f:Nat):AO:=match S.fb Θ 0 x,Θ.find T with
 |some a,some i=>bif Nat.blt f i.fs.length then(match S.HV x a with
  |some (.k ⟨t,m,y⟩)=>bif decide (i.ty=t) then(match bQ (nY f i.fs.length) t .k y with
   |some b=>some (true,S.put dst (.v ⟨.ptr b.t,.k,b.x⟩ []))
   |none=>none) else none
  |some (.pl t s p)=>bif decide (i.ty=t) then(match S.dS s (p++nY f i.fs.length) with
   |some b=>some (true,S.put dst (.ad b.t s (p++nY f i.fs.length)))
   |none=>none) else none
  |none=>none) else none
 |_,_=>none
def I9 (Θ:ee) (S:St) (dst:Option Nat) (T:TypeId) (x:Operand) (f:Nat):AO:=match S.fb Θ 0 x,Θ.find T with
 |some (.v a ex),some i=>bif Nat.blt f i.fs.length&&decide (i.ty=a.t) then(match x with
  | .tmp j=>match bQ (nY f i.fs.length) a.t a.m a.x with
   |some b=>bif b.m.cy then(match ex with
    |[]=>some (true,S.put dst (.v (RQ b) []))
    |_=>none) else(match S.dS j (nY f i.fs.length) with
    |some _=>some (true,S.put dst (.al b.t j (nY f i.fs.length)))
    |none=>none)
   |none=>none
  |_=>none) else none
 |_,_=>none
def bC (n:Int) (len:Nat):Bool:=decide (0≤n)&&decide (n<(len:Int))
def cN (Θ:ee) (S:St) (dst:Option Nat) (T:TypeId) (x ix:Operand):AO:=match S.fb Θ 0 x,S.mB Θ ix with
 |some (.v ⟨.sl t,m,xs⟩ ex),some n=>bif Θ.is T (.sl t) then(match m,x with
  | .k,_=>some (bC n xs.length,S.put dst (.v ⟨.ptr t,.k,xs.getD n.toNat t.z⟩ []))
  | .o ..,.tmp j=>match S.dS j [.idx n.toNat] with
   |some _=>some (bC n xs.length,S.put dst (.ad t j [.idx n.toNat]))
   |none=>none
  |_,_=>none) else none
 |some (.al (.sl t) s p),some n=>bif Θ.is T (.sl t) then(match S.dS s p with
  |some ⟨.sl t',.k,xs⟩=>some (bC n xs.length,S.put dst (.v ⟨.ptr t',.k,xs.getD n.toNat t'.z⟩ []))
  |some ⟨.sl t',.o ..,xs⟩=>match S.dS s (p++[.idx n.toNat]) with
   |some _=>some (bC n xs.length,S.put dst (.ad t' s (p++[.idx n.toNat])))
   |none=>none
  |_=>none) else none
 |_,_=>none
def I' (Θ:ee) (S:St) (dst:Option Nat) (T:TypeId) (x ix:Operand):AO:=match S.rd Θ 0 x,S.mB Θ ix with
 |some ⟨.str,_,s⟩,some n=>bif Θ.is T .str then some (bC n s.size,S.put dst (.v ⟨.int .u8,.k,bt s n⟩ [])) else none
 |_,_=>none
def gW (S:St) (dst:Option Nat) (x:Operand) (j:Nat):AO:=match x with
 | .tmp i=>match S.at i with
  | .u5 l=>match l.getD j none with
   |some a=>bif a.m.cy then some (true,S.put dst (.v a [])) else(match dst with
    |some d=>bif Nat.beq d i then none else some (true,St.put (S.set i (.u5 (l.set j none))) (some d) (.v a []))
    |none=>none)
   |none=>none
  |_=>none
 |_=>none
def iU (Θ:ee) (S:St) (d:Int):Option Operand→Option Int
 |none=>some d
 |some x=>S.mB Θ x
def fh (Θ:ee) (S:St) (dst:Option Nat) (T:TypeId) (x:Operand) (lo hi mx:Option Operand):AO:=match S.fb Θ 0 x,S.rd Θ 0 x,iU Θ S 0 lo with
 |some a,some ⟨.str,_,s⟩,some l=>match mx,iU Θ S (s.size:Int) hi with
  |none,some h=>bif Θ.is T .str then some (decide (0≤l)&&decide (l≤h)&&decide (h≤(s.size:Int)),S.put dst (.v ⟨.str,.k,s.extract l.toNat h.toNat⟩ [])) else none
  |_,_=>none
 |some a,some ⟨.sl t,m,xs⟩,some l=>bif Θ.is T (.sl t) then(match iU Θ S (xs.length:Int) hi,mx,Θ.find T with
  |some h,none,_=>match m,a,x with
   | .k,_,_=>some (decide (0≤l)&&decide (l≤h)&&decide (h≤(xs.length:Int)),S.put dst (.v ⟨.sl t,.k,(xs.take h.toNat).drop l.toNat⟩ []))
   |_,.v ..,.tmp i=>some (decide (0≤l)&&decide (l≤h)&&decide (h≤(xs.length:Int)),S.put dst (.cut (.sl t) i [] l.toNat h.toNat))
   |_,.al _ s p,_=>some (decide (0≤l)&&decide (l≤h)&&decide (h≤(xs.length:Int)),S.put dst (.cut (.sl t) s p l.toNat h.toNat))
   |_,_,_=>none
  |some h,some z,some i=>match S.mB Θ z,hi with
   |some c,some _=>some (decide (l=0)&&decide (h=0)&&decide (c=0),S.put dst (.v ⟨.sl t,.o i.e none .k,[]⟩ []))
   |_,_=>none
  |_,_,_=>none) else none
 |_,_,_=>none
def bytesOf (xs:List Int):ByteArray:=xs.foldl (fun r n=>r.push (UInt8.ofNat n.toNat)) ByteArray.empty
def iL (Θ:ee) (S:St) (dst:Option Nat) (T T':TypeId) (x:Operand):AO:=match S.rd Θ 0 x,Θ.find T,Θ.find T' with
 |some ⟨.int _,_,n⟩,some _,some ⟨_,.int k,_,_⟩=>some (true,S.put dst (.v ⟨.int k,.k,k.wrap n⟩ []))
 |some ⟨.sl (.int .u8),_,xs⟩,some ⟨_,.sl (.int .u8),_,_⟩,some ⟨_,.str,_,_⟩=>some (true,S.put dst (.v ⟨.str,.k,bytesOf xs⟩ []))
 |_,_,_=>none
def Ew (Θ:ee) (S:St) (dst:Option Nat) (op:BinOp) (T:TypeId) (x y:Operand):AO:=match S.rd Θ T x,S.rd Θ T y with
 |some a,some b=>match a.t with
  | .bool=>bif Θ.is T .bool then(match iR op a b with
   |some (g,r)=>some (g,S.put dst (.v r []))
   |none=>none) else none
  | .pair _ _=>bif Θ.is T a.t then(match iR op a b with
   |some (g,r)=>some (g,S.put dst (.v r []))
   |none=>none) else none
  |_=>match iR op a b with
   |some (g,r)=>some (g,S.put dst (.v r []))
   |none=>none
 |_,_=>none
def aqG (Θ:ee) (S:St) (dst:Option Nat) (op:UnOp) (x:Operand):AO:=match S.rd Θ 0 x with
 |some a=>match ahY op a with
  |some r=>some (true,S.put dst (.v r []))
  |none=>none
 |none=>none
def iE (Θ:ee) (S:St) (dst:Option Nat) (T:TypeId) (l c:Operand):AO:=match Θ.find T,S.mB Θ l,S.mB Θ c with
 |some ⟨_,.sl t,e,_⟩,some n,some n'=>match sE Θ e with
  |some z=>if z.t=t then some (decide (n=n')&&decide (0≤n)&&decide (n≤1099511627776),S.put dst (.v ⟨.sl t,.o e none z.m,List.replicate n.toNat t.z⟩ [])) else none
  |none=>none
 |_,_,_=>none
def apd (S:St):Operand→Option I8
 | .tmp i=>match S.at i with
  | .v ⟨.ptr t,.o ..,_⟩ _=>some (I8.pl t i [])
  | .v ⟨.ptr t,.k,y⟩ _=>some (I8.kv ⟨.ptr t,.k,y⟩)
  | .al (.ptr t) s p=>some (I8.pl t s p)
  |_=>none
 |_=>none
def Ey (S:St):List Operand→Option (List I8)
 |[]=>some []
 |x::r=>match apd S x,Ey S r with
  |some c,some l=>some (c::l)
  |_,_=>none
def vO (S:St) (dst:Option Nat) (f:FuncId) (first c8:List Operand):AO:=match first,Ey S c8 with
 |[],some l=>match dst with
  |some d=>bif AV.refs d (.mg f l) then none else some (true,S.put dst (.mg f l))
  |none=>none
 |_,_=>none
def ape:TV→Option Int
 |⟨.sl _,_,xs⟩=>some (xs.length:Int)
 |⟨.str,_,b⟩=>some (b.size:Int)
 |_=>none
def ab1 (Θ:ee) (S:St) (dst:Option Nat) (ts:List TypeId) (as:List Operand):AO:=match as,ts with
 |[x],[T]=>match (match S.fb Θ 0 x with
   |some (.v a ex)=>bif ex.any List.isEmpty then none else some a
   |some (.al t s p)=>(match S.place s p with
    |some b=>some b
    |none=>match S.dS s p with
     |some ⟨.sl t,m,xs⟩=>some ⟨.sl t,m,xs⟩
     |_=>none)
   |some a=>S.uk a
   |none=>none) with
  |some b=>bif Θ.is T b.t then(match ape b with
   |some n=>some (true,S.put dst (.v ⟨.int .i64,.k,n⟩ []))
   |none=>none) else none
  |none=>none
 |_,_=>none
def cO (Θ:ee) (S:St) (dst:Option Nat) (ts:List TypeId) (as:List Operand):AO:=match as,ts with
 |[x,y],[T,T']=>match S.take Θ T x,Θ.find T with
  |some (⟨.sl t,.o e _ me,xs⟩,S1),some i=>bif decide (i.ty=.sl t)&&Nat.beq i.e e&&Θ.is T' (.sl t) then
    (bif me.cy then(match S1.rd Θ T' y with
     |some ⟨.sl t',m',ys⟩=>bif m'.HU.cy then(if h:t'=t then
       some (decide ((xs.length+ys.length)*t.size≤4398046511104),S1.put dst (.v ⟨.sl t,.o e none me,xs++(h▸ys)⟩ [])) else none) else none
     |_=>none)
    else(match S1.take Θ T' y with
     |some (⟨.sl t',m',ys⟩,S2)=>if h:t'=t then
       (if m'.HU=me then some (decide ((xs.length+ys.length)*t.size≤4398046511104),S2.put dst (.v ⟨.sl t,.o e none me,xs++(h▸ys)⟩ [])) else none) else none
     |_=>none)) else none
  |_,_=>none
 |_,_=>none
def gX (Θ:ee) (S:St) (dst:Option Nat) (ts:List TypeId) (as:List Operand):AO:=match as,ts with
 |[x,y],[T,T']=>match S.fb Θ T x with
  |some (.al _ s (st::pp))=>(match S.at s with
   | .v r ex=>(match bQ (st::pp) r.t r.m r.x,Θ.find T with
    |some ⟨.sl t,.o e _ me,xs⟩,some i=>bif decide (i.ty=.sl t)&&Nat.beq i.e e&&Θ.is T' (.sl t)&&me.cy then
      (match St.rd Θ (((S.weaken s).cover s (st::pp)).set s (.v r (ex++[st::pp]))) T' y with
      |some ⟨.sl t',m',ys⟩=>bif m'.HU.cy then(if h:t'=t then
        some (ex.all (fun h=>!qk h (st::pp))&&decide ((xs.length+ys.length)*t.size≤4398046511104),St.put (((S.weaken s).cover s (st::pp)).set s (.v r (ex++[st::pp]))) dst (.v ⟨.sl t,.o e none me,xs++(h▸ys)⟩ [])) else none) else none
      |_=>none) else none
    |_,_=>none)
   |_=>none)
  |_=>none
 |_,_=>none
def ev (Θ:ee) (hn:Hn) (S:St) (o:Oper):AO:=match o.op with
 | .move x=>qm Θ S o.dst o.type x
 | .assign x=>Ev Θ S o.dst o.type x
 | .pick c a b=>RR Θ S o.dst o.type c a b
 | .alloc T=>qn Θ hn S o.dst T
 | .box T x=>abZ Θ S o.dst T x
 | .build T ps=>DM Θ S o.dst T ps.toList
 | .buildSlice T n ps=>cn Θ hn S o.dst T n ps.toList
 | .load T x=>iC Θ S o.dst T x
 | .store T x y=>match o.dst with
  |none=>(match mI Θ S T x y with
   |some (g,S1)=>some (g,qo Θ S S1 T y)
   |none=>none)
  |some _=>none
 | .nilCheck x=>vN Θ S o.dst x
 | .fieldAddr T x f=>iD Θ S o.dst T x f
 | .field T x f=>I9 Θ S o.dst T x f
 | .indexAddr T x ix=>cN Θ S o.dst T x ix
 | .index T x ix=>I' Θ S o.dst T x ix
 | .extract x j=>gW S o.dst x j
 | .slice T x lo hi mx=>fh Θ S o.dst T x lo hi mx
 | .convert T T' x=>iL Θ S o.dst T T' x
 | .binOp op T x y _=>Ew Θ S o.dst op T x y
 | .unOp op _ x=>aqG Θ S o.dst op x
 | .makeSlice T l c=>iE Θ S o.dst T l c
 | .makeFunc (.func f) first c8=>vO S o.dst f first.toList c8.toList
 | .call { callee:=.builtin .len,args:=as,argTypes:=ts }=>ab1 Θ S o.dst ts.toList as.toList
 | .call { callee:=.builtin .append,args:=as,argTypes:=ts }=>match cO Θ S o.dst ts.toList as.toList with
  |some r=>some r
  |none=>gX Θ S o.dst ts.toList as.toList
 |_=>none
end Go.Pv
namespace Go.Pv
set_option linter.unusedVariables false
set_option linter.unusedSimpArgs false
variable {w w':World} {Wr rX:Nat→Prop} {H:Nat→Value}
theorem lS {α:Type} (n:Nat):∀ {fZ:List (List α)},(∀ c∈fZ,c.length=n)→fZ.flatten.length=fZ.length*n
 |[],_=>by simp
 |c::r,h=>by
  have h1:=h c (by simp)
  have h2:=lS n (fZ:=r) fun c hc=>h c (by simp[hc])
  simp[h1,h2,Nat.add_mul,Nat.add_comm]
theorem mh:∀ (t:Ty) {x:t.I} {cs:List Value},K w Wr t x cs→cs.length=t.size∧∀ u∈cs,u.oneCell'=true
 | .int k,n,cs,h=>by simp only[K] at h;subst h;exact⟨rfl,by simp[Value.oneCell']⟩
 | .bool,n,cs,h=>by simp only[K] at h;subst h;exact⟨rfl,by simp[Value.oneCell']⟩
 | .str,n,cs,h=>by simp only[K] at h;subst h;exact⟨rfl,by simp[Value.oneCell']⟩
 | .unit,n,cs,h=>by simp only[K] at h;subst h;exact⟨rfl,by simp⟩
 | .pair a b,x,cs,h=>by
  simp only[K] at h
  obtain⟨c0,c1,rfl,h0,h1⟩:=h
  obtain⟨l0,o0⟩:=mh a h0
  obtain⟨l1,o1⟩:=mh b h1
  refine⟨by simp[l0,l1,Ty.size],fun u hu=>?_⟩
  rcases List.mem_append.1 hu with hu |hu
  ·exact o0 u hu
  ·exact o1 u hu
 | .arr n t,xs,cs,h=>by
  simp only[K] at h
  obtain⟨fZ,rfl,hl,hx,hj⟩:=h
  have gQ:∀ c∈fZ,c.length=t.size∧∀ u∈c,u.oneCell'=true:=by
   intro c hc
   obtain⟨j,Hs,rfl⟩:=List.mem_iff_getElem.1 hc
   exact mh t (hj j (by omega) Hs)
  refine⟨by rw[lS t.size fun c hc=>(gQ c hc).1,hl];rfl,fun u hu=>?_⟩
  obtain⟨c,hc,hu⟩:=List.mem_flatten.1 hu
  exact(gQ c hc).2 u hu
 | .sl t,xs,cs,h=>by
  simp only[K] at h
  obtain⟨A,c,rfl,_⟩:=h
  exact⟨rfl,by simp[Value.oneCell']⟩
 | .ptr t,xs,cs,h=>by
  simp only[K] at h
  obtain⟨g,off,cur,T,fr,rfl,_⟩:=h
  exact⟨rfl,by simp[Value.oneCell']⟩
structure bA (w w':World) (Wr rX:Nat→Prop):Prop where
 same:∀ g,¬Wr g→g<w.heap.size→w'.heap[g]?=w.heap[g]?
 wr:∀ g,g<w.heap.size→rX g→Wr g
theorem bA.refl (w:World) (Wr:Nat→Prop):bA w w Wr Wr:=⟨fun _ _ _=>rfl,fun _ _ h=>h⟩
theorem bT {α:Type} {a:Array α} {g:Nat} {o:α} (h:a[g]?=some o):g<a.size:=(Array.getElem?_eq_some_iff.1 h).1
theorem cE (hs:bA w w' Wr rX):∀ (t:Ty) {x:t.I} {cs:List Value},K w Wr t x cs→K w' rX t x cs
 | .int k,n,cs,h=>h
 | .bool,n,cs,h=>h
 | .str,n,cs,h=>h
 | .unit,n,cs,h=>h
 | .pair a b,x,cs,h=>by
  simp only[K] at h ⊢
  obtain⟨c0,c1,rfl,h0,h1⟩:=h
  exact⟨c0,c1,rfl,cE hs a h0,cE hs b h1⟩
 | .arr n t,xs,cs,h=>by
  simp only[K] at h ⊢
  obtain⟨fZ,rfl,hl,hx,hj⟩:=h
  exact⟨fZ,rfl,hl,hx,fun j h1 h2=>cE hs t (hj j h1 h2)⟩
 | .sl t,xs,cs,h=>by
  simp only[K] at h ⊢
  obtain⟨A,c,rfl,hc,h⟩:=h
  refine⟨A,c,rfl,hc,fun hp=>?_⟩
  obtain⟨g,off,cur,T,fr,rfl,hg,hw,ho,hj⟩:=h hp
  have cZ:=bT hw
  exact⟨g,off,cur,T,fr,rfl,fun bW=>hg (hs.wr g cZ bW),(hs.same g hg cZ).trans hw,ho,fun j Hs=>cE hs t (hj j Hs)⟩
 | .ptr t,x,cs,h=>by
  simp only[K] at h ⊢
  obtain⟨g,off,cur,T,fr,rfl,hg,hw,ho,hj⟩:=h
  have cZ:=bT hw
  exact⟨g,off,cur,T,fr,rfl,fun bW=>hg (hs.wr g cZ bW),(hs.same g hg cZ).trans hw,ho,cE hs t hj⟩
theorem fI:∀ (t:Ty) {m:Md} {x:t.I} {cs:List Value} {ow:Nat→Prop} {hs:List Path},M w Wr H t m x cs ow hs→cs.length=t.size∧∀ u∈cs,u.oneCell'=true
 | .int k,m,n,cs,_,_,h=>mh (.int k) (by simp only[M] at h;exact h.2)
 | .bool,m,n,cs,_,_,h=>mh .bool (by simp only[M] at h;exact h.2)
 | .str,m,n,cs,_,_,h=>mh .str (by simp only[M] at h;exact h.2)
 | .unit,m,n,cs,_,_,h=>mh .unit (by simp only[M] at h;exact h.2)
 | .arr n t,m,_,cs,_,_,h=>mh (.arr n t) (by simp only[M] at h;exact h.2)
 | .pair a b,m,x,cs,ow,hs,h=>by
  simp only[M] at h
  rcases h with⟨_,_,h⟩ |⟨_,h⟩ |⟨ma,mb,c0,c1,s,_,rfl,h0,h1⟩
  ·exact h
  ·exact mh _ h
  ·obtain⟨l0,o0⟩:=fI a h0
   obtain⟨l1,o1⟩:=fI b h1
   refine⟨by simp[l0,l1,Ty.size],fun u hu=>?_⟩
   rcases List.mem_append.1 hu with hu |hu
   ·exact o0 u hu
   ·exact o1 u hu
 | .sl t,m,xs,cs,ow,hs,h=>by
  simp only[M] at h
  rcases h with⟨_,_,A,c,rfl⟩ |⟨_,h⟩ |⟨T,tag,me,A,c,_,rfl,_⟩
  ·exact⟨rfl,by simp[Value.oneCell']⟩
  ·exact mh _ h
  ·exact⟨rfl,by simp[Value.oneCell']⟩
 | .ptr t,m,xs,cs,ow,hs,h=>by
  simp only[M] at h
  rcases h with⟨_,_,h⟩ |⟨_,h⟩ |⟨T,tag,me,g,cur,_,rfl,_⟩
  ·exact h
  ·exact mh _ h
  ·exact⟨rfl,by simp[Value.oneCell']⟩
theorem ep {s:Step} {p:Path} {hs:List Path}:p∈sub s hs↔(s::p)∈hs:=by
 unfold sub
 rw[List.mem_filterMap]
 constructor
 ·rintro⟨q,hq,h⟩
  cases q with
  |nil=>simp at h
  |cons a r=>by_cases e:a=s<;>simp[e] at h;subst h e;exact hq
 ·intro h
  exact⟨_,h,by simp⟩
theorem nh {s:Step} {hs pf:List Path} (h:∀ p∈hs,p∈pf):∀ p∈sub s hs,p∈sub s pf:=fun p hp=>ep.2 (h _ (ep.1 hp))
theorem bj (cD:bA w w' Wr rX):∀ (t:Ty) {m:Md} {x:t.I} {cs:List Value} {ow de:Nat→Prop} {hs pf:List Path},
  (∀ g,ow g→g<w.heap.size→w'.heap[g]?=w.heap[g]?)→(∀ g,ow g→g<w.heap.size→de g)→(∀ p∈hs,p∈pf)→M w Wr H t m x cs ow hs→M w' rX H t m x cs de pf
 | .int k,m,n,cs,_,_,_,_,_,_,_,h=>by simp only[M] at h ⊢;exact h
 | .bool,m,n,cs,_,_,_,_,_,_,_,h=>by simp only[M] at h ⊢;exact h
 | .str,m,n,cs,_,_,_,_,_,_,_,h=>by simp only[M] at h ⊢;exact h
 | .unit,m,n,cs,_,_,_,_,_,_,_,h=>by simp only[M] at h ⊢;exact h
 | .arr n t,m,_,cs,_,_,_,_,_,_,_,h=>by simp only[M] at h ⊢;exact⟨h.1,cE cD _ h.2⟩
 | .pair a b,m,x,cs,ow,de,hs,pf,hb,ho,hp,h=>by
  simp only[M] at h ⊢
  rcases h with⟨h1,h⟩ |⟨h1,h⟩ |⟨ma,mb,c0,c1,s,e,rfl,h0,h1⟩
  ·exact .inl ⟨hp _ h1,h⟩
  ·exact .inr (.inl ⟨h1,cE cD _ h⟩)
  ·exact .inr (.inr ⟨ma,mb,c0,c1,s,e,rfl,bj cD a (fun g hg=>hb g hg.1) (fun g hg hl=>⟨ho g hg.1 hl,hg.2⟩) (nh hp) h0,
    bj cD b (fun g hg=>hb g hg.1) (fun g hg hl=>⟨ho g hg.1 hl,hg.2⟩) (nh hp) h1⟩)
 | .sl t,m,xs,cs,ow,de,hs,pf,hb,ho,hp,h=>by
  simp only[M] at h ⊢
  rcases h with⟨h1,h⟩ |⟨h1,h⟩ |⟨T,tag,me,A,c,e,rfl,hc,ht,h⟩
  ·exact .inl ⟨hp _ h1,h⟩
  ·exact .inr (.inl ⟨h1,cE cD _ h⟩)
  ·refine .inr (.inr ⟨T,tag,me,A,c,e,rfl,hc,ht,?_⟩)
   rcases h with h |⟨g,cur,τ,rfl,hg,hw,j8,hm,hj⟩
   ·exact .inl h
   ·have cZ:=bT hw
    exact .inr ⟨g,cur,τ,rfl,ho g hg cZ,(hb g hg cZ).trans hw,j8,hm,fun j Hs=>bj cD t (fun g' bW=>hb g' bW.1) (fun g' bW hl=>⟨ho g' bW.1 hl,bW.2⟩) (nh hp) (hj j Hs)⟩
 | .ptr t,m,x,cs,ow,de,hs,pf,hb,ho,hp,h=>by
  simp only[M] at h ⊢
  rcases h with⟨h1,h⟩ |⟨h1,h⟩ |⟨T,tag,me,g,cur,e,rfl,ht,hg,hw,h⟩
  ·exact .inl ⟨hp _ h1,h⟩
  ·exact .inr (.inl ⟨h1,cE cD _ h⟩)
  ·have cZ:=bT hw
   exact .inr (.inr ⟨T,tag,me,g,cur,e,rfl,ht,ho g hg cZ,(hb g hg cZ).trans hw,bj cD t (fun g' bW=>hb g' bW.1) (fun g' bW hl=>⟨ho g' bW.1 hl,bW.2⟩) (nh hp) h⟩)
theorem M_K (hw:∀ g,g<w.heap.size→rX g→Wr g):∀ (t:Ty) {m:Md} {x:t.I} {cs:List Value} {ow:Nat→Prop} {hs:List Path},hs=[]→(∀ g,ow g→¬rX g)→M w Wr H t m x cs ow hs→K w rX t x cs
 | .int k,m,n,cs,_,_,_,_,h=>by simp only[M] at h;exact h.2
 | .bool,m,n,cs,_,_,_,_,h=>by simp only[M] at h;exact h.2
 | .str,m,n,cs,_,_,_,_,h=>by simp only[M] at h;exact h.2
 | .unit,m,n,cs,_,_,_,_,h=>by simp only[M] at h;exact h.2
 | .arr n t,m,_,cs,_,_,_,_,h=>by simp only[M] at h;exact cE ⟨fun _ _ _=>rfl,hw⟩ _ h.2
 | .pair a b,m,x,cs,ow,hs,e,hn,h=>by
  subst e
  simp only[M] at h
  rcases h with⟨h1,h⟩ |⟨h1,h⟩ |⟨ma,mb,c0,c1,s,e,rfl,h0,h1⟩
  ·simp at h1
  ·exact cE ⟨fun _ _ _=>rfl,hw⟩ _ h
  ·simp only[K]
   exact⟨c0,c1,rfl,M_K hw a rfl (fun g hg=>hn g hg.1) h0,M_K hw b rfl (fun g hg=>hn g hg.1) h1⟩
 | .sl t,m,xs,cs,ow,hs,e,hn,h=>by
  subst e
  simp only[M] at h
  rcases h with⟨h1,h⟩ |⟨h1,h⟩ |⟨T,tag,me,A,c,e,rfl,hc,ht,h⟩
  ·simp at h1
  ·exact cE ⟨fun _ _ _=>rfl,hw⟩ _ h
  ·simp only[K]
   refine⟨A,c,rfl,hc,fun hp=>?_⟩
   rcases h with⟨rfl,_⟩ |⟨g,cur,τ,rfl,hg,hh,j8,hm,hj⟩
   ·simp at hp
   ·exact⟨g,0,cur,T,(0,0),rfl,hn g hg,hh,by rw[j8];have:=Nat.mul_le_mul_right t.size hc;omega,fun j Hs=>by
     rw[Nat.zero_add];exact M_K hw t rfl (fun g' bW=>hn g' bW.1) (hj j Hs)⟩
 | .ptr t,m,x,cs,ow,hs,e,hn,h=>by
  subst e
  simp only[M] at h
  rcases h with⟨h1,h⟩ |⟨h1,h⟩ |⟨T,tag,me,g,cur,e,rfl,ht,hg,hh,h⟩
  ·simp at h1
  ·exact cE ⟨fun _ _ _=>rfl,hw⟩ _ h
  ·have hl:=(fI t h).1
   simp only[K]
   refine⟨g,0,cur,T,(0,0),rfl,hn g hg,hh,by rw[←hl];simp,?_⟩
   rw[List.drop_zero,List.take_of_length_le (by omega)]
   exact M_K hw t rfl (fun g' bW=>hn g' bW.1) h
end Go.Pv
namespace Go.Pv
set_option linter.unusedVariables false
set_option linter.unusedSimpArgs false
variable {w w':World} {Wr rX:Nat→Prop} {H:Nat→Value}
theorem ib:∀ (t:Ty) {x:t.I} {cs:List Value} {ow:Nat→Prop} {hs:List Path},K w Wr t x cs→M w Wr H t .k x cs ow hs
 | .int _,_,_,_,_,h=>by simp only[M];exact⟨rfl,h⟩
 | .bool,_,_,_,_,h=>by simp only[M];exact⟨rfl,h⟩
 | .str,_,_,_,_,h=>by simp only[M];exact⟨rfl,h⟩
 | .unit,_,_,_,_,h=>by simp only[M];exact⟨rfl,h⟩
 | .arr _ _,_,_,_,_,h=>by simp only[M];exact⟨rfl,h⟩
 | .pair _ _,_,_,_,_,h=>by simp only[M];exact .inr (.inl ⟨rfl,h⟩)
 | .sl _,_,_,_,_,h=>by simp only[M];exact .inr (.inl ⟨rfl,h⟩)
 | .ptr _,_,_,_,_,h=>by simp only[M];exact .inr (.inl ⟨rfl,h⟩)
theorem gR:∀ (t:Ty) {m:Md} {x:t.I} {cs:List Value} {ow:Nat→Prop} {hs:List Path},m.cy=true→M w Wr H t m x cs ow hs→K w Wr t x cs
 | .int _,_,_,_,_,_,_,h=>by simp only[M] at h;exact h.2
 | .bool,_,_,_,_,_,_,h=>by simp only[M] at h;exact h.2
 | .str,_,_,_,_,_,_,h=>by simp only[M] at h;exact h.2
 | .unit,_,_,_,_,_,_,h=>by simp only[M] at h;exact h.2
 | .arr _ _,_,_,_,_,_,_,h=>by simp only[M] at h;exact h.2
 | .sl _,m,_,_,_,_,hk,h=>by
  simp only[M] at h
  rcases h with⟨_,h,_⟩ |⟨_,h⟩ |⟨T,tag,me,A,c,rfl,_⟩
  ·rw[hk] at h;cases h
  ·exact h
  ·simp[Md.cy] at hk
 | .ptr _,m,_,_,_,_,hk,h=>by
  simp only[M] at h
  rcases h with⟨_,h,_⟩ |⟨_,h⟩ |⟨T,tag,me,g,cur,rfl,_⟩
  ·rw[hk] at h;cases h
  ·exact h
  ·simp[Md.cy] at hk
 | .pair a b,m,_,_,_,_,hk,h=>by
  simp only[M] at h
  rcases h with⟨_,h,_⟩ |⟨_,h⟩ |⟨ma,mb,c0,c1,s,rfl,rfl,h0,h1⟩
  ·rw[hk] at h;cases h
  ·exact h
  ·simp[Md.cy] at hk
   simp only[K]
   exact⟨c0,c1,rfl,gR a hk.1 h0,gR b hk.2 h1⟩
theorem ph {t:Ty} {m:Md} {x:t.I} {cs:List Value} {ow:Nat→Prop} {hs:List Path} (hk:m.cy=true) (h:K w Wr t x cs):M w Wr H t m x cs ow hs:=by
 cases t<;>simp only[M]<;>first |exact⟨hk,h⟩ |exact .inr (.inl ⟨hk,h⟩)
theorem qp {m:Md} (h:m.cy=true):m.HU.cy=true:=by cases m<;>simp_all [Md.cy,Md.HU]
theorem Nn {m:Md} (h:m.cy=true):m.l.cy=true:=by cases m<;>simp_all [Md.cy,Md.l]
theorem No {m:Md} (h:m.cy=true):m.r.cy=true:=by cases m<;>simp_all [Md.cy,Md.r]
theorem xO {a b:Ty} {ma mb:Md} {x:a.I} {y:b.I} {c0 c1:List Value} {ow s:Nat→Prop} {hs:List Path}
  (h0:M w Wr H a ma x c0 (fun g=>ow g∧s g) (sub .fst hs)) (h1:M w Wr H b mb y c1 (fun g=>ow g∧ ¬s g) (sub .snd hs)):
  M w Wr H (.pair a b) (mkM ma mb) (x,y) (c0++c1) ow hs:=by
 unfold mkM
 cases h:ma.cy&&mb.cy with
 |false=>simp only[cond_false,M];exact .inr (.inr ⟨ma,mb,c0,c1,s,rfl,rfl,h0,h1⟩)
 |true=>
  simp at h
  exact ib _ (by simp only[K];exact⟨c0,c1,rfl,gR a h.1 h0,gR b h.2 h1⟩)
def rowAt (w:World) (g off n:Nat):Option (List Value):=match w.heap[g]? with
 |some (.cells cur _ _)=>if off+n≤cur.size then some ((cur.toList.drop off).take n) else none
 |_=>none
def bu (w:World):Path→(t:Ty)→List Value→Option (List Value)
 |[],_,cs=>some cs
 | .deref::p,.ptr t,[.pointer (some ⟨g,off,none⟩)]=>(rowAt w g off t.size).bind (bu w p t)
 | .fst::p,.pair a _,cs=>bu w p a (cs.take a.size)
 | .snd::p,.pair a b,cs=>bu w p b (cs.drop a.size)
 | .idx i::p,.sl t,[.slice (some ⟨g,off,none⟩) _ _]=>(rowAt w g (off+i*t.size) t.size).bind (bu w p t)
 |_::_,_,_=>none
def addrAt (w:World):Path→(t:Ty)→List Value→Option (Nat×Nat)→Option (Nat×Nat)
 |[],_,_,l=>l
 | .deref::p,.ptr t,[.pointer (some ⟨g,off,none⟩)],_=>(rowAt w g off t.size).bind fun cs=>addrAt w p t cs (some (g,off))
 | .fst::p,.pair a _,cs,l=>addrAt w p a (cs.take a.size) l
 | .snd::p,.pair a b,cs,l=>addrAt w p b (cs.drop a.size) (l.map fun q=>(q.1,q.2+a.size))
 | .idx i::p,.sl t,[.slice (some ⟨g,off,none⟩) _ _],_=>(rowAt w g (off+i*t.size) t.size).bind fun cs=>addrAt w p t cs (some (g,off+i*t.size))
 |_::_,_,_,_=>none
def valid:Path→(t:Ty)→t.I→Prop
 |[],_,_=>True
 | .deref::p,.ptr t,x=>valid p t x
 | .fst::p,.pair a _,x=>valid p a x.1
 | .snd::p,.pair _ b,x=>valid p b x.2
 | .idx i::p,.sl t,xs=>i<xs.length∧valid p t (xs.getD i t.z)
 |_::_,_,_=>False
def xP:Path→List Path→List Path
 |[],hs=>hs
 |s::p,hs=>xP p (sub s hs)
theorem Ez {p q:Path}:∀ {hs:List Path},q∈xP p hs↔(p++q)∈hs:=by
 induction p with
 |nil=>intro hs;rfl
 |cons s p ih=>intro hs;simp only[xP,ih,ep,List.cons_append]
def open_ (p:Path) (hs:List Path):Prop:=∀ h∈hs,∀ s r,p≠h++s::r
theorem open_.sub {s:Step} {p:Path} {hs:List Path} (h:open_ (s::p) hs):open_ p (sub s hs):=fun q hq s' r e=>h _ (ep.1 hq) s' r (by rw[e];rfl)
theorem open_.not_nil {s:Step} {p:Path} {hs:List Path} (h:open_ (s::p) hs):[]∉hs:=fun hn=>h [] hn s p rfl
theorem b6 {cur:Array Value} {T:TypeId} {fr:Nat×Nat} {g off n:Nat} (h:w.heap[g]?=some (.cells cur T fr)) (hl:off+n≤cur.size):rowAt w g off n=some ((cur.toList.drop off).take n):=by
 simp[rowAt,h,hl]
theorem focus:∀ (p:Path) {t:Ty} {m:Md} {x:t.I} {cs:List Value} {ow:Nat→Prop} {hs:List Path} {b:TV},M w Wr H t m x cs ow hs→open_ p hs→valid p t x→bQ p t m x=some b→
  ∃ du de,bu w p t cs=some du∧(∀ g,de g→ow g)∧M w Wr H b.t b.m b.x du de (xP p hs)
 |[],t,m,x,cs,ow,hs,b,h,ho,hv,hg=>by
  simp only[bQ,Option.some.injEq] at hg
  subst hg
  exact⟨cs,ow,rfl,fun _ h=>h,h⟩
 | .deref::p,.ptr t,m,x,cs,ow,hs,b,h,ho,hv,hg=>by
  simp only[bQ] at hg
  simp only[valid] at hv
  simp only[M] at h
  rcases h with⟨hn,_⟩ |⟨hk,h⟩ |⟨T,tag,me,g,cur,rfl,rfl,ht,rY,hw,h⟩
  ·exact absurd hn ho.not_nil
  ·simp only[K] at h
   obtain⟨g,off,cur,T,fr,rfl,hng,hw,hl,h⟩:=h
   obtain⟨du,de,h1,h2,h3⟩:=focus p (ow:=fun _=>False) (ph (qp hk) h) ho.sub hv hg
   exact⟨du,de,by simp only[bu,b6 hw hl,Option.bind_some];exact h1,fun g hg=>(h2 g hg).elim,h3⟩
  ·have hlen:=(fI t h).1
   obtain⟨du,de,h1,h2,h3⟩:=focus p h ho.sub hv hg
   refine⟨du,de,?_,fun g hg=>(h2 g hg).1,h3⟩
   have j8:0+t.size≤cur.size:=by rw[←hlen];simp
   simp only[bu,b6 hw j8,Option.bind_some,List.drop_zero]
   rw[List.take_of_length_le (by omega)]
   exact h1
 | .fst::p,.pair a b',m,x,cs,ow,hs,b,h,ho,hv,hg=>by
  simp only[bQ] at hg
  simp only[valid] at hv
  simp only[M] at h
  rcases h with⟨hn,_⟩ |⟨hk,h⟩ |⟨ma,mb,c0,c1,s,rfl,rfl,h0,h1⟩
  ·exact absurd hn ho.not_nil
  ·simp only[K] at h
   obtain⟨c0,c1,rfl,h0,h1⟩:=h
   obtain⟨du,de,k1,k2,k3⟩:=focus p (ow:=fun _=>False) (ph (Nn hk) h0) ho.sub hv hg
   exact⟨du,de,by simp only[bu];rw[←(mh a h0).1,List.take_left];exact k1,fun g hg=>(k2 g hg).elim,k3⟩
  ·obtain⟨du,de,k1,k2,k3⟩:=focus p h0 ho.sub hv hg
   exact⟨du,de,by simp only[bu];rw[←(fI a h0).1,List.take_left];exact k1,fun g hg=>(k2 g hg).1,k3⟩
 | .snd::p,.pair a b',m,x,cs,ow,hs,b,h,ho,hv,hg=>by
  simp only[bQ] at hg
  simp only[valid] at hv
  simp only[M] at h
  rcases h with⟨hn,_⟩ |⟨hk,h⟩ |⟨ma,mb,c0,c1,s,rfl,rfl,h0,h1⟩
  ·exact absurd hn ho.not_nil
  ·simp only[K] at h
   obtain⟨c0,c1,rfl,h0,h1⟩:=h
   obtain⟨du,de,k1,k2,k3⟩:=focus p (ow:=fun _=>False) (ph (No hk) h1) ho.sub hv hg
   exact⟨du,de,by simp only[bu];rw[←(mh a h0).1,List.drop_left];exact k1,fun g hg=>(k2 g hg).elim,k3⟩
  ·obtain⟨du,de,k1,k2,k3⟩:=focus p h1 ho.sub hv hg
   exact⟨du,de,by simp only[bu];rw[←(fI a h0).1,List.drop_left];exact k1,fun g hg=>(k2 g hg).1,k3⟩
 | .idx i::p,.sl t,m,xs,cs,ow,hs,b,h,ho,hv,hg=>by
  simp only[bQ] at hg
  simp only[valid] at hv
  obtain⟨hi,hv⟩:=hv
  have fU:(show List t.I from xs).getD i t.z=(show List t.I from xs)[i]:=by simp[List.getD_eq_getElem?_getD,List.getElem?_eq_getElem hi]
  simp only[M] at h
  rcases h with⟨hn,_⟩ |⟨hk,h⟩ |⟨T,tag,me,A,c,rfl,rfl,hc,ht,h⟩
  ·exact absurd hn ho.not_nil
  ·simp only[K] at h
   obtain⟨A,c,rfl,hc,h⟩:=h
   obtain⟨g,off,cur,T,fr,rfl,hng,hw,hl,h⟩:=h (by omega)
   have hbound:off+i*t.size+t.size≤cur.size:=by
    have:=Nat.mul_le_mul_right t.size (show i+1≤xs.length from hi)
    rw[Nat.add_mul,Nat.one_mul] at this
    omega
   have hK:=h i hi
   rw[←fU] at hK
   obtain⟨du,de,h1,h2,h3⟩:=focus p (ow:=fun _=>False) (ph (qp hk) hK) ho.sub hv hg
   exact⟨du,de,by simp only[bu,b6 hw hbound,Option.bind_some];exact h1,fun g hg=>(h2 g hg).elim,h3⟩
  ·rcases h with⟨rfl,_⟩ |⟨g,cur,τ,rfl,rY,hw,j8,hm,h⟩
   ·simp at hi
   ·have hbound:i*t.size+t.size≤cur.size:=by
     have h1:=Nat.mul_le_mul_right t.size (show i+1≤xs.length from hi)
     have h2:=Nat.mul_le_mul_right t.size hc
     rw[Nat.add_mul,Nat.one_mul] at h1
     omega
    have hM:=h i hi
    rw[←fU] at hM
    obtain⟨du,de,h1,h2,h3⟩:=focus p hM ho.sub hv hg
    exact⟨du,de,by simp only[bu,Nat.zero_add,b6 hw hbound,Option.bind_some];exact h1,fun g hg=>(h2 g hg).1,h3⟩
end Go.Pv
namespace Go.Pv
set_option linter.unusedVariables false
set_option linter.unusedSimpArgs false
variable {w w':World} {Wr rX:Nat→Prop} {H:Nat→Value}
def putCells (cur:List Value) (off:Nat) (c:List Value):List Value:=cur.take off++c++cur.drop (off+c.length)
theorem jx (cur c:List Value) (off k:Nat) (h:off+c.length≤cur.length):
  (putCells cur off c)[k]?=if k<off then cur[k]? else if k<off+c.length then c[k - off]? else cur[k]?:=by
 unfold putCells
 have hl:(cur.take off).length=off:=by rw[List.length_take];omega
 by_cases h1:k<off
 ·rw[if_pos h1,List.append_assoc,List.getElem?_append_left (by omega),List.getElem?_take,if_pos h1]
 ·rw[if_neg h1]
  by_cases h2:k<off+c.length
  ·rw[if_pos h2,List.append_assoc,List.getElem?_append_right (by omega),hl,List.getElem?_append_left (by omega)]
  ·rw[if_neg h2,List.getElem?_append_right (by rw[List.length_append];omega),List.length_append,hl,List.getElem?_drop]
   congr 1
   omega
theorem jy (cur c:List Value) (off:Nat) (h:off+c.length≤cur.length):(putCells cur off c).length=cur.length:=by
 unfold putCells
 simp only[List.length_append,List.length_take,List.length_drop]
 omega
theorem aqH (cur c:List Value) (a off n:Nat) (h1:off+c.length≤n) (h2:a+n≤cur.length):
  ((putCells cur (a+off) c).drop a).take n=putCells ((cur.drop a).take n) off c:=by
 apply List.ext_getElem?
 intro k
 have hl:((cur.drop a).take n).length=n:=by simp;omega
 rw[jx _ _ _ _ (by omega)]
 by_cases hk:k<n
 ·rw[List.getElem?_take,if_pos hk,List.getElem?_drop,jx _ _ _ _ (by omega)]
  simp only[List.getElem?_take,if_pos hk,List.getElem?_drop]
  by_cases h3:k<off
  ·rw[if_pos h3,if_pos (by omega)]
  ·rw[if_neg h3,if_neg (by omega)]
   by_cases h4:k<off+c.length
   ·rw[if_pos h4,if_pos (by omega)];congr 1;omega
   ·rw[if_neg h4,if_neg (by omega)]
 ·rw[List.getElem?_take,if_neg hk,if_neg (by omega),if_neg (by omega),List.getElem?_take,if_neg hk]
theorem ahZ (cur c:List Value) (o a n:Nat) (h:o+c.length≤cur.length) (hd:a+n≤o∨o+c.length≤a):
  ((putCells cur o c).drop a).take n=(cur.drop a).take n:=by
 apply List.ext_getElem?
 intro k
 by_cases hk:k<n
 ·simp only[List.getElem?_take,if_pos hk,List.getElem?_drop]
  rw[jx _ _ _ _ h]
  by_cases h3:a+k<o
  ·rw[if_pos h3]
  ·rw[if_neg h3,if_neg (by omega)]
 ·simp only[List.getElem?_take,if_neg hk]
def bo:Path→Bool
 |[]=>true
 | .fst::p=>bo p
 | .snd::p=>bo p
 |_::_=>false
def bp:Path→Ty→Nat
 | .fst::p,.pair a _=>bp p a
 | .snd::p,.pair a b=>a.size+bp p b
 |_,_=>0
def qq:Path→Ty→List Value→List Value→List Value
 |[],_,_,c=>c
 | .fst::p,.pair a _,cs,c=>qq p a (cs.take a.size) c++cs.drop a.size
 | .snd::p,.pair a b,cs,c=>cs.take a.size++qq p b (cs.drop a.size) c
 |_,_,cs,_=>cs
def mj (w w':World) (loc:Option (Nat×Nat)) (c:List Value) (g:Nat):Prop:=match loc with
 |some q=>if g=q.1 then ∃ cur T,w.heap[g]?=some (.cells cur T (0,0))∧w'.heap[g]?=some (.cells (putCells cur.toList q.2 c).toArray T (0,0)) else w'.heap[g]?=w.heap[g]?
 |none=>w'.heap[g]?=w.heap[g]?
theorem fi:∀ (p:Path) {t:Ty} {m:Md} {x:t.I} {b:TV},bo p=true→bQ p t m x=some b→bp p t+b.t.size≤t.size
 |[],t,m,x,b,_,hg=>by simp only[bQ,Option.some.injEq] at hg;subst hg;simp[bp]
 | .fst::p,.pair a b',m,x,b,hm,hg=>by
  simp only[bQ] at hg
  have:=fi p (by simpa[bo] using hm) hg
  simp only[bp,Ty.size];omega
 | .snd::p,.pair a b',m,x,b,hm,hg=>by
  simp only[bQ] at hg
  have:=fi p (by simpa[bo] using hm) hg
  simp only[bp,Ty.size];omega
theorem fj:∀ (p:Path) {t:Ty} {cs:List Value},bo p=true→addrAt w p t cs none=none
 |[],_,_,_=>rfl
 | .fst::p,.pair a b,cs,h=>by simp only[addrAt];exact fj p (by simpa[bo] using h)
 | .snd::p,.pair a b,cs,h=>by simp only[addrAt,Option.map_none];exact fj p (by simpa[bo] using h)
 | .fst::p,.int _,_,_ | .fst::p,.bool,_,_ | .fst::p,.str,_,_ | .fst::p,.sl _,_,_ | .fst::p,.ptr _,_,_ | .fst::p,.unit,_,_ | .fst::p,.arr _ _,_,_=>by simp[addrAt]
 | .snd::p,.int _,_,_ | .snd::p,.bool,_,_ | .snd::p,.str,_,_ | .snd::p,.sl _,_,_ | .snd::p,.ptr _,_,_ | .snd::p,.unit,_,_ | .snd::p,.arr _ _,_,_=>by simp[addrAt]
theorem ki:∀ (p:Path) {t:Ty} {m:Md} {x:t.I} {cs:List Value} {b:TV} {g o:Nat},bo p=true→bQ p t m x=some b→addrAt w p t cs (some (g,o))=some (g,o+bp p t)
 |[],_,_,_,_,_,_,_,_,_=>by simp[addrAt,bp]
 | .fst::p,.pair a b,m,x,cs,_,_,_,h,hg=>by simp only[bQ] at hg;simp only[addrAt,bp];exact ki p (by simpa[bo] using h) hg
 | .snd::p,.pair a b,m,x,cs,_,g,o,h,hg=>by
  simp only[bQ] at hg;simp only[addrAt,bp,Option.map_some]
  rw[ki p (by simpa[bo] using h) hg,Nat.add_assoc]
theorem nZ:∀ (p:Path) {t:Ty} {cs:List Value} (l l':Option (Nat×Nat)),bo p=false→addrAt w p t cs l=addrAt w p t cs l'
 |[],_,_,_,_,h=>by simp[bo] at h
 | .fst::p,.pair a b,cs,l,l',h=>by simp only[addrAt];exact nZ p _ _ (by simpa[bo] using h)
 | .snd::p,.pair a b,cs,l,l',h=>by simp only[addrAt];exact nZ p _ _ (by simpa[bo] using h)
 | .deref::p,.ptr t,cs,l,l',h=>by
  unfold addrAt
  split<;>simp_all
 | .idx i::p,.sl t,cs,l,l',h=>by
  unfold addrAt
  split<;>simp_all
 | .fst::p,.int _,_,_,_,_ | .fst::p,.bool,_,_,_,_ | .fst::p,.str,_,_,_,_ | .fst::p,.sl _,_,_,_,_ | .fst::p,.ptr _,_,_,_,_ | .fst::p,.unit,_,_,_,_ | .fst::p,.arr _ _,_,_,_,_=>by simp[addrAt]
 | .snd::p,.int _,_,_,_,_ | .snd::p,.bool,_,_,_,_ | .snd::p,.str,_,_,_,_ | .snd::p,.sl _,_,_,_,_ | .snd::p,.ptr _,_,_,_,_ | .snd::p,.unit,_,_,_,_ | .snd::p,.arr _ _,_,_,_,_=>by simp[addrAt]
 | .deref::p,.int _,_,_,_,_ | .deref::p,.bool,_,_,_,_ | .deref::p,.str,_,_,_,_ | .deref::p,.sl _,_,_,_,_ | .deref::p,.pair _ _,_,_,_,_ | .deref::p,.unit,_,_,_,_ | .deref::p,.arr _ _,_,_,_,_=>by simp[addrAt]
 | .idx _::p,.int _,_,_,_,_ | .idx _::p,.bool,_,_,_,_ | .idx _::p,.str,_,_,_,_ | .idx _::p,.ptr _,_,_,_,_ | .idx _::p,.pair _ _,_,_,_,_ | .idx _::p,.unit,_,_,_,_ | .idx _::p,.arr _ _,_,_,_,_=>by simp[addrAt]
theorem fJ:∀ (p:Path) {t:Ty} {m:Md} {x:t.I} {cs:List Value} {b:TV},bo p=true→bQ p t m x=some b→cs.length=t.size→bu w p t cs=some ((cs.drop (bp p t)).take b.t.size)
 |[],t,m,x,cs,b,_,hg,hl=>by
  simp only[bQ,Option.some.injEq] at hg;subst hg
  simp only[bu,bp,List.drop_zero]
  rw[List.take_of_length_le (by show cs.length≤t.size;omega)]
 | .fst::p,.pair a b',m,x,cs,b,h,hg,hl=>by
  simp only[bQ] at hg;simp only[Ty.size] at hl
  have hf:=fi p (by simpa[bo] using h) hg
  simp only[bu,bp]
  rw[fJ p (by simpa[bo] using h) hg (by rw[List.length_take];omega),List.drop_take,List.take_take]
  congr 2;omega
 | .snd::p,.pair a b',m,x,cs,b,h,hg,hl=>by
  simp only[bQ] at hg;simp only[Ty.size] at hl
  simp only[bu,bp]
  rw[fJ p (by simpa[bo] using h) hg (by rw[List.length_drop];omega),List.drop_drop]
theorem lT:∀ (p:Path) {t:Ty} {m:Md} {x:t.I} {cs c:List Value} {b:TV},bo p=true→bQ p t m x=some b→cs.length=t.size→c.length=b.t.size→qq p t cs c=putCells cs (bp p t) c
 |[],t,m,x,cs,c,b,_,hg,hl,hc=>by
  simp only[bQ,Option.some.injEq] at hg;subst hg
  simp only[qq,bp,putCells,List.take_zero,List.nil_append,Nat.zero_add]
  rw[List.drop_of_length_le (by have YN:c.length=t.size:=hc;omega),List.append_nil]
 | .fst::p,.pair a b',m,x,cs,c,b,h,hg,hl,hc=>by
  simp only[bQ] at hg;simp only[Ty.size] at hl
  have hf:=fi p (by simpa[bo] using h) hg
  simp only[qq,bp]
  rw[lT p (by simpa[bo] using h) hg (by rw[List.length_take];omega) hc]
  unfold putCells
  rw[List.take_take,Nat.min_eq_left (by omega),List.append_assoc,List.append_assoc,List.append_assoc,List.drop_take]
  congr 2
  rw[show cs.drop a.size=(cs.drop (bp p a+c.length)).drop (a.size - (bp p a+c.length)) from by rw[List.drop_drop];congr 1;omega,List.take_append_drop]
 | .snd::p,.pair a b',m,x,cs,c,b,h,hg,hl,hc=>by
  simp only[bQ] at hg;simp only[Ty.size] at hl
  simp only[qq,bp]
  rw[lT p (by simpa[bo] using h) hg (by rw[List.length_drop];omega) hc]
  unfold putCells
  rw[←List.append_assoc,←List.append_assoc,←List.take_add,List.drop_drop]
  congr 2;omega
theorem lg:∀ (p:Path) {t:Ty} {cs c:List Value},bo p=false→qq p t cs c=cs
 |[],_,_,_,h=>by simp[bo] at h
 | .fst::p,.pair a b,cs,c,h=>by simp only[qq];rw[lg p (by simpa[bo] using h),List.take_append_drop]
 | .snd::p,.pair a b,cs,c,h=>by simp only[qq];rw[lg p (by simpa[bo] using h),List.take_append_drop]
 | .deref::p,t,cs,c,h=>by simp[qq]
 | .idx i::p,t,cs,c,h=>by simp[qq]
 | .fst::p,.int _,_,_,_ | .fst::p,.bool,_,_,_ | .fst::p,.str,_,_,_ | .fst::p,.sl _,_,_,_ | .fst::p,.ptr _,_,_,_ | .fst::p,.unit,_,_,_ | .fst::p,.arr _ _,_,_,_=>by simp[qq]
 | .snd::p,.int _,_,_,_ | .snd::p,.bool,_,_,_ | .snd::p,.str,_,_,_ | .snd::p,.sl _,_,_,_ | .snd::p,.ptr _,_,_,_ | .snd::p,.unit,_,_,_ | .snd::p,.arr _ _,_,_,_=>by simp[qq]
end Go.Pv
namespace Go.Pv
set_option linter.unusedVariables false
set_option linter.unusedSimpArgs false
variable {w w':World} {Wr rX:Nat→Prop} {H:Nat→Value}
def awI (w:World) (Wr:Nat→Prop) (H:Nat→Value) (p:Path) (t:Ty) (m:Md) (x:t.I) (cs:List Value) (ow de:Nat→Prop) (hs:List Path) (b:TV) (du:List Value):Prop:=
 ∀ (b2:TV) (r:Md×t.I),b2.t=b.t→iA b2 p t m x=some r→
  (∀ g off,addrAt w p t cs none=some (g,off)→ow g∧ ¬de g∧∃ cur T,w.heap[g]?=some (.cells cur T (0,0))∧off+b.t.size≤cur.size∧du=(cur.toList.drop off).take b.t.size)∧
  ∀ (w':World) (rX:Nat→Prop) (c:List Value) (lh:Nat→Prop) (pf:List Path),bA w w' Wr rX→c.length=b.t.size→
   (∀ g,ow g→¬de g→g<w.heap.size→mj w w' (addrAt w p t cs none) c g)→M w' rX H b2.t b2.m b2.x c lh (xP p pf)→
   (∀ g,lh g→g<w.heap.size→ow g→de g)→(∀ h,(∀ q,h≠p++q)→h∈hs→h∈pf)→
   M w' rX H t r.1 r.2 (qq p t cs c) (fun g=>(ow g∧ ¬de g)∨lh g) pf
theorem m7 {s:Step} {p:Path} {hs pf:List Path} (h:∀ h,(∀ q,h≠s::p++q)→h∈hs→h∈pf):∀ h,(∀ q,h≠p++q)→h∈sub s hs→h∈sub s pf:=fun q hq hm=>
 ep.2 (h _ (fun r e=>hq r (by rw[List.cons_append] at e;injection e)) (ep.1 hm))
theorem sG {s s':Step} (pj:s'≠s) {p:Path} {hs pf:List Path} (h:∀ h,(∀ q,h≠s::p++q)→h∈hs→h∈pf):∀ q∈sub s' hs,q∈sub s' pf:=fun q hq=>
 ep.2 (h _ (fun r e=>by rw[List.cons_append] at e;injection e with e _;exact pj e) (ep.1 hq))
theorem EA {b2:TV} {i:Nat} {p:Path} {t:Ty} {T:TypeId} {tag:Option Nat} {me:Md} {xs:List t.I} {r:Md×List t.I} (h:iA b2 (.idx i::p) (.sl t) (.o T tag me) xs=some r):
  ∃ r1,iA b2 p t me (List.getD xs i t.z)=some r1∧r1.1=me∧r=(.o T tag me,List.set xs i r1.2):=by
 unfold iA at h
 split at h
 ·rename_i r1 h1
  split at h
  ·rename_i h2
   injection h with h
   exact⟨r1,h1,h2,h.symm⟩
  ·cases h
 ·cases h
theorem AP:∀ (p:Path) {t:Ty} {m:Md} {x:t.I} {cs:List Value} {ow:Nat→Prop} {hs:List Path} {b:TV},M w Wr H t m x cs ow hs→open_ p hs→valid p t x→bQ p t m x=some b→
  ∃ du de,bu w p t cs=some du∧(∀ g,de g→ow g)∧M w Wr H b.t b.m b.x du de (xP p hs)∧awI w Wr H p t m x cs ow de hs b du
 |[],t,m,x,cs,ow,hs,b,h,ho,hv,hg=>by
  simp only[bQ,Option.some.injEq] at hg
  subst hg
  refine⟨cs,ow,rfl,fun _ h=>h,h,fun b2 r ht hr=>⟨fun g off e=>by simp[addrAt] at e,fun w' rX c lh pf cD hc hb hm sC hh=>?_⟩⟩
  obtain⟨t2,m2,x2⟩:=b2
  simp only at ht
  subst ht
  simp only[iA,dite_true,Option.some.injEq] at hr
  subst hr
  exact bj (bA.refl _ _) t2 (fun _ _ _=>rfl) (fun g hg _=>.inr hg) (fun _ h=>h) hm
 | .deref::p,.ptr t,m,x,cs,ow,hs,b,h,ho,hv,hg=>by
  simp only[bQ] at hg
  simp only[valid] at hv
  simp only[M] at h
  rcases h with⟨hn,_⟩ |⟨hk,h⟩ |⟨T,tag,me,g,cur,rfl,rfl,ht,rY,hw,h⟩
  ·exact absurd hn ho.not_nil
  ·obtain⟨du,de,h1,h2,h3⟩:=focus (H:=H) (ow:=ow) (.deref::p) (ph (t:=.ptr t) hk h) ho hv (by simpa only[bQ] using hg)
   exact⟨du,de,h1,h2,h3,fun b2 r _ hr=>by cases m<;>simp[iA,Md.cy] at hr hk⟩
  ·have hlen:=(fI t h).1
   obtain⟨du,de,h1,h2,h3,h4⟩:=AP p h ho.sub hv hg
   have j8:0+t.size≤cur.size:=by rw[←hlen];simp
   have iV:rowAt w g 0 t.size=some cur.toList:=by rw[b6 hw j8,List.drop_zero,List.take_of_length_le (by omega)]
   refine⟨du,de,?_,fun g hg=>(h2 g hg).1,h3,fun b2 r AQ hr=>?_⟩
   ·simp only[bu,iV,Option.bind_some];exact h1
   simp only[iA] at hr
   cases RG:iA b2 p t me x with
   |none=>simp[RG] at hr
   |some r1=>
    simp only[RG,Option.some.injEq] at hr
    subst hr
    obtain⟨ha,lU⟩:=h4 b2 r1 AQ RG
    have pk:addrAt w (.deref::p) (.ptr t) [.pointer (some ⟨g,0,none⟩)] none=addrAt w p t cur.toList (some (g,0)):=by simp only[addrAt,iV,Option.bind_some]
    cases Np:bo p with
    |true=>
     have eJ:=ki (w:=w) (cs:=cur.toList) (g:=g) (o:=0) p Np hg
     have xQ:=fi p Np hg
     have j9:=fJ (w:=w) p Np hg hlen
     rw[h1] at j9
     injection j9 with j9
     rw[pk,eJ]
     refine⟨fun g' off e=>?_,fun w' rX c lh pf cD hc hb hm sC hh=>?_⟩
     ·injection e with e
      injection e with e1 e2
      subst e1 e2
      exact⟨rY,fun hx=>(h2 g hx).2 rfl,cur,T,hw,by rw[←hlen] at xQ;simp at xQ ⊢;omega,by rw[Nat.zero_add];exact j9⟩
     ·have cZ:=bT hw
      have bW:=hb g rY (fun hx=>(h2 g hx).2 rfl) cZ
      simp only[mj,if_true,Nat.zero_add] at bW
      obtain⟨iu,T2,e2,sH⟩:=bW
      rw[hw] at e2
      injection e2 with e2
      injection e2 with e2 e3
      subst e2 e3
      have hM:=lU w' rX c lh (sub .deref pf) cD hc (fun g' fH sv hl=>by
       rw[fj p Np]
       have:=hb g' fH.1 sv hl
       simp only[mj,fH.2,if_false] at this
       exact this) hm (fun g' fH hl sv=>sC g' fH hl sv.1) (m7 hh)
      rw[lT p Np hg hlen hc] at hM
      simp only[qq,M]
      refine .inr (.inr ⟨T,tag,r1.1,g,_,rfl,rfl,ht,.inl ⟨rY,fun hx=>(h2 g hx).2 rfl⟩,sH,?_⟩)
      refine bj (bA.refl _ _) t (fun _ _ _=>rfl) (fun g' fH hl=>?_) (fun _ h=>h) hM
      rcases fH with⟨⟨a1,a2⟩,a3⟩ |a
      ·exact⟨.inl ⟨a1,a3⟩,a2⟩
      ·refine⟨.inr a,fun e=>?_⟩
       subst e
       exact(h2 g' (sC g' a cZ rY)).2 rfl
    |false=>
     have eJ:=nZ (w:=w) (t:=t) (cs:=cur.toList) p (some (g,0)) none Np
     rw[pk,eJ]
     refine⟨fun g' off e=>?_,fun w' rX c lh pf cD hc hb hm sC hh=>?_⟩
     ·obtain⟨a1,a2,a3⟩:=ha g' off e
      exact⟨a1.1,a2,a3⟩
     ·have cZ:=bT hw
      have hM:=lU w' rX c lh (sub .deref pf) cD hc (fun g' fH sv hl=>hb g' fH.1 sv hl) hm (fun g' fH hl sv=>sC g' fH hl sv.1) (m7 hh)
      rw[lg p Np] at hM
      have sH:w'.heap[g]?=some (.cells cur T (0,0)):=by
       have bW:=hb g rY (fun hx=>(h2 g hx).2 rfl) cZ
       cases qs:addrAt w p t cur.toList none with
       |none=>rw[qs] at bW;exact bW.trans hw
       |some q=>
        rw[qs] at bW
        have pj:g≠q.1:=fun e=>(ha q.1 q.2 qs).1.2 e.symm
        simp only[mj,pj,if_false] at bW
        exact bW.trans hw
      simp only[qq,M]
      refine .inr (.inr ⟨T,tag,r1.1,g,_,rfl,rfl,ht,.inl ⟨rY,fun hx=>(h2 g hx).2 rfl⟩,sH,?_⟩)
      refine bj (bA.refl _ _) t (fun _ _ _=>rfl) (fun g' fH hl=>?_) (fun _ h=>h) hM
      rcases fH with⟨⟨a1,a2⟩,a3⟩ |a
      ·exact⟨.inl ⟨a1,a3⟩,a2⟩
      ·refine⟨.inr a,fun e=>?_⟩
       subst e
       exact(h2 g' (sC g' a cZ rY)).2 rfl
 | .fst::p,.pair a b',m,x,cs,ow,hs,b,h,ho,hv,hg=>by
  simp only[bQ] at hg
  simp only[valid] at hv
  have ll:∃ c0 c1,∃ s:Nat→Prop,cs=c0++c1∧M w Wr H a m.l x.1 c0 (fun g=>ow g∧s g) (sub .fst hs)∧M w Wr H b' m.r x.2 c1 (fun g=>ow g∧ ¬s g) (sub .snd hs):=by
   simp only[M] at h
   rcases h with⟨hn,_⟩ |⟨hk,h⟩ |⟨ma,mb,c0,c1,s,rfl,rfl,h0,h1⟩
   ·exact absurd hn ho.not_nil
   ·simp only[K] at h
    obtain⟨c0,c1,rfl,h0,h1⟩:=h
    exact⟨c0,c1,fun _=>True,rfl,ph (Nn hk) h0,ph (No hk) h1⟩
   ·exact⟨c0,c1,s,rfl,h0,h1⟩
  obtain⟨c0,c1,s,rfl,h0,h1⟩:=ll
  obtain⟨du,de,k1,k2,k3,k4⟩:=AP p h0 ho.sub hv hg
  have l0:=(fI a h0).1
  have ht:(c0++c1).take a.size=c0:=by rw[←l0,List.take_left]
  have hd:(c0++c1).drop a.size=c1:=by rw[←l0,List.drop_left]
  refine⟨du,de,by simp only[bu,ht];exact k1,fun g hg=>(k2 g hg).1,k3,fun b2 r AQ hr=>?_⟩
  simp only[iA] at hr
  cases RG:iA b2 p a m.l x.1 with
  |none=>simp[RG] at hr
  |some r1=>
   simp only[RG,Option.some.injEq] at hr
   subst hr
   obtain⟨ha,lU⟩:=k4 b2 r1 AQ RG
   have pk:addrAt w (.fst::p) (.pair a b') (c0++c1) none=addrAt w p a c0 none:=by simp only[addrAt,ht]
   rw[pk]
   refine⟨fun g' off e=>?_,fun w' rX c lh pf cD hc hb hm sC hh=>?_⟩
   ·obtain⟨a1,a2,a3⟩:=ha g' off e
    exact⟨a1.1,a2,a3⟩
   ·have hM:=lU w' rX c lh (sub .fst pf) cD hc (fun g' fH sv hl=>hb g' fH.1 sv hl) hm (fun g' fH hl sv=>sC g' fH hl sv.1) (m7 hh)
    simp only[qq,ht,hd]
    refine xO (s:=fun g=>(s g∧ow g)∨lh g) ?_ ?_
    ·refine bj (bA.refl _ _) a (fun _ _ _=>rfl) (fun g' fH hl=>?_) (fun _ h=>h) hM
     rcases fH with⟨⟨a1,a2⟩,a3⟩ |q
     ·exact⟨.inl ⟨a1,a3⟩,.inl ⟨a2,a1⟩⟩
     ·exact⟨.inr q,.inr q⟩
    ·refine bj cD b' (fun g' fH hl=>?_) (fun g' fH hl=>⟨.inl ⟨fH.1,fun hx=>fH.2 (k2 g' hx).2⟩,fun hx=>?_⟩) (sG (by decide) hh) h1
     ·have bW:=hb g' fH.1 (fun hx=>fH.2 (k2 g' hx).2) hl
      cases qs:addrAt w p a c0 none with
      |none=>rw[qs] at bW;exact bW
      |some q=>
       rw[qs] at bW
       have pj:g'≠q.1:=fun e=>fH.2 (by rw[e];exact(ha q.1 q.2 qs).1.2)
       simp only[mj,pj,if_false] at bW
       exact bW
     ·rcases hx with hx |hx
      ·exact fH.2 hx.1
      ·exact fH.2 (k2 g' (sC g' hx hl fH.1)).2
 | .snd::p,.pair a b',m,x,cs,ow,hs,b,h,ho,hv,hg=>by
  simp only[bQ] at hg
  simp only[valid] at hv
  have ll:∃ c0 c1,∃ s:Nat→Prop,cs=c0++c1∧M w Wr H a m.l x.1 c0 (fun g=>ow g∧s g) (sub .fst hs)∧M w Wr H b' m.r x.2 c1 (fun g=>ow g∧ ¬s g) (sub .snd hs):=by
   simp only[M] at h
   rcases h with⟨hn,_⟩ |⟨hk,h⟩ |⟨ma,mb,c0,c1,s,rfl,rfl,h0,h1⟩
   ·exact absurd hn ho.not_nil
   ·simp only[K] at h
    obtain⟨c0,c1,rfl,h0,h1⟩:=h
    exact⟨c0,c1,fun _=>True,rfl,ph (Nn hk) h0,ph (No hk) h1⟩
   ·exact⟨c0,c1,s,rfl,h0,h1⟩
  obtain⟨c0,c1,s,rfl,h0,h1⟩:=ll
  obtain⟨du,de,k1,k2,k3,k4⟩:=AP p h1 ho.sub hv hg
  have l0:=(fI a h0).1
  have ht:(c0++c1).take a.size=c0:=by rw[←l0,List.take_left]
  have hd:(c0++c1).drop a.size=c1:=by rw[←l0,List.drop_left]
  refine⟨du,de,by simp only[bu,hd];exact k1,fun g hg=>(k2 g hg).1,k3,fun b2 r AQ hr=>?_⟩
  simp only[iA] at hr
  cases RG:iA b2 p b' m.r x.2 with
  |none=>simp[RG] at hr
  |some r1=>
   simp only[RG,Option.some.injEq] at hr
   subst hr
   obtain⟨ha,lU⟩:=k4 b2 r1 AQ RG
   have pk:addrAt w (.snd::p) (.pair a b') (c0++c1) none=addrAt w p b' c1 none:=by simp only[addrAt,hd,Option.map_none]
   rw[pk]
   refine⟨fun g' off e=>?_,fun w' rX c lh pf cD hc hb hm sC hh=>?_⟩
   ·obtain⟨a1,a2,a3⟩:=ha g' off e
    exact⟨a1.1,a2,a3⟩
   ·have hM:=lU w' rX c lh (sub .snd pf) cD hc (fun g' fH sv hl=>hb g' fH.1 sv hl) hm (fun g' fH hl sv=>sC g' fH hl sv.1) (m7 hh)
    simp only[qq,ht,hd]
    refine xO (s:=fun g=>(s g∧ow g)∧ ¬lh g) ?_ ?_
    ·refine bj cD a (fun g' fH hl=>?_) (fun g' fH hl=>⟨.inl ⟨fH.1,fun hx=>(k2 g' hx).2 fH.2⟩,⟨fH.2,fH.1⟩,fun hx=>(k2 g' (sC g' hx hl fH.1)).2 fH.2⟩) (sG (by decide) hh) h0
     have bW:=hb g' fH.1 (fun hx=>(k2 g' hx).2 fH.2) hl
     cases qs:addrAt w p b' c1 none with
     |none=>rw[qs] at bW;exact bW
     |some q=>
      rw[qs] at bW
      have pj:g'≠q.1:=fun e=>(ha q.1 q.2 qs).1.2 (by rw[←e];exact fH.2)
      simp only[mj,pj,if_false] at bW
      exact bW
    ·refine bj (bA.refl _ _) b' (fun _ _ _=>rfl) (fun g' fH hl=>?_) (fun _ h=>h) hM
     rcases fH with⟨⟨a1,a2⟩,a3⟩ |q
     ·exact⟨.inl ⟨a1,a3⟩,fun hx=>a2 hx.1.1⟩
     ·exact⟨.inr q,fun hx=>hx.2 q⟩
 | .idx i::p,.sl t,m,xs,cs,ow,hs,b,h,ho,hv,hg=>by
  simp only[bQ] at hg
  have hv0:=hv
  simp only[valid] at hv
  obtain⟨hi,hv⟩:=hv
  have fU:List.getD xs i t.z=xs[i]:=by simp[List.getD_eq_getElem?_getD,List.getElem?_eq_getElem hi]
  simp only[M] at h
  rcases h with⟨hn,_⟩ |⟨hk,h⟩ |⟨T,tag,me,A,c,rfl,rfl,hc,ht,h⟩
  ·exact absurd hn ho.not_nil
  ·obtain⟨du,de,h1,h2,h3⟩:=focus (H:=H) (ow:=ow) (.idx i::p) (ph (t:=.sl t) hk h) ho hv0 (by simpa only[bQ] using hg)
   exact⟨du,de,h1,h2,h3,fun b2 r _ hr=>by cases m<;>simp[iA,Md.cy] at hr hk⟩
  ·rcases h with⟨rfl,_⟩ |⟨g,cur,τ,rfl,rY,hw,j8,hm,h⟩
   ·simp at hi
   ·have auG:i*t.size+t.size≤cur.size:=by
     have h1:=Nat.mul_le_mul_right t.size (show i+1≤xs.length from hi)
     have h2:=Nat.mul_le_mul_right t.size hc
     rw[Nat.add_mul,Nat.one_mul] at h1
     omega
    have Nq:=h i hi
    rw[←fU] at Nq
    have hlen:=(fI t Nq).1
    obtain⟨du,de,h1,h2,h3,h4⟩:=AP p Nq ho.sub hv hg
    have iV:rowAt w g (0+i*t.size) t.size=some ((cur.toList.drop (i*t.size)).take t.size):=by rw[Nat.zero_add,b6 hw auG]
    refine⟨du,de,?_,fun g hg=>(h2 g hg).1,h3,fun b2 r AQ hr=>?_⟩
    ·simp only[bu,iV,Option.bind_some];exact h1
    obtain⟨r1,RG,hme,rfl⟩:=EA hr
    obtain⟨ha,lU⟩:=h4 b2 r1 AQ RG
    have pk:addrAt w (.idx i::p) (.sl t) [.slice (some ⟨g,0,none⟩) xs.length c] none=addrAt w p t ((cur.toList.drop (i*t.size)).take t.size) (some (g,i*t.size)):=by
     simp only[addrAt];rw[iV];simp only[Option.bind_some,Nat.zero_add]
    -- the other elements,and this one,behind the change
    have cZ:=bT hw
    have rest:∀ (w':World) (rX:Nat→Prop) (c2:List Value) (lh:Nat→Prop) (pf:List Path) (iu:Array Value),bA w w' Wr rX→
      (∀ g',ow g'→g'≠g→¬de g'→(∀ q,addrAt w p t ((cur.toList.drop (i*t.size)).take t.size) none=some q→g'≠q.1)→g'<w.heap.size→w'.heap[g']?=w.heap[g']?)→
      w'.heap[g]?=some (.cells iu T (0,0))→iu.size=cur.size→
      (∀ j,j<xs.length→j≠i→(iu.toList.drop (j*t.size)).take t.size=(cur.toList.drop (j*t.size)).take t.size)→
      M w' rX H t r1.1 r1.2 ((iu.toList.drop (i*t.size)).take t.size) (fun g'=>((ow g'∧g'≠g∧τ g'=i)∧ ¬de g')∨lh g') (sub (.idx i) pf)→
      (∀ g',lh g'→g'<w.heap.size→ow g'→de g')→(∀ h,(∀ q,h≠ .idx i::p++q)→h∈hs→h∈pf)→
      M w' rX H (.sl t) (.o T tag me) (List.set xs i r1.2) [.slice (some ⟨g,0,none⟩) xs.length c] (fun g'=>(ow g'∧ ¬de g')∨lh g') pf:=by
     intro w' rX c2 lh pf iu cD lV sH awJ mm hM sC hh
     have hng: ¬de g:=fun hx=>(h2 g hx).2.1 rfl
     simp only[M]
     refine .inr (.inr ⟨T,tag,me,some ⟨g,0,none⟩,c,rfl,by rw[List.length_set],by rw[List.length_set];exact hc,fun h hh=>by rw[List.length_set];exact ht h hh,.inr ⟨g,iu,fun g'=>open Classical in if lh g' then i else τ g',rfl,.inl ⟨rY,hng⟩,sH,by rw[awJ,j8],hm,fun j hj=>?_⟩⟩)
     rw[List.length_set] at hj
     by_cases mn:j=i
     ·subst mn
      rw[List.getElem_set_self,←hme]
      refine bj (bA.refl _ _) t (fun _ _ _=>rfl) (fun g' fH hl=>?_) (fun _ h=>h) hM
      rcases fH with⟨⟨a1,a2,a3⟩,a4⟩ |a
      ·exact⟨.inl ⟨a1,a4⟩,a2,by simp only;split<;>first |rfl |exact a3⟩
      ·refine⟨.inr a,fun e=>?_,by simp only;rw[if_pos a]⟩
       subst e
       exact hng (sC g' a cZ rY)
     ·rw[List.getElem_set_ne (fun e=>mn e.symm),mm j hj mn]
      have auH:∀ g',(ow g'∧g'≠g∧τ g'=j)→g'<w.heap.size→¬lh g':=fun g' fH hl hx=>mn (by rw[←fH.2.2];exact(h2 g' (sC g' hx hl fH.1)).2.2)
      have auI:∀ g',(ow g'∧g'≠g∧τ g'=j)→¬de g':=fun g' fH hx=>mn (by rw[←fH.2.2];exact(h2 g' hx).2.2)
      refine bj cD t (fun g' fH hl=>lV g' fH.1 fH.2.1 (auI g' fH) (fun q hq e=>?_) hl) (fun g' fH hl=>⟨.inl ⟨fH.1,auI g' fH⟩,fH.2.1,?_⟩) (sG (by intro e;injection e with e;exact mn e) hh) (h j hj)
      ·have:=(ha q.1 q.2 hq).1.2.2
       rw[←e,fH.2.2] at this
       exact mn this
      ·simp only
       rw[if_neg (auH g' fH hl)]
       exact fH.2.2
    cases Np:bo p with
    |true=>
     have eJ:=ki (w:=w) (cs:=(cur.toList.drop (i*t.size)).take t.size) (g:=g) (o:=i*t.size) p Np hg
     have xQ:=fi p Np hg
     have j9:=fJ (w:=w) p Np hg hlen
     rw[h1] at j9
     injection j9 with j9
     rw[pk,eJ]
     refine⟨fun g' off e=>?_,fun w' rX c2 lh pf cD um hb hm2 sC hh=>?_⟩
     ·injection e with e
      injection e with e1 e2
      subst e1 e2
      refine⟨rY,fun hx=>(h2 g hx).2.1 rfl,cur,T,hw,by omega,?_⟩
      rw[j9,List.drop_take,List.drop_drop,List.take_take]
      congr 1
      omega
     ·have bW:=hb g rY (fun hx=>(h2 g hx).2.1 rfl) cZ
      simp only[mj,if_true] at bW
      obtain⟨iu,T2,e2,sH⟩:=bW
      rw[hw] at e2
      injection e2 with e2
      injection e2 with e2 e3
      subst e2 e3
      have auJ:i*t.size+bp p t+c2.length≤cur.toList.length:=by rw[um,Array.length_toList];omega
      have hM:=lU w' rX c2 lh (sub (.idx i) pf) cD um (fun g' fH sv hl=>by
       rw[fj p Np]
       have:=hb g' fH.1 sv hl
       simp only[mj,fH.2.1,if_false] at this
       exact this) hm2 (fun g' fH hl sv=>sC g' fH hl sv.1) (m7 hh)
      rw[lT p Np hg hlen um] at hM
      refine rest w' rX c2 lh pf _ cD (fun g' fH sv hg3 _ hl=>?_) sH (by rw[List.size_toArray,jy _ _ _ auJ,Array.length_toList]) (fun j hj mn=>?_) ?_ sC hh
      ·have:=hb g' fH hg3 hl
       simp only[mj,sv,if_false] at this
       exact this
      ·rw[List.toList_toArray]
       refine ahZ _ _ _ _ _ auJ ?_
       rcases Nat.lt_or_gt_of_ne mn with aqI |aqI
       ·left
        have:=Nat.mul_le_mul_right t.size (show j+1≤i from aqI)
        rw[Nat.add_mul,Nat.one_mul] at this
        omega
       ·right
        have:=Nat.mul_le_mul_right t.size (show i+1≤j from aqI)
        rw[Nat.add_mul,Nat.one_mul] at this
        rw[um]
        omega
      ·rw[List.toList_toArray,aqH _ _ _ _ _ (by rw[um];omega) (by rw[Array.length_toList];omega)]
       exact hM
    |false=>
     have eJ:=nZ (w:=w) (t:=t) (cs:=(cur.toList.drop (i*t.size)).take t.size) p (some (g,i*t.size)) none Np
     rw[pk,eJ]
     refine⟨fun g' off e=>?_,fun w' rX c2 lh pf cD um hb hm2 sC hh=>?_⟩
     ·obtain⟨a1,a2,a3⟩:=ha g' off e
      exact⟨a1.1,a2,a3⟩
     ·have hM:=lU w' rX c2 lh (sub (.idx i) pf) cD um (fun g' fH sv hl=>hb g' fH.1 sv hl) hm2 (fun g' fH hl sv=>sC g' fH hl sv.1) (m7 hh)
      rw[lg p Np] at hM
      have same:∀ g',ow g'→¬de g'→(∀ q,addrAt w p t ((cur.toList.drop (i*t.size)).take t.size) none=some q→g'≠q.1)→g'<w.heap.size→w'.heap[g']?=w.heap[g']?:=by
       intro g' fH sv hq hl
       have bW:=hb g' fH sv hl
       cases qs:addrAt w p t ((cur.toList.drop (i*t.size)).take t.size) none with
       |none=>rw[qs] at bW;exact bW
       |some q=>
        rw[qs] at bW
        simp only[mj,hq q qs,if_false] at bW
        exact bW
      have sH:w'.heap[g]?=some (.cells cur T (0,0)):=(same g rY (fun hx=>(h2 g hx).2.1 rfl) (fun q hq e=>(ha q.1 q.2 hq).1.2.1 e.symm) cZ).trans hw
      exact rest w' rX c2 lh pf cur cD (fun g' fH _ hg3 hq hl=>same g' fH hg3 hq hl) sH rfl (fun j hj mn=>rfl) hM sC hh
end Go.Pv
namespace Go.Pv
set_option linter.unusedVariables false
set_option linter.unusedSimpArgs false
structure ab where
 res:List TV
 refs:List TV
inductive Arg where
 |tv (a:TV)
 |fn (f:FuncId) (c8:List TV)
inductive Pass where
 |val |take |kj
 deriving DecidableEq
structure jS where
 sig:FuncId→List Pass
 run:FuncId→List Arg→(ab→Option ab)→Option ab
structure Entry where
 f:FuncId
 sig:List Pass
 run:List Arg→(ab→Option ab)→Option ab
def entry:List Entry→FuncId→Option Entry
 |[],_=>none
 |e::r,f=>bif Nat.beq e.f f then some e else entry r f
def jS.of (l:List Entry):jS where
 sig f:=match entry l f with
  |some e=>e.sig
  |none=>[]
 run f:=match entry l f with
  |some e=>e.run
  |none=>fun _ _=>none
inductive Ex where
 |n |x (id:Nat) |r
inductive CK where
 |kv (t:Ty) |pl (t:Ty) (s:Nat) (p:Path)
@[reducible] def EB:List CK→Type
 |[]=>Unit
 | .kv t::r=>t.I×EB r
 | .pl _ _ _::r=>EB r
def ni:(cs:List CK)→EB cs→List I8
 |[],_=>[]
 | .kv t::r,x=>.kv ⟨t,.k,x.1⟩::ni r x.2
 | .pl t s p::r,x=>.pl t s p::ni r x
def sI:(cs:List CK)→List I8→Option (EB cs)
 |[],[]=>some ()
 | .kv t::r,.kv ⟨t',m',x⟩::S=>if h:t'=t then(if m'=.k then match sI r S with
   |some y=>some (h▸x,y)
   |none=>none else none) else none
 | .pl t s p::r,.pl t' s' p'::S=>if t'=t then(bif Nat.beq s' s then(if p'=p then sI r S else none) else none) else none
 |_,_=>none
inductive Kd where
 |dead |v (t:Ty) (m:Md) |al (t:Ty) (s:Nat) |mg (f:FuncId) (cs:List CK)
@[reducible] def sw:List Kd→Type
 |[]=>Unit
 | .v t _::r=>t.I×sw r
 | .dead::r=>sw r
 | .al _ _::r=>sw r
 | .mg _ cs::r=>EB cs×sw r
def shape:(ks:List Kd)→sw ks→St
 |[],_=>[]
 | .v t m::r,x=>.v ⟨t,m,x.1⟩ []::shape r x.2
 | .dead::r,x=>.dead::shape r x
 | .al t s::r,x=>.al t s []::shape r x
 | .mg f cs::r,x=>.mg f (ni cs x.1)::shape r x.2
def proj:(ks:List Kd)→St→Option (sw ks)
 |[],[]=>some ()
 | .v t m::r,.v ⟨t',m',x⟩ []::S=>if h:t'=t then(if m'=m then match proj r S with
   |some y=>some (h▸x,y)
   |none=>none else none) else none
 | .dead::r,_::S=>proj r S
 | .al t s::r,.al t' s' []::S=>if t'=t then(bif Nat.beq s' s then proj r S else none) else none
 | .mg f cs::r,.mg f' c8::S=>bif Nat.beq f' f then(match sI cs c8,proj r S with
   |some y,some z=>some (y,z)
   |_,_=>none) else none
 |_,_=>none
def iM (all:List Kd):List Kd→Bool
 |[]=>true
 | .al _ s::r=>(match all[s]? with
  |some (.v _ _)=>true
  |_=>false)&&iM all r
 | .mg _ cs::r=>(cs.all fun c=>match c with
  | .kv _=>true
  | .pl _ s _=>match all[s]? with
   |some (.v _ _)=>true
   |_=>false)&&iM all r
 |_::r=>iM all r
inductive OT where
 |done |one (i:Nat) (t:OT) |any (l:List Nat) (t:OT) |par (l:List Nat) (ds:List (List Nat)) (t:OT) |own (d:Nat) (t:OT) |cut (ks:List Kd) (t:OT)
def OT.seq:List Nat→OT→OT
 |[],t=>t
 |i::r,t=>.one i (OT.seq r t)
structure Hint where
 tab:ee
 hn:Hn:=[]
 loops:List (Nat×List Kd):=[]
 outs:List (Nat×Nat×List Kd):=[]
 b5:List (Nat×OT):=[]
 AR:Option (Nat×Bool):=none
 AS:List (Nat×List (Nat×Path)):=[]
def Nr:Path→Bool
 |[]=>true | .idx _::_=>false |_::p=>Nr p
def St.aqJ (S:St) (q:Nat×Path):St:=match S.at q.1 with
 | .v r []=>match bQ q.2 r.t r.m r.x with
  |some b=>bif b.m.cy|| !Nr q.2 then S else(match q.2 with
   |[]=>S.put (some q.1) (.v (RQ r) [])
   |_=>(match iA (RQ b) q.2 r.t r.m r.x with
    |some (m,z)=>St.put (((S.weaken q.1).cover q.1 q.2).set q.1 (.v r [q.2])) (some q.1) (.v ⟨r.t,m,z⟩ [])
    |none=>S))
  |none=>S
 |_=>S
def ka:List (Nat×List (Nat×Path))→Nat→St→St
 |[],_,S=>S
 |q::r,id,S=>bif Nat.beq q.1 id then q.2.foldl St.aqJ S else ka r id S
def pn:List (Nat×List Kd)→Nat→Option (List Kd)
 |[],_=>none
 |q::r,k=>bif Nat.beq q.1 k then some q.2 else pn r k
def ah0 (S:St) (i:Nat):Kd→St
 | .v _ m=>bif m.cy then S else match S.at i with
  | .al t s []=>(match S.eS (.tmp i) (.al t s []) with
   |some (a,S1)=>S1.put (some i) (.v a [])
   |none=>S)
  |_=>S
 |_=>S
def RS:List Kd→Nat→St→St
 |[],_,S=>S
 |k::r,i,S=>RS r (i+1) (ah0 S i k)
def n0 (ks:List Kd) (S:St):Option St:=bif iM ks ks then(match proj ks (RS ks 0 S) with
  |some x=>some (shape ks x)
  |none=>none) else none
def Hint.clean (h:Hint) (key:Nat) (S:St):Option St:=match pn h.loops key with
 |some ks=>n0 ks S
 |none=>none
def Ex.num:Ex→Nat
 | .n=>0 | .r=>1 | .x id=>id+2
def apf:List (Nat×Nat×List Kd)→Nat→Nat→Option (List Kd)
 |[],_,_=>none
 |q::r,k,e=>bif Nat.beq q.1 k&&Nat.beq q.2.1 e then some q.2.2 else apf r k e
def HW (S:St):I8→Option TV
 | .pl _ s p=>match S.place s p with
  |some a=>some (RQ a)
  |none=>none
 | .kv a=>some a
def qt (S:St):List I8→Option (List TV)
 |[]=>some []
 |c::r=>match HW S c,qt S r with
  |some a,some l=>some (a::l)
  |_,_=>none
def ij (Θ:ee):St→List Operand→List TypeId→List Pass→Option (List (Option TV)×St)
 |S,[],_,_=>some ([],S)
 |S,x::xs,T::Ts,p::ps=>match p with
  | .val=>match ij Θ S xs Ts ps with
   |some r=>some (none::r.1,r.2)
   |none=>none
  | .take=>match S.take Θ T x with
   |some (a,S1)=>match ij Θ S1 xs Ts ps with
    |some r=>some (some a::r.1,r.2)
    |none=>none
   |none=>none
  | .kj=>none
 |_,_,_,_=>none
def reads (Θ:ee) (S:St):List Operand→List TypeId→List (Option TV)→Option (List Arg)
 |[],_,_=>some []
 |x::xs,T::Ts,p::ps=>match p with
  |some a=>match reads Θ S xs Ts ps with
   |some r=>some (.tv a::r)
   |none=>none
  |none=>match S.fb Θ T x with
   |some (.mg f c8)=>match qt S c8,reads Θ S xs Ts ps with
    |some l,some r=>some (.fn f l::r)
    |_,_=>none
   |some av=>match S.uk av,reads Θ S xs Ts ps with
    |some a,some r=>some (.tv (RQ a)::r)
    |_,_=>none
   |none=>none
 |_,_,_=>none
def HX:List TV→AV
 |[a]=>.v a []
 |l=>.u5 (l.map some)
def VP (a:TV):Bool:=match a.t with
 | .ptr _=>a.m.cy
 |_=>false
def sJ (S:St) (f:FuncId):Option Nat→Option (List TV)
 |none=>some []
 |some i=>match S.at i with
  | .mg f' c8=>bif Nat.beq f' f then(match qt S c8 with
   |some l=>bif l.all VP then some l else none
   |none=>none) else none
  |_=>none
def rZ:Md→Bool
 | .k=>true | .o _ tag m=>(match tag with
  |none=>true
  |some _=>false)&&rZ m
 | .p a b=>rZ a&&rZ b
def jz:Ty→Bool
 | .sl _=>false | .ptr _=>false | .pair a b=>jz a&&jz b | .arr _ t=>jz t |_=>true
def gS:Ty→Md→Bool
 | .sl t,.o _ _ m=>gS t m
 | .ptr t,.o _ _ m=>gS t m
 | .pair a b,.p m n=>gS a m&&gS b n
 |t,m=>m.cy&&jz t
def vh (S:St):Operand→Bool
 | .tmp i=>(match S.at i with
  | .v b []=>b.m.cy
  |_=>false)
 | .const _=>true
 |_=>false
def km (S:St):List Operand→List (Option TV)→List Arg→Bool
 |[],_,_=>true
 |x::xs,p::ps,r::rs=>((match p with
  |some _=>true
  |none=>false)||(match r with
  | .tv b=>gS b.t b.m||vh S x
  | .fn _ cs=>cs.isEmpty))&&km S xs ps rs
 |_,_,_=>false
def iW (h:Hint) (O:jS) (o:Oper) (f:FuncId) (cal:Option Nat) (args:List Operand) (ts:List TypeId) (S:St) (K:St→Option ab):Option ab:=
 match ij h.tab S args ts (O.sig f) with
 |some (l,S1)=>match reads h.tab S1 args ts l,sJ S1 f cal with
  |some as,some cs=>O.run f (as++cs.map .tv) fun ret=>match ret.refs with
   |[]=>bif ret.res.all (fun d=>gS d.t d.m)||(cs.isEmpty&&km S1 args l as) then K (S1.put o.dst (HX ret.res)) else none
   |_::_=>none
  |_,_=>none
 |none=>none
def gb:Ty→Md→Bool
 | .sl _,.o _ _ m=>rZ m
 | .ptr _,.o _ _ m=>rZ m
 | .pair a b,.p m n=>gb a m&&gb b n
 |_,m=>m.cy
def sK:Ty→Md→Bool
 | .sl t,.o _ _ m=>gS t m
 | .ptr t,.o _ _ m=>gS t m
 | .pair a b,.p m n=>sK a m&&sK b n
 |_,m=>m.cy
def kn:Ty→Md→Nat→Md
 | .sl _,.o T _ m,n=>.o T (some n) m
 | .ptr _,.o T _ m,n=>.o T (some n) m
 | .pair a b,.p ma mb,n=>.p (kn a ma n) (kn b mb (n+a.size))
 |_,m,_=>m
def gE:(t:Ty)→Md→t.I→t.I→t.I
 | .sl _,.o ..,_,y=>y
 | .ptr _,.o ..,_,y=>y
 | .pair a b,.p ma mb,x,y=>(gE a ma x.1 y.1,gE b mb x.2 y.2)
 |_,_,x,_=>x
def vP:List Pass→Nat→Option Nat
 |[],_=>none
 | .kj::_,j=>some j
 |_::r,j=>vP r (j+1)
def ln (x:Operand):AV→Option (Nat×Path)
 | .v _ _=>match x with
  | .tmp i=>some (i,[])
  |_=>none
 | .al _ s p=>some (s,p)
 |_=>none
def St.qu (S:St) (s:Nat) (b:TV):Path→Option St
 |[]=>some (S.put (some s) (.v b []))
 |p=>match S.at s with
  | .v r ex=>match iA b p r.t r.m r.x with
   |some (m,z)=>some (S.put (some s) (.v ⟨r.t,m,z⟩ ex.dropLast))
   |none=>none
  |_=>none
def sL (h:Hint) (O:jS) (o:Oper) (f:FuncId) (j:Nat) (args:List Operand) (ts:List TypeId) (S:St) (K:St→Option ab):Option ab:=
 match args[j]?,ts[j]? with
 |some x,some T=>match S.fb h.tab T x with
  |some av=>match ln x av,S.eS x av with
   |some (s,p),some (b,S1)=>bif !b.m.cy&&gb b.t b.m then
     (match reads h.tab S1 args ts ((List.replicate args.length none).set j (some ⟨b.t,kn b.t b.m 0,b.x⟩)) with
     |some as=>bif sK b.t b.m||km S1 args ((List.replicate args.length none).set j (some ⟨b.t,kn b.t b.m 0,b.x⟩)) as then O.run f as fun ret=>match ret.refs with
      |[c]=>bif ret.res.all (fun d=>gS d.t d.m&&rZ d.m) then(if hc:c.t=b.t then(if c.m=kn b.t b.m 0 then
        (match S1.qu s ⟨b.t,b.m,gE b.t b.m b.x (hc▸c.x)⟩ p with
        |some S2=>K (S2.put o.dst (HX ret.res))
        |none=>none) else none) else none) else none
      |_=>none else none
     |none=>none) else none
   |_,_=>none
  |none=>none
 |_,_=>none
noncomputable def both (a b:Option ab):Option ab:=open Classical in if a=b then a else none
theorem m8 (a:Option ab):both a a=a:=by simp[both]
theorem YO {a b:Option ab} {r:ab} (h:both a b=some r):a=some r∧b=some r:=by
 unfold both at h
 split at h
 ·rename_i e;exact⟨h,by rw[←e];exact h⟩
 ·cases h
noncomputable def VQ (h:Hint) (dst:Option Nat) (T:TypeId) (eq:Bool) (x:Operand) (S:St) (K:St→Option ab):Option ab:=match S.rd h.tab 0 x with
 |some ⟨.sl t,_,xs⟩=>bif h.tab.is T (.sl t) then(bif List.isEmpty xs then both (K (S.put dst (.v ⟨.bool,.k,true⟩ []))) (K (S.put dst (.v ⟨.bool,.k,false⟩ []))) else K (S.put dst (.v ⟨.bool,.k,!eq⟩ []))) else none
 |_=>none
def qv:Op→Bool
 | .binOp _ _ _ (.const (.slice none _ _)) _=>true
 |_=>false
noncomputable def iX (h:Hint) (O:jS) (o:Oper) (S:St) (K:St→Option ab):Option ab:=match o.op with
 | .call { callee:=.value (.func f),args:=as,argTypes:=ts }=>match vP (O.sig f) 0 with
  |some j=>sL h O o f j as.toList ts.toList S K
  |none=>iW h O o f none as.toList ts.toList S K
 | .call { callee:=.value (.tmp i),args:=as,argTypes:=ts }=>match S.at i with
  | .mg f _=>iW h O o f (some i) as.toList ts.toList S K
  |_=>none
 | .binOp .eql T x (.const (.slice none 0 0)) _=>VQ h o.dst T true x S K
 | .binOp .neq T x (.const (.slice none 0 0)) _=>VQ h o.dst T false x S K
 |_=>match ev h.tab h.hn S o with
  |some (g,S1)=>bif g then K S1 else none
  |none=>none
noncomputable def bE (h:Hint) (O:jS) (ops:Array Oper) (i:Nat) (S:St) (K:St→Option ab):Option ab:=match ops[i]? with
 |none=>none
 |some o=>match o.guard with
  |none=>iX h O o S K
  |some (j,want)=>match (ops[j]?).bind (·.dst) with
   |some d=>match S.at d with
    | .v ⟨.bool,m,q⟩ ex=>bif q then
      (bif want then iX h O o (S.set d (.v ⟨.bool,m,true⟩ ex)) K else K (St.put (S.set d (.v ⟨.bool,m,true⟩ ex)) o.dst .undef))
     else(bif want then K (St.put (S.set d (.v ⟨.bool,m,false⟩ ex)) o.dst .undef) else iX h O o (S.set d (.v ⟨.bool,m,false⟩ ex)) K)
    | .undef=>K (S.put o.dst .undef)
    |_=>none
   |none=>none
noncomputable def n5 (h:Hint) (O:jS) (ops:Array Oper):List Nat→St→(St→Option ab)→Option ab
 |[],S,K=>K S
 |i::r,S,K=>bE h O ops i S (fun S1=>n5 h O ops r S1 K)
def jf (S:St):Operand→Bool
 | .tmp i=>(match S.at i with
  | .v _ []=>true
  |_=>false)
 | .const _=>true
 |_=>false
def RT (S:St):Operand→Bool
 | .tmp i=>(match S.at i with
  | .v ⟨_,.k,_⟩ []=>true
  |_=>false)
 | .const _=>true
 |_=>false
def CM (S:St):Option Operand→Bool
 |none=>true
 |some x=>jf S x
def ab2 (O:jS) (f:FuncId):Bool:=(O.sig f).all fun p=>match p with
 | .val=>true
 |_=>false
def ab3 (ops:Array Oper) (x:Nat):Option Nat:=ops.toList.findSome? fun o=>match o.dst,o.op with
 |some d,.fieldAddr _ (.tmp s) _=>bif Nat.beq d x then some s else none
 |_,_=>none
def k8 (O:jS) (ops:Array Oper) (S:St) (o:Oper):Bool:=(match o.guard with
  |none=>true
  |some _=>false)&&(match o.dst with
  |some d=>!(S.at d).AN&&Nat.blt d S.length
  |none=>false)&&(match o.op with
  | .call { callee:=.value (.func f),args:=as,.. }=>ab2 O f&&as.toList.all (jf S)
  | .call { callee:=.builtin .append,args:=as,.. }=>as.toList.all (jf S)
  | .buildSlice _ _ ps=>ps.toList.all fun q=>jf S q.2
  | .load _ (.tmp x)=>(match ab3 ops x,S.at x with
   |some s,.ad _ s' p=>Nat.beq s' s&&(match S.dS s p with
    |some a=>a.m.cy
    |none=>false)
   |none,.v ⟨.ptr _,.k,_⟩ []=>true
   |none,.v ⟨.ptr _,.o ..,_⟩ []=>(match S.dS x [.deref] with
    |some a=>a.m.cy
    |none=>false)
   |_,_=>false)
  | .slice _ x lo hi none=>RT S x&&(CM S lo&&CM S hi)
  | .indexAddr _ x ix=>RT S x&&jf S ix
  |_=>false)
noncomputable def n6 (h:Hint) (O:jS) (ops:Array Oper):List Nat→St→(St→Option ab)→Option ab
 |[],S,K=>K S
 |i::r,S,K=>match ops[i]? with
  |some o=>bif k8 O ops S o then bE h O ops i S (fun S1=>n6 h O ops r S1 K) else none
  |none=>none
def slotsOf:AV→List Nat
 | .al _ s _=>[s] | .ad _ s _=>[s] | .cut _ s _ _ _=>[s]
 | .mg _ c8=>c8.filterMap fun c=>match c with
  | .pl _ s _=>some s
  | .kv _=>none
 |_=>[]
def lH (Δ:Nat→Bool):St→Nat→Bool
 |[],_=>true
 |a::r,i=>((slotsOf a).all fun s=>Δ i==Δ s)&&lH Δ r (i+1)
def m9 (Δ:Nat→Bool):Operand→Bool
 | .tmp i=>Δ i
 | .const _=>true
 | .func _=>true
 | .global _=>false
def ah1 (Δ:Nat→Bool) (o:Oper):Bool:=match o.dst,o.op with
 |some d,.store ..=>false
 |some d,_=>Δ d
 |none,.store ..=>true
 |none,_=>false
def e7 (Δ:Nat→Bool) (o:Oper):Bool:=(match o.guard with
  |none=>true
  |some _=>false)&&ah1 Δ o&&(match o.op with
 | .store _ x y=>m9 Δ x&&m9 Δ y
 | .makeSlice _ l c=>m9 Δ l&&m9 Δ c
 | .alloc _=>true
 | .buildSlice _ _ ps=>ps.toList.all fun q=>m9 Δ q.2
 | .load _ x=>m9 Δ x
 | .move x=>m9 Δ x
 | .extract x _=>m9 Δ x
 | .binOp _ _ x y _=>m9 Δ x&&(m9 Δ y&& !qv o.op)
 | .fieldAddr _ x _=>m9 Δ x
 | .indexAddr _ x ix=>m9 Δ x&&m9 Δ ix
 | .convert _ _ x=>m9 Δ x
 | .call { callee:=.builtin .append,args:=as,.. }=>as.toList.all (m9 Δ)
 | .call { callee:=.value (.func _),args:=as,.. }=>as.toList.all (m9 Δ)
 |_=>false)
def YP (l:List Nat) (i:Nat):Bool:=l.any (Nat.beq i)
def RU (l:List Nat) (i:Nat):Bool:=!YP l i
def mo (ds:List (List Nat)) (S:St):Bool:=ds.all fun d=>lH (YP d) S 0
def EC (ds:List (List Nat)) (o:Oper):Bool:=ds.all fun d=>e7 (YP d) o||e7 (RU d) o
def YQ (ds:List (List Nat)) (oi oj:Oper):Bool:=ds.any fun d=>(e7 (YP d) oi&&e7 (RU d) oj)||(e7 (RU d) oi&&e7 (YP d) oj)
def exB (oi oj:Oper):Bool:=match oi.guard,oj.guard,oi.dst,oj.dst,oi.op,oj.op with
 |none,none,some a,some b,.extract (.tmp x) p,.extract (.tmp y) q=>Nat.beq x y&&(!Nat.beq p q&&(!Nat.beq a b&&(!Nat.beq a x&& !Nat.beq b x)))
 |_,_,_,_,_,_=>false
def VR (S:St) (d:Nat):Option (Bool×St):=match S.at d with
 | .al _ s (st::pp)=>(match S.at s with
  | .v r ex=>(match bQ (st::pp) r.t r.m r.x with
   |some b=>bif b.m.cy then none else some (ex.all (fun h=>!qk h (st::pp)),St.put (((S.weaken s).cover s (st::pp)).set s (.v r (ex++[st::pp]))) (some d) (.v b []))
   |none=>none)
  |_=>none)
 |_=>none
noncomputable def bK (h:Hint) (O:jS) (ops:Array Oper):OT→St→(St→Option ab)→Option ab
 | .done,S,K=>K S
 | .one i t,S,K=>bE h O ops i S (fun S1=>bK h O ops t S1 K)
 | .any l t,S,K=>n6 h O ops l S (fun S1=>bK h O ops t S1 K)
 | .own d t,S,K=>match VR S d with
  |some (g,S1)=>bif g then bK h O ops t S1 K else none
  |none=>none
 | .cut ks t,S,K=>match n0 ks S with
  |some S1=>bK h O ops t S1 K
  |none=>none
 | .par l ds t,S,K=>bif mo ds S then n5 h O ops l S (fun S1=>bK h O ops t S1 K) else none
def quiet:Op→Bool
 | .move _=>true | .assign _=>true | .pick ..=>true | .build ..=>true | .load ..=>true | .nilCheck _=>true | .fieldAddr ..=>true | .field ..=>true | .indexAddr ..=>true | .index ..=>true
 | .extract ..=>true | .slice ..=>true | .convert ..=>true | .binOp ..=>true | .unOp ..=>true | .makeFunc ..=>true | .call { callee:=.builtin .len,.. }=>true |_=>false
def DG (O:jS):Op→Bool
 | .alloc _=>true | .box ..=>true | .buildSlice ..=>true | .makeSlice ..=>true
 | .call { callee:=.value (.func f),.. }=>(O.sig f).all fun p=>match p with
  | .val=>true
  |_=>false
 |o=>quiet o
def still:Op→Bool
 | .extract ..=>true | .indexAddr ..=>true | .binOp ..=>true | .slice ..=>true | .move _=>true | .convert ..=>true | .fieldAddr ..=>true | .call { callee:=.builtin .len,.. }=>true |_=>false
def AT (Θ:ee) (o:Op):Bool:=still o&& !qv o&&(match o with
 | .convert _ T' _=>(match Θ.find T' with
  |some i=>(match i.ty with
   | .int _=>true
   |_=>false)
  |none=>false)
 |_=>true)
def lp (ops:Array Oper) (oi:Oper) (rest:Nat):List Oper→Nat→Bool
 |[],_=>true
 |oj::r,j=>(bif Nat.testBit rest j then oi.apart ops oj else true)&&lp ops oi rest r (j+1)
def bR (o:Oper):Nat:=o.after.toList.foldr (fun e m=>bif Region.binds .any e then m|||2^e.on else m) 0
def bz (i:Nat):List Nat→Nat→Nat→Nat
 |[],_,acc=>acc
 |m::r,j,acc=>bz i r (j+1) (bif Nat.beq j i|| !(Nat.beq (m&&&acc) 0) then acc|||2^j else acc)
def xR (O:jS) (ops:Array Oper) (oi:Oper) (rest:Nat):List Oper→Nat→Bool
 |[],_=>true
 |oj::r,j=>(bif Nat.testBit rest j then oi.apart ops oj&&DG O oj.op else true)&&xR O ops oi rest r (j+1)
def ab4 (Θ:ee) (O:jS) (ops:Array Oper) (as:List Nat) (full L i:Nat):Bool:=match as[i]?,ops[i]? with
 |some m,some oi=>!Nat.testBit L i&&Nat.beq (m&&&L) m&&Nat.beq (bz i as 0 0&&&L) 0&&(Nat.beq (full^^^(bz i as 0 0|||L)) 0||(quiet oi.op&&(!qv oi.op&&xR O ops oi (full^^^(bz i as 0 0|||L)) ops.toList 0))||(AT Θ oi.op&&lp ops oi (full^^^(bz i as 0 0|||L)) ops.toList 0))
 |_,_=>false
def br:Operand→List Nat
 | .tmp i=>[i]
 |_=>[]
def gd:Option Operand→List Nat
 |none=>[]
 |some x=>br x
def bB (ops:Array Oper) (o:Oper):List Nat:=match o.op with
 | .call c=>c.args.toList.flatMap br
 | .buildSlice _ _ ps=>ps.toList.flatMap fun q=>br q.2
 | .load _ (.tmp x)=>(match ab3 ops x with
  |some s=>[x,s]
  |none=>[x])
 | .slice _ x lo hi _=>br x++(gd lo++gd hi)
 | .indexAddr _ x ix=>br x++br ix
 |_=>[]
def k9 (o:Oper):Bool:=match o.op with
 | .call { callee:=.value (.func _),.. }=>true
 | .load ..=>true
 | .slice ..=>true
 | .indexAddr ..=>true
 |_=>false
def HY (ops:Array Oper) (oi oj:Oper):Bool:=(match oi.dst,oj.dst with
  |some a,some b=>!Nat.beq a b&& !(bB ops oj).any (Nat.beq a)&& !(bB ops oi).any (Nat.beq b)
  |_,_=>false)&&((k9 oi&&k9 oj)|| !(bB ops oi).any fun r=>(bB ops oj).any (Nat.beq r))
def ED (ops:Array Oper) (as:List Nat):List Nat→Bool
 |[]=>true
 |i::r=>(r.all fun j=>match as[j]?,ops[i]?,ops[j]? with
   |some m,some oi,some oj=>!Nat.beq i j&&(Nat.testBit m i||HY ops oi oj)
   |_,_,_=>false)&&ED ops as r
def fc (l:List Nat):Nat:=l.foldr (fun i m=>m|||2^i) 0
def nj (as:List Nat):Nat→List Nat→Bool
 |_,[]=>true
 |L,i::r=>(match as[i]? with
  |some m=>Nat.beq (m&&&L) m
  |none=>false)&&nj as (L|||2^i) r
def ah2 (ops:Array Oper) (as:List Nat) (full L:Nat) (l:List Nat):Bool:=
 !l.isEmpty&&(l.all fun i=>Nat.blt i ops.size&& !Nat.testBit L i&&Nat.beq (bz i as 0 0&&&L) 0&&Nat.beq (full^^^(bz i as 0 0|||L|||fc l)) 0)&&ED ops as l&&nj as L l
def sM (ops:Array Oper) (as:List Nat) (ds:List (List Nat)):List Nat→Bool
 |[]=>true
 |i::r=>(r.all fun j=>match ops[i]?,ops[j]? with
   |some oi,some oj=>!Nat.beq i j&&(Nat.testBit (bz i as 0 0) j||(YQ ds oi oj||exB oi oj))
   |_,_=>false)&&sM ops as ds r
def ab5 (Θ:ee) (ops:Array Oper) (as:List Nat) (full L i:Nat):Bool:=match ops[i]? with
 |some oi=>AT Θ oi.op&&lp ops oi (full^^^(full&&&(bz i as 0 0|||L|||bR oi))) ops.toList 0
 |none=>false
def ah3 (Θ:ee) (ops:Array Oper) (as:List Nat) (full L:Nat) (l:List Nat) (ds:List (List Nat)):Bool:=
 !l.isEmpty&&(l.all fun i=>Nat.blt i ops.size&& !Nat.testBit L i&&Nat.beq (bz i as 0 0&&&L) 0&&(Nat.beq (full^^^(bz i as 0 0|||L|||fc l)) 0||ab5 Θ ops as full L i))&&sM ops as ds l&&nj as L l&&l.all fun i=>match ops[i]? with
  |some o=>EC ds o&& !qv o.op
  |none=>false
def fS (Θ:ee) (O:jS) (ops:Array Oper) (as:List Nat) (full:Nat):Nat→OT→Bool
 |L,.done=>Nat.beq L full
 |L,.one i t=>ab4 Θ O ops as full L i&&fS Θ O ops as full (L|||2^i) t
 |L,.any l t=>ah2 ops as full L l&&fS Θ O ops as full (L|||fc l) t
 |L,.own _ t=>fS Θ O ops as full L t
 |L,.cut _ t=>fS Θ O ops as full L t
 |L,.par l ds t=>ah3 Θ ops as full L l ds&&fS Θ O ops as full (L|||fc l) t
def OT.len:OT→Nat
 | .done=>0 | .one _ t=>t.len+1 | .any l t=>t.len+l.length | .par l _ t=>t.len+l.length | .own _ t=>t.len | .cut _ t=>t.len
def aqK (Θ:ee) (O:jS) (ops:Array Oper) (l:OT):Bool:=Region.noSelect ops&&Nat.ble l.len ops.size&&fS Θ O ops (ops.toList.map bR) (2^ops.size - 1) 0 l
def eO (S:St):St:=S.map fun a=>match a with
 | .al t s []=>.al t s []
 | .al ..=>.dead
 | .ad ..=>.dead
 | .cut ..=>.dead
 |a=>a
def OT.line:OT→Option (List Nat)
 | .done=>some []
 | .one j t=>t.line.map (j:: ·)
 | .cut _ t=>t.line
 |_=>none
def eqN:List Nat→List Nat→Bool
 |[],[]=>true
 |a::r,b::s=>Nat.beq a b&&eqN r s
 |_,_=>false
def apg (l:OT) (n:Nat):Bool:=match l.line with
 |some q=>eqN q (List.range n)
 |none=>false
def Ns:List (Nat×OT)→Nat→Option OT
 |[],_=>none
 |q::r,k=>bif Nat.beq q.1 k then some q.2 else Ns r k
def fK (h:Hint) (O:jS):Code→Bool
 | .region id ops true=>(match Ns h.b5 id with
  |some l=>aqK h.tab O ops l
  |none=>true)
 | .region id ops false=>(match Ns h.b5 id with
  |some l=>apg l ops.size
  |none=>true)
 | .seq a b=>fK h O a&&fK h O b
 | .cond _ a b=>fK h O a&&fK h O b
 | .block _ c=>fK h O c
 | .loop c=>fK h O c
 |_=>true
def keyOf:Code→Nat
 | .region id _ _=>id
 | .seq a _=>keyOf a
 | .block _ c=>keyOf c
 | .loop c=>keyOf c
 |_=>0
def po (ops:Array Oper):Bool:=ops.toList.all fun o=>!qv o.op
def ic:Code→Bool
 | .region _ ops _=>po ops
 | .seq a b=>ic a&&ic b
 | .cond _ a b=>ic a&&ic b
 | .block _ c=>ic c
 | .loop c=>ic c
 |_=>true
abbrev Ks:=Ex→St→Option ab
def Hint.gT (h:Hint) (key:Nat) (K:Ks):Ks:=fun e S=>match apf h.outs key e.num with
 |some ks=>(match n0 ks S with
  |some S1=>K e S1
  |none=>none)
 |none=>none
noncomputable def pe (h:Hint) (O:jS) (L:Nat→St→Ks→Option ab):Code→St→Ks→Option ab
 | .skip,S,K=>K .n S
 | .region id ops false,S,K=>match Ns h.b5 id with
  |some l=>bK h O ops l S (fun S1=>K .n (ka h.AS id (eO S1)))
  |none=>n5 h O ops (List.range ops.size) S (fun S1=>K .n (ka h.AS id (eO S1)))
 | .region id ops true,S,K=>match Ns h.b5 id with
  |some l=>bK h O ops l S (fun S1=>K .n (ka h.AS id (eO S1)))
  |none=>none
 | .seq a b,S,K=>pe h O L a S (fun e S1=>match e with
  | .n=>pe h O L b S1 K
  |e=>K e S1)
 | .cond c x y,S,K=>match S.rd h.tab 0 c with
  |some ⟨.bool,_,q⟩=>bif q then pe h O L x S K else pe h O L y S K
  |_=>none
 | .block id c,S,K=>pe h O L c S (fun e S1=>match e with
  | .x id'=>bif Nat.beq id' id then K .n S1 else K (.x id') S1
  |e=>K e S1)
 | .loop c,S,K=>match h.clean (keyOf c) S with
  |some S1=>L (keyOf c) S1 (h.gT (keyOf c) K)
  |none=>none
 | .exit id,S,K=>K (.x id) S
 | .ret,S,K=>K .r S
 |_,_,_=>none
def u6 (Lf:Nat→Nat→St→Ks→Option ab) (N n awK:Nat):Nat→St→Ks→Option ab:=fun key S K=>bif Nat.beq key awK then Lf n key S K else Lf N key S K
noncomputable def lI (h:Hint) (O:jS) (L:Nat→St→Ks→Option ab) (c:Code) (S:St) (K:Ks):Option ab:=
 pe h O L c S (fun e S1=>match e with
  | .n=>(match h.clean (keyOf c) S1 with
   |some S2=>L (keyOf c) S2 K
   |none=>none)
  |e=>K e S1)
def nk (Θ:ee) (S:St):List ResultVar→Option (List TV×St)
 |[]=>some ([],S)
 | .tmp t::r=>match S.eS (.tmp t) (S.at t) with
  |some (a,S1)=>match nk Θ S1 r with
   |some (l,S2)=>some (a::l,S2)
   |none=>none
  |none=>none
 | .cell t T::r=>match S.at t with
  | .v ⟨.ptr ty,.o _ _ me,x⟩ []=>match nk Θ (S.put (some t) .dead) r with
   |some (l,S2)=>bif Θ.is T ty then some (⟨ty,me,x⟩::l,S2) else none
   |none=>none
  |_=>none
def aph:Arg→AV
 | .tv a=>.v a []
 | .fn f c8=>.mg f (c8.map .kv)
def start (fn:Func) (args:List Arg):St:=args.map aph++List.replicate (fn.ntmps - args.length) .undef
def AU:Bool→TV→Option TV
 |false,b=>some b
 |true,⟨.ptr t,.o _ _ me,x⟩=>some ⟨t,me,x⟩
 |true,_=>none
noncomputable def ko (h:Hint) (O:jS) (L:Nat→St→Ks→Option ab) (fn:Func) (args:List Arg) (K:ab→Option ab):Option ab:=
 match fn.body with
 |some c=>pe h O L c (start fn args) (fun e S=>match e with
  | .x _=>none
  |_=>match nk h.tab S fn.results.toList with
   |some (l,S1)=>(match h.AR with
    |none=>K ⟨l,[]⟩
    |some q=>match S1.at q.1 with
     | .v b []=>(match AU q.2 b with
      |some c=>K ⟨l,[c]⟩
      |none=>none)
     |_=>none)
   |none=>none)
 |none=>none
end Go.Pv
namespace Go.Pv
set_option linter.unusedVariables false
set_option linter.unusedSimpArgs false
def dp {σ:Type} (X:(σ→Option ab)→Option ab):Prop:=∃ o:Option σ,∀ K,X K=o.bind K
theorem dp.none {σ:Type}:dp (σ:=σ) fun _=>none:=⟨.none,fun _=>rfl⟩
theorem dp.pure {σ:Type} (s:σ):dp fun K=>K s:=⟨some s,fun _=>rfl⟩
theorem dp.bind {σ τ:Type} {X:(σ→Option ab)→Option ab} {Y:σ→(τ→Option ab)→Option ab} (h:dp X) (hy:∀ s,dp (Y s)):dp fun K=>X fun s=>Y s K:=by
 obtain⟨o,ho⟩:=h
 cases o with
 |none=>exact⟨.none,fun K=>ho _⟩
 |some s=>
  obtain⟨o',Hw⟩:=hy s
  exact⟨o',fun K=>(ho _).trans (Hw K)⟩
theorem dp.bif {σ:Type} {X Y:(σ→Option ab)→Option ab} (c:Bool) (hx:dp X) (hy:dp Y):dp fun K=>bif c then X K else Y K:=by cases c<;>assumption
def pq (O:jS):Prop:=∀ f as,dp (O.run f as)
def eA (X:Ks→Option ab):Prop:=∃ o:Option (Ex×St),∀ K,X K=o.bind fun q=>K q.1 q.2
theorem eA.none:eA fun _=>none:=⟨.none,fun _=>rfl⟩
theorem eA.pure (e:Ex) (S:St):eA fun K=>K e S:=⟨some (e,S),fun _=>rfl⟩
theorem eA.bind {X:Ks→Option ab} {Y:Ex→St→Ks→Option ab} (h:eA X) (hy:∀ e S,eA (Y e S)):eA fun K=>X fun e S=>Y e S K:=by
 obtain⟨o,ho⟩:=h
 cases o with
 |none=>exact⟨.none,fun K=>ho _⟩
 |some s=>
  obtain⟨o',Hw⟩:=hy s.1 s.2
  exact⟨o',fun K=>(ho _).trans (Hw K)⟩
theorem eA.of {X:(St→Option ab)→Option ab} {Y:St→Ks→Option ab} (h:dp X) (hy:∀ S,eA (Y S)):eA fun K=>X fun S=>Y S K:=by
 obtain⟨o,ho⟩:=h
 cases o with
 |none=>exact⟨.none,fun K=>ho _⟩
 |some s=>
  obtain⟨o',Hw⟩:=hy s
  exact⟨o',fun K=>(ho _).trans (Hw K)⟩
theorem eA.to {X:Ks→Option ab} {Y:Ex→St→(ab→Option ab)→Option ab} (h:eA X) (hy:∀ e S,dp (Y e S)):dp fun K=>X fun e S=>Y e S K:=by
 obtain⟨o,ho⟩:=h
 cases o with
 |none=>exact⟨.none,fun K=>ho _⟩
 |some s=>
  obtain⟨o',Hw⟩:=hy s.1 s.2
  exact⟨o',fun K=>(ho _).trans (Hw K)⟩
variable {h:Hint} {O:jS} {ops:Array Oper}
theorem EE (hO:pq O) (o:Oper) (f:FuncId) (cal:Option Nat) (as:List Operand) (ts:List TypeId) (S:St):dp (iW h O o f cal as ts S):=by
 unfold iW
 split
 ·split
  ·refine(hO f _).bind fun ret=>?_
   split
   ·exact dp.bif _ (dp.pure _) dp.none
   ·exact dp.none
  ·exact dp.none
 ·exact dp.none
theorem RV (hO:pq O) (o:Oper) (f:FuncId) (j:Nat) (as:List Operand) (ts:List TypeId) (S:St):dp (sL h O o f j as ts S):=by
 unfold sL
 split
 ·split
  ·split
   ·refine dp.bif _ ?_ dp.none
    split
    ·refine dp.bif _ ?_ dp.none
     refine(hO f _).bind fun ret=>?_
     split
     ·refine dp.bif _ ?_ dp.none
      split
      ·split
       ·split
        ·exact dp.pure _
        ·exact dp.none
       ·exact dp.none
      ·exact dp.none
     ·exact dp.none
    ·exact dp.none
   ·exact dp.none
  ·exact dp.none
 ·exact dp.none
theorem EF (hO:pq O) (o:Oper) (hn:qv o.op=false) (S:St):dp (iX h O o S):=by
 unfold iX
 split
 ·split
  ·exact RV hO ..
  ·exact EE hO ..
 ·split
  ·exact EE hO ..
  ·exact dp.none
 ·rename_i ho;rw[ho] at hn;cases hn
 ·rename_i ho;rw[ho] at hn;cases hn
 ·split
  ·exact dp.bif _ (dp.pure _) dp.none
  ·exact dp.none
theorem jF (hO:pq O) (i:Nat) (hn:∀ o,ops[i]?=some o→qv o.op=false) (S:St):dp (bE h O ops i S):=by
 unfold bE
 split
 ·exact dp.none
 ·rename_i o ho
  have hn:=hn o ho
  split
  ·exact EF hO _ hn _
  ·split
   ·split
    ·exact dp.bif _ (dp.bif _ (EF hO _ hn _) (dp.pure _)) (dp.bif _ (dp.pure _) (EF hO _ hn _))
    ·exact dp.pure _
    ·exact dp.none
   ·exact dp.none
theorem EG (hp:po ops=true) (i:Nat) (o:Oper) (ho:ops[i]?=some o):qv o.op=false:=by
 unfold po at hp
 have:=List.all_eq_true.1 hp o (by rw[←Array.getElem?_toList] at ho;exact List.mem_of_getElem? ho)
 simpa using this
theorem AW (hO:pq O) (hp:po ops=true):∀ (l:List Nat) (S:St),dp (n5 h O ops l S)
 |[],S=>dp.pure S
 |i::r,S=>(jF hO i (EG hp i) S).bind fun S1=>AW hO hp r S1
theorem HZ (hO:pq O) (hp:po ops=true):∀ (l:List Nat) (S:St),dp (n6 h O ops l S)
 |[],S=>dp.pure S
 |i::r,S=>by
  simp only[show n6 h O ops (i::r) S=fun K=>n6 h O ops (i::r) S K from rfl,n6]
  split
  ·exact dp.bif _ ((jF hO i (EG hp i) S).bind fun S1=>HZ hO hp r S1) dp.none
  ·exact dp.none
theorem jG (hO:pq O) (hp:po ops=true):∀ (t:OT) (S:St),dp (bK h O ops t S)
 | .done,S=>dp.pure S
 | .one i t,S=>(jF hO i (EG hp i) S).bind fun S1=>jG hO hp t S1
 | .any l t,S=>(HZ hO hp l S).bind fun S1=>jG hO hp t S1
 | .own d t,S=>by
  show dp fun K=>bK h O ops (.own d t) S K
  simp only[bK]
  cases VR S d with
  |none=>exact dp.none
  |some q=>exact dp.bif _ (jG hO hp t q.2) dp.none
 | .cut ks t,S=>by
  show dp fun K=>bK h O ops (.cut ks t) S K
  simp only[bK]
  cases n0 ks S with
  |none=>exact dp.none
  |some S1=>exact jG hO hp t S1
 | .par l ds t,S=>dp.bif _ ((AW hO hp l S).bind fun S1=>jG hO hp t S1) dp.none
def YR (h:Hint) (L:Nat→St→Ks→Option ab) (key:Nat):Prop:=∀ (ks:List Kd) (x:sw ks),pn h.loops key=some ks→eA fun K=>L key (shape ks x) (h.gT key K)
def fL:Code→List Nat
 | .seq a b=>fL a++fL b
 | .cond _ a b=>fL a++fL b
 | .block _ c=>fL c
 | .loop c=>keyOf c::fL c
 |_=>[]
theorem xS {S S1:St} {key:Nat} (e:h.clean key S=some S1):∃ ks x,pn h.loops key=some ks∧S1=shape ks x:=by
 unfold Hint.clean at e
 split at e
 case h_2=>cases e
 rename_i ks AJ
 unfold n0 at e
 cases hk:iM ks ks with
 |false=>rw[hk] at e;cases e
 |true=>
  rw[hk] at e
  simp only[cond_true] at e
  split at e
  case h_2=>cases e
  rename_i x hx
  injection e with e
  exact⟨ks,x,AJ,e.symm⟩
theorem vQ (hO:pq O) {L:Nat→St→Ks→Option ab}:∀ (c:Code) (S:St),ic c=true→(∀ k∈fL c,YR h L k)→eA (pe h O L c S)
 | .skip,S,_,_=>eA.pure _ _
 | .region id ops false,S,hp,_=>by
  show eA fun K=>pe h O L (.region id ops false) S K
  simp only[pe]
  split
  ·exact eA.of (jG hO hp _ S) fun S1=>eA.pure _ _
  ·exact eA.of (AW hO hp _ S) fun S1=>eA.pure _ _
 | .region id ops true,S,hp,_=>by
  show eA fun K=>pe h O L (.region id ops true) S K
  simp only[pe]
  split
  ·exact eA.of (jG hO hp _ S) fun S1=>eA.pure _ _
  ·exact eA.none
 | .seq a b,S,hp,hL=>by
  simp only[ic,Bool.and_eq_true] at hp
  show eA fun K=>pe h O L (.seq a b) S K
  simp only[pe]
  refine eA.bind (vQ hO a S hp.1 fun k hk=>hL k (by simp[fL,hk])) fun e S1=>?_
  cases e with
  |n=>exact vQ hO b S1 hp.2 fun k hk=>hL k (by simp[fL,hk])
  |x id=>exact eA.pure _ _
  |r=>exact eA.pure _ _
 | .cond c x y,S,hp,hL=>by
  simp only[ic,Bool.and_eq_true] at hp
  show eA fun K=>pe h O L (.cond c x y) S K
  simp only[pe]
  split
  ·rename_i q _
   cases q with
   |true=>exact vQ hO x S hp.1 fun k hk=>hL k (by simp[fL,hk])
   |false=>exact vQ hO y S hp.2 fun k hk=>hL k (by simp[fL,hk])
  ·exact eA.none
 | .block id c,S,hp,hL=>by
  simp only[ic] at hp
  show eA fun K=>pe h O L (.block id c) S K
  simp only[pe]
  refine eA.bind (vQ hO c S hp fun k hk=>hL k (by simpa[fL] using hk)) fun e S1=>?_
  cases e with
  |n=>exact eA.pure _ _
  |x id'=>
   cases h:Nat.beq id' id with
   |true=>exact⟨some (.n,S1),fun K=>by simp[h]⟩
   |false=>exact⟨some (.x id',S1),fun K=>by simp[h]⟩
  |r=>exact eA.pure _ _
 | .loop c,S,_,hL=>by
  show eA fun K=>pe h O L (.loop c) S K
  simp only[pe]
  split
  ·rename_i S1 hS1
   obtain⟨ks,x,hk,rfl⟩:=xS hS1
   exact hL (keyOf c) (by simp[fL]) ks x hk
  ·exact eA.none
 | .exit id,S,_,_=>eA.pure _ _
 | .ret,S,_,_=>eA.pure _ _
 | .rangeFunc ..,S,_,_=>eA.none
 | .scope _,S,_,_=>eA.none
 | .label _,S,_,_=>eA.none
 | .goto _,S,_,_=>eA.none
 | .refuse _,S,_,_=>eA.none
theorem H0 (h:Hint) (key:Nat) (e:Ex) (S:St):eA fun K=>h.gT key K e S:=by
 unfold Hint.gT
 split
 ·split
  ·exact eA.pure _ _
  ·exact eA.none
 ·exact eA.none
theorem EH (fn:Func) (S:St):dp fun(K:ab→Option ab)=>(match nk h.tab S fn.results.toList with
   |some (l,S1)=>(match h.AR with
    |none=>K ⟨l,[]⟩
    |some q=>match S1.at q.1 with
     | .v b []=>(match AU q.2 b with
      |some c=>K ⟨l,[c]⟩
      |none=>none)
     |_=>none)
   |none=>none):=by
 split
 ·split
  ·exact dp.pure _
  ·split
   ·split
    ·exact dp.pure _
    ·exact dp.none
   ·exact dp.none
 ·exact dp.none
theorem RW (hO:pq O) {L:Nat→St→Ks→Option ab} {fn:Func} {body:Code} (hb:fn.body=some body) (hp:ic body=true) (hL:∀ k∈fL body,YR h L k) (args:List Arg):dp (ko h O L fn args):=by
 unfold ko
 rw[hb]
 simp only
 refine eA.to (vQ hO body _ hp hL) fun e S=>?_
 cases e with
 |n=>exact EH fn S
 |x id=>exact dp.none
 |r=>exact EH fn S
end Go.Pv
namespace Go.Pv
set_option linter.unusedVariables false
set_option linter.unusedSimpArgs false
def isAgg:Ty→Bool
 | .pair _ _=>true | .unit=>true | .arr _ _=>true |_=>false
def aE (t:Ty) (v:Value) (cs:List Value):Prop:=if isAgg t=true then v=.agg cs.toArray else cs=[v]
section
variable (w:World) (Av:Nat→Prop) (H:Nat→Value) (tm:Nat→Value) (S:St)
structure Ref (t:Ty) (s:Nat) (p:Path) (r:TV) (dy:List Value):Prop where
 at_:∃ ex,S.at s=.v r ex∧open_ p ex
 val:valid p r.t r.x
 get:∃ b,bQ p r.t r.m r.x=some b∧b.t=t
 mat:aE r.t (tm s) dy
def nm:I8→Value→Prop
 | .kv a,u=>K w Av a.t a.x [u]
 | .pl t s p,u=>∃ r dy cs,Ref tm S (.ptr t) s p r dy∧bu w p r.t dy=some cs∧aE (.ptr t) u cs
def Holds (own:Nat→Prop):AV→Value→Prop
 | .dead,_=>True
 | .undef,v=>v=undef
 | .v a ex,v=>∃ cs,aE a.t v cs∧M w Av H a.t a.m a.x cs own ex
 | .u5 l,v=>∃ (vs:List Value) (τ:Nat→Nat),v=.tuple vs.toArray∧vs.length=l.length∧
   ∀ (j:Nat) (a:TV),l[j]?=some (some a)→∃ u cs,vs[j]?=some u∧aE a.t u cs∧M w Av H a.t a.m a.x cs (fun g=>own g∧τ g=j) []
 | .al t s p,v=>∃ r dy cs,Ref tm S t s p r dy∧bu w p r.t dy=some cs∧aE t v cs
 | .ad t s p,v=>∃ r dy g off,Ref tm S t s p r dy∧addrAt w p r.t dy none=some (g,off)∧v=.pointer (some ⟨g,off,none⟩)
 | .cut t s p lo hi,v=>∃ r dy t' A n c,Ref tm S t s p r dy∧t=.sl t'∧bu w p r.t dy=some [.slice A n c]∧lo≤hi∧hi≤n∧
   v=.slice (if c=lo then A else A.map (·.add (lo*t'.size))) (hi - lo) (c - lo)
 | .mg f c8,v=>∃ vs:List Value,v=.func (.func f) #[] vs.toArray∧vs.length=c8.length∧∀ (j:Nat) (c:I8),c8[j]?=some c→∃ u,vs[j]?=some u∧nm w Av tm S c u
end
structure Fr (w0:World) (W0:Nat→Prop) (w:World):Prop where
 os:w.os=w0.os
 tape:w.tape=w0.tape
 output:w.output=w0.output
 size:w0.heap.size≤w.heap.size
 block:∀ g,g<w0.heap.size→¬W0 g→w.heap[g]?=w0.heap[g]?
def Av (σ:Nat→Option Nat) (Z:Nat→Prop) (g:Nat):Prop:=(∃ i,σ g=some i)∨Z g
def cG (a:Act) (i:Nat):Value:=a.tmps.getD i undef
structure bI (σ:Nat→Option Nat) (w0:World) (W0 Z:Nat→Prop) (H:Nat→Value) (S:St) (a:Act) (w:World):Prop where
 len:S.length=a.tmps.size
 defers:a.defers=[]
 fr:Fr w0 W0 w
 new:∀ g i,σ g=some i→w0.heap.size≤g∨W0 g
 lt:∀ g i,σ g=some i→g<w.heap.size
 old:∀ g,Z g→σ g=none∧g<w0.heap.size
 holds:∀ i,Holds w (Av σ Z) H (cG a) S (fun g=>σ g=some i) (S.at i) (cG a i)
def Rel (w0:World) (W0 Z:Nat→Prop) (H:Nat→Value) (S:St) (a:Act) (w:World):Prop:=∃ σ,bI σ w0 W0 Z H S a w
theorem fM {w w':World} {Wr rX:Nat→Prop} {H:Nat→Value} (cD:bA w w' Wr rX):∀ (p:Path) {t:Ty} {m:Md} {x:t.I} {cs:List Value} {ow:Nat→Prop} {hs:List Path} (l:Option (Nat×Nat)),
  M w Wr H t m x cs ow hs→(∀ g,ow g→g<w.heap.size→w'.heap[g]?=w.heap[g]?)→open_ p hs→valid p t x→bu w' p t cs=bu w p t cs∧addrAt w' p t cs l=addrAt w p t cs l
 |[],_,_,_,_,_,_,_,_,_,_,_=>⟨rfl,rfl⟩
 | .deref::p,.ptr t,m,x,cs,ow,hs,l,h,hb,ho,hv=>by
  simp only[valid] at hv
  simp only[M] at h
  rcases h with⟨hn,_⟩ |⟨hk,h⟩ |⟨T,tag,me,g,cur,rfl,rfl,ht,rY,hw,h⟩
  ·exact absurd hn ho.not_nil
  ·simp only[K] at h
   obtain⟨g,off,cur,T,fr,rfl,hng,hw,hl,h⟩:=h
   have Hy:=(cD.same g hng (bT hw)).trans hw
   have ih:=fM cD p (H:=H) (some (g,off)) (ib (ow:=fun _=>False) (hs:=sub .deref hs) t h) (fun _ h=>h.elim) ho.sub hv
   simp only[bu,addrAt,b6 hw hl,b6 Hy hl,Option.bind_some]
   exact ih
  ·have Hy:=(hb g rY (bT hw)).trans hw
   have j8:0+t.size≤cur.size:=by rw[←(fI t h).1];simp
   have iV:(cur.toList.drop 0).take t.size=cur.toList:=by rw[List.drop_zero,List.take_of_length_le (by rw[(fI t h).1];exact Nat.le_refl _)]
   have ih:=fM cD p (some (g,0)) h (fun g hg=>hb g hg.1) ho.sub hv
   simp only[bu,addrAt,b6 hw j8,b6 Hy j8,Option.bind_some,iV]
   exact ih
 | .fst::p,.pair a b',m,x,cs,ow,hs,l,h,hb,ho,hv=>by
  simp only[valid] at hv
  simp only[M] at h
  simp only[bu,addrAt]
  rcases h with⟨hn,_⟩ |⟨hk,h⟩ |⟨ma,mb,c0,c1,s,rfl,rfl,h0,h1⟩
  ·exact absurd hn ho.not_nil
  ·simp only[K] at h
   obtain⟨c0,c1,rfl,h0,h1⟩:=h
   rw[←(mh a h0).1,List.take_left]
   exact fM cD p (H:=H) l (ib (ow:=fun _=>False) (hs:=sub .fst hs) a h0) (fun _ h=>h.elim) ho.sub hv
  ·rw[←(fI a h0).1,List.take_left]
   exact fM cD p l h0 (fun g hg=>hb g hg.1) ho.sub hv
 | .snd::p,.pair a b',m,x,cs,ow,hs,l,h,hb,ho,hv=>by
  simp only[valid] at hv
  simp only[M] at h
  simp only[bu,addrAt]
  rcases h with⟨hn,_⟩ |⟨hk,h⟩ |⟨ma,mb,c0,c1,s,rfl,rfl,h0,h1⟩
  ·exact absurd hn ho.not_nil
  ·simp only[K] at h
   obtain⟨c0,c1,rfl,h0,h1⟩:=h
   rw[←(mh a h0).1,List.drop_left]
   exact fM cD p (H:=H) _ (ib (ow:=fun _=>False) (hs:=sub .snd hs) b' h1) (fun _ h=>h.elim) ho.sub hv
  ·rw[←(fI a h0).1,List.drop_left]
   exact fM cD p _ h1 (fun g hg=>hb g hg.1) ho.sub hv
 | .idx i::p,.sl t,m,xs,cs,ow,hs,l,h,hb,ho,hv=>by
  simp only[valid] at hv
  obtain⟨hi,hv⟩:=hv
  have fU:List.getD xs i t.z=xs[i]:=by simp[List.getD_eq_getElem?_getD,List.getElem?_eq_getElem hi]
  simp only[M] at h
  rcases h with⟨hn,_⟩ |⟨hk,h⟩ |⟨T,tag,me,A,c,rfl,rfl,hc,ht,h⟩
  ·exact absurd hn ho.not_nil
  ·simp only[K] at h
   obtain⟨A,c,rfl,hc,h⟩:=h
   obtain⟨g,off,cur,T,fr,rfl,hng,hw,hl,h⟩:=h (by omega)
   have Hy:=(cD.same g hng (bT hw)).trans hw
   have hbound:off+i*t.size+t.size≤cur.size:=by
    have:=Nat.mul_le_mul_right t.size (show i+1≤xs.length from hi)
    rw[Nat.add_mul,Nat.one_mul] at this
    omega
   have hK:=h i hi
   rw[←fU] at hK
   have ih:=fM cD p (H:=H) (some (g,off+i*t.size)) (ib (ow:=fun _=>False) (hs:=sub (.idx i) hs) t hK) (fun _ h=>h.elim) ho.sub hv
   simp only[bu,addrAt,b6 hw hbound,b6 Hy hbound,Option.bind_some]
   exact ih
  ·rcases h with⟨rfl,_⟩ |⟨g,cur,τ,rfl,rY,hw,j8,hm,h⟩
   ·simp at hi
   ·have Hy:=(hb g rY (bT hw)).trans hw
    have hbound:i*t.size+t.size≤cur.size:=by
     have h1:=Nat.mul_le_mul_right t.size (show i+1≤xs.length from hi)
     have h2:=Nat.mul_le_mul_right t.size hc
     rw[Nat.add_mul,Nat.one_mul] at h1
     omega
    have hM:=h i hi
    rw[←fU] at hM
    have ih:=fM cD p (some (g,i*t.size)) hM (fun g hg=>hb g hg.1) ho.sub hv
    simp only[bu,addrAt,Nat.zero_add,b6 hw hbound,b6 Hy hbound,Option.bind_some]
    exact ih
variable {w w':World} {A A':Nat→Prop} {H:Nat→Value} {tm sx:Nat→Value} {S S':St}
structure Kept (w w':World) (A:Nat→Prop) (H:Nat→Value) (tm sx:Nat→Value) (S S':St) (s:Nat):Prop where
 at_:∀ r ex,S.at s=.v r ex→S'.at s=.v r ex
 tm_:sx s=tm s
 hold:∃ own,Holds w A H tm S own (S.at s) (tm s)∧∀ g,own g→g<w.heap.size→w'.heap[g]?=w.heap[g]?
theorem fN {t:Ty} {v:Value} {cs du:List Value} (h:aE t v cs) (h':aE t v du):cs=du:=by
 unfold aE at*
 split at h
 ·rename_i ha
  rw[if_pos ha] at h'
  rw[h] at h'
  injection h' with h'
  simpa using h'
 ·rename_i ha
  rw[if_neg ha] at h'
  rw[h,h']
theorem Ref.kept {t:Ty} {s:Nat} {p:Path} {r:TV} {dy:List Value} (cD:bA w w' A A') (hk:Kept w w' A H tm sx S S' s) (h:Ref tm S t s p r dy):
  Ref sx S' t s p r dy∧∀ l,bu w' p r.t dy=bu w p r.t dy∧addrAt w' p r.t dy l=addrAt w p r.t dy l:=by
 obtain⟨⟨ex,h1,h2⟩,h3,h4,h5⟩:=h
 refine⟨⟨⟨ex,hk.at_ _ _ h1,h2⟩,h3,h4,by rw[hk.tm_];exact h5⟩,fun l=>?_⟩
 obtain⟨own,hh,hb⟩:=hk.hold
 rw[h1] at hh
 obtain⟨cs,hm,hM⟩:=hh
 obtain rfl:=fN h5 hm
 exact fM cD p l hM hb h2 h3
theorem nm.kept {c:I8} {u:Value} (cD:bA w w' A A') (hk:∀ t s p,c=.pl t s p→Kept w w' A H tm sx S S' s) (h:nm w A tm S c u):nm w' A' sx S' c u:=by
 cases c with
 |kv a=>exact cE cD _ h
 |pl t s p=>
  obtain⟨r,dy,cs,hr,hc,hm⟩:=h
  obtain⟨h1,h2⟩:=hr.kept cD (hk t s p rfl)
  exact⟨r,dy,cs,h1,by rw[(h2 none).1];exact hc,hm⟩
theorem Holds.kept {own Ja:Nat→Prop} {a:AV} {v:Value} (cD:bA w w' A A') (ho:∀ g,own g→g<w.heap.size→w'.heap[g]?=w.heap[g]? ∧Ja g)
  (hk:∀ s,a.refs s=true→Kept w w' A H tm sx S S' s) (h:Holds w A H tm S own a v):Holds w' A' H sx S' Ja a v:=by
 cases a with
 |dead=>trivial
 |undef=>exact h
 |v a ex=>
  obtain⟨cs,h1,h2⟩:=h
  exact⟨cs,h1,bj cD _ (fun g hg hl=>(ho g hg hl).1) (fun g hg hl=>(ho g hg hl).2) (fun _ h=>h) h2⟩
 |u5 l=>
  obtain⟨vs,τ,h1,h2,h3⟩:=h
  refine⟨vs,τ,h1,h2,fun j a hj=>?_⟩
  obtain⟨u,cs,k1,k2,k3⟩:=h3 j a hj
  exact⟨u,cs,k1,k2,bj cD _ (fun g hg hl=>(ho g hg.1 hl).1) (fun g hg hl=>⟨(ho g hg.1 hl).2,hg.2⟩) (fun _ h=>h) k3⟩
 |al t s p=>
  obtain⟨r,dy,cs,hr,hc,hm⟩:=h
  obtain⟨h1,h2⟩:=hr.kept cD (hk s (by simp[AV.refs]))
  exact⟨r,dy,cs,h1,by rw[(h2 none).1];exact hc,hm⟩
 |ad t s p=>
  obtain⟨r,dy,g,off,hr,hc,hm⟩:=h
  obtain⟨h1,h2⟩:=hr.kept cD (hk s (by simp[AV.refs]))
  exact⟨r,dy,g,off,h1,by rw[(h2 none).2];exact hc,hm⟩
 |cut t s p lo hi=>
  obtain⟨r,dy,t',A1,n,c,hr,ht,hc,hm⟩:=h
  obtain⟨h1,h2⟩:=hr.kept cD (hk s (by simp[AV.refs]))
  exact⟨r,dy,t',A1,n,c,h1,ht,by rw[(h2 none).1];exact hc,hm⟩
 |mg f c8=>
  obtain⟨vs,h1,h2,h3⟩:=h
  refine⟨vs,h1,h2,fun j c hj=>?_⟩
  obtain⟨u,k1,k2⟩:=h3 j c hj
  refine⟨u,k1,k2.kept cD (fun t s p e=>hk s ?_)⟩
  subst e
  simp only[AV.refs,List.any_eq_true]
  exact⟨_,List.mem_of_getElem? hj,by simp⟩
theorem dA (S:St) (d:Nat) (a:AV) (i:Nat):St.at (S.set d a) i=if i=d∧d<S.length then a else S.at i:=by
 unfold St.at
 rw[List.getD_eq_getElem?_getD,List.getD_eq_getElem?_getD,List.getElem?_set]
 by_cases h:d=i
 ·subst h
  by_cases hl:d<S.length
  ·simp[hl]
  ·simp[hl]
 ·have h': ¬i=d:=fun e=>h e.symm
  simp[h,h']
theorem EJ (S:St) (f:AV→AV) (hf:f .dead=.dead) (i:Nat):St.at (S.map f) i=f (S.at i):=by
 unfold St.at
 rw[List.getD_eq_getElem?_getD,List.getD_eq_getElem?_getD,List.getElem?_map]
 cases S[i]? with
 |none=>simp[hf]
 |some a=>rfl
theorem ah4 (S:St) (d i:Nat):(S.kill d).at i=bif (S.at i).refs d then .dead else S.at i:=EJ S _ (by simp[AV.refs]) i
theorem lq (S:St) (d i:Nat):(S.weaken d).at i=bif (S.at i).ga d then .dead else S.at i:=EJ S _ (by simp[AV.ga]) i
theorem ab6 (S:St) (d:Nat):(S.kill d).length=S.length:=by simp[St.kill]
theorem eU (S:St) (d:Nat) (a:AV) (i:Nat):(S.put (some d) a).at i=if i=d∧d<S.length then(bif a.refs d then .dead else a) else bif (S.at i).refs d&&(S.at d).AN then .dead else S.at i:=by
 simp only[St.put]
 cases (S.at d).AN
 ·simp only[cond_false,dA,Bool.and_false]
 ·simp only[cond_true,dA,ab6,ah4,Bool.and_true]
theorem cJ (S:St) (dst:Option Nat) (a:AV):(S.put dst a).length=S.length:=by
 cases dst with
 |none=>rfl
 |some d=>simp only[St.put];cases (S.at d).AN<;>simp[St.kill]
theorem aqL {own:Nat→Prop} {w:World} {A:Nat→Prop} {H:Nat→Value} {tm:Nat→Value} {S:St} {av:AV} {v:Value} {d:Nat} (h:Holds w A H tm S own av v) (hr:av.refs d=true):(S.at d).AN=true:=by
 cases av with
 |dead=>cases hr
 |undef=>cases hr
 |v a ex=>cases hr
 |u5 l=>cases hr
 |al t s p=>
  obtain rfl:s=d:=Nat.eq_of_beq_eq_true hr
  obtain⟨r,dy,cs,h1,_⟩:=h
  obtain⟨ex,h2,_⟩:=h1.at_
  rw[h2];rfl
 |ad t s p=>
  obtain rfl:s=d:=Nat.eq_of_beq_eq_true hr
  obtain⟨r,dy,g,off,h1,_⟩:=h
  obtain⟨ex,h2,_⟩:=h1.at_
  rw[h2];rfl
 |cut t s p lo hi=>
  obtain rfl:s=d:=Nat.eq_of_beq_eq_true hr
  obtain⟨r,dy,t',A,n,c,h1,_⟩:=h
  obtain⟨ex,h2,_⟩:=h1.at_
  rw[h2];rfl
 |mg f c8=>
  simp only[AV.refs,List.any_eq_true] at hr
  obtain⟨c,hc,hr⟩:=hr
  obtain⟨vs,_,_,h3⟩:=h
  obtain⟨j,hj⟩:=List.mem_iff_getElem?.1 hc
  obtain⟨u,_,h4⟩:=h3 j c hj
  cases c with
  |kv a=>cases hr
  |pl t s p=>
   obtain rfl:s=d:=Nat.eq_of_beq_eq_true hr
   obtain⟨r,dy,cs,h1,_⟩:=h4
   obtain⟨ex,h2,_⟩:=h1.at_
   rw[h2];rfl
theorem AX (a:Act) (d:Nat) (v:Value) (i:Nat):cG (a.put (some d) v) i=if i=d∧d<a.tmps.size then v else cG a i:=by
 unfold cG Act.put
 simp only[Array.getD_eq_getD_getElem?,Array.getElem?_setIfInBounds]
 by_cases h:d=i
 ·subst h
  by_cases hl:d<a.tmps.size
  ·simp[hl]
  ·simp[hl]
 ·have h': ¬i=d:=fun e=>h e.symm
  simp[h,h']
theorem ab7 (a:Act) (dst:Option Nat) (v:Value):(a.put dst v).tmps.size=a.tmps.size:=by
 cases dst<;>simp[Act.put]
theorem put_defers (a:Act) (dst:Option Nat) (v:Value):(a.put dst v).defers=a.defers:=by cases dst<;>rfl
theorem bI.put {σ eE:Nat→Option Nat} {w0:World} {W0 Z:Nat→Prop} {a:Act} {dst:Option Nat} {av:AV} {v:Value} (h:bI σ w0 W0 Z H S a w)
  (cD:bA w w' (Av σ Z) (Av eE Z)) (r9:Fr w0 W0 w') (YS:∀ g i,eE g=some i→(w0.heap.size≤g∨W0 g)∧g<w'.heap.size) (hold:∀ g,Z g→eE g=none)
  (mm:∀ i g,i<S.length→dst≠some i→σ g=some i→w'.heap[g]?=w.heap[g]? ∧eE g=some i)
  (nU:∀ d,dst=some d→d<S.length→av.refs d=false→Holds w' (Av eE Z) H (cG (a.put dst v)) (S.put dst av) (fun g=>eE g=some d) av v):
  bI eE w0 W0 Z H (S.put dst av) (a.put dst v) w':=by
 have se:∀ i,¬i<S.length→S.at i=.dead:=fun i hl=>by
  unfold St.at
  rw[List.getD_eq_getElem?_getD,List.getElem?_eq_none (by omega)]
  rfl
 refine⟨by rw[cJ,ab7];exact h.len,by rw[put_defers];exact h.defers,r9,fun g i hg=>(YS g i hg).1,fun g i hg=>(YS g i hg).2,fun g hg=>⟨hold g hg,(h.old g hg).2⟩,fun i=>?_⟩
 by_cases H2:i<S.length
 rotate_left
 ·have:(S.put dst av).at i=.dead:=by
   unfold St.at
   rw[List.getD_eq_getElem?_getD,List.getElem?_eq_none (by rw[cJ];omega)]
   rfl
  rw[this]
  trivial
 cases dst with
 |none=>
  have hk:∀ s,Kept w w' (Av σ Z) H (cG a) (cG a) S S s:=fun s=>by
   by_cases hs:s<S.length
   ·exact⟨fun _ _ h=>h,rfl,_,h.holds s,fun g hg _=>(mm s g hs (by simp) hg).1⟩
   ·exact⟨fun _ _ h=>h,rfl,fun _=>False,by rw[se s hs];trivial,fun _ h=>h.elim⟩
  exact(h.holds i).kept cD (fun g hg _=>mm i g H2 (by simp) hg) (fun s _=>hk s)
 |some d=>
  by_cases hi:i=d∧d<S.length
  ·obtain⟨rfl,hl⟩:=hi
   rw[eU,if_pos ⟨rfl,hl⟩,AX,if_pos ⟨rfl,by rw[←h.len];exact hl⟩]
   cases hr:av.refs i with
   |true=>simp[Holds]
   |false=>exact nU i rfl hl hr
  ·have sO: ¬(i=d∧d<a.tmps.size):=by rw[←h.len];exact hi
   rw[eU,if_neg hi,AX,if_neg sO]
   cases hr:(S.at i).refs d with
   |true=>rw[aqL (h.holds i) hr];simp[Holds]
   |false=>
    simp only[Bool.false_and,cond_false]
    by_cases hd:i=d
    ·subst hd
     rw[se i (fun hl=>hi ⟨rfl,hl⟩)]
     trivial
    ·refine(h.holds i).kept cD (fun g hg _=>mm i g H2 (by simpa using fun e=>hd e.symm) hg) (fun s hs=>?_)
     have AY:s≠d:=fun e=>by subst e;rw[hr] at hs;cases hs
     refine⟨?_,?_,?_⟩
     ·intro r ex hv
      rw[eU,if_neg (fun e=>AY e.1),hv]
      rfl
     ·rw[AX,if_neg (fun e=>AY e.1)]
     ·by_cases hs:s<S.length
      ·exact⟨_,h.holds s,fun g hg _=>(mm s g hs (by simpa using fun e=>AY e.symm) hg).1⟩
      ·exact⟨fun _=>False,by rw[se s hs];trivial,fun _ h=>h.elim⟩
def release (σ:Nat→Option Nat) (dst:Option Nat) (g:Nat):Option Nat:=if dst.isSome=true∧σ g=dst then none else σ g
theorem gF {σ:Nat→Option Nat} {dst:Option Nat} {g i:Nat} (h:release σ dst g=some i):σ g=some i∧dst≠some i:=by
 unfold release at h
 split at h
 ·cases h
 ·rename_i hn
  refine⟨h,fun e=>hn ⟨by rw[e];rfl,by rw[h,e]⟩⟩
theorem mJ {σ:Nat→Option Nat} {dst:Option Nat} {g i:Nat} (hd:dst≠some i) (h:σ g=some i):release σ dst g=some i:=by
 unfold release
 rw[if_neg (fun e=>hd (by rw[←e.2,h])),h]
theorem vR {σ:Nat→Option Nat} {dst:Option Nat} {Z:Nat→Prop} {g:Nat} (h:Av (release σ dst) Z g):Av σ Z g:=by
 rcases h with⟨i,h⟩ |h
 ·exact .inl ⟨i,(gF h).1⟩
 ·exact .inr h
theorem bI.pure {σ:Nat→Option Nat} {w0:World} {W0 Z:Nat→Prop} {a:Act} {dst:Option Nat} {av:AV} {v:Value} (h:bI σ w0 W0 Z H S a w)
  (hv:Holds w (Av σ Z) H (cG a) S (fun _=>False) av v):bI (release σ dst) w0 W0 Z H (S.put dst av) (a.put dst v) w:=by
 have cD:bA w w (Av σ Z) (Av (release σ dst) Z):=⟨fun _ _ _=>rfl,fun g _ hg=>vR hg⟩
 refine h.put cD h.fr (fun g i hg=>⟨h.new g i (gF hg).1,h.lt g i (gF hg).1⟩) (fun g hg=>by unfold release;split<;>first |rfl |exact(h.old g hg).1) (fun i g _ hd hg=>⟨rfl,mJ hd hg⟩) (fun d hd hl hr=>?_)
 subst hd
 refine hv.kept cD (fun _ h _=>h.elim) (fun s hs=>?_)
 have AY:s≠d:=fun e=>by subst e;rw[hr] at hs;cases hs
 refine⟨fun r ex hv=>?_,by rw[AX,if_neg (fun e=>AY e.1)],_,h.holds s,fun _ _ _=>rfl⟩
 rw[eU,if_neg (fun e=>AY e.1),hv]
 rfl
def api (σ:Nat→Option Nat) (x:Operand) (g:Nat):Prop:=∃ i,x=.tmp i∧σ g=some i
theorem cf {σ:Nat→Option Nat} {w0:World} {W0 Z:Nat→Prop} {a:Act} {Θ:ee} {T:TypeId} {x:Operand} {av:AV} (h:bI σ w0 W0 Z H S a w) (he:S.fb Θ T x=some av):
  Holds w (Av σ Z) H (cG a) S (api σ x) av (a.eval x):=by
 cases x with
 |tmp i=>
  simp only[St.fb,Option.some.injEq] at he
  subst he
  refine(h.holds i).kept (bA.refl _ _) (fun g hg _=>⟨rfl,i,rfl,hg⟩) (fun s _=>⟨fun _ _ h=>h,rfl,_,h.holds s,fun _ _ _=>rfl⟩)
 |const c=>
  simp only[St.fb] at he
  split at he
  ·rename_i b hb
   injection he with he
   subst he
   unfold nX at hb
   split at hb
   ·injection hb with hb;subst hb
    exact⟨[a.eval (.const _)],by simp only[aE,isAgg];rfl,by simp[M,K,Act.eval,Md.cy]⟩
   ·injection hb with hb;subst hb
    exact⟨[a.eval (.const _)],by simp only[aE,isAgg];rfl,by simp[M,K,Act.eval,Md.cy]⟩
   ·injection hb with hb;subst hb
    exact⟨[a.eval (.const _)],by simp only[aE,isAgg];rfl,by simp[M,K,Act.eval,Md.cy]⟩
   ·split at hb
    ·rename_i i hi
     split at hb
     ·rename_i t ht
      injection hb with hb
      subst hb
      refine⟨[.slice none 0 0],by simp[aE,isAgg,Act.eval],?_⟩
      simp only[M]
      exact .inr (.inr ⟨_,_,_,none,0,rfl,rfl,Nat.le_refl _,fun h hh=>(by cases hh),.inl (by simp)⟩)
     ·cases hb
    ·cases hb
   ·cases hb
  ·cases he
 |func f=>
  simp only[St.fb,Option.some.injEq] at he
  subst he
  exact⟨[],by simp[Act.eval],rfl,fun j c hj=>by simp at hj⟩
 |global g=>simp[St.fb] at he
theorem RX {own:Nat→Prop} {t:Ty} {m:Md} {x:t.I} {cs:List Value} (h:M w A H t m x cs own []):K w (fun _=>False) t x cs:=M_K (fun _ _ h=>h.elim) t rfl (fun _ _ h=>h) h
theorem Jb {t:Ty} {v:Value} {cs:List Value} (h:aE t v cs) (h1:∀ u∈cs,u.oneCell'=true):v.cells.toList=cs:=by
 unfold aE at h
 split at h
 ·subst h;rfl
 ·subst h
  have:=h1 v (by simp)
  cases v<;>first |rfl |(simp[Value.oneCell'] at this)
theorem pr:∀ (q r:Path),iB q (q++r)=true
 |[],_=>by simp[iB]
 | .idx i::q,r=>by simp[iB];exact pr q r
 | .deref::q,r=>by simp[iB];exact pr q r
 | .fst::q,r=>by simp[iB];exact pr q r
 | .snd::q,r=>by simp[iB];exact pr q r
theorem pv:∀ (q r:Path),iB (q++r) q=true
 |[],[]=>by simp[iB]
 |[],_::_=>by simp[iB]
 | .idx i::q,r=>by simp[iB];exact pv q r
 | .deref::q,r=>by simp[iB];exact pv q r
 | .fst::q,r=>by simp[iB];exact pv q r
 | .snd::q,r=>by simp[iB];exact pv q r
theorem vi {p:Path} {ex:List Path} (h:∀ q∈ex,iB q p=false):open_ p ex:=fun q hq s r e=>by
 have:=h q hq
 rw[e,pr] at this
 cases this
theorem vj {p:Path} {ex:List Path} (h:∀ q∈ex,iB q p=false):xP p ex=[]:=by
 cases hs:xP p ex with
 |nil=>rfl
 |cons q r=>
  have:q∈xP p ex:=by rw[hs];simp
  have:=h _ (Ez.1 this)
  rw[pv] at this
  cases this
end Go.Pv
