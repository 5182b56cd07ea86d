/- A verified evaluator of the program's form over pure values, part 0: what it tells of a function holds. -/
import Derived.Calls
import Derived.KernelRfl
import Derived.Laws.AppendOwn
import Derived.Laws.Sem
import Derived.Orders
namespace Go.Pv
set_option linter.unusedVariables false
set_option linter.unusedSimpArgs false
inductive Ty where
 |int (k:IntKind) |bool |str |sl (t:Ty) |ptr (t:Ty) |pair (a b:Ty) |unit |arr (n:Nat) (t:Ty)
 deriving DecidableEq,Inhabited
@[reducible] def Ty.I:Ty→Type
 | .int _=>Int | .bool=>Bool | .str=>ByteArray | .sl t=>List t.I | .ptr t=>t.I | .pair a b=>a.I×b.I | .unit=>Unit | .arr _ t=>List t.I
def Ty.size:Ty→Nat
 | .pair a b=>a.size+b.size | .unit=>0 | .arr n t=>n*t.size |_=>1
def Ty.z:(t:Ty)→t.I
 | .int _=>(0:Int) | .bool=>false | .str=>ByteArray.empty | .sl _=>[] | .ptr t=>t.z | .pair a b=>(a.z,b.z) | .unit=>() | .arr n t=>List.replicate n t.z
inductive Md where
 |k |o (T:TypeId) (tag:Option Nat) (m:Md) |p (a b:Md)
 deriving DecidableEq,Inhabited
def Md.bM:Md→Bool
 | .k=>true | .o ..=>false | .p a b=>a.bM&&b.bM
inductive Step where
 |deref |fst |snd |idx (i:Nat)
 deriving DecidableEq,Inhabited
abbrev Path:=List Step
def sub (s:Step) (hs:List Path):List Path:=hs.filterMap fun p=>match p with
 |s'::r=>if s'=s then some r else none
 |[]=>none
section
variable (w:World) (Wr:Nat→Prop)
def K:(t:Ty)→t.I→List Value→Prop
 | .int k,n,cs=>cs=[.int k n]
 | .bool,b,cs=>cs=[.bool b]
 | .str,s,cs=>cs=[.string s]
 | .unit,_,cs=>cs=[]
 | .pair a b,x,cs=>∃ c0 c1,cs=c0++c1∧K a x.1 c0∧K b x.2 c1
 | .arr n t,xs,cs=>∃ eI:List (List Value),cs=eI.flatten∧eI.length=n∧xs.length=n∧∀ j (h:j<xs.length) (h':j<eI.length),K t xs[j] eI[j]
 | .sl t,xs,cs=>∃ A c,cs=[.slice A xs.length c]∧xs.length≤c∧(0<xs.length→∃ g off cur T fr,A=some ⟨g,off,none⟩∧ ¬Wr g∧w.heap[g]?=some (.cells cur T fr)∧off+xs.length*t.size≤cur.size∧∀ j (h:j<xs.length),K t xs[j] ((cur.toList.drop (off+j*t.size)).take t.size))
 | .ptr t,x,cs=>∃ g off cur T fr,cs=[.pointer (some ⟨g,off,none⟩)]∧ ¬Wr g∧w.heap[g]?=some (.cells cur T fr)∧off+t.size≤cur.size∧K t x ((cur.toList.drop off).take t.size)
def M (H:Nat→Value):(t:Ty)→(m:Md)→t.I→List Value→(Nat→Prop)→List Path→Prop
 | .sl t,m,xs,cs,ow,hs=>([]∈hs∧m.bM=false∧∃ A c,cs=[.slice A xs.length c])∨(m.bM=true∧K w Wr (.sl t) xs cs)∨
   ∃ T tag me A c,m=.o T tag me∧cs=[.slice A xs.length c]∧xs.length≤c∧(∀ h,tag=some h→H h=.slice A xs.length c)∧
    ((xs=[]∧c=0)∨∃ g cur,∃ τ:Nat→Nat,A=some ⟨g,0,none⟩∧ow g∧w.heap[g]?=some (.cells cur T (0,0))∧cur.size=c*t.size∧c≤maxLen∧
     ∀ j (h:j<xs.length),M H t me xs[j] ((cur.toList.drop (j*t.size)).take t.size) (fun g'=>ow g'∧g'≠g∧τ g'=j) (sub (.idx j) hs))
 | .ptr t,m,x,cs,ow,hs=>([]∈hs∧m.bM=false∧cs.length=1∧∀ u∈cs,u.oneCell'=true)∨(m.bM=true∧K w Wr (.ptr t) x cs)∨
   ∃ T tag me g cur,m=.o T tag me∧cs=[.pointer (some ⟨g,0,none⟩)]∧(∀ h,tag=some h→H h=.pointer (some ⟨g,0,none⟩))∧ow g∧w.heap[g]?=some (.cells cur T (0,0))∧
    M H t me x cur.toList (fun g'=>ow g'∧g'≠g) (sub .deref hs)
 | .pair a b,m,x,cs,ow,hs=>([]∈hs∧m.bM=false∧cs.length=a.size+b.size∧∀ u∈cs,u.oneCell'=true)∨(m.bM=true∧K w Wr (.pair a b) x cs)∨
   ∃ ma mb c0 c1,∃ s:Nat→Prop,m=.p ma mb∧cs=c0++c1∧M H a ma x.1 c0 (fun g'=>ow g'∧s g') (sub .fst hs)∧M H b mb x.2 c1 (fun g'=>ow g'∧ ¬s g') (sub .snd hs)
 | .int k,m,x,cs,_,_=>m.bM=true∧K w Wr (.int k) x cs
 | .bool,m,x,cs,_,_=>m.bM=true∧K w Wr .bool x cs
 | .str,m,x,cs,_,_=>m.bM=true∧K w Wr .str x cs
 | .unit,m,x,cs,_,_=>m.bM=true∧K w Wr .unit x cs
 | .arr n t,m,x,cs,_,_=>m.bM=true∧K w Wr (.arr n t) x cs
end
end Go.Pv
namespace Go.Pv
set_option linter.unusedVariables false
set_option linter.unusedSimpArgs false
structure TV where
 t:Ty
 m:Md
 x:t.I
inductive H3 where
 |pl (t:Ty) (s:Nat) (p:Path)
 |kv (a:TV)
inductive AV where
 |dead
 |undef
 |v (a:TV) (ex:List Path)
 |th (l:List (Option TV))
 |al (t:Ty) (s:Nat) (p:Path)
 |ad (t:Ty) (s:Nat) (p:Path)
 |cut (t:Ty) (s:Nat) (p:Path) (lo hi:Nat)
 |k8 (f:FuncId) (cw:List H3)
abbrev St:=List AV
structure TI where
 T:TypeId
 ty:Ty
 e:TypeId
 fs:List TypeId
abbrev db:=List TI
def db.find (Θ:db) (T:TypeId):Option TI:=match Θ with
 |[]=>none
 |i::r=>bif Nat.beq i.T T then some i else db.find r T
def Md.GQ:Md→Md
 | .o _ _ m=>m |_=>.k
def Md.l:Md→Md
 | .p a _=>a |m=>m
def Md.r:Md→Md
 | .p _ b=>b |m=>m
def mkM (a b:Md):Md:=bif a.bM&&b.bM then .k else .p a b
def a8:Path→(t:Ty)→Md→t.I→Option TV
 |[],t,m,x=>some ⟨t,m,x⟩
 | .deref::p,.ptr t,m,x=>a8 p t m.GQ x
 | .fst::p,.pair a _,m,x=>a8 p a m.l x.1
 | .snd::p,.pair _ b,m,x=>a8 p b m.r x.2
 | .idx i::p,.sl t,m,xs=>a8 p t m.GQ (xs.getD i t.z)
 |_::_,_,_,_=>none
def fW (b:TV):Path→(t:Ty)→Md→t.I→Option (Md×t.I)
 |[],t,_,_=>if h:b.t=t then some (b.m,h▸b.x) else none
 | .deref::p,.ptr t,.o T tag me,x=>match fW b p t me x with
  |some r=>some (.o T tag r.1,r.2)
  |none=>none
 | .fst::p,.pair t u,m,x=>match fW b p t m.l x.1 with
  |some r=>some (mkM r.1 m.r,(r.2,x.2))
  |none=>none
 | .snd::p,.pair t u,m,x=>match fW b p u m.r x.2 with
  |some r=>some (mkM m.l r.1,(x.1,r.2))
  |none=>none
 | .idx i::p,.sl t,.o T tag me,xs=>match fW b p t me (xs.getD i t.z) with
  |some r=>if r.1=me then some (.o T tag me,xs.set i r.2) else none
  |none=>none
 |_::_,_,_,_=>none
def fX:Path→Path→Bool
 |[],_=>true
 |_,[]=>true
 | .idx _::p,.idx _::q=>fX p q
 |s::p,s'::q=>if s=s' then fX p q else false
def under:Path→Path→Bool
 |[],[]=>false
 |[],_::_=>true
 |_::_,[]=>false
 | .idx _::p,.idx _::q=>under p q
 |s::p,s'::q=>if s=s' then under p q else false
def pre:Path→Path→Bool
 |[],_=>true
 | .deref::p,.deref::q=>pre p q
 | .fst::p,.fst::q=>pre p q
 | .snd::p,.snd::q=>pre p q
 |_,_=>false
def oA:Path→Path→Bool
 |[],_=>true
 |_,[]=>true
 | .idx i::p,.idx j::q=>oA p q&&Nat.beq i j
 |s::p,s'::q=>if s=s' then oA p q else false
def fH:Path→Path→Bool
 |[],[]=>true
 | .idx _::p,.idx _::q=>fH p q
 | .deref::p,.deref::q=>fH p q
 | .fst::p,.fst::q=>fH p q
 | .snd::p,.snd::q=>fH p q
 |_,_=>false
def B4:Path→Path→Bool
 | .idx i::p,.idx j::q=>B4 p q&&Nat.beq i j
 |_::p,_::q=>B4 p q
 |_,_=>true
def dA (p:Path):List Path→Bool×List Path
 |[]=>(true,[])
 |h::r=>bif fH p h then(B4 p h,r) else((dA p r).1,h::(dA p r).2)
def depth:Path→Nat
 |[]=>0 | .deref::p=>depth p+1 | .idx _::p=>depth p+1 |_::p=>depth p
def AV.refs (d:Nat):AV→Bool
 | .al _ s _=>Nat.beq s d | .ad _ s _=>Nat.beq s d | .cut _ s _ _ _=>Nat.beq s d
 | .k8 _ cw=>cw.any fun c=>match c with
  | .pl _ s _=>Nat.beq s d
  | .kv _=>false
 |_=>false
def AV.eJ (d:Nat):AV→Bool
 | .al _ s p=>Nat.beq s d&&match p with
  |[]=>false
  |_=>true
 | .ad _ s p=>Nat.beq s d&&Nat.ble 2 (depth p)
 | .cut _ s _ _ _=>Nat.beq s d
 | .k8 _ cw=>cw.any fun c=>match c with
  | .pl _ s (_::_)=>Nat.beq s d
  |_=>false
 |_=>false
def St.at (S:St) (i:Nat):AV:=S.getD i .dead
def St.kill (S:St) (d:Nat):St:=S.map fun a=>bif a.refs d then .dead else a
def St.weaken (S:St) (d:Nat):St:=S.map fun a=>bif a.eJ d then .dead else a
def St.cover (S:St) (d:Nat) (p:Path):St:=S.map fun a=>match a with
 | .ad t s q=>bif Nat.beq s d&&under p q then .dead else .ad t s q
 |a=>a
def AV.zQ:AV→Bool
 | .v ..=>true |_=>false
def St.put (S:St) (dst:Option Nat) (a:AV):St:=match dst with
 |none=>S
 |some d=>(bif (S.at d).zQ then S.kill d else S).set d (bif a.refs d then .dead else a)
def Q9 (a:TV):TV:=⟨a.t,.k,a.x⟩
def mH (Θ:db) (T:TypeId):Value→Option TV
 | .int k n=>some ⟨.int k,.k,n⟩
 | .bool b=>some ⟨.bool,.k,b⟩
 | .string s=>some ⟨.str,.k,s⟩
 | .slice none 0 0=>match Θ.find T with
  |some i=>match i.ty with
   | .sl t=>some ⟨.sl t,.o i.e none .k,[]⟩
   |_=>none
  |none=>none
 |_=>none
def St.place (S:St) (s:Nat) (p:Path):Option TV:=match S.at s with
 | .v a ex=>bif ex.all (fun h=>!fX h p) then a8 p a.t a.m a.x else none
 |_=>none
def St.c7 (S:St) (s:Nat) (p:Path):Option TV:=match S.at s with
 | .v a ex=>bif ex.all (fun h=>!under h p) then a8 p a.t a.m a.x else none
 |_=>none
def St.dM (Θ:db) (S:St) (T:TypeId):Operand→Option AV
 | .tmp i=>some (S.at i)
 | .const c=>match mH Θ T c with
  |some a=>some (.v a [])
  |none=>none
 | .func f=>some (.k8 f [])
 | .global _=>none
def St.so (S:St):AV→Option TV
 | .v a []=>some a
 | .al _ s p=>S.place s p
 | .cut _ s p lo hi=>match S.place s p with
  |some ⟨.sl t,m,xs⟩=>some ⟨.sl t,m,(xs.take hi).drop lo⟩
  |_=>none
 |_=>none
def St.rd (Θ:db) (S:St) (T:TypeId) (x:Operand):Option TV:=match S.dM Θ T x with
 |some a=>S.so a
 |none=>none
def St.kU (Θ:db) (S:St) (x:Operand):Option Int:=match S.rd Θ 0 x with
 |some ⟨.int _,_,n⟩=>some n
 |_=>none
def St.dB (S:St) (x:Operand):AV→Option (TV×St)
 | .v a ex=>bif a.m.bM then some (a,S) else match ex,x with
  |[],.tmp i=>some (a,S.put (some i) .dead)
  |[],_=>some (a,S)
  |_,_=>none
 | .al _ s p=>match S.place s p with
  |some a=>bif a.m.bM then some (a,S) else match p,S.at s with
   |[],_=>some (a,S.put (some s) .dead)
   |_,.v r ex=>some (a,((S.weaken s).cover s p).set s (.v r (ex++[p])))
   |_,_=>none
  |none=>none
 | .cut _ s [] lo hi=>match S.place s [] with
  |some ⟨.sl t,.o T _ me,xs⟩=>bif Nat.beq lo 0 then some (⟨.sl t,.o T none me,xs.take hi⟩,S.put (some s) .dead) else none
  |_=>none
 |_=>none
def St.take (Θ:db) (S:St) (T:TypeId) (x:Operand):Option (TV×St):=match S.dM Θ T x with
 |some a=>S.dB x a
 |none=>none
def St.copy (S:St) (x:Operand):AV→Option AV
 | .v a ex=>bif a.m.bM then some (.v a []) else match x with
  | .tmp i=>some (.al a.t i [])
  |_=>match ex with
   |[]=>some (.v a [])
   |_=>none
 | .th _=>none
 | .dead=>none
 |a=>some a
def mI (i n:Nat):Path:=bif Nat.beq (i+1) n then(bif Nat.beq n 1 then [.fst] else List.replicate i .snd) else List.replicate i .snd++[.fst]
def zgo (f:TypeId→Md):List TypeId→Md
 |[]=>.k
 |[a]=>f a
 |a::r=>mkM (f a) (zgo f r)
def Mb (Θ:db):Nat→TypeId→Md
 |0,_=>.k
 |n+1,T=>match Θ.find T with
  |none=>.k
  |some i=>match i.ty with
   | .sl _=>.o i.e none (Mb Θ n i.e)
   | .pair _ _=>zgo (Mb Θ n) i.fs
   |_=>.k
def kg:Ty→Bool
 | .ptr _=>false | .arr _ _=>false | .pair a b=>kg a&&kg b |_=>true
def tZ:Ty→Md→Bool
 | .pair a b,.p ma mb=>(tZ a ma&&tZ b mb)||(ma.bM&&mb.bM&&kg a&&kg b)
 | .sl _,.o _ none _=>true
 |t,m=>m.bM&&kg t
inductive Tgt where
 |k (a:TV)
 |pl (t:Ty) (s:Nat) (p:Path)
def Tgt.ty:Tgt→Ty
 | .k a=>a.t
 | .pl t _ _=>t
def St.GR (S:St) (x:Operand):AV→Option Tgt
 | .v ⟨.ptr t,m,y⟩ []=>match m,x with
  | .k,_=>some (.k ⟨t,.k,y⟩)
  | .o ..,.tmp i=>some (.pl t i [.deref])
  |_,_=>none
 | .v ⟨.ptr t,.o ..,_⟩ _=>match x with
  | .tmp i=>some (.pl t i [.deref])
  |_=>none
 | .al (.ptr t) s p=>match S.c7 s p with
  |some ⟨.ptr t',.k,y⟩=>some (.k ⟨t',.k,y⟩)
  |some ⟨.ptr _,.o ..,_⟩=>some (.pl t s (p++[.deref]))
  |_=>none
 | .ad t s p=>some (.pl t s p)
 |_=>none
def St.loadAt (S:St):Tgt→Option AV
 | .k a=>some (.v (Q9 a) [])
 | .pl t s p=>match S.c7 s p with
  |some a=>bif a.m.bM then(match S.place s p with
   |some a=>some (.v (Q9 a) [])
   |none=>none) else some (.al t s p)
  |none=>none
def bt (s:ByteArray) (i:Int):Int:=if h:i.toNat<s.size then((s[i.toNat]'h).toNat:Int) else 0
def ai5 (op:BinOp) (k:IntKind) (x y:Int):Option (Bool×TV):=match op with
 | .add=>some (true,⟨.int k,.k,k.wrap (x+y)⟩)
 | .sub=>some (true,⟨.int k,.k,k.wrap (x - y)⟩)
 | .mul=>some (true,⟨.int k,.k,k.wrap (x*y)⟩)
 | .quo=>some (!decide (y=0),⟨.int k,.k,k.wrap (x.tdiv y)⟩)
 | .rem=>some (!decide (y=0),⟨.int k,.k,x.tmod y⟩)
 | .and=>some (true,⟨.int k,.k,k.wrap (BitVec.ofInt k.bits x&&&BitVec.ofInt k.bits y).toNat⟩)
 | .or=>some (true,⟨.int k,.k,k.wrap (BitVec.ofInt k.bits x|||BitVec.ofInt k.bits y).toNat⟩)
 | .xor=>some (true,⟨.int k,.k,k.wrap (BitVec.ofInt k.bits x^^^BitVec.ofInt k.bits y).toNat⟩)
 | .eql=>some (true,⟨.bool,.k,x==y⟩)
 | .neq=>some (true,⟨.bool,.k,x != y⟩)
 | .lss=>some (true,⟨.bool,.k,decide (x<y)⟩)
 | .leq=>some (true,⟨.bool,.k,decide (x≤y)⟩)
 | .gtr=>some (true,⟨.bool,.k,decide (x>y)⟩)
 | .geq=>some (true,⟨.bool,.k,decide (x≥y)⟩)
 | .shl=>some (decide (0≤y),⟨.int k,.k,k.wrap (x*2^(min y.toNat k.bits))⟩)
 | .shr=>some (decide (0≤y),⟨.int k,.k,x.fdiv (2^(min y.toNat k.bits))⟩)
 |_=>none
def ai6 (op:BinOp) (x y:ByteArray):Option (Bool×TV):=match op with
 | .add=>some (decide (x.size+y.size≤9223372036854775807),⟨.str,.k,x++y⟩)
 | .eql=>some (true,⟨.bool,.k,x.toList==y.toList⟩)
 | .neq=>some (true,⟨.bool,.k,!(x.toList==y.toList)⟩)
 |_=>none
def L8:(t:Ty)→t.I→t.I→Option Bool
 | .int _,x,y=>some (decide ((x:Int)=y))
 | .bool,x,y=>some ((x:Bool)==y)
 | .str,x,y=>some ((x:ByteArray)==y)
 | .pair a b,x,y=>match L8 a x.1 y.1,L8 b x.2 y.2 with
  |some p,some q=>some (p&&q)
  |_,_=>none
 | .unit,_,_=>some true
 |_,_,_=>none
def gp (op:BinOp) (a b:TV):Option (Bool×TV):=match a,b with
 |⟨.int k,_,x⟩,⟨.int k',_,y⟩=>if k=k'∨op=.shl∨op=.shr then ai5 op k x y else none
 |⟨.str,_,x⟩,⟨.str,_,y⟩=>ai6 op x y
 |⟨.bool,_,x⟩,⟨.bool,_,y⟩=>match op with
  | .eql=>some (true,⟨.bool,.k,x==y⟩)
  | .neq=>some (true,⟨.bool,.k,!(x==y)⟩)
  |_=>none
 |⟨.pair t u,_,x⟩,⟨t',_,y⟩=>if h:t'=.pair t u then match op,L8 (.pair t u) x (h▸y) with
   | .eql,some r=>some (true,⟨.bool,.k,r⟩)
   | .neq,some r=>some (true,⟨.bool,.k,!r⟩)
   |_,_=>none
  else none
 |_,_=>none
def ai7 (op:UnOp) (a:TV):Option TV:=match op,a with
 | .not,⟨.bool,_,x⟩=>some ⟨.bool,.k,!x⟩
 | .neg,⟨.int k,_,x⟩=>some ⟨.int k,.k,k.wrap (0 - x)⟩
 | .xor,⟨.int k,_,x⟩=>some ⟨.int k,.k,k.wrap (BitVec.ofInt k.bits (if k.signed then -1 else k.max)^^^BitVec.ofInt k.bits x).toNat⟩
 |_,_=>none
def Gr:List TV→TV
 |[]=>⟨.unit,.k,()⟩
 |[a]=>a
 |a::r=>⟨.pair a.t (Gr r).t,mkM a.m (Gr r).m,(a.x,(Gr r).x)⟩
def dC (l:List TV):TV:=match l with
 |[a]=>⟨.pair a.t .unit,mkM a.m .k,(a.x,())⟩
 |l=>Gr l
def qI (Θ:db) (T:TypeId):Option TV:=match Θ.find T with
 |some i=>bif tZ i.ty (Mb Θ 9 T) then some ⟨i.ty,Mb Θ 9 T,i.ty.z⟩ else none
 |none=>none
def St.parts (Θ:db) (S:St) (ps:List (Nat×Operand)):List TypeId→Nat→Option (List TV×St)
 |[],_=>some ([],S)
 |T::r,j=>match ps.find? (fun q=>Nat.beq q.1 j) with
  |some q=>match S.take Θ T q.2 with
   |some (a,S1)=>match S1.parts Θ ps r (j+1) with
    |some (l,S2)=>some (a::l,S2)
    |none=>none
   |none=>none
  |none=>match qI Θ T with
   |some a=>match S.parts Θ ps r (j+1) with
    |some (l,S2)=>some (a::l,S2)
    |none=>none
   |none=>none
def jU (n:Nat):List (Nat×Operand)→Bool
 |[]=>true
 |q::r=>Nat.blt q.1 n&& !(r.any fun q'=>Nat.beq q'.1 q.1)&&jU n r
def qJ (t:Ty) (m:Md):List TV→Option (List t.I)
 |[]=>some []
 |a::r=>if h:a.t=t then(if a.m=m then match qJ t m r with
   |some l=>some ((h▸a.x)::l)
   |none=>none else none) else none
abbrev Hn:=List (Nat×Md)
def Hn.find (h:Hn) (d:Option Nat) (m:Md):Md:=match d with
 |none=>m
 |some d=>match h with
  |[]=>m
  |q::r=>bif Nat.beq q.1 d then q.2 else Hn.find r (some d) m
def Hn.Y9 (h:Hn) (d:Option Nat):Bool:=match h.find d (.o 0 none .k) with
 | .k=>true
 |_=>false
def db.is (Θ:db) (T:TypeId) (t:Ty):Bool:=match Θ.find T with
 |some i=>decide (i.ty=t)
 |none=>false
abbrev zR:=Option (Bool×St)
def oD (Θ:db) (S:St) (dst:Option Nat) (T:TypeId) (x:Operand):zR:=match S.dM Θ T x with
 |some (.th l)=>(match dst,x with
  |some d,.tmp i=>bif Nat.beq d i|| !Nat.blt d S.length then none else some (true,(S.put (some i) .dead).put (some d) (.th l))
  |_,_=>none)
 |some a=>match S.copy x a with
  |some a=>some (true,S.put dst a)
  |none=>none
 |none=>none
def DJ (Θ:db) (S:St) (dst:Option Nat) (T:TypeId) (x:Operand):zR:=match S.dM Θ T x with
 |some a=>match dst,x,a with
  |some d,.tmp i,.v a ex=>bif a.m.bM then some (true,S.put dst (.v a [])) else match ex with
   |[]=>bif Nat.beq d i|| !Nat.blt d S.length then none else some (true,(St.put (S.put (some i) .dead) dst (.v a [])).set i (.al a.t d []))
   |_=>none
  |_,_,.v a ex=>bif a.m.bM then some (true,S.put dst (.v a [])) else match ex,x with
   |[],.const _=>some (true,S.put dst (.v a []))
   |_,_=>none
  |some d,_,.al t s []=>bif Nat.beq s d then none else some (true,S.put dst (.al t s []))
  |some d,_,.k8 f c=>bif AV.refs d (.k8 f c) then none else some (true,S.put dst (.k8 f c))
  |_,_,.undef=>some (true,S.put dst .undef)
  |_,_,a=>match S.dB x a with
   |some (a,S1)=>some (true,S1.put dst (.v a []))
   |none=>none
 |none=>match x with
  | .const _=>some (true,S.put dst .dead)
  |_=>none
def Q' (Θ:db) (S:St) (dst:Option Nat) (T:TypeId) (c a b:Operand):zR:=match S.rd Θ 0 c with
 |some ⟨.bool,_,q⟩=>match S.dM Θ T a,S.dM Θ T b with
  |some (.v ⟨.bool,_,x⟩ _),some (.v ⟨.bool,_,y⟩ _)=>some (true,S.put dst (.v ⟨.bool,.k,bif q then x else y⟩ []))
  |some p,some r=>match (bif q then S.copy a p else S.copy b r) with
   |some a=>some (true,S.put dst a)
   |none=>none
  |_,_=>none
 |_=>none
def oH (Θ:db) (hn:Hn) (S:St) (dst:Option Nat) (T:TypeId):zR:=match qI Θ T with
 |some z=>bif tZ z.t (hn.find dst z.m) then some (true,S.put dst (.v ⟨.ptr z.t,.o T none (hn.find dst z.m),z.t.z⟩ [])) else none
 |none=>none
def ace (Θ:db) (S:St) (dst:Option Nat) (T:TypeId) (x:Operand):zR:=match S.take Θ T x with
 |some (a,S1)=>bif Θ.is T a.t then some (true,S1.put dst (.v ⟨.ptr a.t,.o T none a.m,a.x⟩ [])) else none
 |none=>none
def Da (Θ:db) (S:St) (dst:Option Nat) (T:TypeId) (ps:List (Nat×Operand)):zR:=match Θ.find T with
 |some i=>match S.parts Θ ps i.fs 0 with
  |some (l,S1)=>bif decide ((dC l).t=i.ty)&&acf i.ty&&jU l.length ps then some (true,S1.put dst (.v (dC l) [])) else none
  |none=>none
 |none=>none
 where acf:Ty→Bool
 | .pair _ _=>true
 |_=>false
def bG (Θ:db) (hn:Hn) (S:St) (dst:Option Nat) (T:TypeId) (n:Nat) (ps:List (Nat×Operand)):zR:=match Θ.find T with
 |some ⟨_,.sl t,e,_⟩=>bif jU n ps&&Nat.ble n 1800 then(match S.parts Θ ps (List.replicate n e) 0 with
  |some (l,S1)=>(match l with
   |[]=>some (true,S1.put dst (.v ⟨.sl t,bif hn.Y9 dst then .k else .o e none (hn.find dst .k),[]⟩ []))
   |a::_=>match qJ t a.m l with
    |some xs=>some (true,S1.put dst (.v ⟨.sl t,bif hn.Y9 dst&&a.m.bM then .k else .o e none a.m,xs⟩ []))
    |none=>none)
  |none=>none) else none
 |_=>none
def fY (Θ:db) (S:St) (dst:Option Nat) (T:TypeId) (x:Operand):zR:=match S.dM Θ 0 x with
 |some a=>match S.GR x a with
  |some g=>match S.loadAt g with
   |some r=>bif Θ.is T g.ty then some (true,S.put dst r) else none
   |none=>none
  |none=>none
 |none=>none
def k9 (Θ:db) (S:St) (T:TypeId) (x y:Operand):zR:=match S.dM Θ 0 x with
 |some a=>match S.GR x a with
  |some (.pl _ s p)=>match S.take Θ T y with
   |some (b,S1)=>bif Θ.is T b.t then(match S1.at s with
    | .v r ex=>match fW b p r.t r.m r.x with
     |some (m,z)=>bif ex.all (fun h=>!under h p) then some ((dA p (ex.filter fun h=>!pre p h)).1,(S1.weaken s).set s (.v ⟨r.t,m,z⟩ (dA p (ex.filter fun h=>!pre p h)).2)) else none
     |none=>none
    |_=>none) else none
   |none=>none
  |_=>none
 |none=>none
def oI (Θ:db) (S S1:St) (T:TypeId) (y:Operand):St:=match S.dM Θ T y with
 |some (.al _ s [])=>(match S.at s,S1.at s with
  | .v ⟨.sl t,m,xs⟩ [],.dead=>bif m.bM then S1 else S1.set s (.v ⟨.sl t,m,xs⟩ [[]])
  |_,_=>S1)
 |_=>S1
def ua (Θ:db) (S:St) (dst:Option Nat) (x:Operand):zR:=match S.dM Θ 0 x with
 |some a=>match S.GR x a with
  |some g=>match S.copy x a,(match g with
   | .k _=>some ()
   | .pl _ s p=>match S.c7 s p with
    |some _=>some ()
    |none=>none) with
   |some a,some _=>some (true,S.put dst a)
   |_,_=>none
  |none=>none
 |none=>none
def fZ (Θ:db) (S:St) (dst:Option Nat) (T:TypeId) (x:Operand) (f:Nat):zR:=match S.dM Θ 0 x,Θ.find T with
 |some a,some i=>bif Nat.blt f i.fs.length then(match S.GR x a with
  |some (.k ⟨t,m,y⟩)=>bif decide (i.ty=t) then(match a8 (mI f i.fs.length) t .k y with
   |some b=>some (true,S.put dst (.v ⟨.ptr b.t,.k,b.x⟩ []))
   |none=>none) else none
  |some (.pl t s p)=>bif decide (i.ty=t) then(match S.c7 s (p++mI f i.fs.length) with
   |some b=>some (true,S.put dst (.ad b.t s (p++mI f i.fs.length)))
   |none=>none) else none
  |none=>none) else none
 |_,_=>none
def H4 (Θ:db) (S:St) (dst:Option Nat) (T:TypeId) (x:Operand) (f:Nat):zR:=match S.dM Θ 0 x,Θ.find T with
 |some (.v a ex),some i=>bif Nat.blt f i.fs.length&&decide (i.ty=a.t) then(match x with
  | .tmp j=>match a8 (mI f i.fs.length) a.t a.m a.x with
   |some b=>bif b.m.bM then(match ex with
    |[]=>some (true,S.put dst (.v (Q9 b) []))
    |_=>none) else(match S.c7 j (mI f i.fs.length) with
    |some _=>some (true,S.put dst (.al b.t j (mI f i.fs.length)))
    |none=>none)
   |none=>none
  |_=>none) else none
 |_,_=>none
def aN (n:Int) (len:Nat):Bool:=decide (0≤n)&&decide (n<(len:Int))
def ca (Θ:db) (S:St) (dst:Option Nat) (T:TypeId) (x ix:Operand):zR:=match S.dM Θ 0 x,S.kU Θ ix with
 |some (.v ⟨.sl t,m,xs⟩ ex),some n=>bif Θ.is T (.sl t) then(match m,x with
  | .k,_=>some (aN n xs.length,S.put dst (.v ⟨.ptr t,.k,xs.getD n.toNat t.z⟩ []))
  | .o ..,.tmp j=>match S.c7 j [.idx n.toNat] with
   |some _=>some (aN n xs.length,S.put dst (.ad t j [.idx n.toNat]))
   |none=>none
  |_,_=>none) else none
 |some (.al (.sl t) s p),some n=>bif Θ.is T (.sl t) then(match S.c7 s p with
  |some ⟨.sl t',.k,xs⟩=>some (aN n xs.length,S.put dst (.v ⟨.ptr t',.k,xs.getD n.toNat t'.z⟩ []))
  |some ⟨.sl t',.o ..,xs⟩=>match S.c7 s (p++[.idx n.toNat]) with
   |some _=>some (aN n xs.length,S.put dst (.ad t' s (p++[.idx n.toNat])))
   |none=>none
  |_=>none) else none
 |_,_=>none
def H5 (Θ:db) (S:St) (dst:Option Nat) (T:TypeId) (x ix:Operand):zR:=match S.rd Θ 0 x,S.kU Θ ix with
 |some ⟨.str,_,s⟩,some n=>bif Θ.is T .str then some (aN n s.size,S.put dst (.v ⟨.int .u8,.k,bt s n⟩ [])) else none
 |_,_=>none
def fC (S:St) (dst:Option Nat) (x:Operand) (j:Nat):zR:=match x with
 | .tmp i=>match S.at i with
  | .th l=>match l.getD j none with
   |some a=>bif a.m.bM then some (true,S.put dst (.v a [])) else(match dst with
    |some d=>bif Nat.beq d i then none else some (true,St.put (S.set i (.th (l.set j none))) (some d) (.v a []))
    |none=>none)
   |none=>none
  |_=>none
 |_=>none
def gy (Θ:db) (S:St) (d:Int):Option Operand→Option Int
 |none=>some d
 |some x=>S.kU Θ x
def dW (Θ:db) (S:St) (dst:Option Nat) (T:TypeId) (x:Operand) (lo hi mx:Option Operand):zR:=match S.dM Θ 0 x,S.rd Θ 0 x,gy Θ S 0 lo with
 |some a,some ⟨.str,_,s⟩,some l=>match mx,gy Θ S (s.size:Int) hi with
  |none,some h=>bif Θ.is T .str then some (decide (0≤l)&&decide (l≤h)&&decide (h≤(s.size:Int)),S.put dst (.v ⟨.str,.k,s.extract l.toNat h.toNat⟩ [])) else none
  |_,_=>none
 |some a,some ⟨.sl t,m,xs⟩,some l=>bif Θ.is T (.sl t) then(match gy Θ S (xs.length:Int) hi,mx,Θ.find T with
  |some h,none,_=>match m,a,x with
   | .k,_,_=>some (decide (0≤l)&&decide (l≤h)&&decide (h≤(xs.length:Int)),S.put dst (.v ⟨.sl t,.k,(xs.take h.toNat).drop l.toNat⟩ []))
   |_,.v ..,.tmp i=>some (decide (0≤l)&&decide (l≤h)&&decide (h≤(xs.length:Int)),S.put dst (.cut (.sl t) i [] l.toNat h.toNat))
   |_,.al _ s p,_=>some (decide (0≤l)&&decide (l≤h)&&decide (h≤(xs.length:Int)),S.put dst (.cut (.sl t) s p l.toNat h.toNat))
   |_,_,_=>none
  |some h,some z,some i=>match S.kU Θ z,hi with
   |some c,some _=>some (decide (l=0)&&decide (h=0)&&decide (c=0),S.put dst (.v ⟨.sl t,.o i.e none .k,[]⟩ []))
   |_,_=>none
  |_,_,_=>none) else none
 |_,_,_=>none
def bytesOf (xs:List Int):ByteArray:=xs.foldl (fun r n=>r.push (UInt8.ofNat n.toNat)) ByteArray.empty
def gg (Θ:db) (S:St) (dst:Option Nat) (T T':TypeId) (x:Operand):zR:=match S.rd Θ 0 x,Θ.find T,Θ.find T' with
 |some ⟨.int _,_,n⟩,some _,some ⟨_,.int k,_,_⟩=>some (true,S.put dst (.v ⟨.int k,.k,k.wrap n⟩ []))
 |some ⟨.sl (.int .u8),_,xs⟩,some ⟨_,.sl (.int .u8),_,_⟩,some ⟨_,.str,_,_⟩=>some (true,S.put dst (.v ⟨.str,.k,bytesOf xs⟩ []))
 |_,_,_=>none
def DK (Θ:db) (S:St) (dst:Option Nat) (op:BinOp) (T:TypeId) (x y:Operand):zR:=match S.rd Θ T x,S.rd Θ T y with
 |some a,some b=>match a.t with
  | .bool=>bif Θ.is T .bool then(match gp op a b with
   |some (g,r)=>some (g,S.put dst (.v r []))
   |none=>none) else none
  | .pair _ _=>bif Θ.is T a.t then(match gp op a b with
   |some (g,r)=>some (g,S.put dst (.v r []))
   |none=>none) else none
  |_=>match gp op a b with
   |some (g,r)=>some (g,S.put dst (.v r []))
   |none=>none
 |_,_=>none
def as4 (Θ:db) (S:St) (dst:Option Nat) (op:UnOp) (x:Operand):zR:=match S.rd Θ 0 x with
 |some a=>match ai7 op a with
  |some r=>some (true,S.put dst (.v r []))
  |none=>none
 |none=>none
def ga (Θ:db) (S:St) (dst:Option Nat) (T:TypeId) (l c:Operand):zR:=match Θ.find T,S.kU Θ l,S.kU Θ c with
 |some ⟨_,.sl t,e,_⟩,some n,some n'=>match qI Θ e with
  |some z=>if z.t=t then some (decide (n=n')&&decide (0≤n)&&decide (n≤1099511627776),S.put dst (.v ⟨.sl t,.o e none z.m,List.replicate n.toNat t.z⟩ [])) else none
  |none=>none
 |_,_,_=>none
def arC (S:St):Operand→Option H3
 | .tmp i=>match S.at i with
  | .v ⟨.ptr t,.o ..,_⟩ _=>some (H3.pl t i [])
  | .v ⟨.ptr t,.k,y⟩ _=>some (H3.kv ⟨.ptr t,.k,y⟩)
  | .al (.ptr t) s p=>some (H3.pl t s p)
  |_=>none
 |_=>none
def DL (S:St):List Operand→Option (List H3)
 |[]=>some []
 |x::r=>match arC S x,DL S r with
  |some c,some l=>some (c::l)
  |_,_=>none
def ub (S:St) (dst:Option Nat) (f:FuncId) (first cw:List Operand):zR:=match first,DL S cw with
 |[],some l=>match dst with
  |some d=>bif AV.refs d (.k8 f l) then none else some (true,S.put dst (.k8 f l))
  |none=>none
 |_,_=>none
def arD:TV→Option Int
 |⟨.sl _,_,xs⟩=>some (xs.length:Int)
 |⟨.str,_,b⟩=>some (b.size:Int)
 |_=>none
def acg (Θ:db) (S:St) (dst:Option Nat) (ts:List TypeId) (as:List Operand):zR:=match as,ts with
 |[x],[T]=>match (match S.dM Θ 0 x with
   |some (.v a ex)=>bif ex.any List.isEmpty then none else some a
   |some (.al t s p)=>(match S.place s p with
    |some b=>some b
    |none=>match S.c7 s p with
     |some ⟨.sl t,m,xs⟩=>some ⟨.sl t,m,xs⟩
     |_=>none)
   |some a=>S.so a
   |none=>none) with
  |some b=>bif Θ.is T b.t then(match arD b with
   |some n=>some (true,S.put dst (.v ⟨.int .i64,.k,n⟩ []))
   |none=>none) else none
  |none=>none
 |_,_=>none
def cc (Θ:db) (S:St) (dst:Option Nat) (ts:List TypeId) (as:List Operand):zR:=match as,ts with
 |[x,y],[T,T']=>match S.take Θ T x,Θ.find T with
  |some (⟨.sl t,.o e _ me,xs⟩,S1),some i=>bif decide (i.ty=.sl t)&&Nat.beq i.e e&&Θ.is T' (.sl t) then
    (bif me.bM then(match S1.rd Θ T' y with
     |some ⟨.sl t',m',ys⟩=>bif m'.GQ.bM then(if h:t'=t then
       some (decide ((xs.length+ys.length)*t.size≤4398046511104),S1.put dst (.v ⟨.sl t,.o e none me,xs++(h▸ys)⟩ [])) else none) else none
     |_=>none)
    else(match S1.take Θ T' y with
     |some (⟨.sl t',m',ys⟩,S2)=>if h:t'=t then
       (if m'.GQ=me then some (decide ((xs.length+ys.length)*t.size≤4398046511104),S2.put dst (.v ⟨.sl t,.o e none me,xs++(h▸ys)⟩ [])) else none) else none
     |_=>none)) else none
  |_,_=>none
 |_,_=>none
def fD (Θ:db) (S:St) (dst:Option Nat) (ts:List TypeId) (as:List Operand):zR:=match as,ts with
 |[x,y],[T,T']=>match S.dM Θ T x with
  |some (.al _ s (st::pp))=>(match S.at s with
   | .v r ex=>(match a8 (st::pp) r.t r.m r.x,Θ.find T with
    |some ⟨.sl t,.o e _ me,xs⟩,some i=>bif decide (i.ty=.sl t)&&Nat.beq i.e e&&Θ.is T' (.sl t)&&me.bM then
      (match St.rd Θ (((S.weaken s).cover s (st::pp)).set s (.v r (ex++[st::pp]))) T' y with
      |some ⟨.sl t',m',ys⟩=>bif m'.GQ.bM then(if h:t'=t then
        some (ex.all (fun h=>!oA h (st::pp))&&decide ((xs.length+ys.length)*t.size≤4398046511104),St.put (((S.weaken s).cover s (st::pp)).set s (.v r (ex++[st::pp]))) dst (.v ⟨.sl t,.o e none me,xs++(h▸ys)⟩ [])) else none) else none
      |_=>none) else none
    |_,_=>none)
   |_=>none)
  |_=>none
 |_,_=>none
def ev (Θ:db) (hn:Hn) (S:St) (o:Oper):zR:=match o.op with
 | .move x=>oD Θ S o.dst o.type x
 | .assign x=>DJ Θ S o.dst o.type x
 | .pick c a b=>Q' Θ S o.dst o.type c a b
 | .alloc T=>oH Θ hn S o.dst T
 | .box T x=>ace Θ S o.dst T x
 | .build T ps=>Da Θ S o.dst T ps.toList
 | .buildSlice T n ps=>bG Θ hn S o.dst T n ps.toList
 | .load T x=>fY Θ S o.dst T x
 | .store T x y=>match o.dst with
  |none=>(match k9 Θ S T x y with
   |some (g,S1)=>some (g,oI Θ S S1 T y)
   |none=>none)
  |some _=>none
 | .nilCheck x=>ua Θ S o.dst x
 | .fieldAddr T x f=>fZ Θ S o.dst T x f
 | .field T x f=>H4 Θ S o.dst T x f
 | .indexAddr T x ix=>ca Θ S o.dst T x ix
 | .index T x ix=>H5 Θ S o.dst T x ix
 | .extract x j=>fC S o.dst x j
 | .slice T x lo hi mx=>dW Θ S o.dst T x lo hi mx
 | .convert T T' x=>gg Θ S o.dst T T' x
 | .binOp op T x y _=>DK Θ S o.dst op T x y
 | .unOp op _ x=>as4 Θ S o.dst op x
 | .makeSlice T l c=>ga Θ S o.dst T l c
 | .makeFunc (.func f) first cw=>ub S o.dst f first.toList cw.toList
 | .call { callee:=.builtin .len,args:=as,argTypes:=ts }=>acg Θ S o.dst ts.toList as.toList
 | .call { callee:=.builtin .append,args:=as,argTypes:=ts }=>match cc Θ S o.dst ts.toList as.toList with
  |some r=>some r
  |none=>fD Θ S o.dst ts.toList as.toList
 |_=>none
end Go.Pv
namespace Go.Pv
set_option linter.unusedVariables false
set_option linter.unusedSimpArgs false
variable {w w':World} {Wr qk:Nat→Prop} {H:Nat→Value}
theorem kh {α:Type} (n:Nat):∀ {eI:List (List α)},(∀ c∈eI,c.length=n)→eI.flatten.length=eI.length*n
 |[],_=>by simp
 |c::r,h=>by
  have h1:=h c (by simp)
  have h2:=kh n (eI:=r) fun c hc=>h c (by simp[hc])
  simp[h1,h2,Nat.add_mul,Nat.add_comm]
theorem kG:∀ (t:Ty) {x:t.I} {cs:List Value},K w Wr t x cs→cs.length=t.size∧∀ u∈cs,u.oneCell'=true
 | .int k,n,cs,h=>by simp only[K] at h;subst h;exact⟨rfl,by simp[Value.oneCell']⟩
 | .bool,n,cs,h=>by simp only[K] at h;subst h;exact⟨rfl,by simp[Value.oneCell']⟩
 | .str,n,cs,h=>by simp only[K] at h;subst h;exact⟨rfl,by simp[Value.oneCell']⟩
 | .unit,n,cs,h=>by simp only[K] at h;subst h;exact⟨rfl,by simp⟩
 | .pair a b,x,cs,h=>by
  simp only[K] at h
  obtain⟨c0,c1,rfl,h0,h1⟩:=h
  obtain⟨l0,o0⟩:=kG a h0
  obtain⟨l1,o1⟩:=kG b h1
  refine⟨by simp[l0,l1,Ty.size],fun u hu=>?_⟩
  rcases List.mem_append.1 hu with hu |hu
  ·exact o0 u hu
  ·exact o1 u hu
 | .arr n t,xs,cs,h=>by
  simp only[K] at h
  obtain⟨eI,rfl,hl,hx,hj⟩:=h
  have gh:∀ c∈eI,c.length=t.size∧∀ u∈c,u.oneCell'=true:=by
   intro c hc
   obtain⟨j,Gs,rfl⟩:=List.mem_iff_getElem.1 hc
   exact kG t (hj j (by omega) Gs)
  refine⟨by rw[kh t.size fun c hc=>(gh c hc).1,hl];rfl,fun u hu=>?_⟩
  obtain⟨c,hc,hu⟩:=List.mem_flatten.1 hu
  exact(gh c hc).2 u hu
 | .sl t,xs,cs,h=>by
  simp only[K] at h
  obtain⟨A,c,rfl,_⟩:=h
  exact⟨rfl,by simp[Value.oneCell']⟩
 | .ptr t,xs,cs,h=>by
  simp only[K] at h
  obtain⟨g,off,cur,T,fr,rfl,_⟩:=h
  exact⟨rfl,by simp[Value.oneCell']⟩
structure aU (w w':World) (Wr qk:Nat→Prop):Prop where
 same:∀ g,¬Wr g→g<w.heap.size→w'.heap[g]?=w.heap[g]?
 wr:∀ g,g<w.heap.size→qk g→Wr g
theorem aU.refl (w:World) (Wr:Nat→Prop):aU w w Wr Wr:=⟨fun _ _ _=>rfl,fun _ _ h=>h⟩
theorem bg {α:Type} {a:Array α} {g:Nat} {o:α} (h:a[g]?=some o):g<a.size:=(Array.getElem?_eq_some_iff.1 h).1
theorem bV (hs:aU w w' Wr qk):∀ (t:Ty) {x:t.I} {cs:List Value},K w Wr t x cs→K w' qk t x cs
 | .int k,n,cs,h=>h
 | .bool,n,cs,h=>h
 | .str,n,cs,h=>h
 | .unit,n,cs,h=>h
 | .pair a b,x,cs,h=>by
  simp only[K] at h ⊢
  obtain⟨c0,c1,rfl,h0,h1⟩:=h
  exact⟨c0,c1,rfl,bV hs a h0,bV hs b h1⟩
 | .arr n t,xs,cs,h=>by
  simp only[K] at h ⊢
  obtain⟨eI,rfl,hl,hx,hj⟩:=h
  exact⟨eI,rfl,hl,hx,fun j h1 h2=>bV hs t (hj j h1 h2)⟩
 | .sl t,xs,cs,h=>by
  simp only[K] at h ⊢
  obtain⟨A,c,rfl,hc,h⟩:=h
  refine⟨A,c,rfl,hc,fun hp=>?_⟩
  obtain⟨g,off,cur,T,fr,rfl,hg,hw,ho,hj⟩:=h hp
  have cP:=bg hw
  exact⟨g,off,cur,T,fr,rfl,fun bo=>hg (hs.wr g cP bo),(hs.same g hg cP).trans hw,ho,fun j Gs=>bV hs t (hj j Gs)⟩
 | .ptr t,x,cs,h=>by
  simp only[K] at h ⊢
  obtain⟨g,off,cur,T,fr,rfl,hg,hw,ho,hj⟩:=h
  have cP:=bg hw
  exact⟨g,off,cur,T,fr,rfl,fun bo=>hg (hs.wr g cP bo),(hs.same g hg cP).trans hw,ho,bV hs t hj⟩
theorem eo:∀ (t:Ty) {m:Md} {x:t.I} {cs:List Value} {ow:Nat→Prop} {hs:List Path},M w Wr H t m x cs ow hs→cs.length=t.size∧∀ u∈cs,u.oneCell'=true
 | .int k,m,n,cs,_,_,h=>kG (.int k) (by simp only[M] at h;exact h.2)
 | .bool,m,n,cs,_,_,h=>kG .bool (by simp only[M] at h;exact h.2)
 | .str,m,n,cs,_,_,h=>kG .str (by simp only[M] at h;exact h.2)
 | .unit,m,n,cs,_,_,h=>kG .unit (by simp only[M] at h;exact h.2)
 | .arr n t,m,_,cs,_,_,h=>kG (.arr n t) (by simp only[M] at h;exact h.2)
 | .pair a b,m,x,cs,ow,hs,h=>by
  simp only[M] at h
  rcases h with⟨_,_,h⟩ |⟨_,h⟩ |⟨ma,mb,c0,c1,s,_,rfl,h0,h1⟩
  ·exact h
  ·exact kG _ h
  ·obtain⟨l0,o0⟩:=eo a h0
   obtain⟨l1,o1⟩:=eo b h1
   refine⟨by simp[l0,l1,Ty.size],fun u hu=>?_⟩
   rcases List.mem_append.1 hu with hu |hu
   ·exact o0 u hu
   ·exact o1 u hu
 | .sl t,m,xs,cs,ow,hs,h=>by
  simp only[M] at h
  rcases h with⟨_,_,A,c,rfl⟩ |⟨_,h⟩ |⟨T,tag,me,A,c,_,rfl,_⟩
  ·exact⟨rfl,by simp[Value.oneCell']⟩
  ·exact kG _ h
  ·exact⟨rfl,by simp[Value.oneCell']⟩
 | .ptr t,m,xs,cs,ow,hs,h=>by
  simp only[M] at h
  rcases h with⟨_,_,h⟩ |⟨_,h⟩ |⟨T,tag,me,g,cur,_,rfl,_⟩
  ·exact h
  ·exact kG _ h
  ·exact⟨rfl,by simp[Value.oneCell']⟩
theorem dh {s:Step} {p:Path} {hs:List Path}:p∈sub s hs↔(s::p)∈hs:=by
 unfold sub
 rw[List.mem_filterMap]
 constructor
 ·rintro⟨q,hq,h⟩
  cases q with
  |nil=>simp at h
  |cons a r=>by_cases e:a=s<;>simp[e] at h;subst h e;exact hq
 ·intro h
  exact⟨_,h,by simp⟩
theorem lN {s:Step} {hs nC:List Path} (h:∀ p∈hs,p∈nC):∀ p∈sub s hs,p∈sub s nC:=fun p hp=>dh.2 (h _ (dh.1 hp))
theorem aJ (bU:aU w w' Wr qk):∀ (t:Ty) {m:Md} {x:t.I} {cs:List Value} {ow cC:Nat→Prop} {hs nC:List Path},
  (∀ g,ow g→g<w.heap.size→w'.heap[g]?=w.heap[g]?)→(∀ g,ow g→g<w.heap.size→cC g)→(∀ p∈hs,p∈nC)→M w Wr H t m x cs ow hs→M w' qk H t m x cs cC nC
 | .int k,m,n,cs,_,_,_,_,_,_,_,h=>by simp only[M] at h ⊢;exact h
 | .bool,m,n,cs,_,_,_,_,_,_,_,h=>by simp only[M] at h ⊢;exact h
 | .str,m,n,cs,_,_,_,_,_,_,_,h=>by simp only[M] at h ⊢;exact h
 | .unit,m,n,cs,_,_,_,_,_,_,_,h=>by simp only[M] at h ⊢;exact h
 | .arr n t,m,_,cs,_,_,_,_,_,_,_,h=>by simp only[M] at h ⊢;exact⟨h.1,bV bU _ h.2⟩
 | .pair a b,m,x,cs,ow,cC,hs,nC,hb,ho,hp,h=>by
  simp only[M] at h ⊢
  rcases h with⟨h1,h⟩ |⟨h1,h⟩ |⟨ma,mb,c0,c1,s,e,rfl,h0,h1⟩
  ·exact .inl ⟨hp _ h1,h⟩
  ·exact .inr (.inl ⟨h1,bV bU _ h⟩)
  ·exact .inr (.inr ⟨ma,mb,c0,c1,s,e,rfl,aJ bU a (fun g hg=>hb g hg.1) (fun g hg hl=>⟨ho g hg.1 hl,hg.2⟩) (lN hp) h0,
    aJ bU b (fun g hg=>hb g hg.1) (fun g hg hl=>⟨ho g hg.1 hl,hg.2⟩) (lN hp) h1⟩)
 | .sl t,m,xs,cs,ow,cC,hs,nC,hb,ho,hp,h=>by
  simp only[M] at h ⊢
  rcases h with⟨h1,h⟩ |⟨h1,h⟩ |⟨T,tag,me,A,c,e,rfl,hc,ht,h⟩
  ·exact .inl ⟨hp _ h1,h⟩
  ·exact .inr (.inl ⟨h1,bV bU _ h⟩)
  ·refine .inr (.inr ⟨T,tag,me,A,c,e,rfl,hc,ht,?_⟩)
   rcases h with h |⟨g,cur,τ,rfl,hg,hw,iB,hm,hj⟩
   ·exact .inl h
   ·have cP:=bg hw
    exact .inr ⟨g,cur,τ,rfl,ho g hg cP,(hb g hg cP).trans hw,iB,hm,fun j Gs=>aJ bU t (fun g' bo=>hb g' bo.1) (fun g' bo hl=>⟨ho g' bo.1 hl,bo.2⟩) (lN hp) (hj j Gs)⟩
 | .ptr t,m,x,cs,ow,cC,hs,nC,hb,ho,hp,h=>by
  simp only[M] at h ⊢
  rcases h with⟨h1,h⟩ |⟨h1,h⟩ |⟨T,tag,me,g,cur,e,rfl,ht,hg,hw,h⟩
  ·exact .inl ⟨hp _ h1,h⟩
  ·exact .inr (.inl ⟨h1,bV bU _ h⟩)
  ·have cP:=bg hw
   exact .inr (.inr ⟨T,tag,me,g,cur,e,rfl,ht,ho g hg cP,(hb g hg cP).trans hw,aJ bU t (fun g' bo=>hb g' bo.1) (fun g' bo hl=>⟨ho g' bo.1 hl,bo.2⟩) (lN hp) h⟩)
theorem M_K (hw:∀ g,g<w.heap.size→qk g→Wr g):∀ (t:Ty) {m:Md} {x:t.I} {cs:List Value} {ow:Nat→Prop} {hs:List Path},hs=[]→(∀ g,ow g→¬qk g)→M w Wr H t m x cs ow hs→K w qk t x cs
 | .int k,m,n,cs,_,_,_,_,h=>by simp only[M] at h;exact h.2
 | .bool,m,n,cs,_,_,_,_,h=>by simp only[M] at h;exact h.2
 | .str,m,n,cs,_,_,_,_,h=>by simp only[M] at h;exact h.2
 | .unit,m,n,cs,_,_,_,_,h=>by simp only[M] at h;exact h.2
 | .arr n t,m,_,cs,_,_,_,_,h=>by simp only[M] at h;exact bV ⟨fun _ _ _=>rfl,hw⟩ _ h.2
 | .pair a b,m,x,cs,ow,hs,e,hn,h=>by
  subst e
  simp only[M] at h
  rcases h with⟨h1,h⟩ |⟨h1,h⟩ |⟨ma,mb,c0,c1,s,e,rfl,h0,h1⟩
  ·simp at h1
  ·exact bV ⟨fun _ _ _=>rfl,hw⟩ _ h
  ·simp only[K]
   exact⟨c0,c1,rfl,M_K hw a rfl (fun g hg=>hn g hg.1) h0,M_K hw b rfl (fun g hg=>hn g hg.1) h1⟩
 | .sl t,m,xs,cs,ow,hs,e,hn,h=>by
  subst e
  simp only[M] at h
  rcases h with⟨h1,h⟩ |⟨h1,h⟩ |⟨T,tag,me,A,c,e,rfl,hc,ht,h⟩
  ·simp at h1
  ·exact bV ⟨fun _ _ _=>rfl,hw⟩ _ h
  ·simp only[K]
   refine⟨A,c,rfl,hc,fun hp=>?_⟩
   rcases h with⟨rfl,_⟩ |⟨g,cur,τ,rfl,hg,hh,iB,hm,hj⟩
   ·simp at hp
   ·exact⟨g,0,cur,T,(0,0),rfl,hn g hg,hh,by rw[iB];have:=Nat.mul_le_mul_right t.size hc;omega,fun j Gs=>by
     rw[Nat.zero_add];exact M_K hw t rfl (fun g' bo=>hn g' bo.1) (hj j Gs)⟩
 | .ptr t,m,x,cs,ow,hs,e,hn,h=>by
  subst e
  simp only[M] at h
  rcases h with⟨h1,h⟩ |⟨h1,h⟩ |⟨T,tag,me,g,cur,e,rfl,ht,hg,hh,h⟩
  ·simp at h1
  ·exact bV ⟨fun _ _ _=>rfl,hw⟩ _ h
  ·have hl:=(eo t h).1
   simp only[K]
   refine⟨g,0,cur,T,(0,0),rfl,hn g hg,hh,by rw[←hl];simp,?_⟩
   rw[List.drop_zero,List.take_of_length_le (by omega)]
   exact M_K hw t rfl (fun g' bo=>hn g' bo.1) h
end Go.Pv
namespace Go.Pv
set_option linter.unusedVariables false
set_option linter.unusedSimpArgs false
variable {w w':World} {Wr qk:Nat→Prop} {H:Nat→Value}
theorem fI:∀ (t:Ty) {x:t.I} {cs:List Value} {ow:Nat→Prop} {hs:List Path},K w Wr t x cs→M w Wr H t .k x cs ow hs
 | .int _,_,_,_,_,h=>by simp only[M];exact⟨rfl,h⟩
 | .bool,_,_,_,_,h=>by simp only[M];exact⟨rfl,h⟩
 | .str,_,_,_,_,h=>by simp only[M];exact⟨rfl,h⟩
 | .unit,_,_,_,_,h=>by simp only[M];exact⟨rfl,h⟩
 | .arr _ _,_,_,_,_,h=>by simp only[M];exact⟨rfl,h⟩
 | .pair _ _,_,_,_,_,h=>by simp only[M];exact .inr (.inl ⟨rfl,h⟩)
 | .sl _,_,_,_,_,h=>by simp only[M];exact .inr (.inl ⟨rfl,h⟩)
 | .ptr _,_,_,_,_,h=>by simp only[M];exact .inr (.inl ⟨rfl,h⟩)
theorem ft:∀ (t:Ty) {m:Md} {x:t.I} {cs:List Value} {ow:Nat→Prop} {hs:List Path},m.bM=true→M w Wr H t m x cs ow hs→K w Wr t x cs
 | .int _,_,_,_,_,_,_,h=>by simp only[M] at h;exact h.2
 | .bool,_,_,_,_,_,_,h=>by simp only[M] at h;exact h.2
 | .str,_,_,_,_,_,_,h=>by simp only[M] at h;exact h.2
 | .unit,_,_,_,_,_,_,h=>by simp only[M] at h;exact h.2
 | .arr _ _,_,_,_,_,_,_,h=>by simp only[M] at h;exact h.2
 | .sl _,m,_,_,_,_,hk,h=>by
  simp only[M] at h
  rcases h with⟨_,h,_⟩ |⟨_,h⟩ |⟨T,tag,me,A,c,rfl,_⟩
  ·rw[hk] at h;cases h
  ·exact h
  ·simp[Md.bM] at hk
 | .ptr _,m,_,_,_,_,hk,h=>by
  simp only[M] at h
  rcases h with⟨_,h,_⟩ |⟨_,h⟩ |⟨T,tag,me,g,cur,rfl,_⟩
  ·rw[hk] at h;cases h
  ·exact h
  ·simp[Md.bM] at hk
 | .pair a b,m,_,_,_,_,hk,h=>by
  simp only[M] at h
  rcases h with⟨_,h,_⟩ |⟨_,h⟩ |⟨ma,mb,c0,c1,s,rfl,rfl,h0,h1⟩
  ·rw[hk] at h;cases h
  ·exact h
  ·simp[Md.bM] at hk
   simp only[K]
   exact⟨c0,c1,rfl,ft a hk.1 h0,ft b hk.2 h1⟩
theorem nE {t:Ty} {m:Md} {x:t.I} {cs:List Value} {ow:Nat→Prop} {hs:List Path} (hk:m.bM=true) (h:K w Wr t x cs):M w Wr H t m x cs ow hs:=by
 cases t<;>simp only[M]<;>first |exact⟨hk,h⟩ |exact .inr (.inl ⟨hk,h⟩)
theorem oJ {m:Md} (h:m.bM=true):m.GQ.bM=true:=by cases m<;>simp_all [Md.bM,Md.GQ]
theorem Mc {m:Md} (h:m.bM=true):m.l.bM=true:=by cases m<;>simp_all [Md.bM,Md.l]
theorem Me {m:Md} (h:m.bM=true):m.r.bM=true:=by cases m<;>simp_all [Md.bM,Md.r]
theorem wK {a b:Ty} {ma mb:Md} {x:a.I} {y:b.I} {c0 c1:List Value} {ow s:Nat→Prop} {hs:List Path}
  (h0:M w Wr H a ma x c0 (fun g=>ow g∧s g) (sub .fst hs)) (h1:M w Wr H b mb y c1 (fun g=>ow g∧ ¬s g) (sub .snd hs)):
  M w Wr H (.pair a b) (mkM ma mb) (x,y) (c0++c1) ow hs:=by
 unfold mkM
 cases h:ma.bM&&mb.bM with
 |false=>simp only[cond_false,M];exact .inr (.inr ⟨ma,mb,c0,c1,s,rfl,rfl,h0,h1⟩)
 |true=>
  simp at h
  exact fI _ (by simp only[K];exact⟨c0,c1,rfl,ft a h.1 h0,ft b h.2 h1⟩)
def rowAt (w:World) (g off n:Nat):Option (List Value):=match w.heap[g]? with
 |some (.cells cur _ _)=>if off+n≤cur.size then some ((cur.toList.drop off).take n) else none
 |_=>none
def aS (w:World):Path→(t:Ty)→List Value→Option (List Value)
 |[],_,cs=>some cs
 | .deref::p,.ptr t,[.pointer (some ⟨g,off,none⟩)]=>(rowAt w g off t.size).bind (aS w p t)
 | .fst::p,.pair a _,cs=>aS w p a (cs.take a.size)
 | .snd::p,.pair a b,cs=>aS w p b (cs.drop a.size)
 | .idx i::p,.sl t,[.slice (some ⟨g,off,none⟩) _ _]=>(rowAt w g (off+i*t.size) t.size).bind (aS w p t)
 |_::_,_,_=>none
def addrAt (w:World):Path→(t:Ty)→List Value→Option (Nat×Nat)→Option (Nat×Nat)
 |[],_,_,l=>l
 | .deref::p,.ptr t,[.pointer (some ⟨g,off,none⟩)],_=>(rowAt w g off t.size).bind fun cs=>addrAt w p t cs (some (g,off))
 | .fst::p,.pair a _,cs,l=>addrAt w p a (cs.take a.size) l
 | .snd::p,.pair a b,cs,l=>addrAt w p b (cs.drop a.size) (l.map fun q=>(q.1,q.2+a.size))
 | .idx i::p,.sl t,[.slice (some ⟨g,off,none⟩) _ _],_=>(rowAt w g (off+i*t.size) t.size).bind fun cs=>addrAt w p t cs (some (g,off+i*t.size))
 |_::_,_,_,_=>none
def valid:Path→(t:Ty)→t.I→Prop
 |[],_,_=>True
 | .deref::p,.ptr t,x=>valid p t x
 | .fst::p,.pair a _,x=>valid p a x.1
 | .snd::p,.pair _ b,x=>valid p b x.2
 | .idx i::p,.sl t,xs=>i<xs.length∧valid p t (xs.getD i t.z)
 |_::_,_,_=>False
def wL:Path→List Path→List Path
 |[],hs=>hs
 |s::p,hs=>wL p (sub s hs)
theorem DM {p q:Path}:∀ {hs:List Path},q∈wL p hs↔(p++q)∈hs:=by
 induction p with
 |nil=>intro hs;rfl
 |cons s p ih=>intro hs;simp only[wL,ih,dh,List.cons_append]
def open_ (p:Path) (hs:List Path):Prop:=∀ h∈hs,∀ s r,p≠h++s::r
theorem open_.sub {s:Step} {p:Path} {hs:List Path} (h:open_ (s::p) hs):open_ p (sub s hs):=fun q hq s' r e=>h _ (dh.1 hq) s' r (by rw[e];rfl)
theorem open_.not_nil {s:Step} {p:Path} {hs:List Path} (h:open_ (s::p) hs):[]∉hs:=fun hn=>h [] hn s p rfl
theorem bA {cur:Array Value} {T:TypeId} {fr:Nat×Nat} {g off n:Nat} (h:w.heap[g]?=some (.cells cur T fr)) (hl:off+n≤cur.size):rowAt w g off n=some ((cur.toList.drop off).take n):=by
 simp[rowAt,h,hl]
theorem focus:∀ (p:Path) {t:Ty} {m:Md} {x:t.I} {cs:List Value} {ow:Nat→Prop} {hs:List Path} {b:TV},M w Wr H t m x cs ow hs→open_ p hs→valid p t x→a8 p t m x=some b→
  ∃ cK cC,aS w p t cs=some cK∧(∀ g,cC g→ow g)∧M w Wr H b.t b.m b.x cK cC (wL p hs)
 |[],t,m,x,cs,ow,hs,b,h,ho,hv,hg=>by
  simp only[a8,Option.some.injEq] at hg
  subst hg
  exact⟨cs,ow,rfl,fun _ h=>h,h⟩
 | .deref::p,.ptr t,m,x,cs,ow,hs,b,h,ho,hv,hg=>by
  simp only[a8] at hg
  simp only[valid] at hv
  simp only[M] at h
  rcases h with⟨hn,_⟩ |⟨hk,h⟩ |⟨T,tag,me,g,cur,rfl,rfl,ht,qm,hw,h⟩
  ·exact absurd hn ho.not_nil
  ·simp only[K] at h
   obtain⟨g,off,cur,T,fr,rfl,hng,hw,hl,h⟩:=h
   obtain⟨cK,cC,h1,h2,h3⟩:=focus p (ow:=fun _=>False) (nE (oJ hk) h) ho.sub hv hg
   exact⟨cK,cC,by simp only[aS,bA hw hl,Option.bind_some];exact h1,fun g hg=>(h2 g hg).elim,h3⟩
  ·have hlen:=(eo t h).1
   obtain⟨cK,cC,h1,h2,h3⟩:=focus p h ho.sub hv hg
   refine⟨cK,cC,?_,fun g hg=>(h2 g hg).1,h3⟩
   have iB:0+t.size≤cur.size:=by rw[←hlen];simp
   simp only[aS,bA hw iB,Option.bind_some,List.drop_zero]
   rw[List.take_of_length_le (by omega)]
   exact h1
 | .fst::p,.pair a b',m,x,cs,ow,hs,b,h,ho,hv,hg=>by
  simp only[a8] at hg
  simp only[valid] at hv
  simp only[M] at h
  rcases h with⟨hn,_⟩ |⟨hk,h⟩ |⟨ma,mb,c0,c1,s,rfl,rfl,h0,h1⟩
  ·exact absurd hn ho.not_nil
  ·simp only[K] at h
   obtain⟨c0,c1,rfl,h0,h1⟩:=h
   obtain⟨cK,cC,k1,k2,k3⟩:=focus p (ow:=fun _=>False) (nE (Mc hk) h0) ho.sub hv hg
   exact⟨cK,cC,by simp only[aS];rw[←(kG a h0).1,List.take_left];exact k1,fun g hg=>(k2 g hg).elim,k3⟩
  ·obtain⟨cK,cC,k1,k2,k3⟩:=focus p h0 ho.sub hv hg
   exact⟨cK,cC,by simp only[aS];rw[←(eo a h0).1,List.take_left];exact k1,fun g hg=>(k2 g hg).1,k3⟩
 | .snd::p,.pair a b',m,x,cs,ow,hs,b,h,ho,hv,hg=>by
  simp only[a8] at hg
  simp only[valid] at hv
  simp only[M] at h
  rcases h with⟨hn,_⟩ |⟨hk,h⟩ |⟨ma,mb,c0,c1,s,rfl,rfl,h0,h1⟩
  ·exact absurd hn ho.not_nil
  ·simp only[K] at h
   obtain⟨c0,c1,rfl,h0,h1⟩:=h
   obtain⟨cK,cC,k1,k2,k3⟩:=focus p (ow:=fun _=>False) (nE (Me hk) h1) ho.sub hv hg
   exact⟨cK,cC,by simp only[aS];rw[←(kG a h0).1,List.drop_left];exact k1,fun g hg=>(k2 g hg).elim,k3⟩
  ·obtain⟨cK,cC,k1,k2,k3⟩:=focus p h1 ho.sub hv hg
   exact⟨cK,cC,by simp only[aS];rw[←(eo a h0).1,List.drop_left];exact k1,fun g hg=>(k2 g hg).1,k3⟩
 | .idx i::p,.sl t,m,xs,cs,ow,hs,b,h,ho,hv,hg=>by
  simp only[a8] at hg
  simp only[valid] at hv
  obtain⟨hi,hv⟩:=hv
  have eF:(show List t.I from xs).getD i t.z=(show List t.I from xs)[i]:=by simp[List.getD_eq_getElem?_getD,List.getElem?_eq_getElem hi]
  simp only[M] at h
  rcases h with⟨hn,_⟩ |⟨hk,h⟩ |⟨T,tag,me,A,c,rfl,rfl,hc,ht,h⟩
  ·exact absurd hn ho.not_nil
  ·simp only[K] at h
   obtain⟨A,c,rfl,hc,h⟩:=h
   obtain⟨g,off,cur,T,fr,rfl,hng,hw,hl,h⟩:=h (by omega)
   have hbound:off+i*t.size+t.size≤cur.size:=by
    have:=Nat.mul_le_mul_right t.size (show i+1≤xs.length from hi)
    rw[Nat.add_mul,Nat.one_mul] at this
    omega
   have hK:=h i hi
   rw[←eF] at hK
   obtain⟨cK,cC,h1,h2,h3⟩:=focus p (ow:=fun _=>False) (nE (oJ hk) hK) ho.sub hv hg
   exact⟨cK,cC,by simp only[aS,bA hw hbound,Option.bind_some];exact h1,fun g hg=>(h2 g hg).elim,h3⟩
  ·rcases h with⟨rfl,_⟩ |⟨g,cur,τ,rfl,qm,hw,iB,hm,h⟩
   ·simp at hi
   ·have hbound:i*t.size+t.size≤cur.size:=by
     have h1:=Nat.mul_le_mul_right t.size (show i+1≤xs.length from hi)
     have h2:=Nat.mul_le_mul_right t.size hc
     rw[Nat.add_mul,Nat.one_mul] at h1
     omega
    have hM:=h i hi
    rw[←eF] at hM
    obtain⟨cK,cC,h1,h2,h3⟩:=focus p hM ho.sub hv hg
    exact⟨cK,cC,by simp only[aS,Nat.zero_add,bA hw hbound,Option.bind_some];exact h1,fun g hg=>(h2 g hg).1,h3⟩
end Go.Pv
namespace Go.Pv
set_option linter.unusedVariables false
set_option linter.unusedSimpArgs false
variable {w w':World} {Wr qk:Nat→Prop} {H:Nat→Value}
def putCells (cur:List Value) (off:Nat) (c:List Value):List Value:=cur.take off++c++cur.drop (off+c.length)
theorem gR (cur c:List Value) (off k:Nat) (h:off+c.length≤cur.length):
  (putCells cur off c)[k]?=if k<off then cur[k]? else if k<off+c.length then c[k - off]? else cur[k]?:=by
 unfold putCells
 have hl:(cur.take off).length=off:=by rw[List.length_take];omega
 by_cases h1:k<off
 ·rw[if_pos h1,List.append_assoc,List.getElem?_append_left (by omega),List.getElem?_take,if_pos h1]
 ·rw[if_neg h1]
  by_cases h2:k<off+c.length
  ·rw[if_pos h2,List.append_assoc,List.getElem?_append_right (by omega),hl,List.getElem?_append_left (by omega)]
  ·rw[if_neg h2,List.getElem?_append_right (by rw[List.length_append];omega),List.length_append,hl,List.getElem?_drop]
   congr 1
   omega
theorem gS (cur c:List Value) (off:Nat) (h:off+c.length≤cur.length):(putCells cur off c).length=cur.length:=by
 unfold putCells
 simp only[List.length_append,List.length_take,List.length_drop]
 omega
theorem as5 (cur c:List Value) (a off n:Nat) (h1:off+c.length≤n) (h2:a+n≤cur.length):
  ((putCells cur (a+off) c).drop a).take n=putCells ((cur.drop a).take n) off c:=by
 apply List.ext_getElem?
 intro k
 have hl:((cur.drop a).take n).length=n:=by simp;omega
 rw[gR _ _ _ _ (by omega)]
 by_cases hk:k<n
 ·rw[List.getElem?_take,if_pos hk,List.getElem?_drop,gR _ _ _ _ (by omega)]
  simp only[List.getElem?_take,if_pos hk,List.getElem?_drop]
  by_cases h3:k<off
  ·rw[if_pos h3,if_pos (by omega)]
  ·rw[if_neg h3,if_neg (by omega)]
   by_cases h4:k<off+c.length
   ·rw[if_pos h4,if_pos (by omega)];congr 1;omega
   ·rw[if_neg h4,if_neg (by omega)]
 ·rw[List.getElem?_take,if_neg hk,if_neg (by omega),if_neg (by omega),List.getElem?_take,if_neg hk]
theorem ai8 (cur c:List Value) (o a n:Nat) (h:o+c.length≤cur.length) (hd:a+n≤o∨o+c.length≤a):
  ((putCells cur o c).drop a).take n=(cur.drop a).take n:=by
 apply List.ext_getElem?
 intro k
 by_cases hk:k<n
 ·simp only[List.getElem?_take,if_pos hk,List.getElem?_drop]
  rw[gR _ _ _ _ h]
  by_cases h3:a+k<o
  ·rw[if_pos h3]
  ·rw[if_neg h3,if_neg (by omega)]
 ·simp only[List.getElem?_take,if_neg hk]
def aL:Path→Bool
 |[]=>true
 | .fst::p=>aL p
 | .snd::p=>aL p
 |_::_=>false
def aP:Path→Ty→Nat
 | .fst::p,.pair a _=>aP p a
 | .snd::p,.pair a b=>a.size+aP p b
 |_,_=>0
def oK:Path→Ty→List Value→List Value→List Value
 |[],_,_,c=>c
 | .fst::p,.pair a _,cs,c=>oK p a (cs.take a.size) c++cs.drop a.size
 | .snd::p,.pair a b,cs,c=>cs.take a.size++oK p b (cs.drop a.size) c
 |_,_,cs,_=>cs
def kH (w w':World) (loc:Option (Nat×Nat)) (c:List Value) (g:Nat):Prop:=match loc with
 |some q=>if g=q.1 then ∃ cur T,w.heap[g]?=some (.cells cur T (0,0))∧w'.heap[g]?=some (.cells (putCells cur.toList q.2 c).toArray T (0,0)) else w'.heap[g]?=w.heap[g]?
 |none=>w'.heap[g]?=w.heap[g]?
theorem dX:∀ (p:Path) {t:Ty} {m:Md} {x:t.I} {b:TV},aL p=true→a8 p t m x=some b→aP p t+b.t.size≤t.size
 |[],t,m,x,b,_,hg=>by simp only[a8,Option.some.injEq] at hg;subst hg;simp[aP]
 | .fst::p,.pair a b',m,x,b,hm,hg=>by
  simp only[a8] at hg
  have:=dX p (by simpa[aL] using hm) hg
  simp only[aP,Ty.size];omega
 | .snd::p,.pair a b',m,x,b,hm,hg=>by
  simp only[a8] at hg
  have:=dX p (by simpa[aL] using hm) hg
  simp only[aP,Ty.size];omega
theorem dY:∀ (p:Path) {t:Ty} {cs:List Value},aL p=true→addrAt w p t cs none=none
 |[],_,_,_=>rfl
 | .fst::p,.pair a b,cs,h=>by simp only[addrAt];exact dY p (by simpa[aL] using h)
 | .snd::p,.pair a b,cs,h=>by simp only[addrAt,Option.map_none];exact dY p (by simpa[aL] using h)
 | .fst::p,.int _,_,_ | .fst::p,.bool,_,_ | .fst::p,.str,_,_ | .fst::p,.sl _,_,_ | .fst::p,.ptr _,_,_ | .fst::p,.unit,_,_ | .fst::p,.arr _ _,_,_=>by simp[addrAt]
 | .snd::p,.int _,_,_ | .snd::p,.bool,_,_ | .snd::p,.str,_,_ | .snd::p,.sl _,_,_ | .snd::p,.ptr _,_,_ | .snd::p,.unit,_,_ | .snd::p,.arr _ _,_,_=>by simp[addrAt]
theorem iG:∀ (p:Path) {t:Ty} {m:Md} {x:t.I} {cs:List Value} {b:TV} {g o:Nat},aL p=true→a8 p t m x=some b→addrAt w p t cs (some (g,o))=some (g,o+aP p t)
 |[],_,_,_,_,_,_,_,_,_=>by simp[addrAt,aP]
 | .fst::p,.pair a b,m,x,cs,_,_,_,h,hg=>by simp only[a8] at hg;simp only[addrAt,aP];exact iG p (by simpa[aL] using h) hg
 | .snd::p,.pair a b,m,x,cs,_,g,o,h,hg=>by
  simp only[a8] at hg;simp only[addrAt,aP,Option.map_some]
  rw[iG p (by simpa[aL] using h) hg,Nat.add_assoc]
theorem mJ:∀ (p:Path) {t:Ty} {cs:List Value} (l l':Option (Nat×Nat)),aL p=false→addrAt w p t cs l=addrAt w p t cs l'
 |[],_,_,_,_,h=>by simp[aL] at h
 | .fst::p,.pair a b,cs,l,l',h=>by simp only[addrAt];exact mJ p _ _ (by simpa[aL] using h)
 | .snd::p,.pair a b,cs,l,l',h=>by simp only[addrAt];exact mJ p _ _ (by simpa[aL] using h)
 | .deref::p,.ptr t,cs,l,l',h=>by
  unfold addrAt
  split<;>simp_all
 | .idx i::p,.sl t,cs,l,l',h=>by
  unfold addrAt
  split<;>simp_all
 | .fst::p,.int _,_,_,_,_ | .fst::p,.bool,_,_,_,_ | .fst::p,.str,_,_,_,_ | .fst::p,.sl _,_,_,_,_ | .fst::p,.ptr _,_,_,_,_ | .fst::p,.unit,_,_,_,_ | .fst::p,.arr _ _,_,_,_,_=>by simp[addrAt]
 | .snd::p,.int _,_,_,_,_ | .snd::p,.bool,_,_,_,_ | .snd::p,.str,_,_,_,_ | .snd::p,.sl _,_,_,_,_ | .snd::p,.ptr _,_,_,_,_ | .snd::p,.unit,_,_,_,_ | .snd::p,.arr _ _,_,_,_,_=>by simp[addrAt]
 | .deref::p,.int _,_,_,_,_ | .deref::p,.bool,_,_,_,_ | .deref::p,.str,_,_,_,_ | .deref::p,.sl _,_,_,_,_ | .deref::p,.pair _ _,_,_,_,_ | .deref::p,.unit,_,_,_,_ | .deref::p,.arr _ _,_,_,_,_=>by simp[addrAt]
 | .idx _::p,.int _,_,_,_,_ | .idx _::p,.bool,_,_,_,_ | .idx _::p,.str,_,_,_,_ | .idx _::p,.ptr _,_,_,_,_ | .idx _::p,.pair _ _,_,_,_,_ | .idx _::p,.unit,_,_,_,_ | .idx _::p,.arr _ _,_,_,_,_=>by simp[addrAt]
theorem ep:∀ (p:Path) {t:Ty} {m:Md} {x:t.I} {cs:List Value} {b:TV},aL p=true→a8 p t m x=some b→cs.length=t.size→aS w p t cs=some ((cs.drop (aP p t)).take b.t.size)
 |[],t,m,x,cs,b,_,hg,hl=>by
  simp only[a8,Option.some.injEq] at hg;subst hg
  simp only[aS,aP,List.drop_zero]
  rw[List.take_of_length_le (by show cs.length≤t.size;omega)]
 | .fst::p,.pair a b',m,x,cs,b,h,hg,hl=>by
  simp only[a8] at hg;simp only[Ty.size] at hl
  have hf:=dX p (by simpa[aL] using h) hg
  simp only[aS,aP]
  rw[ep p (by simpa[aL] using h) hg (by rw[List.length_take];omega),List.drop_take,List.take_take]
  congr 2;omega
 | .snd::p,.pair a b',m,x,cs,b,h,hg,hl=>by
  simp only[a8] at hg;simp only[Ty.size] at hl
  simp only[aS,aP]
  rw[ep p (by simpa[aL] using h) hg (by rw[List.length_drop];omega),List.drop_drop]
theorem ki:∀ (p:Path) {t:Ty} {m:Md} {x:t.I} {cs c:List Value} {b:TV},aL p=true→a8 p t m x=some b→cs.length=t.size→c.length=b.t.size→oK p t cs c=putCells cs (aP p t) c
 |[],t,m,x,cs,c,b,_,hg,hl,hc=>by
  simp only[a8,Option.some.injEq] at hg;subst hg
  simp only[oK,aP,putCells,List.take_zero,List.nil_append,Nat.zero_add]
  rw[List.drop_of_length_le (by have hc':c.length=t.size:=hc;omega),List.append_nil]
 | .fst::p,.pair a b',m,x,cs,c,b,h,hg,hl,hc=>by
  simp only[a8] at hg;simp only[Ty.size] at hl
  have hf:=dX p (by simpa[aL] using h) hg
  simp only[oK,aP]
  rw[ki p (by simpa[aL] using h) hg (by rw[List.length_take];omega) hc]
  unfold putCells
  rw[List.take_take,Nat.min_eq_left (by omega),List.append_assoc,List.append_assoc,List.append_assoc,List.drop_take]
  congr 2
  rw[show cs.drop a.size=(cs.drop (aP p a+c.length)).drop (a.size - (aP p a+c.length)) from by rw[List.drop_drop];congr 1;omega,List.take_append_drop]
 | .snd::p,.pair a b',m,x,cs,c,b,h,hg,hl,hc=>by
  simp only[a8] at hg;simp only[Ty.size] at hl
  simp only[oK,aP]
  rw[ki p (by simpa[aL] using h) hg (by rw[List.length_drop];omega) hc]
  unfold putCells
  rw[←List.append_assoc,←List.append_assoc,←List.take_add,List.drop_drop]
  congr 2;omega
theorem jA:∀ (p:Path) {t:Ty} {cs c:List Value},aL p=false→oK p t cs c=cs
 |[],_,_,_,h=>by simp[aL] at h
 | .fst::p,.pair a b,cs,c,h=>by simp only[oK];rw[jA p (by simpa[aL] using h),List.take_append_drop]
 | .snd::p,.pair a b,cs,c,h=>by simp only[oK];rw[jA p (by simpa[aL] using h),List.take_append_drop]
 | .deref::p,t,cs,c,h=>by simp[oK]
 | .idx i::p,t,cs,c,h=>by simp[oK]
 | .fst::p,.int _,_,_,_ | .fst::p,.bool,_,_,_ | .fst::p,.str,_,_,_ | .fst::p,.sl _,_,_,_ | .fst::p,.ptr _,_,_,_ | .fst::p,.unit,_,_,_ | .fst::p,.arr _ _,_,_,_=>by simp[oK]
 | .snd::p,.int _,_,_,_ | .snd::p,.bool,_,_,_ | .snd::p,.str,_,_,_ | .snd::p,.sl _,_,_,_ | .snd::p,.ptr _,_,_,_ | .snd::p,.unit,_,_,_ | .snd::p,.arr _ _,_,_,_=>by simp[oK]
end Go.Pv
namespace Go.Pv
set_option linter.unusedVariables false
set_option linter.unusedSimpArgs false
variable {w w':World} {Wr qk:Nat→Prop} {H:Nat→Value}
def azm (w:World) (Wr:Nat→Prop) (H:Nat→Value) (p:Path) (t:Ty) (m:Md) (x:t.I) (cs:List Value) (ow cC:Nat→Prop) (hs:List Path) (b:TV) (cK:List Value):Prop:=
 ∀ (b2:TV) (r:Md×t.I),b2.t=b.t→fW b2 p t m x=some r→
  (∀ g off,addrAt w p t cs none=some (g,off)→ow g∧ ¬cC g∧∃ cur T,w.heap[g]?=some (.cells cur T (0,0))∧off+b.t.size≤cur.size∧cK=(cur.toList.drop off).take b.t.size)∧
  ∀ (w':World) (qk:Nat→Prop) (c:List Value) (jB:Nat→Prop) (nC:List Path),aU w w' Wr qk→c.length=b.t.size→
   (∀ g,ow g→¬cC g→g<w.heap.size→kH w w' (addrAt w p t cs none) c g)→M w' qk H b2.t b2.m b2.x c jB (wL p nC)→
   (∀ g,jB g→g<w.heap.size→ow g→cC g)→(∀ h,(∀ q,h≠p++q)→h∈hs→h∈nC)→
   M w' qk H t r.1 r.2 (oK p t cs c) (fun g=>(ow g∧ ¬cC g)∨jB g) nC
theorem lG {s:Step} {p:Path} {hs nC:List Path} (h:∀ h,(∀ q,h≠s::p++q)→h∈hs→h∈nC):∀ h,(∀ q,h≠p++q)→h∈sub s hs→h∈sub s nC:=fun q hq hm=>
 dh.2 (h _ (fun r e=>hq r (by rw[List.cons_append] at e;injection e)) (dh.1 hm))
theorem qK {s s':Step} (nF:s'≠s) {p:Path} {hs nC:List Path} (h:∀ h,(∀ q,h≠s::p++q)→h∈hs→h∈nC):∀ q∈sub s' hs,q∈sub s' nC:=fun q hq=>
 dh.2 (h _ (fun r e=>by rw[List.cons_append] at e;injection e with e _;exact nF e) (dh.1 hq))
theorem DN {b2:TV} {i:Nat} {p:Path} {t:Ty} {T:TypeId} {tag:Option Nat} {me:Md} {xs:List t.I} {r:Md×List t.I} (h:fW b2 (.idx i::p) (.sl t) (.o T tag me) xs=some r):
  ∃ r1,fW b2 p t me (List.getD xs i t.z)=some r1∧r1.1=me∧r=(.o T tag me,List.set xs i r1.2):=by
 unfold fW at h
 split at h
 ·rename_i r1 h1
  split at h
  ·rename_i h2
   injection h with h
   exact⟨r1,h1,h2,h.symm⟩
  ·cases h
 ·cases h
theorem zS:∀ (p:Path) {t:Ty} {m:Md} {x:t.I} {cs:List Value} {ow:Nat→Prop} {hs:List Path} {b:TV},M w Wr H t m x cs ow hs→open_ p hs→valid p t x→a8 p t m x=some b→
  ∃ cK cC,aS w p t cs=some cK∧(∀ g,cC g→ow g)∧M w Wr H b.t b.m b.x cK cC (wL p hs)∧azm w Wr H p t m x cs ow cC hs b cK
 |[],t,m,x,cs,ow,hs,b,h,ho,hv,hg=>by
  simp only[a8,Option.some.injEq] at hg
  subst hg
  refine⟨cs,ow,rfl,fun _ h=>h,h,fun b2 r ht hr=>⟨fun g off e=>by simp[addrAt] at e,fun w' qk c jB nC bU hc hb hm qG hh=>?_⟩⟩
  obtain⟨t2,m2,x2⟩:=b2
  simp only at ht
  subst ht
  simp only[fW,dite_true,Option.some.injEq] at hr
  subst hr
  exact aJ (aU.refl _ _) t2 (fun _ _ _=>rfl) (fun g hg _=>.inr hg) (fun _ h=>h) hm
 | .deref::p,.ptr t,m,x,cs,ow,hs,b,h,ho,hv,hg=>by
  simp only[a8] at hg
  simp only[valid] at hv
  simp only[M] at h
  rcases h with⟨hn,_⟩ |⟨hk,h⟩ |⟨T,tag,me,g,cur,rfl,rfl,ht,qm,hw,h⟩
  ·exact absurd hn ho.not_nil
  ·obtain⟨cK,cC,h1,h2,h3⟩:=focus (H:=H) (ow:=ow) (.deref::p) (nE (t:=.ptr t) hk h) ho hv (by simpa only[a8] using hg)
   exact⟨cK,cC,h1,h2,h3,fun b2 r _ hr=>by cases m<;>simp[fW,Md.bM] at hr hk⟩
  ·have hlen:=(eo t h).1
   obtain⟨cK,cC,h1,h2,h3,h4⟩:=zS p h ho.sub hv hg
   have iB:0+t.size≤cur.size:=by rw[←hlen];simp
   have gz:rowAt w g 0 t.size=some cur.toList:=by rw[bA hw iB,List.drop_zero,List.take_of_length_le (by omega)]
   refine⟨cK,cC,?_,fun g hg=>(h2 g hg).1,h3,fun b2 r zT hr=>?_⟩
   ·simp only[aS,gz,Option.bind_some];exact h1
   simp only[fW] at hr
   cases Q1:fW b2 p t me x with
   |none=>simp[Q1] at hr
   |some r1=>
    simp only[Q1,Option.some.injEq] at hr
    subst hr
    obtain⟨ha,kj⟩:=h4 b2 r1 zT Q1
    have nG:addrAt w (.deref::p) (.ptr t) [.pointer (some ⟨g,0,none⟩)] none=addrAt w p t cur.toList (some (g,0)):=by simp only[addrAt,gz,Option.bind_some]
    cases Ma:aL p with
    |true=>
     have dt:=iG (w:=w) (cs:=cur.toList) (g:=g) (o:=0) p Ma hg
     have wM:=dX p Ma hg
     have jq:=ep (w:=w) p Ma hg hlen
     rw[h1] at jq
     injection jq with jq
     rw[nG,dt]
     refine⟨fun g' off e=>?_,fun w' qk c jB nC bU hc hb hm qG hh=>?_⟩
     ·injection e with e
      injection e with e1 e2
      subst e1 e2
      exact⟨qm,fun hx=>(h2 g hx).2 rfl,cur,T,hw,by rw[←hlen] at wM;simp at wM ⊢;omega,by rw[Nat.zero_add];exact jq⟩
     ·have cP:=bg hw
      have bo:=hb g qm (fun hx=>(h2 g hx).2 rfl) cP
      simp only[kH,if_true,Nat.zero_add] at bo
      obtain⟨fR,T2,e2,tk⟩:=bo
      rw[hw] at e2
      injection e2 with e2
      injection e2 with e2 e3
      subst e2 e3
      have hM:=kj w' qk c jB (sub .deref nC) bU hc (fun g' ek qC hl=>by
       rw[dY p Ma]
       have:=hb g' ek.1 qC hl
       simp only[kH,ek.2,if_false] at this
       exact this) hm (fun g' ek hl qC=>qG g' ek hl qC.1) (lG hh)
      rw[ki p Ma hg hlen hc] at hM
      simp only[oK,M]
      refine .inr (.inr ⟨T,tag,r1.1,g,_,rfl,rfl,ht,.inl ⟨qm,fun hx=>(h2 g hx).2 rfl⟩,tk,?_⟩)
      refine aJ (aU.refl _ _) t (fun _ _ _=>rfl) (fun g' ek hl=>?_) (fun _ h=>h) hM
      rcases ek with⟨⟨a1,a2⟩,a3⟩ |a
      ·exact⟨.inl ⟨a1,a3⟩,a2⟩
      ·refine⟨.inr a,fun e=>?_⟩
       subst e
       exact(h2 g' (qG g' a cP qm)).2 rfl
    |false=>
     have dt:=mJ (w:=w) (t:=t) (cs:=cur.toList) p (some (g,0)) none Ma
     rw[nG,dt]
     refine⟨fun g' off e=>?_,fun w' qk c jB nC bU hc hb hm qG hh=>?_⟩
     ·obtain⟨a1,a2,a3⟩:=ha g' off e
      exact⟨a1.1,a2,a3⟩
     ·have cP:=bg hw
      have hM:=kj w' qk c jB (sub .deref nC) bU hc (fun g' ek qC hl=>hb g' ek.1 qC hl) hm (fun g' ek hl qC=>qG g' ek hl qC.1) (lG hh)
      rw[jA p Ma] at hM
      have tk:w'.heap[g]?=some (.cells cur T (0,0)):=by
       have bo:=hb g qm (fun hx=>(h2 g hx).2 rfl) cP
       cases oM:addrAt w p t cur.toList none with
       |none=>rw[oM] at bo;exact bo.trans hw
       |some q=>
        rw[oM] at bo
        have nF:g≠q.1:=fun e=>(ha q.1 q.2 oM).1.2 e.symm
        simp only[kH,nF,if_false] at bo
        exact bo.trans hw
      simp only[oK,M]
      refine .inr (.inr ⟨T,tag,r1.1,g,_,rfl,rfl,ht,.inl ⟨qm,fun hx=>(h2 g hx).2 rfl⟩,tk,?_⟩)
      refine aJ (aU.refl _ _) t (fun _ _ _=>rfl) (fun g' ek hl=>?_) (fun _ h=>h) hM
      rcases ek with⟨⟨a1,a2⟩,a3⟩ |a
      ·exact⟨.inl ⟨a1,a3⟩,a2⟩
      ·refine⟨.inr a,fun e=>?_⟩
       subst e
       exact(h2 g' (qG g' a cP qm)).2 rfl
 | .fst::p,.pair a b',m,x,cs,ow,hs,b,h,ho,hv,hg=>by
  simp only[a8] at hg
  simp only[valid] at hv
  have jC:∃ c0 c1,∃ s:Nat→Prop,cs=c0++c1∧M w Wr H a m.l x.1 c0 (fun g=>ow g∧s g) (sub .fst hs)∧M w Wr H b' m.r x.2 c1 (fun g=>ow g∧ ¬s g) (sub .snd hs):=by
   simp only[M] at h
   rcases h with⟨hn,_⟩ |⟨hk,h⟩ |⟨ma,mb,c0,c1,s,rfl,rfl,h0,h1⟩
   ·exact absurd hn ho.not_nil
   ·simp only[K] at h
    obtain⟨c0,c1,rfl,h0,h1⟩:=h
    exact⟨c0,c1,fun _=>True,rfl,nE (Mc hk) h0,nE (Me hk) h1⟩
   ·exact⟨c0,c1,s,rfl,h0,h1⟩
  obtain⟨c0,c1,s,rfl,h0,h1⟩:=jC
  obtain⟨cK,cC,k1,k2,k3,k4⟩:=zS p h0 ho.sub hv hg
  have l0:=(eo a h0).1
  have ht:(c0++c1).take a.size=c0:=by rw[←l0,List.take_left]
  have hd:(c0++c1).drop a.size=c1:=by rw[←l0,List.drop_left]
  refine⟨cK,cC,by simp only[aS,ht];exact k1,fun g hg=>(k2 g hg).1,k3,fun b2 r zT hr=>?_⟩
  simp only[fW] at hr
  cases Q1:fW b2 p a m.l x.1 with
  |none=>simp[Q1] at hr
  |some r1=>
   simp only[Q1,Option.some.injEq] at hr
   subst hr
   obtain⟨ha,kj⟩:=k4 b2 r1 zT Q1
   have nG:addrAt w (.fst::p) (.pair a b') (c0++c1) none=addrAt w p a c0 none:=by simp only[addrAt,ht]
   rw[nG]
   refine⟨fun g' off e=>?_,fun w' qk c jB nC bU hc hb hm qG hh=>?_⟩
   ·obtain⟨a1,a2,a3⟩:=ha g' off e
    exact⟨a1.1,a2,a3⟩
   ·have hM:=kj w' qk c jB (sub .fst nC) bU hc (fun g' ek qC hl=>hb g' ek.1 qC hl) hm (fun g' ek hl qC=>qG g' ek hl qC.1) (lG hh)
    simp only[oK,ht,hd]
    refine wK (s:=fun g=>(s g∧ow g)∨jB g) ?_ ?_
    ·refine aJ (aU.refl _ _) a (fun _ _ _=>rfl) (fun g' ek hl=>?_) (fun _ h=>h) hM
     rcases ek with⟨⟨a1,a2⟩,a3⟩ |q
     ·exact⟨.inl ⟨a1,a3⟩,.inl ⟨a2,a1⟩⟩
     ·exact⟨.inr q,.inr q⟩
    ·refine aJ bU b' (fun g' ek hl=>?_) (fun g' ek hl=>⟨.inl ⟨ek.1,fun hx=>ek.2 (k2 g' hx).2⟩,fun hx=>?_⟩) (qK (by decide) hh) h1
     ·have bo:=hb g' ek.1 (fun hx=>ek.2 (k2 g' hx).2) hl
      cases oM:addrAt w p a c0 none with
      |none=>rw[oM] at bo;exact bo
      |some q=>
       rw[oM] at bo
       have nF:g'≠q.1:=fun e=>ek.2 (by rw[e];exact(ha q.1 q.2 oM).1.2)
       simp only[kH,nF,if_false] at bo
       exact bo
     ·rcases hx with hx |hx
      ·exact ek.2 hx.1
      ·exact ek.2 (k2 g' (qG g' hx hl ek.1)).2
 | .snd::p,.pair a b',m,x,cs,ow,hs,b,h,ho,hv,hg=>by
  simp only[a8] at hg
  simp only[valid] at hv
  have jC:∃ c0 c1,∃ s:Nat→Prop,cs=c0++c1∧M w Wr H a m.l x.1 c0 (fun g=>ow g∧s g) (sub .fst hs)∧M w Wr H b' m.r x.2 c1 (fun g=>ow g∧ ¬s g) (sub .snd hs):=by
   simp only[M] at h
   rcases h with⟨hn,_⟩ |⟨hk,h⟩ |⟨ma,mb,c0,c1,s,rfl,rfl,h0,h1⟩
   ·exact absurd hn ho.not_nil
   ·simp only[K] at h
    obtain⟨c0,c1,rfl,h0,h1⟩:=h
    exact⟨c0,c1,fun _=>True,rfl,nE (Mc hk) h0,nE (Me hk) h1⟩
   ·exact⟨c0,c1,s,rfl,h0,h1⟩
  obtain⟨c0,c1,s,rfl,h0,h1⟩:=jC
  obtain⟨cK,cC,k1,k2,k3,k4⟩:=zS p h1 ho.sub hv hg
  have l0:=(eo a h0).1
  have ht:(c0++c1).take a.size=c0:=by rw[←l0,List.take_left]
  have hd:(c0++c1).drop a.size=c1:=by rw[←l0,List.drop_left]
  refine⟨cK,cC,by simp only[aS,hd];exact k1,fun g hg=>(k2 g hg).1,k3,fun b2 r zT hr=>?_⟩
  simp only[fW] at hr
  cases Q1:fW b2 p b' m.r x.2 with
  |none=>simp[Q1] at hr
  |some r1=>
   simp only[Q1,Option.some.injEq] at hr
   subst hr
   obtain⟨ha,kj⟩:=k4 b2 r1 zT Q1
   have nG:addrAt w (.snd::p) (.pair a b') (c0++c1) none=addrAt w p b' c1 none:=by simp only[addrAt,hd,Option.map_none]
   rw[nG]
   refine⟨fun g' off e=>?_,fun w' qk c jB nC bU hc hb hm qG hh=>?_⟩
   ·obtain⟨a1,a2,a3⟩:=ha g' off e
    exact⟨a1.1,a2,a3⟩
   ·have hM:=kj w' qk c jB (sub .snd nC) bU hc (fun g' ek qC hl=>hb g' ek.1 qC hl) hm (fun g' ek hl qC=>qG g' ek hl qC.1) (lG hh)
    simp only[oK,ht,hd]
    refine wK (s:=fun g=>(s g∧ow g)∧ ¬jB g) ?_ ?_
    ·refine aJ bU a (fun g' ek hl=>?_) (fun g' ek hl=>⟨.inl ⟨ek.1,fun hx=>(k2 g' hx).2 ek.2⟩,⟨ek.2,ek.1⟩,fun hx=>(k2 g' (qG g' hx hl ek.1)).2 ek.2⟩) (qK (by decide) hh) h0
     have bo:=hb g' ek.1 (fun hx=>(k2 g' hx).2 ek.2) hl
     cases oM:addrAt w p b' c1 none with
     |none=>rw[oM] at bo;exact bo
     |some q=>
      rw[oM] at bo
      have nF:g'≠q.1:=fun e=>(ha q.1 q.2 oM).1.2 (by rw[←e];exact ek.2)
      simp only[kH,nF,if_false] at bo
      exact bo
    ·refine aJ (aU.refl _ _) b' (fun _ _ _=>rfl) (fun g' ek hl=>?_) (fun _ h=>h) hM
     rcases ek with⟨⟨a1,a2⟩,a3⟩ |q
     ·exact⟨.inl ⟨a1,a3⟩,fun hx=>a2 hx.1.1⟩
     ·exact⟨.inr q,fun hx=>hx.2 q⟩
 | .idx i::p,.sl t,m,xs,cs,ow,hs,b,h,ho,hv,hg=>by
  simp only[a8] at hg
  have hv0:=hv
  simp only[valid] at hv
  obtain⟨hi,hv⟩:=hv
  have eF:List.getD xs i t.z=xs[i]:=by simp[List.getD_eq_getElem?_getD,List.getElem?_eq_getElem hi]
  simp only[M] at h
  rcases h with⟨hn,_⟩ |⟨hk,h⟩ |⟨T,tag,me,A,c,rfl,rfl,hc,ht,h⟩
  ·exact absurd hn ho.not_nil
  ·obtain⟨cK,cC,h1,h2,h3⟩:=focus (H:=H) (ow:=ow) (.idx i::p) (nE (t:=.sl t) hk h) ho hv0 (by simpa only[a8] using hg)
   exact⟨cK,cC,h1,h2,h3,fun b2 r _ hr=>by cases m<;>simp[fW,Md.bM] at hr hk⟩
  ·rcases h with⟨rfl,_⟩ |⟨g,cur,τ,rfl,qm,hw,iB,hm,h⟩
   ·simp at hi
   ·have axw:i*t.size+t.size≤cur.size:=by
     have h1:=Nat.mul_le_mul_right t.size (show i+1≤xs.length from hi)
     have h2:=Nat.mul_le_mul_right t.size hc
     rw[Nat.add_mul,Nat.one_mul] at h1
     omega
    have Mf:=h i hi
    rw[←eF] at Mf
    have hlen:=(eo t Mf).1
    obtain⟨cK,cC,h1,h2,h3,h4⟩:=zS p Mf ho.sub hv hg
    have gz:rowAt w g (0+i*t.size) t.size=some ((cur.toList.drop (i*t.size)).take t.size):=by rw[Nat.zero_add,bA hw axw]
    refine⟨cK,cC,?_,fun g hg=>(h2 g hg).1,h3,fun b2 r zT hr=>?_⟩
    ·simp only[aS,gz,Option.bind_some];exact h1
    obtain⟨r1,Q1,hme,rfl⟩:=DN hr
    obtain⟨ha,kj⟩:=h4 b2 r1 zT Q1
    have nG:addrAt w (.idx i::p) (.sl t) [.slice (some ⟨g,0,none⟩) xs.length c] none=addrAt w p t ((cur.toList.drop (i*t.size)).take t.size) (some (g,i*t.size)):=by
     simp only[addrAt];rw[gz];simp only[Option.bind_some,Nat.zero_add]
    -- the other elements,and this one,behind the change
    have cP:=bg hw
    have rest:∀ (w':World) (qk:Nat→Prop) (c2:List Value) (jB:Nat→Prop) (nC:List Path) (fR:Array Value),aU w w' Wr qk→
      (∀ g',ow g'→g'≠g→¬cC g'→(∀ q,addrAt w p t ((cur.toList.drop (i*t.size)).take t.size) none=some q→g'≠q.1)→g'<w.heap.size→w'.heap[g']?=w.heap[g']?)→
      w'.heap[g]?=some (.cells fR T (0,0))→fR.size=cur.size→
      (∀ j,j<xs.length→j≠i→(fR.toList.drop (j*t.size)).take t.size=(cur.toList.drop (j*t.size)).take t.size)→
      M w' qk H t r1.1 r1.2 ((fR.toList.drop (i*t.size)).take t.size) (fun g'=>((ow g'∧g'≠g∧τ g'=i)∧ ¬cC g')∨jB g') (sub (.idx i) nC)→
      (∀ g',jB g'→g'<w.heap.size→ow g'→cC g')→(∀ h,(∀ q,h≠ .idx i::p++q)→h∈hs→h∈nC)→
      M w' qk H (.sl t) (.o T tag me) (List.set xs i r1.2) [.slice (some ⟨g,0,none⟩) xs.length c] (fun g'=>(ow g'∧ ¬cC g')∨jB g') nC:=by
     intro w' qk c2 jB nC fR bU km tk azn kI hM qG hh
     have hng: ¬cC g:=fun hx=>(h2 g hx).2.1 rfl
     simp only[M]
     refine .inr (.inr ⟨T,tag,me,some ⟨g,0,none⟩,c,rfl,by rw[List.length_set],by rw[List.length_set];exact hc,fun h hh=>by rw[List.length_set];exact ht h hh,.inr ⟨g,fR,fun g'=>open Classical in if jB g' then i else τ g',rfl,.inl ⟨qm,hng⟩,tk,by rw[azn,iB],hm,fun j hj=>?_⟩⟩)
     rw[List.length_set] at hj
     by_cases la:j=i
     ·subst la
      rw[List.getElem_set_self,←hme]
      refine aJ (aU.refl _ _) t (fun _ _ _=>rfl) (fun g' ek hl=>?_) (fun _ h=>h) hM
      rcases ek with⟨⟨a1,a2,a3⟩,a4⟩ |a
      ·exact⟨.inl ⟨a1,a4⟩,a2,by simp only;split<;>first |rfl |exact a3⟩
      ·refine⟨.inr a,fun e=>?_,by simp only;rw[if_pos a]⟩
       subst e
       exact hng (qG g' a cP qm)
     ·rw[List.getElem_set_ne (fun e=>la e.symm),kI j hj la]
      have axx:∀ g',(ow g'∧g'≠g∧τ g'=j)→g'<w.heap.size→¬jB g':=fun g' ek hl hx=>la (by rw[←ek.2.2];exact(h2 g' (qG g' hx hl ek.1)).2.2)
      have axy:∀ g',(ow g'∧g'≠g∧τ g'=j)→¬cC g':=fun g' ek hx=>la (by rw[←ek.2.2];exact(h2 g' hx).2.2)
      refine aJ bU t (fun g' ek hl=>km g' ek.1 ek.2.1 (axy g' ek) (fun q hq e=>?_) hl) (fun g' ek hl=>⟨.inl ⟨ek.1,axy g' ek⟩,ek.2.1,?_⟩) (qK (by intro e;injection e with e;exact la e) hh) (h j hj)
      ·have:=(ha q.1 q.2 hq).1.2.2
       rw[←e,ek.2.2] at this
       exact la this
      ·simp only
       rw[if_neg (axx g' ek hl)]
       exact ek.2.2
    cases Ma:aL p with
    |true=>
     have dt:=iG (w:=w) (cs:=(cur.toList.drop (i*t.size)).take t.size) (g:=g) (o:=i*t.size) p Ma hg
     have wM:=dX p Ma hg
     have jq:=ep (w:=w) p Ma hg hlen
     rw[h1] at jq
     injection jq with jq
     rw[nG,dt]
     refine⟨fun g' off e=>?_,fun w' qk c2 jB nC bU hc2 hb hm2 qG hh=>?_⟩
     ·injection e with e
      injection e with e1 e2
      subst e1 e2
      refine⟨qm,fun hx=>(h2 g hx).2.1 rfl,cur,T,hw,by omega,?_⟩
      rw[jq,List.drop_take,List.drop_drop,List.take_take]
      congr 1
      omega
     ·have bo:=hb g qm (fun hx=>(h2 g hx).2.1 rfl) cP
      simp only[kH,if_true] at bo
      obtain⟨fR,T2,e2,tk⟩:=bo
      rw[hw] at e2
      injection e2 with e2
      injection e2 with e2 e3
      subst e2 e3
      have axz:i*t.size+aP p t+c2.length≤cur.toList.length:=by rw[hc2,Array.length_toList];omega
      have hM:=kj w' qk c2 jB (sub (.idx i) nC) bU hc2 (fun g' ek qC hl=>by
       rw[dY p Ma]
       have:=hb g' ek.1 qC hl
       simp only[kH,ek.2.1,if_false] at this
       exact this) hm2 (fun g' ek hl qC=>qG g' ek hl qC.1) (lG hh)
      rw[ki p Ma hg hlen hc2] at hM
      refine rest w' qk c2 jB nC _ bU (fun g' ek qC hg3 _ hl=>?_) tk (by rw[List.size_toArray,gS _ _ _ axz,Array.length_toList]) (fun j hj la=>?_) ?_ qG hh
      ·have:=hb g' ek hg3 hl
       simp only[kH,qC,if_false] at this
       exact this
      ·rw[List.toList_toArray]
       refine ai8 _ _ _ _ _ axz ?_
       rcases Nat.lt_or_gt_of_ne la with as6 |as6
       ·left
        have:=Nat.mul_le_mul_right t.size (show j+1≤i from as6)
        rw[Nat.add_mul,Nat.one_mul] at this
        omega
       ·right
        have:=Nat.mul_le_mul_right t.size (show i+1≤j from as6)
        rw[Nat.add_mul,Nat.one_mul] at this
        rw[hc2]
        omega
      ·rw[List.toList_toArray,as5 _ _ _ _ _ (by rw[hc2];omega) (by rw[Array.length_toList];omega)]
       exact hM
    |false=>
     have dt:=mJ (w:=w) (t:=t) (cs:=(cur.toList.drop (i*t.size)).take t.size) p (some (g,i*t.size)) none Ma
     rw[nG,dt]
     refine⟨fun g' off e=>?_,fun w' qk c2 jB nC bU hc2 hb hm2 qG hh=>?_⟩
     ·obtain⟨a1,a2,a3⟩:=ha g' off e
      exact⟨a1.1,a2,a3⟩
     ·have hM:=kj w' qk c2 jB (sub (.idx i) nC) bU hc2 (fun g' ek qC hl=>hb g' ek.1 qC hl) hm2 (fun g' ek hl qC=>qG g' ek hl qC.1) (lG hh)
      rw[jA p Ma] at hM
      have same:∀ g',ow g'→¬cC g'→(∀ q,addrAt w p t ((cur.toList.drop (i*t.size)).take t.size) none=some q→g'≠q.1)→g'<w.heap.size→w'.heap[g']?=w.heap[g']?:=by
       intro g' ek qC hq hl
       have bo:=hb g' ek qC hl
       cases oM:addrAt w p t ((cur.toList.drop (i*t.size)).take t.size) none with
       |none=>rw[oM] at bo;exact bo
       |some q=>
        rw[oM] at bo
        simp only[kH,hq q oM,if_false] at bo
        exact bo
      have tk:w'.heap[g]?=some (.cells cur T (0,0)):=(same g qm (fun hx=>(h2 g hx).2.1 rfl) (fun q hq e=>(ha q.1 q.2 hq).1.2.1 e.symm) cP).trans hw
      exact rest w' qk c2 jB nC cur bU (fun g' ek _ hg3 hq hl=>same g' ek hg3 hq hl) tk rfl (fun j hj la=>rfl) hM qG hh
end Go.Pv
namespace Go.Pv
set_option linter.unusedVariables false
set_option linter.unusedSimpArgs false
structure aa where
 res:List TV
 refs:List TV
inductive Arg where
 |tv (a:TV)
 |fn (f:FuncId) (cw:List TV)
inductive Pass where
 |val |take |nH
 deriving DecidableEq
structure jr where
 sig:FuncId→List Pass
 run:FuncId→List Arg→(aa→Option aa)→Option aa
structure Entry where
 f:FuncId
 sig:List Pass
 run:List Arg→(aa→Option aa)→Option aa
def entry:List Entry→FuncId→Option Entry
 |[],_=>none
 |e::r,f=>bif Nat.beq e.f f then some e else entry r f
def jr.of (l:List Entry):jr where
 sig f:=match entry l f with
  |some e=>e.sig
  |none=>[]
 run f:=match entry l f with
  |some e=>e.run
  |none=>fun _ _=>none
inductive Ex where
 |n |x (id:Nat) |r
inductive CK where
 |kv (t:Ty) |pl (t:Ty) (s:Nat) (p:Path)
@[reducible] def DO:List CK→Type
 |[]=>Unit
 | .kv t::r=>t.I×DO r
 | .pl _ _ _::r=>DO r
def lO:(cs:List CK)→DO cs→List H3
 |[],_=>[]
 | .kv t::r,x=>.kv ⟨t,.k,x.1⟩::lO r x.2
 | .pl t s p::r,x=>.pl t s p::lO r x
def qL:(cs:List CK)→List H3→Option (DO cs)
 |[],[]=>some ()
 | .kv t::r,.kv ⟨t',m',x⟩::S=>if h:t'=t then(if m'=.k then match qL r S with
   |some y=>some (h▸x,y)
   |none=>none else none) else none
 | .pl t s p::r,.pl t' s' p'::S=>if t'=t then(bif Nat.beq s' s then(if p'=p then qL r S else none) else none) else none
 |_,_=>none
inductive Kd where
 |dead |v (t:Ty) (m:Md) |al (t:Ty) (s:Nat) |k8 (f:FuncId) (cs:List CK)
@[reducible] def qD:List Kd→Type
 |[]=>Unit
 | .v t _::r=>t.I×qD r
 | .dead::r=>qD r
 | .al _ _::r=>qD r
 | .k8 _ cs::r=>DO cs×qD r
def shape:(ks:List Kd)→qD ks→St
 |[],_=>[]
 | .v t m::r,x=>.v ⟨t,m,x.1⟩ []::shape r x.2
 | .dead::r,x=>.dead::shape r x
 | .al t s::r,x=>.al t s []::shape r x
 | .k8 f cs::r,x=>.k8 f (lO cs x.1)::shape r x.2
def proj:(ks:List Kd)→St→Option (qD ks)
 |[],[]=>some ()
 | .v t m::r,.v ⟨t',m',x⟩ []::S=>if h:t'=t then(if m'=m then match proj r S with
   |some y=>some (h▸x,y)
   |none=>none else none) else none
 | .dead::r,_::S=>proj r S
 | .al t s::r,.al t' s' []::S=>if t'=t then(bif Nat.beq s' s then proj r S else none) else none
 | .k8 f cs::r,.k8 f' cw::S=>bif Nat.beq f' f then(match qL cs cw,proj r S with
   |some y,some z=>some (y,z)
   |_,_=>none) else none
 |_,_=>none
def gk (all:List Kd):List Kd→Bool
 |[]=>true
 | .al _ s::r=>(match all[s]? with
  |some (.v _ _)=>true
  |_=>false)&&gk all r
 | .k8 _ cs::r=>(cs.all fun c=>match c with
  | .kv _=>true
  | .pl _ s _=>match all[s]? with
   |some (.v _ _)=>true
   |_=>false)&&gk all r
 |_::r=>gk all r
inductive OT where
 |done |one (i:Nat) (t:OT) |any (l:List Nat) (t:OT) |par (l:List Nat) (ds:List (List Nat)) (t:OT) |own (d:Nat) (t:OT)
def OT.seq:List Nat→OT→OT
 |[],t=>t
 |i::r,t=>.one i (OT.seq r t)
structure Hint where
 tab:db
 hn:Hn:=[]
 loops:List (Nat×List Kd):=[]
 outs:List (Nat×Nat×List Kd):=[]
 bp:List (Nat×OT):=[]
 wN:Option (Nat×Bool):=none
 frz:List (Nat×List (Nat×Path)):=[]
def Mg:Path→Bool
 |[]=>true | .idx _::_=>false |_::p=>Mg p
def St.as7 (S:St) (q:Nat×Path):St:=match S.at q.1 with
 | .v r []=>match a8 q.2 r.t r.m r.x with
  |some b=>bif b.m.bM|| !Mg q.2 then S else(match q.2 with
   |[]=>S.put (some q.1) (.v (Q9 r) [])
   |_=>(match fW (Q9 b) q.2 r.t r.m r.x with
    |some (m,z)=>St.put (((S.weaken q.1).cover q.1 q.2).set q.1 (.v r [q.2])) (some q.1) (.v ⟨r.t,m,z⟩ [])
    |none=>S))
  |none=>S
 |_=>S
def Y':List (Nat×List (Nat×Path))→Nat→St→St
 |[],_,S=>S
 |q::r,id,S=>bif Nat.beq q.1 id then q.2.foldl St.as7 S else Y' r id S
def nI:List (Nat×List Kd)→Nat→Option (List Kd)
 |[],_=>none
 |q::r,k=>bif Nat.beq q.1 k then some q.2 else nI r k
def ai9 (S:St) (i:Nat):Kd→St
 | .v _ m=>bif m.bM then S else match S.at i with
  | .al t s []=>(match S.dB (.tmp i) (.al t s []) with
   |some (a,S1)=>S1.put (some i) (.v a [])
   |none=>S)
  |_=>S
 |_=>S
def Ra:List Kd→Nat→St→St
 |[],_,S=>S
 |k::r,i,S=>Ra r (i+1) (ai9 S i k)
def sq (ks:List Kd) (S:St):Option St:=bif gk ks ks then(match proj ks (Ra ks 0 S) with
  |some x=>some (shape ks x)
  |none=>none) else none
def Hint.clean (h:Hint) (key:Nat) (S:St):Option St:=match nI h.loops key with
 |some ks=>sq ks S
 |none=>none
def Ex.num:Ex→Nat
 | .n=>0 | .r=>1 | .x id=>id+2
def arE:List (Nat×Nat×List Kd)→Nat→Nat→Option (List Kd)
 |[],_,_=>none
 |q::r,k,e=>bif Nat.beq q.1 k&&Nat.beq q.2.1 e then some q.2.2 else arE r k e
def GS (S:St):H3→Option TV
 | .pl _ s p=>match S.place s p with
  |some a=>some (Q9 a)
  |none=>none
 | .kv a=>some a
def oN (S:St):List H3→Option (List TV)
 |[]=>some []
 |c::r=>match GS S c,oN S r with
  |some a,some l=>some (a::l)
  |_,_=>none
def fL (Θ:db):St→List Operand→List TypeId→List Pass→Option (List (Option TV)×St)
 |S,[],_,_=>some ([],S)
 |S,x::xs,T::Ts,p::ps=>match p with
  | .val=>match fL Θ S xs Ts ps with
   |some r=>some (none::r.1,r.2)
   |none=>none
  | .take=>match S.take Θ T x with
   |some (a,S1)=>match fL Θ S1 xs Ts ps with
    |some r=>some (some a::r.1,r.2)
    |none=>none
   |none=>none
  | .nH=>none
 |_,_,_,_=>none
def reads (Θ:db) (S:St):List Operand→List TypeId→List (Option TV)→Option (List Arg)
 |[],_,_=>some []
 |x::xs,T::Ts,p::ps=>match p with
  |some a=>match reads Θ S xs Ts ps with
   |some r=>some (.tv a::r)
   |none=>none
  |none=>match S.dM Θ T x with
   |some (.k8 f cw)=>match oN S cw,reads Θ S xs Ts ps with
    |some l,some r=>some (.fn f l::r)
    |_,_=>none
   |some av=>match S.so av,reads Θ S xs Ts ps with
    |some a,some r=>some (.tv (Q9 a)::r)
    |_,_=>none
   |none=>none
 |_,_,_=>none
def GU:List TV→AV
 |[a]=>.v a []
 |l=>.th (l.map some)
def VQ (a:TV):Bool:=match a.t with
 | .ptr _=>a.m.bM
 |_=>false
def qM (S:St) (f:FuncId):Option Nat→Option (List TV)
 |none=>some []
 |some i=>match S.at i with
  | .k8 f' cw=>bif Nat.beq f' f then(match oN S cw with
   |some l=>bif l.all VQ then some l else none
   |none=>none) else none
  |_=>none
def qn:Md→Bool
 | .k=>true | .o _ tag m=>(match tag with
  |none=>true
  |some _=>false)&&qn m
 | .p a b=>qn a&&qn b
def gT:Ty→Bool
 | .sl _=>false | .ptr _=>false | .pair a b=>gT a&&gT b | .arr _ t=>gT t |_=>true
def fu:Ty→Md→Bool
 | .sl t,.o _ _ m=>fu t m
 | .ptr t,.o _ _ m=>fu t m
 | .pair a b,.p m n=>fu a m&&fu b n
 |t,m=>m.bM&&gT t
def tz (S:St):Operand→Bool
 | .tmp i=>(match S.at i with
  | .v b []=>b.m.bM
  |_=>false)
 | .const _=>true
 |_=>false
def iH (S:St):List Operand→List (Option TV)→List Arg→Bool
 |[],_,_=>true
 |x::xs,p::ps,r::rs=>((match p with
  |some _=>true
  |none=>false)||(match r with
  | .tv b=>fu b.t b.m||tz S x
  | .fn _ cs=>cs.isEmpty))&&iH S xs ps rs
 |_,_,_=>false
def gA (h:Hint) (O:jr) (o:Oper) (f:FuncId) (cal:Option Nat) (args:List Operand) (ts:List TypeId) (S:St) (K:St→Option aa):Option aa:=
 match fL h.tab S args ts (O.sig f) with
 |some (l,S1)=>match reads h.tab S1 args ts l,qM S1 f cal with
  |some as,some cs=>O.run f (as++cs.map .tv) fun ret=>match ret.refs with
   |[]=>bif ret.res.all (fun d=>fu d.t d.m)||(cs.isEmpty&&iH S1 args l as) then K (S1.put o.dst (GU ret.res)) else none
   |_::_=>none
  |_,_=>none
 |none=>none
def eK:Ty→Md→Bool
 | .sl _,.o _ _ m=>qn m
 | .ptr _,.o _ _ m=>qn m
 | .pair a b,.p m n=>eK a m&&eK b n
 |_,m=>m.bM
def qN:Ty→Md→Bool
 | .sl t,.o _ _ m=>fu t m
 | .ptr t,.o _ _ m=>fu t m
 | .pair a b,.p m n=>qN a m&&qN b n
 |_,m=>m.bM
def iI:Ty→Md→Nat→Md
 | .sl _,.o T _ m,n=>.o T (some n) m
 | .ptr _,.o T _ m,n=>.o T (some n) m
 | .pair a b,.p ma mb,n=>.p (iI a ma n) (iI b mb (n+a.size))
 |_,m,_=>m
def e9:(t:Ty)→Md→t.I→t.I→t.I
 | .sl _,.o ..,_,y=>y
 | .ptr _,.o ..,_,y=>y
 | .pair a b,.p ma mb,x,y=>(e9 a ma x.1 y.1,e9 b mb x.2 y.2)
 |_,_,x,_=>x
def uc:List Pass→Nat→Option Nat
 |[],_=>none
 | .nH::_,j=>some j
 |_::r,j=>uc r (j+1)
def jD (x:Operand):AV→Option (Nat×Path)
 | .v _ _=>match x with
  | .tmp i=>some (i,[])
  |_=>none
 | .al _ s p=>some (s,p)
 |_=>none
def St.oO (S:St) (s:Nat) (b:TV):Path→Option St
 |[]=>some (S.put (some s) (.v b []))
 |p=>match S.at s with
  | .v r ex=>match fW b p r.t r.m r.x with
   |some (m,z)=>some (S.put (some s) (.v ⟨r.t,m,z⟩ ex.dropLast))
   |none=>none
  |_=>none
def qO (h:Hint) (O:jr) (o:Oper) (f:FuncId) (j:Nat) (args:List Operand) (ts:List TypeId) (S:St) (K:St→Option aa):Option aa:=
 match args[j]?,ts[j]? with
 |some x,some T=>match S.dM h.tab T x with
  |some av=>match jD x av,S.dB x av with
   |some (s,p),some (b,S1)=>bif !b.m.bM&&eK b.t b.m then
     (match reads h.tab S1 args ts ((List.replicate args.length none).set j (some ⟨b.t,iI b.t b.m 0,b.x⟩)) with
     |some as=>bif qN b.t b.m||iH S1 args ((List.replicate args.length none).set j (some ⟨b.t,iI b.t b.m 0,b.x⟩)) as then O.run f as fun ret=>match ret.refs with
      |[c]=>bif ret.res.all (fun d=>fu d.t d.m&&qn d.m) then(if hc:c.t=b.t then(if c.m=iI b.t b.m 0 then
        (match S1.oO s ⟨b.t,b.m,e9 b.t b.m b.x (hc▸c.x)⟩ p with
        |some S2=>K (S2.put o.dst (GU ret.res))
        |none=>none) else none) else none) else none
      |_=>none else none
     |none=>none) else none
   |_,_=>none
  |none=>none
 |_,_=>none
noncomputable def both (a b:Option aa):Option aa:=open Classical in if a=b then a else none
theorem lH (a:Option aa):both a a=a:=by simp[both]
theorem Za {a b:Option aa} {r:aa} (h:both a b=some r):a=some r∧b=some r:=by
 unfold both at h
 split at h
 ·rename_i e;exact⟨h,by rw[←e];exact h⟩
 ·cases h
noncomputable def VR (h:Hint) (dst:Option Nat) (T:TypeId) (eq:Bool) (x:Operand) (S:St) (K:St→Option aa):Option aa:=match S.rd h.tab 0 x with
 |some ⟨.sl t,_,xs⟩=>bif h.tab.is T (.sl t) then(bif List.isEmpty xs then both (K (S.put dst (.v ⟨.bool,.k,true⟩ []))) (K (S.put dst (.v ⟨.bool,.k,false⟩ []))) else K (S.put dst (.v ⟨.bool,.k,!eq⟩ []))) else none
 |_=>none
def oP:Op→Bool
 | .binOp _ _ _ (.const (.slice none _ _)) _=>true
 |_=>false
noncomputable def gB (h:Hint) (O:jr) (o:Oper) (S:St) (K:St→Option aa):Option aa:=match o.op with
 | .call { callee:=.value (.func f),args:=as,argTypes:=ts }=>match uc (O.sig f) 0 with
  |some j=>qO h O o f j as.toList ts.toList S K
  |none=>gA h O o f none as.toList ts.toList S K
 | .call { callee:=.value (.tmp i),args:=as,argTypes:=ts }=>match S.at i with
  | .k8 f _=>gA h O o f (some i) as.toList ts.toList S K
  |_=>none
 | .binOp .eql T x (.const (.slice none 0 0)) _=>VR h o.dst T true x S K
 | .binOp .neq T x (.const (.slice none 0 0)) _=>VR h o.dst T false x S K
 |_=>match ev h.tab h.hn S o with
  |some (g,S1)=>bif g then K S1 else none
  |none=>none
noncomputable def aW (h:Hint) (O:jr) (ops:Array Oper) (i:Nat) (S:St) (K:St→Option aa):Option aa:=match ops[i]? with
 |none=>none
 |some o=>match o.guard with
  |none=>gB h O o S K
  |some (j,want)=>match (ops[j]?).bind (·.dst) with
   |some d=>match S.at d with
    | .v ⟨.bool,m,q⟩ ex=>bif q then
      (bif want then gB h O o (S.set d (.v ⟨.bool,m,true⟩ ex)) K else K (St.put (S.set d (.v ⟨.bool,m,true⟩ ex)) o.dst .undef))
     else(bif want then K (St.put (S.set d (.v ⟨.bool,m,false⟩ ex)) o.dst .undef) else gB h O o (S.set d (.v ⟨.bool,m,false⟩ ex)) K)
    | .undef=>K (S.put o.dst .undef)
    |_=>none
   |none=>none
noncomputable def mK (h:Hint) (O:jr) (ops:Array Oper):List Nat→St→(St→Option aa)→Option aa
 |[],S,K=>K S
 |i::r,S,K=>aW h O ops i S (fun S1=>mK h O ops r S1 K)
def gF (S:St):Operand→Bool
 | .tmp i=>(match S.at i with
  | .v _ []=>true
  |_=>false)
 | .const _=>true
 |_=>false
def Rb (S:St):Operand→Bool
 | .tmp i=>(match S.at i with
  | .v ⟨_,.k,_⟩ []=>true
  |_=>false)
 | .const _=>true
 |_=>false
def B5 (S:St):Option Operand→Bool
 |none=>true
 |some x=>gF S x
def ach (O:jr) (f:FuncId):Bool:=(O.sig f).all fun p=>match p with
 | .val=>true
 |_=>false
def aci (ops:Array Oper) (x:Nat):Option Nat:=ops.toList.findSome? fun o=>match o.dst,o.op with
 |some d,.fieldAddr _ (.tmp s) _=>bif Nat.beq d x then some s else none
 |_,_=>none
def jv (O:jr) (ops:Array Oper) (S:St) (o:Oper):Bool:=(match o.guard with
  |none=>true
  |some _=>false)&&(match o.dst with
  |some d=>!(S.at d).zQ&&Nat.blt d S.length
  |none=>false)&&(match o.op with
  | .call { callee:=.value (.func f),args:=as,.. }=>ach O f&&as.toList.all (gF S)
  | .call { callee:=.builtin .append,args:=as,.. }=>as.toList.all (gF S)
  | .buildSlice _ _ ps=>ps.toList.all fun q=>gF S q.2
  | .load _ (.tmp x)=>(match aci ops x,S.at x with
   |some s,.ad _ s' p=>Nat.beq s' s&&(match S.c7 s p with
    |some a=>a.m.bM
    |none=>false)
   |none,.v ⟨.ptr _,.k,_⟩ []=>true
   |none,.v ⟨.ptr _,.o ..,_⟩ []=>(match S.c7 x [.deref] with
    |some a=>a.m.bM
    |none=>false)
   |_,_=>false)
  | .slice _ x lo hi none=>Rb S x&&(B5 S lo&&B5 S hi)
  | .indexAddr _ x ix=>Rb S x&&gF S ix
  |_=>false)
noncomputable def mL (h:Hint) (O:jr) (ops:Array Oper):List Nat→St→(St→Option aa)→Option aa
 |[],S,K=>K S
 |i::r,S,K=>match ops[i]? with
  |some o=>bif jv O ops S o then aW h O ops i S (fun S1=>mL h O ops r S1 K) else none
  |none=>none
def slotsOf:AV→List Nat
 | .al _ s _=>[s] | .ad _ s _=>[s] | .cut _ s _ _ _=>[s]
 | .k8 _ cw=>cw.filterMap fun c=>match c with
  | .pl _ s _=>some s
  | .kv _=>none
 |_=>[]
def jV (Δ:Nat→Bool):St→Nat→Bool
 |[],_=>true
 |a::r,i=>((slotsOf a).all fun s=>Δ i==Δ s)&&jV Δ r (i+1)
def lI (Δ:Nat→Bool):Operand→Bool
 | .tmp i=>Δ i
 | .const _=>true
 | .func _=>true
 | .global _=>false
def ai' (Δ:Nat→Bool) (o:Oper):Bool:=match o.dst,o.op with
 |some d,.store ..=>false
 |some d,_=>Δ d
 |none,.store ..=>true
 |none,_=>false
def dJ (Δ:Nat→Bool) (o:Oper):Bool:=(match o.guard with
  |none=>true
  |some _=>false)&&ai' Δ o&&(match o.op with
 | .store _ x y=>lI Δ x&&lI Δ y
 | .makeSlice _ l c=>lI Δ l&&lI Δ c
 | .alloc _=>true
 | .buildSlice _ _ ps=>ps.toList.all fun q=>lI Δ q.2
 | .load _ x=>lI Δ x
 | .move x=>lI Δ x
 | .extract x _=>lI Δ x
 | .binOp _ _ x y _=>lI Δ x&&(lI Δ y&& !oP o.op)
 | .fieldAddr _ x _=>lI Δ x
 | .indexAddr _ x ix=>lI Δ x&&lI Δ ix
 | .convert _ _ x=>lI Δ x
 | .call { callee:=.builtin .append,args:=as,.. }=>as.toList.all (lI Δ)
 | .call { callee:=.value (.func _),args:=as,.. }=>as.toList.all (lI Δ)
 |_=>false)
def Zb (l:List Nat) (i:Nat):Bool:=l.any (Nat.beq i)
def Rc (l:List Nat) (i:Nat):Bool:=!Zb l i
def kJ (ds:List (List Nat)) (S:St):Bool:=ds.all fun d=>jV (Zb d) S 0
def DP (ds:List (List Nat)) (o:Oper):Bool:=ds.all fun d=>dJ (Zb d) o||dJ (Rc d) o
def Zc (ds:List (List Nat)) (oi oj:Oper):Bool:=ds.any fun d=>(dJ (Zb d) oi&&dJ (Rc d) oj)||(dJ (Rc d) oi&&dJ (Zb d) oj)
def exB (oi oj:Oper):Bool:=match oi.guard,oj.guard,oi.dst,oj.dst,oi.op,oj.op with
 |none,none,some a,some b,.extract (.tmp x) p,.extract (.tmp y) q=>Nat.beq x y&&(!Nat.beq p q&&(!Nat.beq a b&&(!Nat.beq a x&& !Nat.beq b x)))
 |_,_,_,_,_,_=>false
def VS (S:St) (d:Nat):Option (Bool×St):=match S.at d with
 | .al _ s (st::pp)=>(match S.at s with
  | .v r ex=>(match a8 (st::pp) r.t r.m r.x with
   |some b=>bif b.m.bM then none else some (ex.all (fun h=>!oA h (st::pp)),St.put (((S.weaken s).cover s (st::pp)).set s (.v r (ex++[st::pp]))) (some d) (.v b []))
   |none=>none)
  |_=>none)
 |_=>none
noncomputable def fa (h:Hint) (O:jr) (ops:Array Oper):OT→St→(St→Option aa)→Option aa
 | .done,S,K=>K S
 | .one i t,S,K=>aW h O ops i S (fun S1=>fa h O ops t S1 K)
 | .any l t,S,K=>mL h O ops l S (fun S1=>fa h O ops t S1 K)
 | .own d t,S,K=>match VS S d with
  |some (g,S1)=>bif g then fa h O ops t S1 K else none
  |none=>none
 | .par l ds t,S,K=>bif kJ ds S then mK h O ops l S (fun S1=>fa h O ops t S1 K) else none
def quiet:Op→Bool
 | .move _=>true | .assign _=>true | .pick ..=>true | .build ..=>true | .load ..=>true | .nilCheck _=>true | .fieldAddr ..=>true | .field ..=>true | .indexAddr ..=>true | .index ..=>true
 | .extract ..=>true | .slice ..=>true | .convert ..=>true | .binOp ..=>true | .unOp ..=>true | .makeFunc ..=>true | .call { callee:=.builtin .len,.. }=>true |_=>false
def C6 (O:jr):Op→Bool
 | .alloc _=>true | .box ..=>true | .buildSlice ..=>true | .makeSlice ..=>true
 | .call { callee:=.value (.func f),.. }=>(O.sig f).all fun p=>match p with
  | .val=>true
  |_=>false
 |o=>quiet o
def still:Op→Bool
 | .extract ..=>true | .indexAddr ..=>true | .binOp ..=>true | .slice ..=>true | .move _=>true | .convert ..=>true | .fieldAddr ..=>true | .call { callee:=.builtin .len,.. }=>true |_=>false
def zU (Θ:db) (o:Op):Bool:=still o&& !oP o&&(match o with
 | .convert _ T' _=>(match Θ.find T' with
  |some i=>(match i.ty with
   | .int _=>true
   |_=>false)
  |none=>false)
 |_=>true)
def jE (ops:Array Oper) (oi:Oper) (rest:Nat):List Oper→Nat→Bool
 |[],_=>true
 |oj::r,j=>(bif Nat.testBit rest j then oi.apart ops oj else true)&&jE ops oi rest r (j+1)
def bc (o:Oper):Nat:=o.after.toList.foldr (fun e m=>bif Region.binds .any e then m|||2^e.on else m) 0
def bu (i:Nat):List Nat→Nat→Nat→Nat
 |[],_,acc=>acc
 |m::r,j,acc=>bu i r (j+1) (bif Nat.beq j i|| !(Nat.beq (m&&&acc) 0) then acc|||2^j else acc)
def wO (O:jr) (ops:Array Oper) (oi:Oper) (rest:Nat):List Oper→Nat→Bool
 |[],_=>true
 |oj::r,j=>(bif Nat.testBit rest j then oi.apart ops oj&&C6 O oj.op else true)&&wO O ops oi rest r (j+1)
def acj (Θ:db) (O:jr) (ops:Array Oper) (as:List Nat) (full L i:Nat):Bool:=match as[i]?,ops[i]? with
 |some m,some oi=>!Nat.testBit L i&&Nat.beq (m&&&L) m&&Nat.beq (bu i as 0 0&&&L) 0&&(Nat.beq (full^^^(bu i as 0 0|||L)) 0||(quiet oi.op&&(!oP oi.op&&wO O ops oi (full^^^(bu i as 0 0|||L)) ops.toList 0))||(zU Θ oi.op&&jE ops oi (full^^^(bu i as 0 0|||L)) ops.toList 0))
 |_,_=>false
def aR:Operand→List Nat
 | .tmp i=>[i]
 |_=>[]
def eL:Option Operand→List Nat
 |none=>[]
 |some x=>aR x
def aV (ops:Array Oper) (o:Oper):List Nat:=match o.op with
 | .call c=>c.args.toList.flatMap aR
 | .buildSlice _ _ ps=>ps.toList.flatMap fun q=>aR q.2
 | .load _ (.tmp x)=>(match aci ops x with
  |some s=>[x,s]
  |none=>[x])
 | .slice _ x lo hi _=>aR x++(eL lo++eL hi)
 | .indexAddr _ x ix=>aR x++aR ix
 |_=>[]
def jw (o:Oper):Bool:=match o.op with
 | .call { callee:=.value (.func _),.. }=>true
 | .load ..=>true
 | .slice ..=>true
 | .indexAddr ..=>true
 |_=>false
def GV (ops:Array Oper) (oi oj:Oper):Bool:=(match oi.dst,oj.dst with
  |some a,some b=>!Nat.beq a b&& !(aV ops oj).any (Nat.beq a)&& !(aV ops oi).any (Nat.beq b)
  |_,_=>false)&&((jw oi&&jw oj)|| !(aV ops oi).any fun r=>(aV ops oj).any (Nat.beq r))
def DQ (ops:Array Oper) (as:List Nat):List Nat→Bool
 |[]=>true
 |i::r=>(r.all fun j=>match as[j]?,ops[i]?,ops[j]? with
   |some m,some oi,some oj=>!Nat.beq i j&&(Nat.testBit m i||GV ops oi oj)
   |_,_,_=>false)&&DQ ops as r
def dQ (l:List Nat):Nat:=l.foldr (fun i m=>m|||2^i) 0
def lP (as:List Nat):Nat→List Nat→Bool
 |_,[]=>true
 |L,i::r=>(match as[i]? with
  |some m=>Nat.beq (m&&&L) m
  |none=>false)&&lP as (L|||2^i) r
def aja (ops:Array Oper) (as:List Nat) (full L:Nat) (l:List Nat):Bool:=
 !l.isEmpty&&(l.all fun i=>Nat.blt i ops.size&& !Nat.testBit L i&&Nat.beq (bu i as 0 0&&&L) 0&&Nat.beq (full^^^(bu i as 0 0|||L|||dQ l)) 0)&&DQ ops as l&&lP as L l
def qP (ops:Array Oper) (as:List Nat) (ds:List (List Nat)):List Nat→Bool
 |[]=>true
 |i::r=>(r.all fun j=>match ops[i]?,ops[j]? with
   |some oi,some oj=>!Nat.beq i j&&(Nat.testBit (bu i as 0 0) j||(Zc ds oi oj||exB oi oj))
   |_,_=>false)&&qP ops as ds r
def ack (Θ:db) (ops:Array Oper) (as:List Nat) (full L i:Nat):Bool:=match ops[i]? with
 |some oi=>zU Θ oi.op&&jE ops oi (full^^^(full&&&(bu i as 0 0|||L|||bc oi))) ops.toList 0
 |none=>false
def ajb (Θ:db) (ops:Array Oper) (as:List Nat) (full L:Nat) (l:List Nat) (ds:List (List Nat)):Bool:=
 !l.isEmpty&&(l.all fun i=>Nat.blt i ops.size&& !Nat.testBit L i&&Nat.beq (bu i as 0 0&&&L) 0&&(Nat.beq (full^^^(bu i as 0 0|||L|||dQ l)) 0||ack Θ ops as full L i))&&qP ops as ds l&&lP as L l&&l.all fun i=>match ops[i]? with
  |some o=>DP ds o&& !oP o.op
  |none=>false
def fv (Θ:db) (O:jr) (ops:Array Oper) (as:List Nat) (full:Nat):Nat→OT→Bool
 |L,.done=>Nat.beq L full
 |L,.one i t=>acj Θ O ops as full L i&&fv Θ O ops as full (L|||2^i) t
 |L,.any l t=>aja ops as full L l&&fv Θ O ops as full (L|||dQ l) t
 |L,.own _ t=>fv Θ O ops as full L t
 |L,.par l ds t=>ajb Θ ops as full L l ds&&fv Θ O ops as full (L|||dQ l) t
def OT.len:OT→Nat
 | .done=>0 | .one _ t=>t.len+1 | .any l t=>t.len+l.length | .par l _ t=>t.len+l.length | .own _ t=>t.len
def as8 (Θ:db) (O:jr) (ops:Array Oper) (l:OT):Bool:=Region.noSelect ops&&Nat.ble l.len ops.size&&fv Θ O ops (ops.toList.map bc) (2^ops.size - 1) 0 l
def B6 (S:St):St:=S.map fun a=>match a with
 | .al t s []=>.al t s []
 | .al ..=>.dead
 | .ad ..=>.dead
 | .cut ..=>.dead
 |a=>a
def acm:List (Nat×OT)→Nat→Option OT
 |[],_=>none
 |q::r,k=>bif Nat.beq q.1 k then some q.2 else acm r k
def eM (h:Hint) (O:jr):Code→Bool
 | .region id ops true=>(match acm h.bp id with
  |some l=>as8 h.tab O ops l
  |none=>true)
 | .seq a b=>eM h O a&&eM h O b
 | .cond _ a b=>eM h O a&&eM h O b
 | .block _ c=>eM h O c
 | .loop c=>eM h O c
 |_=>true
def keyOf:Code→Nat
 | .region id _ _=>id
 | .seq a _=>keyOf a
 | .block _ c=>keyOf c
 | .loop c=>keyOf c
 |_=>0
def nJ (ops:Array Oper):Bool:=ops.toList.all fun o=>!oP o.op
def fJ:Code→Bool
 | .region _ ops _=>nJ ops
 | .seq a b=>fJ a&&fJ b
 | .cond _ a b=>fJ a&&fJ b
 | .block _ c=>fJ c
 | .loop c=>fJ c
 |_=>true
abbrev Ks:=Ex→St→Option aa
def Hint.fw (h:Hint) (key:Nat) (K:Ks):Ks:=fun e S=>match arE h.outs key e.num with
 |some ks=>(match sq ks S with
  |some S1=>K e S1
  |none=>none)
 |none=>none
noncomputable def pe (h:Hint) (O:jr) (L:Nat→St→Ks→Option aa):Code→St→Ks→Option aa
 | .skip,S,K=>K .n S
 | .region id ops false,S,K=>mK h O ops (List.range ops.size) S (fun S1=>K .n (Y' h.frz id (B6 S1)))
 | .region id ops true,S,K=>match acm h.bp id with
  |some l=>fa h O ops l S (fun S1=>K .n (Y' h.frz id (B6 S1)))
  |none=>none
 | .seq a b,S,K=>pe h O L a S (fun e S1=>match e with
  | .n=>pe h O L b S1 K
  |e=>K e S1)
 | .cond c x y,S,K=>match S.rd h.tab 0 c with
  |some ⟨.bool,_,q⟩=>bif q then pe h O L x S K else pe h O L y S K
  |_=>none
 | .block id c,S,K=>pe h O L c S (fun e S1=>match e with
  | .x id'=>bif Nat.beq id' id then K .n S1 else K (.x id') S1
  |e=>K e S1)
 | .loop c,S,K=>match h.clean (keyOf c) S with
  |some S1=>L (keyOf c) S1 (h.fw (keyOf c) K)
  |none=>none
 | .exit id,S,K=>K (.x id) S
 | .ret,S,K=>K .r S
 |_,_,_=>none
def tp (Lf:Nat→Nat→St→Ks→Option aa) (N n azo:Nat):Nat→St→Ks→Option aa:=fun key S K=>bif Nat.beq key azo then Lf n key S K else Lf N key S K
noncomputable def jW (h:Hint) (O:jr) (L:Nat→St→Ks→Option aa) (c:Code) (S:St) (K:Ks):Option aa:=
 pe h O L c S (fun e S1=>match e with
  | .n=>(match h.clean (keyOf c) S1 with
   |some S2=>L (keyOf c) S2 K
   |none=>none)
  |e=>K e S1)
def nq (Θ:db) (S:St):List ResultVar→Option (List TV×St)
 |[]=>some ([],S)
 | .tmp t::r=>match S.dB (.tmp t) (S.at t) with
  |some (a,S1)=>match nq Θ S1 r with
   |some (l,S2)=>some (a::l,S2)
   |none=>none
  |none=>none
 | .cell t T::r=>match S.at t with
  | .v ⟨.ptr ty,.o _ _ me,x⟩ []=>match nq Θ (S.put (some t) .dead) r with
   |some (l,S2)=>bif Θ.is T ty then some (⟨ty,me,x⟩::l,S2) else none
   |none=>none
  |_=>none
def arF:Arg→AV
 | .tv a=>.v a []
 | .fn f cw=>.k8 f (cw.map .kv)
def start (fn:Func) (args:List Arg):St:=args.map arF++List.replicate (fn.ntmps - args.length) .undef
def DR:Bool→TV→Option TV
 |false,b=>some b
 |true,⟨.ptr t,.o _ _ me,x⟩=>some ⟨t,me,x⟩
 |true,_=>none
noncomputable def lQ (h:Hint) (O:jr) (L:Nat→St→Ks→Option aa) (fn:Func) (args:List Arg) (K:aa→Option aa):Option aa:=
 match fn.body with
 |some c=>pe h O L c (start fn args) (fun e S=>match e with
  | .x _=>none
  |_=>match nq h.tab S fn.results.toList with
   |some (l,S1)=>(match h.wN with
    |none=>K ⟨l,[]⟩
    |some q=>match S1.at q.1 with
     | .v b []=>(match DR q.2 b with
      |some c=>K ⟨l,[c]⟩
      |none=>none)
     |_=>none)
   |none=>none)
 |none=>none
end Go.Pv
namespace Go.Pv
set_option linter.unusedVariables false
set_option linter.unusedSimpArgs false
def cL {σ:Type} (X:(σ→Option aa)→Option aa):Prop:=∃ o:Option σ,∀ K,X K=o.bind K
theorem cL.none {σ:Type}:cL (σ:=σ) fun _=>none:=⟨.none,fun _=>rfl⟩
theorem cL.pure {σ:Type} (s:σ):cL fun K=>K s:=⟨some s,fun _=>rfl⟩
theorem cL.bind {σ τ:Type} {X:(σ→Option aa)→Option aa} {Y:σ→(τ→Option aa)→Option aa} (h:cL X) (hy:∀ s,cL (Y s)):cL fun K=>X fun s=>Y s K:=by
 obtain⟨o,ho⟩:=h
 cases o with
 |none=>exact⟨.none,fun K=>ho _⟩
 |some s=>
  obtain⟨o',Gw⟩:=hy s
  exact⟨o',fun K=>(ho _).trans (Gw K)⟩
theorem cL.bif {σ:Type} {X Y:(σ→Option aa)→Option aa} (c:Bool) (hx:cL X) (hy:cL Y):cL fun K=>bif c then X K else Y K:=by cases c<;>assumption
def nK (O:jr):Prop:=∀ f as,cL (O.run f as)
def dw (X:Ks→Option aa):Prop:=∃ o:Option (Ex×St),∀ K,X K=o.bind fun q=>K q.1 q.2
theorem dw.none:dw fun _=>none:=⟨.none,fun _=>rfl⟩
theorem dw.pure (e:Ex) (S:St):dw fun K=>K e S:=⟨some (e,S),fun _=>rfl⟩
theorem dw.bind {X:Ks→Option aa} {Y:Ex→St→Ks→Option aa} (h:dw X) (hy:∀ e S,dw (Y e S)):dw fun K=>X fun e S=>Y e S K:=by
 obtain⟨o,ho⟩:=h
 cases o with
 |none=>exact⟨.none,fun K=>ho _⟩
 |some s=>
  obtain⟨o',Gw⟩:=hy s.1 s.2
  exact⟨o',fun K=>(ho _).trans (Gw K)⟩
theorem dw.of {X:(St→Option aa)→Option aa} {Y:St→Ks→Option aa} (h:cL X) (hy:∀ S,dw (Y S)):dw fun K=>X fun S=>Y S K:=by
 obtain⟨o,ho⟩:=h
 cases o with
 |none=>exact⟨.none,fun K=>ho _⟩
 |some s=>
  obtain⟨o',Gw⟩:=hy s
  exact⟨o',fun K=>(ho _).trans (Gw K)⟩
theorem dw.to {X:Ks→Option aa} {Y:Ex→St→(aa→Option aa)→Option aa} (h:dw X) (hy:∀ e S,cL (Y e S)):cL fun K=>X fun e S=>Y e S K:=by
 obtain⟨o,ho⟩:=h
 cases o with
 |none=>exact⟨.none,fun K=>ho _⟩
 |some s=>
  obtain⟨o',Gw⟩:=hy s.1 s.2
  exact⟨o',fun K=>(ho _).trans (Gw K)⟩
variable {h:Hint} {O:jr} {ops:Array Oper}
theorem DS (hO:nK O) (o:Oper) (f:FuncId) (cal:Option Nat) (as:List Operand) (ts:List TypeId) (S:St):cL (gA h O o f cal as ts S):=by
 unfold gA
 split
 ·split
  ·refine(hO f _).bind fun ret=>?_
   split
   ·exact cL.bif _ (cL.pure _) cL.none
   ·exact cL.none
  ·exact cL.none
 ·exact cL.none
theorem Re (hO:nK O) (o:Oper) (f:FuncId) (j:Nat) (as:List Operand) (ts:List TypeId) (S:St):cL (qO h O o f j as ts S):=by
 unfold qO
 split
 ·split
  ·split
   ·refine cL.bif _ ?_ cL.none
    split
    ·refine cL.bif _ ?_ cL.none
     refine(hO f _).bind fun ret=>?_
     split
     ·refine cL.bif _ ?_ cL.none
      split
      ·split
       ·split
        ·exact cL.pure _
        ·exact cL.none
       ·exact cL.none
      ·exact cL.none
     ·exact cL.none
    ·exact cL.none
   ·exact cL.none
  ·exact cL.none
 ·exact cL.none
theorem DT (hO:nK O) (o:Oper) (hn:oP o.op=false) (S:St):cL (gB h O o S):=by
 unfold gB
 split
 ·split
  ·exact Re hO ..
  ·exact DS hO ..
 ·split
  ·exact DS hO ..
  ·exact cL.none
 ·rename_i ho;rw[ho] at hn;cases hn
 ·rename_i ho;rw[ho] at hn;cases hn
 ·split
  ·exact cL.bif _ (cL.pure _) cL.none
  ·exact cL.none
theorem gZ (hO:nK O) (i:Nat) (hn:∀ o,ops[i]?=some o→oP o.op=false) (S:St):cL (aW h O ops i S):=by
 unfold aW
 split
 ·exact cL.none
 ·rename_i o ho
  have hn:=hn o ho
  split
  ·exact DT hO _ hn _
  ·split
   ·split
    ·exact cL.bif _ (cL.bif _ (DT hO _ hn _) (cL.pure _)) (cL.bif _ (cL.pure _) (DT hO _ hn _))
    ·exact cL.pure _
    ·exact cL.none
   ·exact cL.none
theorem DU (hp:nJ ops=true) (i:Nat) (o:Oper) (ho:ops[i]?=some o):oP o.op=false:=by
 unfold nJ at hp
 have:=List.all_eq_true.1 hp o (by rw[←Array.getElem?_toList] at ho;exact List.mem_of_getElem? ho)
 simpa using this
theorem zV (hO:nK O) (hp:nJ ops=true):∀ (l:List Nat) (S:St),cL (mK h O ops l S)
 |[],S=>cL.pure S
 |i::r,S=>(gZ hO i (DU hp i) S).bind fun S1=>zV hO hp r S1
theorem GW (hO:nK O) (hp:nJ ops=true):∀ (l:List Nat) (S:St),cL (mL h O ops l S)
 |[],S=>cL.pure S
 |i::r,S=>by
  simp only[show mL h O ops (i::r) S=fun K=>mL h O ops (i::r) S K from rfl,mL]
  split
  ·exact cL.bif _ ((gZ hO i (DU hp i) S).bind fun S1=>GW hO hp r S1) cL.none
  ·exact cL.none
theorem lR (hO:nK O) (hp:nJ ops=true):∀ (t:OT) (S:St),cL (fa h O ops t S)
 | .done,S=>cL.pure S
 | .one i t,S=>(gZ hO i (DU hp i) S).bind fun S1=>lR hO hp t S1
 | .any l t,S=>(GW hO hp l S).bind fun S1=>lR hO hp t S1
 | .own d t,S=>by
  show cL fun K=>fa h O ops (.own d t) S K
  simp only[fa]
  cases VS S d with
  |none=>exact cL.none
  |some q=>exact cL.bif _ (lR hO hp t q.2) cL.none
 | .par l ds t,S=>cL.bif _ ((zV hO hp l S).bind fun S1=>lR hO hp t S1) cL.none
def Zd (h:Hint) (L:Nat→St→Ks→Option aa) (key:Nat):Prop:=∀ (ks:List Kd) (x:qD ks),nI h.loops key=some ks→dw fun K=>L key (shape ks x) (h.fw key K)
def er:Code→List Nat
 | .seq a b=>er a++er b
 | .cond _ a b=>er a++er b
 | .block _ c=>er c
 | .loop c=>keyOf c::er c
 |_=>[]
theorem wP {S S1:St} {key:Nat} (e:h.clean key S=some S1):∃ ks x,nI h.loops key=some ks∧S1=shape ks x:=by
 unfold Hint.clean at e
 split at e
 case h_2=>cases e
 rename_i ks zO
 unfold sq at e
 cases hk:gk ks ks with
 |false=>rw[hk] at e;cases e
 |true=>
  rw[hk] at e
  simp only[cond_true] at e
  split at e
  case h_2=>cases e
  rename_i x hx
  injection e with e
  exact⟨ks,x,zO,e.symm⟩
theorem ud (hO:nK O) {L:Nat→St→Ks→Option aa}:∀ (c:Code) (S:St),fJ c=true→(∀ k∈er c,Zd h L k)→dw (pe h O L c S)
 | .skip,S,_,_=>dw.pure _ _
 | .region id ops false,S,hp,_=>dw.of (zV hO hp _ S) fun S1=>dw.pure _ _
 | .region id ops true,S,hp,_=>by
  show dw fun K=>pe h O L (.region id ops true) S K
  simp only[pe]
  split
  ·exact dw.of (lR hO hp _ S) fun S1=>dw.pure _ _
  ·exact dw.none
 | .seq a b,S,hp,hL=>by
  simp only[fJ,Bool.and_eq_true] at hp
  show dw fun K=>pe h O L (.seq a b) S K
  simp only[pe]
  refine dw.bind (ud hO a S hp.1 fun k hk=>hL k (by simp[er,hk])) fun e S1=>?_
  cases e with
  |n=>exact ud hO b S1 hp.2 fun k hk=>hL k (by simp[er,hk])
  |x id=>exact dw.pure _ _
  |r=>exact dw.pure _ _
 | .cond c x y,S,hp,hL=>by
  simp only[fJ,Bool.and_eq_true] at hp
  show dw fun K=>pe h O L (.cond c x y) S K
  simp only[pe]
  split
  ·rename_i q _
   cases q with
   |true=>exact ud hO x S hp.1 fun k hk=>hL k (by simp[er,hk])
   |false=>exact ud hO y S hp.2 fun k hk=>hL k (by simp[er,hk])
  ·exact dw.none
 | .block id c,S,hp,hL=>by
  simp only[fJ] at hp
  show dw fun K=>pe h O L (.block id c) S K
  simp only[pe]
  refine dw.bind (ud hO c S hp fun k hk=>hL k (by simpa[er] using hk)) fun e S1=>?_
  cases e with
  |n=>exact dw.pure _ _
  |x id'=>
   cases h:Nat.beq id' id with
   |true=>exact⟨some (.n,S1),fun K=>by simp[h]⟩
   |false=>exact⟨some (.x id',S1),fun K=>by simp[h]⟩
  |r=>exact dw.pure _ _
 | .loop c,S,_,hL=>by
  show dw fun K=>pe h O L (.loop c) S K
  simp only[pe]
  split
  ·rename_i S1 hS1
   obtain⟨ks,x,hk,rfl⟩:=wP hS1
   exact hL (keyOf c) (by simp[er]) ks x hk
  ·exact dw.none
 | .exit id,S,_,_=>dw.pure _ _
 | .ret,S,_,_=>dw.pure _ _
 | .rangeFunc ..,S,_,_=>dw.none
 | .scope _,S,_,_=>dw.none
 | .label _,S,_,_=>dw.none
 | .goto _,S,_,_=>dw.none
 | .refuse _,S,_,_=>dw.none
theorem GX (h:Hint) (key:Nat) (e:Ex) (S:St):dw fun K=>h.fw key K e S:=by
 unfold Hint.fw
 split
 ·split
  ·exact dw.pure _ _
  ·exact dw.none
 ·exact dw.none
theorem DV (fn:Func) (S:St):cL fun(K:aa→Option aa)=>(match nq h.tab S fn.results.toList with
   |some (l,S1)=>(match h.wN with
    |none=>K ⟨l,[]⟩
    |some q=>match S1.at q.1 with
     | .v b []=>(match DR q.2 b with
      |some c=>K ⟨l,[c]⟩
      |none=>none)
     |_=>none)
   |none=>none):=by
 split
 ·split
  ·exact cL.pure _
  ·split
   ·split
    ·exact cL.pure _
    ·exact cL.none
   ·exact cL.none
 ·exact cL.none
theorem Rf (hO:nK O) {L:Nat→St→Ks→Option aa} {fn:Func} {body:Code} (hb:fn.body=some body) (hp:fJ body=true) (hL:∀ k∈er body,Zd h L k) (args:List Arg):cL (lQ h O L fn args):=by
 unfold lQ
 rw[hb]
 simp only
 refine dw.to (ud hO body _ hp hL) fun e S=>?_
 cases e with
 |n=>exact DV fn S
 |x id=>exact cL.none
 |r=>exact DV fn S
end Go.Pv
namespace Go.Pv
set_option linter.unusedVariables false
set_option linter.unusedSimpArgs false
def isAgg:Ty→Bool
 | .pair _ _=>true | .unit=>true | .arr _ _=>true |_=>false
def ax (t:Ty) (v:Value) (cs:List Value):Prop:=if isAgg t=true then v=.agg cs.toArray else cs=[v]
section
variable (w:World) (Av:Nat→Prop) (H:Nat→Value) (tm:Nat→Value) (S:St)
structure Ref (t:Ty) (s:Nat) (p:Path) (r:TV) (cM:List Value):Prop where
 at_:∃ ex,S.at s=.v r ex∧open_ p ex
 val:valid p r.t r.x
 get:∃ b,a8 p r.t r.m r.x=some b∧b.t=t
 mat:ax r.t (tm s) cM
def lS:H3→Value→Prop
 | .kv a,u=>K w Av a.t a.x [u]
 | .pl t s p,u=>∃ r cM cs,Ref tm S (.ptr t) s p r cM∧aS w p r.t cM=some cs∧ax (.ptr t) u cs
def Holds (own:Nat→Prop):AV→Value→Prop
 | .dead,_=>True
 | .undef,v=>v=undef
 | .v a ex,v=>∃ cs,ax a.t v cs∧M w Av H a.t a.m a.x cs own ex
 | .th l,v=>∃ (vs:List Value) (τ:Nat→Nat),v=.tuple vs.toArray∧vs.length=l.length∧
   ∀ (j:Nat) (a:TV),l[j]?=some (some a)→∃ u cs,vs[j]?=some u∧ax a.t u cs∧M w Av H a.t a.m a.x cs (fun g=>own g∧τ g=j) []
 | .al t s p,v=>∃ r cM cs,Ref tm S t s p r cM∧aS w p r.t cM=some cs∧ax t v cs
 | .ad t s p,v=>∃ r cM g off,Ref tm S t s p r cM∧addrAt w p r.t cM none=some (g,off)∧v=.pointer (some ⟨g,off,none⟩)
 | .cut t s p lo hi,v=>∃ r cM t' A n c,Ref tm S t s p r cM∧t=.sl t'∧aS w p r.t cM=some [.slice A n c]∧lo≤hi∧hi≤n∧
   v=.slice (if c=lo then A else A.map (·.add (lo*t'.size))) (hi - lo) (c - lo)
 | .k8 f cw,v=>∃ vs:List Value,v=.func (.func f) #[] vs.toArray∧vs.length=cw.length∧∀ (j:Nat) (c:H3),cw[j]?=some c→∃ u,vs[j]?=some u∧lS w Av tm S c u
end
structure Fr (w0:World) (W0:Nat→Prop) (w:World):Prop where
 os:w.os=w0.os
 tape:w.tape=w0.tape
 output:w.output=w0.output
 size:w0.heap.size≤w.heap.size
 block:∀ g,g<w0.heap.size→¬W0 g→w.heap[g]?=w0.heap[g]?
def Av (σ:Nat→Option Nat) (Z:Nat→Prop) (g:Nat):Prop:=(∃ i,σ g=some i)∨Z g
def bZ (a:Act) (i:Nat):Value:=a.tmps.getD i undef
structure a6 (σ:Nat→Option Nat) (w0:World) (W0 Z:Nat→Prop) (H:Nat→Value) (S:St) (a:Act) (w:World):Prop where
 len:S.length=a.tmps.size
 defers:a.defers=[]
 fr:Fr w0 W0 w
 new:∀ g i,σ g=some i→w0.heap.size≤g∨W0 g
 lt:∀ g i,σ g=some i→g<w.heap.size
 old:∀ g,Z g→σ g=none∧g<w0.heap.size
 holds:∀ i,Holds w (Av σ Z) H (bZ a) S (fun g=>σ g=some i) (S.at i) (bZ a i)
def Rel (w0:World) (W0 Z:Nat→Prop) (H:Nat→Value) (S:St) (a:Act) (w:World):Prop:=∃ σ,a6 σ w0 W0 Z H S a w
theorem ey {w w':World} {Wr qk:Nat→Prop} {H:Nat→Value} (bU:aU w w' Wr qk):∀ (p:Path) {t:Ty} {m:Md} {x:t.I} {cs:List Value} {ow:Nat→Prop} {hs:List Path} (l:Option (Nat×Nat)),
  M w Wr H t m x cs ow hs→(∀ g,ow g→g<w.heap.size→w'.heap[g]?=w.heap[g]?)→open_ p hs→valid p t x→aS w' p t cs=aS w p t cs∧addrAt w' p t cs l=addrAt w p t cs l
 |[],_,_,_,_,_,_,_,_,_,_,_=>⟨rfl,rfl⟩
 | .deref::p,.ptr t,m,x,cs,ow,hs,l,h,hb,ho,hv=>by
  simp only[valid] at hv
  simp only[M] at h
  rcases h with⟨hn,_⟩ |⟨hk,h⟩ |⟨T,tag,me,g,cur,rfl,rfl,ht,qm,hw,h⟩
  ·exact absurd hn ho.not_nil
  ·simp only[K] at h
   obtain⟨g,off,cur,T,fr,rfl,hng,hw,hl,h⟩:=h
   have Gx:=(bU.same g hng (bg hw)).trans hw
   have ih:=ey bU p (H:=H) (some (g,off)) (fI (ow:=fun _=>False) (hs:=sub .deref hs) t h) (fun _ h=>h.elim) ho.sub hv
   simp only[aS,addrAt,bA hw hl,bA Gx hl,Option.bind_some]
   exact ih
  ·have Gx:=(hb g qm (bg hw)).trans hw
   have iB:0+t.size≤cur.size:=by rw[←(eo t h).1];simp
   have gz:(cur.toList.drop 0).take t.size=cur.toList:=by rw[List.drop_zero,List.take_of_length_le (by rw[(eo t h).1];exact Nat.le_refl _)]
   have ih:=ey bU p (some (g,0)) h (fun g hg=>hb g hg.1) ho.sub hv
   simp only[aS,addrAt,bA hw iB,bA Gx iB,Option.bind_some,gz]
   exact ih
 | .fst::p,.pair a b',m,x,cs,ow,hs,l,h,hb,ho,hv=>by
  simp only[valid] at hv
  simp only[M] at h
  simp only[aS,addrAt]
  rcases h with⟨hn,_⟩ |⟨hk,h⟩ |⟨ma,mb,c0,c1,s,rfl,rfl,h0,h1⟩
  ·exact absurd hn ho.not_nil
  ·simp only[K] at h
   obtain⟨c0,c1,rfl,h0,h1⟩:=h
   rw[←(kG a h0).1,List.take_left]
   exact ey bU p (H:=H) l (fI (ow:=fun _=>False) (hs:=sub .fst hs) a h0) (fun _ h=>h.elim) ho.sub hv
  ·rw[←(eo a h0).1,List.take_left]
   exact ey bU p l h0 (fun g hg=>hb g hg.1) ho.sub hv
 | .snd::p,.pair a b',m,x,cs,ow,hs,l,h,hb,ho,hv=>by
  simp only[valid] at hv
  simp only[M] at h
  simp only[aS,addrAt]
  rcases h with⟨hn,_⟩ |⟨hk,h⟩ |⟨ma,mb,c0,c1,s,rfl,rfl,h0,h1⟩
  ·exact absurd hn ho.not_nil
  ·simp only[K] at h
   obtain⟨c0,c1,rfl,h0,h1⟩:=h
   rw[←(kG a h0).1,List.drop_left]
   exact ey bU p (H:=H) _ (fI (ow:=fun _=>False) (hs:=sub .snd hs) b' h1) (fun _ h=>h.elim) ho.sub hv
  ·rw[←(eo a h0).1,List.drop_left]
   exact ey bU p _ h1 (fun g hg=>hb g hg.1) ho.sub hv
 | .idx i::p,.sl t,m,xs,cs,ow,hs,l,h,hb,ho,hv=>by
  simp only[valid] at hv
  obtain⟨hi,hv⟩:=hv
  have eF:List.getD xs i t.z=xs[i]:=by simp[List.getD_eq_getElem?_getD,List.getElem?_eq_getElem hi]
  simp only[M] at h
  rcases h with⟨hn,_⟩ |⟨hk,h⟩ |⟨T,tag,me,A,c,rfl,rfl,hc,ht,h⟩
  ·exact absurd hn ho.not_nil
  ·simp only[K] at h
   obtain⟨A,c,rfl,hc,h⟩:=h
   obtain⟨g,off,cur,T,fr,rfl,hng,hw,hl,h⟩:=h (by omega)
   have Gx:=(bU.same g hng (bg hw)).trans hw
   have hbound:off+i*t.size+t.size≤cur.size:=by
    have:=Nat.mul_le_mul_right t.size (show i+1≤xs.length from hi)
    rw[Nat.add_mul,Nat.one_mul] at this
    omega
   have hK:=h i hi
   rw[←eF] at hK
   have ih:=ey bU p (H:=H) (some (g,off+i*t.size)) (fI (ow:=fun _=>False) (hs:=sub (.idx i) hs) t hK) (fun _ h=>h.elim) ho.sub hv
   simp only[aS,addrAt,bA hw hbound,bA Gx hbound,Option.bind_some]
   exact ih
  ·rcases h with⟨rfl,_⟩ |⟨g,cur,τ,rfl,qm,hw,iB,hm,h⟩
   ·simp at hi
   ·have Gx:=(hb g qm (bg hw)).trans hw
    have hbound:i*t.size+t.size≤cur.size:=by
     have h1:=Nat.mul_le_mul_right t.size (show i+1≤xs.length from hi)
     have h2:=Nat.mul_le_mul_right t.size hc
     rw[Nat.add_mul,Nat.one_mul] at h1
     omega
    have hM:=h i hi
    rw[←eF] at hM
    have ih:=ey bU p (some (g,i*t.size)) hM (fun g hg=>hb g hg.1) ho.sub hv
    simp only[aS,addrAt,Nat.zero_add,bA hw hbound,bA Gx hbound,Option.bind_some]
    exact ih
variable {w w':World} {A A':Nat→Prop} {H:Nat→Value} {tm qH:Nat→Value} {S S':St}
structure Kept (w w':World) (A:Nat→Prop) (H:Nat→Value) (tm qH:Nat→Value) (S S':St) (s:Nat):Prop where
 at_:∀ r ex,S.at s=.v r ex→S'.at s=.v r ex
 tm_:qH s=tm s
 hold:∃ own,Holds w A H tm S own (S.at s) (tm s)∧∀ g,own g→g<w.heap.size→w'.heap[g]?=w.heap[g]?
theorem ez {t:Ty} {v:Value} {cs cK:List Value} (h:ax t v cs) (h':ax t v cK):cs=cK:=by
 unfold ax at*
 split at h
 ·rename_i ha
  rw[if_pos ha] at h'
  rw[h] at h'
  injection h' with h'
  simpa using h'
 ·rename_i ha
  rw[if_neg ha] at h'
  rw[h,h']
theorem Ref.kept {t:Ty} {s:Nat} {p:Path} {r:TV} {cM:List Value} (bU:aU w w' A A') (hk:Kept w w' A H tm qH S S' s) (h:Ref tm S t s p r cM):
  Ref qH S' t s p r cM∧∀ l,aS w' p r.t cM=aS w p r.t cM∧addrAt w' p r.t cM l=addrAt w p r.t cM l:=by
 obtain⟨⟨ex,h1,h2⟩,h3,h4,h5⟩:=h
 refine⟨⟨⟨ex,hk.at_ _ _ h1,h2⟩,h3,h4,by rw[hk.tm_];exact h5⟩,fun l=>?_⟩
 obtain⟨own,hh,hb⟩:=hk.hold
 rw[h1] at hh
 obtain⟨cs,hm,hM⟩:=hh
 obtain rfl:=ez h5 hm
 exact ey bU p l hM hb h2 h3
theorem lS.kept {c:H3} {u:Value} (bU:aU w w' A A') (hk:∀ t s p,c=.pl t s p→Kept w w' A H tm qH S S' s) (h:lS w A tm S c u):lS w' A' qH S' c u:=by
 cases c with
 |kv a=>exact bV bU _ h
 |pl t s p=>
  obtain⟨r,cM,cs,hr,hc,hm⟩:=h
  obtain⟨h1,h2⟩:=hr.kept bU (hk t s p rfl)
  exact⟨r,cM,cs,h1,by rw[(h2 none).1];exact hc,hm⟩
theorem Holds.kept {own H6:Nat→Prop} {a:AV} {v:Value} (bU:aU w w' A A') (ho:∀ g,own g→g<w.heap.size→w'.heap[g]?=w.heap[g]? ∧H6 g)
  (hk:∀ s,a.refs s=true→Kept w w' A H tm qH S S' s) (h:Holds w A H tm S own a v):Holds w' A' H qH S' H6 a v:=by
 cases a with
 |dead=>trivial
 |undef=>exact h
 |v a ex=>
  obtain⟨cs,h1,h2⟩:=h
  exact⟨cs,h1,aJ bU _ (fun g hg hl=>(ho g hg hl).1) (fun g hg hl=>(ho g hg hl).2) (fun _ h=>h) h2⟩
 |th l=>
  obtain⟨vs,τ,h1,h2,h3⟩:=h
  refine⟨vs,τ,h1,h2,fun j a hj=>?_⟩
  obtain⟨u,cs,k1,k2,k3⟩:=h3 j a hj
  exact⟨u,cs,k1,k2,aJ bU _ (fun g hg hl=>(ho g hg.1 hl).1) (fun g hg hl=>⟨(ho g hg.1 hl).2,hg.2⟩) (fun _ h=>h) k3⟩
 |al t s p=>
  obtain⟨r,cM,cs,hr,hc,hm⟩:=h
  obtain⟨h1,h2⟩:=hr.kept bU (hk s (by simp[AV.refs]))
  exact⟨r,cM,cs,h1,by rw[(h2 none).1];exact hc,hm⟩
 |ad t s p=>
  obtain⟨r,cM,g,off,hr,hc,hm⟩:=h
  obtain⟨h1,h2⟩:=hr.kept bU (hk s (by simp[AV.refs]))
  exact⟨r,cM,g,off,h1,by rw[(h2 none).2];exact hc,hm⟩
 |cut t s p lo hi=>
  obtain⟨r,cM,t',A1,n,c,hr,ht,hc,hm⟩:=h
  obtain⟨h1,h2⟩:=hr.kept bU (hk s (by simp[AV.refs]))
  exact⟨r,cM,t',A1,n,c,h1,ht,by rw[(h2 none).1];exact hc,hm⟩
 |k8 f cw=>
  obtain⟨vs,h1,h2,h3⟩:=h
  refine⟨vs,h1,h2,fun j c hj=>?_⟩
  obtain⟨u,k1,k2⟩:=h3 j c hj
  refine⟨u,k1,k2.kept bU (fun t s p e=>hk s ?_)⟩
  subst e
  simp only[AV.refs,List.any_eq_true]
  exact⟨_,List.mem_of_getElem? hj,by simp⟩
theorem cQ (S:St) (d:Nat) (a:AV) (i:Nat):St.at (S.set d a) i=if i=d∧d<S.length then a else S.at i:=by
 unfold St.at
 rw[List.getD_eq_getElem?_getD,List.getD_eq_getElem?_getD,List.getElem?_set]
 by_cases h:d=i
 ·subst h
  by_cases hl:d<S.length
  ·simp[hl]
  ·simp[hl]
 ·have h': ¬i=d:=fun e=>h e.symm
  simp[h,h']
theorem DW (S:St) (f:AV→AV) (hf:f .dead=.dead) (i:Nat):St.at (S.map f) i=f (S.at i):=by
 unfold St.at
 rw[List.getD_eq_getElem?_getD,List.getD_eq_getElem?_getD,List.getElem?_map]
 cases S[i]? with
 |none=>simp[hf]
 |some a=>rfl
theorem ajc (S:St) (d i:Nat):(S.kill d).at i=bif (S.at i).refs d then .dead else S.at i:=DW S _ (by simp[AV.refs]) i
theorem jF (S:St) (d i:Nat):(S.weaken d).at i=bif (S.at i).eJ d then .dead else S.at i:=DW S _ (by simp[AV.eJ]) i
theorem acn (S:St) (d:Nat):(S.kill d).length=S.length:=by simp[St.kill]
theorem dD (S:St) (d:Nat) (a:AV) (i:Nat):(S.put (some d) a).at i=if i=d∧d<S.length then(bif a.refs d then .dead else a) else bif (S.at i).refs d&&(S.at d).zQ then .dead else S.at i:=by
 simp only[St.put]
 cases (S.at d).zQ
 ·simp only[cond_false,cQ,Bool.and_false]
 ·simp only[cond_true,cQ,acn,ajc,Bool.and_true]
theorem b5 (S:St) (dst:Option Nat) (a:AV):(S.put dst a).length=S.length:=by
 cases dst with
 |none=>rfl
 |some d=>simp only[St.put];cases (S.at d).zQ<;>simp[St.kill]
theorem as9 {own:Nat→Prop} {w:World} {A:Nat→Prop} {H:Nat→Value} {tm:Nat→Value} {S:St} {av:AV} {v:Value} {d:Nat} (h:Holds w A H tm S own av v) (hr:av.refs d=true):(S.at d).zQ=true:=by
 cases av with
 |dead=>cases hr
 |undef=>cases hr
 |v a ex=>cases hr
 |th l=>cases hr
 |al t s p=>
  obtain rfl:s=d:=Nat.eq_of_beq_eq_true hr
  obtain⟨r,cM,cs,h1,_⟩:=h
  obtain⟨ex,h2,_⟩:=h1.at_
  rw[h2];rfl
 |ad t s p=>
  obtain rfl:s=d:=Nat.eq_of_beq_eq_true hr
  obtain⟨r,cM,g,off,h1,_⟩:=h
  obtain⟨ex,h2,_⟩:=h1.at_
  rw[h2];rfl
 |cut t s p lo hi=>
  obtain rfl:s=d:=Nat.eq_of_beq_eq_true hr
  obtain⟨r,cM,t',A,n,c,h1,_⟩:=h
  obtain⟨ex,h2,_⟩:=h1.at_
  rw[h2];rfl
 |k8 f cw=>
  simp only[AV.refs,List.any_eq_true] at hr
  obtain⟨c,hc,hr⟩:=hr
  obtain⟨vs,_,_,h3⟩:=h
  obtain⟨j,hj⟩:=List.mem_iff_getElem?.1 hc
  obtain⟨u,_,h4⟩:=h3 j c hj
  cases c with
  |kv a=>cases hr
  |pl t s p=>
   obtain rfl:s=d:=Nat.eq_of_beq_eq_true hr
   obtain⟨r,cM,cs,h1,_⟩:=h4
   obtain⟨ex,h2,_⟩:=h1.at_
   rw[h2];rfl
theorem zW (a:Act) (d:Nat) (v:Value) (i:Nat):bZ (a.put (some d) v) i=if i=d∧d<a.tmps.size then v else bZ a i:=by
 unfold bZ Act.put
 simp only[Array.getD_eq_getD_getElem?,Array.getElem?_setIfInBounds]
 by_cases h:d=i
 ·subst h
  by_cases hl:d<a.tmps.size
  ·simp[hl]
  ·simp[hl]
 ·have h': ¬i=d:=fun e=>h e.symm
  simp[h,h']
theorem aco (a:Act) (dst:Option Nat) (v:Value):(a.put dst v).tmps.size=a.tmps.size:=by
 cases dst<;>simp[Act.put]
theorem put_defers (a:Act) (dst:Option Nat) (v:Value):(a.put dst v).defers=a.defers:=by cases dst<;>rfl
theorem a6.put {σ dk:Nat→Option Nat} {w0:World} {W0 Z:Nat→Prop} {a:Act} {dst:Option Nat} {av:AV} {v:Value} (h:a6 σ w0 W0 Z H S a w)
  (bU:aU w w' (Av σ Z) (Av dk Z)) (qo:Fr w0 W0 w') (Ze:∀ g i,dk g=some i→(w0.heap.size≤g∨W0 g)∧g<w'.heap.size) (hold:∀ g,Z g→dk g=none)
  (kI:∀ i g,i<S.length→dst≠some i→σ g=some i→w'.heap[g]?=w.heap[g]? ∧dk g=some i)
  (mE:∀ d,dst=some d→d<S.length→av.refs d=false→Holds w' (Av dk Z) H (bZ (a.put dst v)) (S.put dst av) (fun g=>dk g=some d) av v):
  a6 dk w0 W0 Z H (S.put dst av) (a.put dst v) w':=by
 have qp:∀ i,¬i<S.length→S.at i=.dead:=fun i hl=>by
  unfold St.at
  rw[List.getD_eq_getElem?_getD,List.getElem?_eq_none (by omega)]
  rfl
 refine⟨by rw[b5,aco];exact h.len,by rw[put_defers];exact h.defers,qo,fun g i hg=>(Ze g i hg).1,fun g i hg=>(Ze g i hg).2,fun g hg=>⟨hold g hg,(h.old g hg).2⟩,fun i=>?_⟩
 by_cases GY:i<S.length
 rotate_left
 ·have:(S.put dst av).at i=.dead:=by
   unfold St.at
   rw[List.getD_eq_getElem?_getD,List.getElem?_eq_none (by rw[b5];omega)]
   rfl
  rw[this]
  trivial
 cases dst with
 |none=>
  have hk:∀ s,Kept w w' (Av σ Z) H (bZ a) (bZ a) S S s:=fun s=>by
   by_cases hs:s<S.length
   ·exact⟨fun _ _ h=>h,rfl,_,h.holds s,fun g hg _=>(kI s g hs (by simp) hg).1⟩
   ·exact⟨fun _ _ h=>h,rfl,fun _=>False,by rw[qp s hs];trivial,fun _ h=>h.elim⟩
  exact(h.holds i).kept bU (fun g hg _=>kI i g GY (by simp) hg) (fun s _=>hk s)
 |some d=>
  by_cases hi:i=d∧d<S.length
  ·obtain⟨rfl,hl⟩:=hi
   rw[dD,if_pos ⟨rfl,hl⟩,zW,if_pos ⟨rfl,by rw[←h.len];exact hl⟩]
   cases hr:av.refs i with
   |true=>simp[Holds]
   |false=>exact mE i rfl hl hr
  ·have Mh: ¬(i=d∧d<a.tmps.size):=by rw[←h.len];exact hi
   rw[dD,if_neg hi,zW,if_neg Mh]
   cases hr:(S.at i).refs d with
   |true=>rw[as9 (h.holds i) hr];simp[Holds]
   |false=>
    simp only[Bool.false_and,cond_false]
    by_cases hd:i=d
    ·subst hd
     rw[qp i (fun hl=>hi ⟨rfl,hl⟩)]
     trivial
    ·refine(h.holds i).kept bU (fun g hg _=>kI i g GY (by simpa using fun e=>hd e.symm) hg) (fun s hs=>?_)
     have zX:s≠d:=fun e=>by subst e;rw[hr] at hs;cases hs
     refine⟨?_,?_,?_⟩
     ·intro r ex hv
      rw[dD,if_neg (fun e=>zX e.1),hv]
      rfl
     ·rw[zW,if_neg (fun e=>zX e.1)]
     ·by_cases hs:s<S.length
      ·exact⟨_,h.holds s,fun g hg _=>(kI s g hs (by simpa using fun e=>zX e.symm) hg).1⟩
      ·exact⟨fun _=>False,by rw[qp s hs];trivial,fun _ h=>h.elim⟩
def release (σ:Nat→Option Nat) (dst:Option Nat) (g:Nat):Option Nat:=if dst.isSome=true∧σ g=dst then none else σ g
theorem fb {σ:Nat→Option Nat} {dst:Option Nat} {g i:Nat} (h:release σ dst g=some i):σ g=some i∧dst≠some i:=by
 unfold release at h
 split at h
 ·cases h
 ·rename_i hn
  refine⟨h,fun e=>hn ⟨by rw[e];rfl,by rw[h,e]⟩⟩
theorem ld {σ:Nat→Option Nat} {dst:Option Nat} {g i:Nat} (hd:dst≠some i) (h:σ g=some i):release σ dst g=some i:=by
 unfold release
 rw[if_neg (fun e=>hd (by rw[←e.2,h])),h]
theorem ue {σ:Nat→Option Nat} {dst:Option Nat} {Z:Nat→Prop} {g:Nat} (h:Av (release σ dst) Z g):Av σ Z g:=by
 rcases h with⟨i,h⟩ |h
 ·exact .inl ⟨i,(fb h).1⟩
 ·exact .inr h
theorem a6.pure {σ:Nat→Option Nat} {w0:World} {W0 Z:Nat→Prop} {a:Act} {dst:Option Nat} {av:AV} {v:Value} (h:a6 σ w0 W0 Z H S a w)
  (hv:Holds w (Av σ Z) H (bZ a) S (fun _=>False) av v):a6 (release σ dst) w0 W0 Z H (S.put dst av) (a.put dst v) w:=by
 have bU:aU w w (Av σ Z) (Av (release σ dst) Z):=⟨fun _ _ _=>rfl,fun g _ hg=>ue hg⟩
 refine h.put bU h.fr (fun g i hg=>⟨h.new g i (fb hg).1,h.lt g i (fb hg).1⟩) (fun g hg=>by unfold release;split<;>first |rfl |exact(h.old g hg).1) (fun i g _ hd hg=>⟨rfl,ld hd hg⟩) (fun d hd hl hr=>?_)
 subst hd
 refine hv.kept bU (fun _ h _=>h.elim) (fun s hs=>?_)
 have zX:s≠d:=fun e=>by subst e;rw[hr] at hs;cases hs
 refine⟨fun r ex hv=>?_,by rw[zW,if_neg (fun e=>zX e.1)],_,h.holds s,fun _ _ _=>rfl⟩
 rw[dD,if_neg (fun e=>zX e.1),hv]
 rfl
def arG (σ:Nat→Option Nat) (x:Operand) (g:Nat):Prop:=∃ i,x=.tmp i∧σ g=some i
theorem bC {σ:Nat→Option Nat} {w0:World} {W0 Z:Nat→Prop} {a:Act} {Θ:db} {T:TypeId} {x:Operand} {av:AV} (h:a6 σ w0 W0 Z H S a w) (he:S.dM Θ T x=some av):
  Holds w (Av σ Z) H (bZ a) S (arG σ x) av (a.eval x):=by
 cases x with
 |tmp i=>
  simp only[St.dM,Option.some.injEq] at he
  subst he
  refine(h.holds i).kept (aU.refl _ _) (fun g hg _=>⟨rfl,i,rfl,hg⟩) (fun s _=>⟨fun _ _ h=>h,rfl,_,h.holds s,fun _ _ _=>rfl⟩)
 |const c=>
  simp only[St.dM] at he
  split at he
  ·rename_i b hb
   injection he with he
   subst he
   unfold mH at hb
   split at hb
   ·injection hb with hb;subst hb
    exact⟨[a.eval (.const _)],by simp only[ax,isAgg];rfl,by simp[M,K,Act.eval,Md.bM]⟩
   ·injection hb with hb;subst hb
    exact⟨[a.eval (.const _)],by simp only[ax,isAgg];rfl,by simp[M,K,Act.eval,Md.bM]⟩
   ·injection hb with hb;subst hb
    exact⟨[a.eval (.const _)],by simp only[ax,isAgg];rfl,by simp[M,K,Act.eval,Md.bM]⟩
   ·split at hb
    ·rename_i i hi
     split at hb
     ·rename_i t ht
      injection hb with hb
      subst hb
      refine⟨[.slice none 0 0],by simp[ax,isAgg,Act.eval],?_⟩
      simp only[M]
      exact .inr (.inr ⟨_,_,_,none,0,rfl,rfl,Nat.le_refl _,fun h hh=>(by cases hh),.inl (by simp)⟩)
     ·cases hb
    ·cases hb
   ·cases hb
  ·cases he
 |func f=>
  simp only[St.dM,Option.some.injEq] at he
  subst he
  exact⟨[],by simp[Act.eval],rfl,fun j c hj=>by simp at hj⟩
 |global g=>simp[St.dM] at he
theorem Rg {own:Nat→Prop} {t:Ty} {m:Md} {x:t.I} {cs:List Value} (h:M w A H t m x cs own []):K w (fun _=>False) t x cs:=M_K (fun _ _ h=>h.elim) t rfl (fun _ _ h=>h) h
theorem H7 {t:Ty} {v:Value} {cs:List Value} (h:ax t v cs) (h1:∀ u∈cs,u.oneCell'=true):v.cells.toList=cs:=by
 unfold ax at h
 split at h
 ·subst h;rfl
 ·subst h
  have:=h1 v (by simp)
  cases v<;>first |rfl |(simp[Value.oneCell'] at this)
theorem nL:∀ (q r:Path),fX q (q++r)=true
 |[],_=>by simp[fX]
 | .idx i::q,r=>by simp[fX];exact nL q r
 | .deref::q,r=>by simp[fX];exact nL q r
 | .fst::q,r=>by simp[fX];exact nL q r
 | .snd::q,r=>by simp[fX];exact nL q r
theorem nM:∀ (q r:Path),fX (q++r) q=true
 |[],[]=>by simp[fX]
 |[],_::_=>by simp[fX]
 | .idx i::q,r=>by simp[fX];exact nM q r
 | .deref::q,r=>by simp[fX];exact nM q r
 | .fst::q,r=>by simp[fX];exact nM q r
 | .snd::q,r=>by simp[fX];exact nM q r
theorem tC {p:Path} {ex:List Path} (h:∀ q∈ex,fX q p=false):open_ p ex:=fun q hq s r e=>by
 have:=h q hq
 rw[e,nL] at this
 cases this
theorem tD {p:Path} {ex:List Path} (h:∀ q∈ex,fX q p=false):wL p ex=[]:=by
 cases hs:wL p ex with
 |nil=>rfl
 |cons q r=>
  have:q∈wL p ex:=by rw[hs];simp
  have:=h _ (DM.1 this)
  rw[nM] at this
  cases this
end Go.Pv
