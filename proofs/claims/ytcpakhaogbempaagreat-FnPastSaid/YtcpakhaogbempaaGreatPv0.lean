/- A verified evaluator of the program's form over pure values, part 0: what it tells of a function holds. -/
import Derived.Calls
import Derived.KernelRfl
import Derived.Laws.AppendOwn
import Derived.Laws.Sem
import Derived.Orders
namespace Go.Pv
set_option linter.unusedVariables false
set_option linter.unusedSimpArgs false
inductive Ty where
 |int (k:IntKind) |bool |str |sl (t:Ty) |ptr (t:Ty) |pair (a b:Ty) |unit |arr (n:Nat) (t:Ty)
 deriving DecidableEq,Inhabited
@[reducible] def Ty.I:Ty→Type
 | .int _=>Int | .bool=>Bool | .str=>ByteArray | .sl t=>List t.I | .ptr t=>t.I | .pair a b=>a.I×b.I | .unit=>Unit | .arr _ t=>List t.I
def Ty.size:Ty→Nat
 | .pair a b=>a.size+b.size | .unit=>0 | .arr n t=>n*t.size |_=>1
def Ty.z:(t:Ty)→t.I
 | .int _=>(0:Int) | .bool=>false | .str=>ByteArray.empty | .sl _=>[] | .ptr t=>t.z | .pair a b=>(a.z,b.z) | .unit=>() | .arr n t=>List.replicate n t.z
inductive Md where
 |k |o (T:TypeId) (tag:Option Nat) (m:Md) |p (a b:Md)
 deriving DecidableEq,Inhabited
def Md.bH:Md→Bool
 | .k=>true | .o ..=>false | .p a b=>a.bH&&b.bH
inductive Step where
 |deref |fst |snd |idx (i:Nat)
 deriving DecidableEq,Inhabited
abbrev Path:=List Step
def sub (s:Step) (hs:List Path):List Path:=hs.filterMap fun p=>match p with
 |s'::r=>if s'=s then some r else none
 |[]=>none
section
variable (w:World) (Wr:Nat→Prop)
def K:(t:Ty)→t.I→List Value→Prop
 | .int k,n,cs=>cs=[.int k n]
 | .bool,b,cs=>cs=[.bool b]
 | .str,s,cs=>cs=[.string s]
 | .unit,_,cs=>cs=[]
 | .pair a b,x,cs=>∃ c0 c1,cs=c0++c1∧K a x.1 c0∧K b x.2 c1
 | .arr n t,xs,cs=>∃ eT:List (List Value),cs=eT.flatten∧eT.length=n∧xs.length=n∧∀ j (h:j<xs.length) (h':j<eT.length),K t xs[j] eT[j]
 | .sl t,xs,cs=>∃ A c,cs=[.slice A xs.length c]∧xs.length≤c∧(0<xs.length→∃ g off cur T fr,A=some ⟨g,off,none⟩∧ ¬Wr g∧w.heap[g]?=some (.cells cur T fr)∧off+xs.length*t.size≤cur.size∧∀ j (h:j<xs.length),K t xs[j] ((cur.toList.drop (off+j*t.size)).take t.size))
 | .ptr t,x,cs=>∃ g off cur T fr,cs=[.pointer (some ⟨g,off,none⟩)]∧ ¬Wr g∧w.heap[g]?=some (.cells cur T fr)∧off+t.size≤cur.size∧K t x ((cur.toList.drop off).take t.size)
def M (H:Nat→Value):(t:Ty)→(m:Md)→t.I→List Value→(Nat→Prop)→List Path→Prop
 | .sl t,m,xs,cs,ow,hs=>([]∈hs∧m.bH=false∧∃ A c,cs=[.slice A xs.length c])∨(m.bH=true∧K w Wr (.sl t) xs cs)∨
   ∃ T tag me A c,m=.o T tag me∧cs=[.slice A xs.length c]∧xs.length≤c∧(∀ h,tag=some h→H h=.slice A xs.length c)∧
    ((xs=[]∧c=0)∨∃ g cur,∃ τ:Nat→Nat,A=some ⟨g,0,none⟩∧ow g∧w.heap[g]?=some (.cells cur T (0,0))∧cur.size=c*t.size∧c≤maxLen∧
     ∀ j (h:j<xs.length),M H t me xs[j] ((cur.toList.drop (j*t.size)).take t.size) (fun g'=>ow g'∧g'≠g∧τ g'=j) (sub (.idx j) hs))
 | .ptr t,m,x,cs,ow,hs=>([]∈hs∧m.bH=false∧cs.length=1∧∀ u∈cs,u.oneCell'=true)∨(m.bH=true∧K w Wr (.ptr t) x cs)∨
   ∃ T tag me g cur,m=.o T tag me∧cs=[.pointer (some ⟨g,0,none⟩)]∧(∀ h,tag=some h→H h=.pointer (some ⟨g,0,none⟩))∧ow g∧w.heap[g]?=some (.cells cur T (0,0))∧
    M H t me x cur.toList (fun g'=>ow g'∧g'≠g) (sub .deref hs)
 | .pair a b,m,x,cs,ow,hs=>([]∈hs∧m.bH=false∧cs.length=a.size+b.size∧∀ u∈cs,u.oneCell'=true)∨(m.bH=true∧K w Wr (.pair a b) x cs)∨
   ∃ ma mb c0 c1,∃ s:Nat→Prop,m=.p ma mb∧cs=c0++c1∧M H a ma x.1 c0 (fun g'=>ow g'∧s g') (sub .fst hs)∧M H b mb x.2 c1 (fun g'=>ow g'∧ ¬s g') (sub .snd hs)
 | .int k,m,x,cs,_,_=>m.bH=true∧K w Wr (.int k) x cs
 | .bool,m,x,cs,_,_=>m.bH=true∧K w Wr .bool x cs
 | .str,m,x,cs,_,_=>m.bH=true∧K w Wr .str x cs
 | .unit,m,x,cs,_,_=>m.bH=true∧K w Wr .unit x cs
 | .arr n t,m,x,cs,_,_=>m.bH=true∧K w Wr (.arr n t) x cs
end
end Go.Pv
namespace Go.Pv
set_option linter.unusedVariables false
set_option linter.unusedSimpArgs false
structure TV where
 t:Ty
 m:Md
 x:t.I
inductive ID where
 |pl (t:Ty) (s:Nat) (p:Path)
 |kv (a:TV)
inductive AV where
 |dead
 |undef
 |v (a:TV) (ex:List Path)
 |ua (l:List (Option TV))
 |al (t:Ty) (s:Nat) (p:Path)
 |ad (t:Ty) (s:Nat) (p:Path)
 |cut (t:Ty) (s:Nat) (p:Path) (lo hi:Nat)
 |lE (f:FuncId) (cq:List ID)
abbrev St:=List AV
structure TI where
 T:TypeId
 ty:Ty
 e:TypeId
 fs:List TypeId
abbrev da:=List TI
def da.find (Θ:da) (T:TypeId):Option TI:=match Θ with
 |[]=>none
 |i::r=>bif Nat.beq i.T T then some i else da.find r T
def Md.Ho:Md→Md
 | .o _ _ m=>m |_=>.k
def Md.l:Md→Md
 | .p a _=>a |m=>m
def Md.r:Md→Md
 | .p _ b=>b |m=>m
def mkM (a b:Md):Md:=bif a.bH&&b.bH then .k else .p a b
def aY:Path→(t:Ty)→Md→t.I→Option TV
 |[],t,m,x=>some ⟨t,m,x⟩
 | .deref::p,.ptr t,m,x=>aY p t m.Ho x
 | .fst::p,.pair a _,m,x=>aY p a m.l x.1
 | .snd::p,.pair _ b,m,x=>aY p b m.r x.2
 | .idx i::p,.sl t,m,xs=>aY p t m.Ho (xs.getD i t.z)
 |_::_,_,_,_=>none
def gn (b:TV):Path→(t:Ty)→Md→t.I→Option (Md×t.I)
 |[],t,_,_=>if h:b.t=t then some (b.m,h▸b.x) else none
 | .deref::p,.ptr t,.o T tag me,x=>match gn b p t me x with
  |some r=>some (.o T tag r.1,r.2)
  |none=>none
 | .fst::p,.pair t u,m,x=>match gn b p t m.l x.1 with
  |some r=>some (mkM r.1 m.r,(r.2,x.2))
  |none=>none
 | .snd::p,.pair t u,m,x=>match gn b p u m.r x.2 with
  |some r=>some (mkM m.l r.1,(x.1,r.2))
  |none=>none
 | .idx i::p,.sl t,.o T tag me,xs=>match gn b p t me (xs.getD i t.z) with
  |some r=>if r.1=me then some (.o T tag me,xs.set i r.2) else none
  |none=>none
 |_::_,_,_,_=>none
def gp:Path→Path→Bool
 |[],_=>true
 |_,[]=>true
 | .idx _::p,.idx _::q=>gp p q
 |s::p,s'::q=>if s=s' then gp p q else false
def under:Path→Path→Bool
 |[],[]=>false
 |[],_::_=>true
 |_::_,[]=>false
 | .idx _::p,.idx _::q=>under p q
 |s::p,s'::q=>if s=s' then under p q else false
def pre:Path→Path→Bool
 |[],_=>true
 | .deref::p,.deref::q=>pre p q
 | .fst::p,.fst::q=>pre p q
 | .snd::p,.snd::q=>pre p q
 |_,_=>false
def ph:Path→Path→Bool
 |[],_=>true
 |_,[]=>true
 | .idx i::p,.idx j::q=>ph p q&&Nat.beq i j
 |s::p,s'::q=>if s=s' then ph p q else false
def fV:Path→Path→Bool
 |[],[]=>true
 | .idx _::p,.idx _::q=>fV p q
 | .deref::p,.deref::q=>fV p q
 | .fst::p,.fst::q=>fV p q
 | .snd::p,.snd::q=>fV p q
 |_,_=>false
def BY:Path→Path→Bool
 | .idx i::p,.idx j::q=>BY p q&&Nat.beq i j
 |_::p,_::q=>BY p q
 |_,_=>true
def dH (p:Path):List Path→Bool×List Path
 |[]=>(true,[])
 |h::r=>bif fV p h then(BY p h,r) else((dH p r).1,h::(dH p r).2)
def depth:Path→Nat
 |[]=>0 | .deref::p=>depth p+1 | .idx _::p=>depth p+1 |_::p=>depth p
def AV.refs (d:Nat):AV→Bool
 | .al _ s _=>Nat.beq s d | .ad _ s _=>Nat.beq s d | .cut _ s _ _ _=>Nat.beq s d
 | .lE _ cq=>cq.any fun c=>match c with
  | .pl _ s _=>Nat.beq s d
  | .kv _=>false
 |_=>false
def AV.eU (d:Nat):AV→Bool
 | .al _ s p=>Nat.beq s d&&match p with
  |[]=>false
  |_=>true
 | .ad _ s p=>Nat.beq s d&&Nat.ble 2 (depth p)
 | .cut _ s _ _ _=>Nat.beq s d
 | .lE _ cq=>cq.any fun c=>match c with
  | .pl _ s (_::_)=>Nat.beq s d
  |_=>false
 |_=>false
def St.at (S:St) (i:Nat):AV:=S.getD i .dead
def St.kill (S:St) (d:Nat):St:=S.map fun a=>bif a.refs d then .dead else a
def St.weaken (S:St) (d:Nat):St:=S.map fun a=>bif a.eU d then .dead else a
def St.cover (S:St) (d:Nat) (p:Path):St:=S.map fun a=>match a with
 | .ad t s q=>bif Nat.beq s d&&under p q then .dead else .ad t s q
 |a=>a
def AV.zM:AV→Bool
 | .v ..=>true |_=>false
def St.put (S:St) (dst:Option Nat) (a:AV):St:=match dst with
 |none=>S
 |some d=>(bif (S.at d).zM then S.kill d else S).set d (bif a.refs d then .dead else a)
def QR (a:TV):TV:=⟨a.t,.k,a.x⟩
def m6 (Θ:da) (T:TypeId):Value→Option TV
 | .int k n=>some ⟨.int k,.k,n⟩
 | .bool b=>some ⟨.bool,.k,b⟩
 | .string s=>some ⟨.str,.k,s⟩
 | .slice none 0 0=>match Θ.find T with
  |some i=>match i.ty with
   | .sl t=>some ⟨.sl t,.o i.e none .k,[]⟩
   |_=>none
  |none=>none
 |_=>none
def St.place (S:St) (s:Nat) (p:Path):Option TV:=match S.at s with
 | .v a ex=>bif ex.all (fun h=>!gp h p) then aY p a.t a.m a.x else none
 |_=>none
def St.cZ (S:St) (s:Nat) (p:Path):Option TV:=match S.at s with
 | .v a ex=>bif ex.all (fun h=>!under h p) then aY p a.t a.m a.x else none
 |_=>none
def St.dR (Θ:da) (S:St) (T:TypeId):Operand→Option AV
 | .tmp i=>some (S.at i)
 | .const c=>match m6 Θ T c with
  |some a=>some (.v a [])
  |none=>none
 | .func f=>some (.lE f [])
 | .global _=>none
def St.ta (S:St):AV→Option TV
 | .v a []=>some a
 | .al _ s p=>S.place s p
 | .cut _ s p lo hi=>match S.place s p with
  |some ⟨.sl t,m,xs⟩=>some ⟨.sl t,m,(xs.take hi).drop lo⟩
  |_=>none
 |_=>none
def St.rd (Θ:da) (S:St) (T:TypeId) (x:Operand):Option TV:=match S.dR Θ T x with
 |some a=>S.ta a
 |none=>none
def St.lz (Θ:da) (S:St) (x:Operand):Option Int:=match S.rd Θ 0 x with
 |some ⟨.int _,_,n⟩=>some n
 |_=>none
def St.dI (S:St) (x:Operand):AV→Option (TV×St)
 | .v a ex=>bif a.m.bH then some (a,S) else match ex,x with
  |[],.tmp i=>some (a,S.put (some i) .dead)
  |[],_=>some (a,S)
  |_,_=>none
 | .al _ s p=>match S.place s p with
  |some a=>bif a.m.bH then some (a,S) else match p,S.at s with
   |[],_=>some (a,S.put (some s) .dead)
   |_,.v r ex=>some (a,((S.weaken s).cover s p).set s (.v r (ex++[p])))
   |_,_=>none
  |none=>none
 | .cut _ s [] lo hi=>match S.place s [] with
  |some ⟨.sl t,.o T _ me,xs⟩=>bif Nat.beq lo 0 then some (⟨.sl t,.o T none me,xs.take hi⟩,S.put (some s) .dead) else none
  |_=>none
 |_=>none
def St.take (Θ:da) (S:St) (T:TypeId) (x:Operand):Option (TV×St):=match S.dR Θ T x with
 |some a=>S.dI x a
 |none=>none
def St.copy (S:St) (x:Operand):AV→Option AV
 | .v a ex=>bif a.m.bH then some (.v a []) else match x with
  | .tmp i=>some (.al a.t i [])
  |_=>match ex with
   |[]=>some (.v a [])
   |_=>none
 | .ua _=>none
 | .dead=>none
 |a=>some a
def m7 (i n:Nat):Path:=bif Nat.beq (i+1) n then(bif Nat.beq n 1 then [.fst] else List.replicate i .snd) else List.replicate i .snd++[.fst]
def zgo (f:TypeId→Md):List TypeId→Md
 |[]=>.k
 |[a]=>f a
 |a::r=>mkM (f a) (zgo f r)
def Mz (Θ:da):Nat→TypeId→Md
 |0,_=>.k
 |n+1,T=>match Θ.find T with
  |none=>.k
  |some i=>match i.ty with
   | .sl _=>.o i.e none (Mz Θ n i.e)
   | .pair _ _=>zgo (Mz Θ n) i.fs
   |_=>.k
def kN:Ty→Bool
 | .ptr _=>false | .arr _ _=>false | .pair a b=>kN a&&kN b |_=>true
def uQ:Ty→Md→Bool
 | .pair a b,.p ma mb=>(uQ a ma&&uQ b mb)||(ma.bH&&mb.bH&&kN a&&kN b)
 | .sl _,.o _ none _=>true
 |t,m=>m.bH&&kN t
inductive Tgt where
 |k (a:TV)
 |pl (t:Ty) (s:Nat) (p:Path)
def Tgt.ty:Tgt→Ty
 | .k a=>a.t
 | .pl t _ _=>t
def St.Hp (S:St) (x:Operand):AV→Option Tgt
 | .v ⟨.ptr t,m,y⟩ []=>match m,x with
  | .k,_=>some (.k ⟨t,.k,y⟩)
  | .o ..,.tmp i=>some (.pl t i [.deref])
  |_,_=>none
 | .v ⟨.ptr t,.o ..,_⟩ _=>match x with
  | .tmp i=>some (.pl t i [.deref])
  |_=>none
 | .al (.ptr t) s p=>match S.cZ s p with
  |some ⟨.ptr t',.k,y⟩=>some (.k ⟨t',.k,y⟩)
  |some ⟨.ptr _,.o ..,_⟩=>some (.pl t s (p++[.deref]))
  |_=>none
 | .ad t s p=>some (.pl t s p)
 |_=>none
def St.loadAt (S:St):Tgt→Option AV
 | .k a=>some (.v (QR a) [])
 | .pl t s p=>match S.cZ s p with
  |some a=>bif a.m.bH then(match S.place s p with
   |some a=>some (.v (QR a) [])
   |none=>none) else some (.al t s p)
  |none=>none
def bt (s:ByteArray) (i:Int):Int:=if h:i.toNat<s.size then((s[i.toNat]'h).toNat:Int) else 0
def ahY (op:BinOp) (k:IntKind) (x y:Int):Option (Bool×TV):=match op with
 | .add=>some (true,⟨.int k,.k,k.wrap (x+y)⟩)
 | .sub=>some (true,⟨.int k,.k,k.wrap (x - y)⟩)
 | .mul=>some (true,⟨.int k,.k,k.wrap (x*y)⟩)
 | .quo=>some (!decide (y=0),⟨.int k,.k,k.wrap (x.tdiv y)⟩)
 | .rem=>some (!decide (y=0),⟨.int k,.k,x.tmod y⟩)
 | .and=>some (true,⟨.int k,.k,k.wrap (BitVec.ofInt k.bits x&&&BitVec.ofInt k.bits y).toNat⟩)
 | .or=>some (true,⟨.int k,.k,k.wrap (BitVec.ofInt k.bits x|||BitVec.ofInt k.bits y).toNat⟩)
 | .xor=>some (true,⟨.int k,.k,k.wrap (BitVec.ofInt k.bits x^^^BitVec.ofInt k.bits y).toNat⟩)
 | .eql=>some (true,⟨.bool,.k,x==y⟩)
 | .neq=>some (true,⟨.bool,.k,x != y⟩)
 | .lss=>some (true,⟨.bool,.k,decide (x<y)⟩)
 | .leq=>some (true,⟨.bool,.k,decide (x≤y)⟩)
 | .gtr=>some (true,⟨.bool,.k,decide (x>y)⟩)
 | .geq=>some (true,⟨.bool,.k,decide (x≥y)⟩)
 | .shl=>some (decide (0≤y),⟨.int k,.k,k.wrap (x*2^(min y.toNat k.bits))⟩)
 | .shr=>some (decide (0≤y),⟨.int k,.k,x.fdiv (2^(min y.toNat k.bits))⟩)
 |_=>none
def ahZ (op:BinOp) (x y:ByteArray):Option (Bool×TV):=match op with
 | .add=>some (decide (x.size+y.size≤9223372036854775807),⟨.str,.k,x++y⟩)
 | .eql=>some (true,⟨.bool,.k,x.toList==y.toList⟩)
 | .neq=>some (true,⟨.bool,.k,!(x.toList==y.toList)⟩)
 |_=>none
def My:(t:Ty)→t.I→t.I→Option Bool
 | .int _,x,y=>some (decide ((x:Int)=y))
 | .bool,x,y=>some ((x:Bool)==y)
 | .str,x,y=>some ((x:ByteArray)==y)
 | .pair a b,x,y=>match My a x.1 y.1,My b x.2 y.2 with
  |some p,some q=>some (p&&q)
  |_,_=>none
 | .unit,_,_=>some true
 |_,_,_=>none
def gK (op:BinOp) (a b:TV):Option (Bool×TV):=match a,b with
 |⟨.int k,_,x⟩,⟨.int k',_,y⟩=>if k=k'∨op=.shl∨op=.shr then ahY op k x y else none
 |⟨.str,_,x⟩,⟨.str,_,y⟩=>ahZ op x y
 |⟨.bool,_,x⟩,⟨.bool,_,y⟩=>match op with
  | .eql=>some (true,⟨.bool,.k,x==y⟩)
  | .neq=>some (true,⟨.bool,.k,!(x==y)⟩)
  |_=>none
 |⟨.pair t u,_,x⟩,⟨t',_,y⟩=>if h:t'=.pair t u then match op,My (.pair t u) x (h▸y) with
   | .eql,some r=>some (true,⟨.bool,.k,r⟩)
   | .neq,some r=>some (true,⟨.bool,.k,!r⟩)
   |_,_=>none
  else none
 |_,_=>none
def ah0 (op:UnOp) (a:TV):Option TV:=match op,a with
 | .not,⟨.bool,_,x⟩=>some ⟨.bool,.k,!x⟩
 | .neg,⟨.int k,_,x⟩=>some ⟨.int k,.k,k.wrap (0 - x)⟩
 | .xor,⟨.int k,_,x⟩=>some ⟨.int k,.k,k.wrap (BitVec.ofInt k.bits (if k.signed then -1 else k.max)^^^BitVec.ofInt k.bits x).toNat⟩
 |_,_=>none
def GU:List TV→TV
 |[]=>⟨.unit,.k,()⟩
 |[a]=>a
 |a::r=>⟨.pair a.t (GU r).t,mkM a.m (GU r).m,(a.x,(GU r).x)⟩
def dJ (l:List TV):TV:=match l with
 |[a]=>⟨.pair a.t .unit,mkM a.m .k,(a.x,())⟩
 |l=>GU l
def rE (Θ:da) (T:TypeId):Option TV:=match Θ.find T with
 |some i=>bif uQ i.ty (Mz Θ 9 T) then some ⟨i.ty,Mz Θ 9 T,i.ty.z⟩ else none
 |none=>none
def St.parts (Θ:da) (S:St) (ps:List (Nat×Operand)):List TypeId→Nat→Option (List TV×St)
 |[],_=>some ([],S)
 |T::r,j=>match ps.find? (fun q=>Nat.beq q.1 j) with
  |some q=>match S.take Θ T q.2 with
   |some (a,S1)=>match S1.parts Θ ps r (j+1) with
    |some (l,S2)=>some (a::l,S2)
    |none=>none
   |none=>none
  |none=>match rE Θ T with
   |some a=>match S.parts Θ ps r (j+1) with
    |some (l,S2)=>some (a::l,S2)
    |none=>none
   |none=>none
def kC (n:Nat):List (Nat×Operand)→Bool
 |[]=>true
 |q::r=>Nat.blt q.1 n&& !(r.any fun q'=>Nat.beq q'.1 q.1)&&kC n r
def rF (t:Ty) (m:Md):List TV→Option (List t.I)
 |[]=>some []
 |a::r=>if h:a.t=t then(if a.m=m then match rF t m r with
   |some l=>some ((h▸a.x)::l)
   |none=>none else none) else none
abbrev Hn:=List (Nat×Md)
def Hn.find (h:Hn) (d:Option Nat) (m:Md):Md:=match d with
 |none=>m
 |some d=>match h with
  |[]=>m
  |q::r=>bif Nat.beq q.1 d then q.2 else Hn.find r (some d) m
def Hn.Yc (h:Hn) (d:Option Nat):Bool:=match h.find d (.o 0 none .k) with
 | .k=>true
 |_=>false
def da.is (Θ:da) (T:TypeId) (t:Ty):Bool:=match Θ.find T with
 |some i=>decide (i.ty=t)
 |none=>false
abbrev zN:=Option (Bool×St)
def pk (Θ:da) (S:St) (dst:Option Nat) (T:TypeId) (x:Operand):zN:=match S.dR Θ T x with
 |some (.ua l)=>(match dst,x with
  |some d,.tmp i=>bif Nat.beq d i|| !Nat.blt d S.length then none else some (true,(S.put (some i) .dead).put (some d) (.ua l))
  |_,_=>none)
 |some a=>match S.copy x a with
  |some a=>some (true,S.put dst a)
  |none=>none
 |none=>none
def DP (Θ:da) (S:St) (dst:Option Nat) (T:TypeId) (x:Operand):zN:=match S.dR Θ T x with
 |some a=>match dst,x,a with
  |some d,.tmp i,.v a ex=>bif a.m.bH then some (true,S.put dst (.v a [])) else match ex with
   |[]=>bif Nat.beq d i|| !Nat.blt d S.length then none else some (true,(St.put (S.put (some i) .dead) dst (.v a [])).set i (.al a.t d []))
   |_=>none
  |_,_,.v a ex=>bif a.m.bH then some (true,S.put dst (.v a [])) else match ex,x with
   |[],.const _=>some (true,S.put dst (.v a []))
   |_,_=>none
  |some d,_,.al t s []=>bif Nat.beq s d then none else some (true,S.put dst (.al t s []))
  |some d,_,.lE f c=>bif AV.refs d (.lE f c) then none else some (true,S.put dst (.lE f c))
  |_,_,.undef=>some (true,S.put dst .undef)
  |_,_,a=>match S.dI x a with
   |some (a,S1)=>some (true,S1.put dst (.v a []))
   |none=>none
 |none=>match x with
  | .const _=>some (true,S.put dst .dead)
  |_=>none
def QS (Θ:da) (S:St) (dst:Option Nat) (T:TypeId) (c a b:Operand):zN:=match S.rd Θ 0 c with
 |some ⟨.bool,_,q⟩=>match S.dR Θ T a,S.dR Θ T b with
  |some (.v ⟨.bool,_,x⟩ _),some (.v ⟨.bool,_,y⟩ _)=>some (true,S.put dst (.v ⟨.bool,.k,bif q then x else y⟩ []))
  |some p,some r=>match (bif q then S.copy a p else S.copy b r) with
   |some a=>some (true,S.put dst a)
   |none=>none
  |_,_=>none
 |_=>none
def pn (Θ:da) (hn:Hn) (S:St) (dst:Option Nat) (T:TypeId):zN:=match rE Θ T with
 |some z=>bif uQ z.t (hn.find dst z.m) then some (true,S.put dst (.v ⟨.ptr z.t,.o T none (hn.find dst z.m),z.t.z⟩ [])) else none
 |none=>none
def aa1 (Θ:da) (S:St) (dst:Option Nat) (T:TypeId) (x:Operand):zN:=match S.take Θ T x with
 |some (a,S1)=>bif Θ.is T a.t then some (true,S1.put dst (.v ⟨.ptr a.t,.o T none a.m,a.x⟩ [])) else none
 |none=>none
def Dh (Θ:da) (S:St) (dst:Option Nat) (T:TypeId) (ps:List (Nat×Operand)):zN:=match Θ.find T with
 |some i=>match S.parts Θ ps i.fs 0 with
  |some (l,S1)=>bif decide ((dJ l).t=i.ty)&&aa2 i.ty&&kC l.length ps then some (true,S1.put dst (.v (dJ l) [])) else none
  |none=>none
 |none=>none
 where aa2:Ty→Bool
 | .pair _ _=>true
 |_=>false
def bC (Θ:da) (hn:Hn) (S:St) (dst:Option Nat) (T:TypeId) (n:Nat) (ps:List (Nat×Operand)):zN:=match Θ.find T with
 |some ⟨_,.sl t,e,_⟩=>bif kC n ps&&Nat.ble n 1800 then(match S.parts Θ ps (List.replicate n e) 0 with
  |some (l,S1)=>(match l with
   |[]=>some (true,S1.put dst (.v ⟨.sl t,bif hn.Yc dst then .k else .o e none (hn.find dst .k),[]⟩ []))
   |a::_=>match rF t a.m l with
    |some xs=>some (true,S1.put dst (.v ⟨.sl t,bif hn.Yc dst&&a.m.bH then .k else .o e none a.m,xs⟩ []))
    |none=>none)
  |none=>none) else none
 |_=>none
def gq (Θ:da) (S:St) (dst:Option Nat) (T:TypeId) (x:Operand):zN:=match S.dR Θ 0 x with
 |some a=>match S.Hp x a with
  |some g=>match S.loadAt g with
   |some r=>bif Θ.is T g.ty then some (true,S.put dst r) else none
   |none=>none
  |none=>none
 |none=>none
def lF (Θ:da) (S:St) (T:TypeId) (x y:Operand):zN:=match S.dR Θ 0 x with
 |some a=>match S.Hp x a with
  |some (.pl _ s p)=>match S.take Θ T y with
   |some (b,S1)=>bif Θ.is T b.t then(match S1.at s with
    | .v r ex=>match gn b p r.t r.m r.x with
     |some (m,z)=>bif ex.all (fun h=>!under h p) then some ((dH p (ex.filter fun h=>!pre p h)).1,(S1.weaken s).set s (.v ⟨r.t,m,z⟩ (dH p (ex.filter fun h=>!pre p h)).2)) else none
     |none=>none
    |_=>none) else none
   |none=>none
  |_=>none
 |none=>none
def pq (Θ:da) (S S1:St) (T:TypeId) (y:Operand):St:=match S.dR Θ T y with
 |some (.al _ s [])=>(match S.at s,S1.at s with
  | .v ⟨.sl t,m,xs⟩ [],.dead=>bif m.bH then S1 else S1.set s (.v ⟨.sl t,m,xs⟩ [[]])
  |_,_=>S1)
 |_=>S1
def uR (Θ:da) (S:St) (dst:Option Nat) (x:Operand):zN:=match S.dR Θ 0 x with
 |some a=>match S.Hp x a with
  |some g=>match S.copy x a,(match g with
   | .k _=>some ()
   | .pl _ s p=>match S.cZ s p with
    |some _=>some ()
    |none=>none) with
   |some a,some _=>some (true,S.put dst a)
   |_,_=>none
  |none=>none
 |none=>none
def gu (Θ:da) (S:St) (dst:Option Nat) (T:TypeId) (x:Operand) (f:Nat):zN:=match S.dR Θ 0 x,Θ.find T with
 |some a,some i=>bif Nat.blt f i.fs.length then(match S.Hp x a with
  |some (.k ⟨t,m,y⟩)=>bif decide (i.ty=t) then(match aY (m7 f i.fs.length) t .k y with
   |some b=>some (true,S.put dst (.v ⟨.ptr b.t,.k,b.x⟩ []))
   |none=>none) else none
  |some (.pl t s p)=>bif decide (i.ty=t) then(match S.cZ s (p++m7 f i.fs.length) with
   |some b=>some (true,S.put dst (.ad b.t s (p++m7 f i.fs.length)))
   |none=>none) else none
  |none=>none) else none
 |_,_=>none
def IE (Θ:da) (S:St) (dst:Option Nat) (T:TypeId) (x:Operand) (f:Nat):zN:=match S.dR Θ 0 x,Θ.find T with
 |some (.v a ex),some i=>bif Nat.blt f i.fs.length&&decide (i.ty=a.t) then(match x with
  | .tmp j=>match aY (m7 f i.fs.length) a.t a.m a.x with
   |some b=>bif b.m.bH then(match ex with
    |[]=>some (true,S.put dst (.v (QR b) []))
    |_=>none) else(match S.cZ j (m7 f i.fs.length) with
    |some _=>some (true,S.put dst (.al b.t j (m7 f i.fs.length)))
    |none=>none)
   |none=>none
  |_=>none) else none
 |_,_=>none
def aQ (n:Int) (len:Nat):Bool:=decide (0≤n)&&decide (n<(len:Int))
def bZ (Θ:da) (S:St) (dst:Option Nat) (T:TypeId) (x ix:Operand):zN:=match S.dR Θ 0 x,S.lz Θ ix with
 |some (.v ⟨.sl t,m,xs⟩ ex),some n=>bif Θ.is T (.sl t) then(match m,x with
  | .k,_=>some (aQ n xs.length,S.put dst (.v ⟨.ptr t,.k,xs.getD n.toNat t.z⟩ []))
  | .o ..,.tmp j=>match S.cZ j [.idx n.toNat] with
   |some _=>some (aQ n xs.length,S.put dst (.ad t j [.idx n.toNat]))
   |none=>none
  |_,_=>none) else none
 |some (.al (.sl t) s p),some n=>bif Θ.is T (.sl t) then(match S.cZ s p with
  |some ⟨.sl t',.k,xs⟩=>some (aQ n xs.length,S.put dst (.v ⟨.ptr t',.k,xs.getD n.toNat t'.z⟩ []))
  |some ⟨.sl t',.o ..,xs⟩=>match S.cZ s (p++[.idx n.toNat]) with
   |some _=>some (aQ n xs.length,S.put dst (.ad t' s (p++[.idx n.toNat])))
   |none=>none
  |_=>none) else none
 |_,_=>none
def IF (Θ:da) (S:St) (dst:Option Nat) (T:TypeId) (x ix:Operand):zN:=match S.rd Θ 0 x,S.lz Θ ix with
 |some ⟨.str,_,s⟩,some n=>bif Θ.is T .str then some (aQ n s.size,S.put dst (.v ⟨.int .u8,.k,bt s n⟩ [])) else none
 |_,_=>none
def fQ (S:St) (dst:Option Nat) (x:Operand) (j:Nat):zN:=match x with
 | .tmp i=>match S.at i with
  | .ua l=>match l.getD j none with
   |some a=>bif a.m.bH then some (true,S.put dst (.v a [])) else(match dst with
    |some d=>bif Nat.beq d i then none else some (true,St.put (S.set i (.ua (l.set j none))) (some d) (.v a []))
    |none=>none)
   |none=>none
  |_=>none
 |_=>none
def gL (Θ:da) (S:St) (d:Int):Option Operand→Option Int
 |none=>some d
 |some x=>S.lz Θ x
def ek (Θ:da) (S:St) (dst:Option Nat) (T:TypeId) (x:Operand) (lo hi mx:Option Operand):zN:=match S.dR Θ 0 x,S.rd Θ 0 x,gL Θ S 0 lo with
 |some a,some ⟨.str,_,s⟩,some l=>match mx,gL Θ S (s.size:Int) hi with
  |none,some h=>bif Θ.is T .str then some (decide (0≤l)&&decide (l≤h)&&decide (h≤(s.size:Int)),S.put dst (.v ⟨.str,.k,s.extract l.toNat h.toNat⟩ [])) else none
  |_,_=>none
 |some a,some ⟨.sl t,m,xs⟩,some l=>bif Θ.is T (.sl t) then(match gL Θ S (xs.length:Int) hi,mx,Θ.find T with
  |some h,none,_=>match m,a,x with
   | .k,_,_=>some (decide (0≤l)&&decide (l≤h)&&decide (h≤(xs.length:Int)),S.put dst (.v ⟨.sl t,.k,(xs.take h.toNat).drop l.toNat⟩ []))
   |_,.v ..,.tmp i=>some (decide (0≤l)&&decide (l≤h)&&decide (h≤(xs.length:Int)),S.put dst (.cut (.sl t) i [] l.toNat h.toNat))
   |_,.al _ s p,_=>some (decide (0≤l)&&decide (l≤h)&&decide (h≤(xs.length:Int)),S.put dst (.cut (.sl t) s p l.toNat h.toNat))
   |_,_,_=>none
  |some h,some z,some i=>match S.lz Θ z,hi with
   |some c,some _=>some (decide (l=0)&&decide (h=0)&&decide (c=0),S.put dst (.v ⟨.sl t,.o i.e none .k,[]⟩ []))
   |_,_=>none
  |_,_,_=>none) else none
 |_,_,_=>none
def bytesOf (xs:List Int):ByteArray:=xs.foldl (fun r n=>r.push (UInt8.ofNat n.toNat)) ByteArray.empty
def gD (Θ:da) (S:St) (dst:Option Nat) (T T':TypeId) (x:Operand):zN:=match S.rd Θ 0 x,Θ.find T,Θ.find T' with
 |some ⟨.int _,_,n⟩,some _,some ⟨_,.int k,_,_⟩=>some (true,S.put dst (.v ⟨.int k,.k,k.wrap n⟩ []))
 |some ⟨.sl (.int .u8),_,xs⟩,some ⟨_,.sl (.int .u8),_,_⟩,some ⟨_,.str,_,_⟩=>some (true,S.put dst (.v ⟨.str,.k,bytesOf xs⟩ []))
 |_,_,_=>none
def DQ (Θ:da) (S:St) (dst:Option Nat) (op:BinOp) (T:TypeId) (x y:Operand):zN:=match S.rd Θ T x,S.rd Θ T y with
 |some a,some b=>match a.t with
  | .bool=>bif Θ.is T .bool then(match gK op a b with
   |some (g,r)=>some (g,S.put dst (.v r []))
   |none=>none) else none
  | .pair _ _=>bif Θ.is T a.t then(match gK op a b with
   |some (g,r)=>some (g,S.put dst (.v r []))
   |none=>none) else none
  |_=>match gK op a b with
   |some (g,r)=>some (g,S.put dst (.v r []))
   |none=>none
 |_,_=>none
def aqa (Θ:da) (S:St) (dst:Option Nat) (op:UnOp) (x:Operand):zN:=match S.rd Θ 0 x with
 |some a=>match ah0 op a with
  |some r=>some (true,S.put dst (.v r []))
  |none=>none
 |none=>none
def gv (Θ:da) (S:St) (dst:Option Nat) (T:TypeId) (l c:Operand):zN:=match Θ.find T,S.lz Θ l,S.lz Θ c with
 |some ⟨_,.sl t,e,_⟩,some n,some n'=>match rE Θ e with
  |some z=>if z.t=t then some (decide (n=n')&&decide (0≤n)&&decide (n≤1099511627776),S.put dst (.v ⟨.sl t,.o e none z.m,List.replicate n.toNat t.z⟩ [])) else none
  |none=>none
 |_,_,_=>none
def aoJ (S:St):Operand→Option ID
 | .tmp i=>match S.at i with
  | .v ⟨.ptr t,.o ..,_⟩ _=>some (ID.pl t i [])
  | .v ⟨.ptr t,.k,y⟩ _=>some (ID.kv ⟨.ptr t,.k,y⟩)
  | .al (.ptr t) s p=>some (ID.pl t s p)
  |_=>none
 |_=>none
def DR (S:St):List Operand→Option (List ID)
 |[]=>some []
 |x::r=>match aoJ S x,DR S r with
  |some c,some l=>some (c::l)
  |_,_=>none
def uS (S:St) (dst:Option Nat) (f:FuncId) (first cq:List Operand):zN:=match first,DR S cq with
 |[],some l=>match dst with
  |some d=>bif AV.refs d (.lE f l) then none else some (true,S.put dst (.lE f l))
  |none=>none
 |_,_=>none
def aoK:TV→Option Int
 |⟨.sl _,_,xs⟩=>some (xs.length:Int)
 |⟨.str,_,b⟩=>some (b.size:Int)
 |_=>none
def aa3 (Θ:da) (S:St) (dst:Option Nat) (ts:List TypeId) (as:List Operand):zN:=match as,ts with
 |[x],[T]=>match (match S.dR Θ 0 x with
   |some (.v a ex)=>bif ex.any List.isEmpty then none else some a
   |some (.al t s p)=>(match S.place s p with
    |some b=>some b
    |none=>match S.cZ s p with
     |some ⟨.sl t,m,xs⟩=>some ⟨.sl t,m,xs⟩
     |_=>none)
   |some a=>S.ta a
   |none=>none) with
  |some b=>bif Θ.is T b.t then(match aoK b with
   |some n=>some (true,S.put dst (.v ⟨.int .i64,.k,n⟩ []))
   |none=>none) else none
  |none=>none
 |_,_=>none
def b5 (Θ:da) (S:St) (dst:Option Nat) (ts:List TypeId) (as:List Operand):zN:=match as,ts with
 |[x,y],[T,T']=>match S.take Θ T x,Θ.find T with
  |some (⟨.sl t,.o e _ me,xs⟩,S1),some i=>bif decide (i.ty=.sl t)&&Nat.beq i.e e&&Θ.is T' (.sl t) then
    (bif me.bH then(match S1.rd Θ T' y with
     |some ⟨.sl t',m',ys⟩=>bif m'.Ho.bH then(if h:t'=t then
       some (decide ((xs.length+ys.length)*t.size≤4398046511104),S1.put dst (.v ⟨.sl t,.o e none me,xs++(h▸ys)⟩ [])) else none) else none
     |_=>none)
    else(match S1.take Θ T' y with
     |some (⟨.sl t',m',ys⟩,S2)=>if h:t'=t then
       (if m'.Ho=me then some (decide ((xs.length+ys.length)*t.size≤4398046511104),S2.put dst (.v ⟨.sl t,.o e none me,xs++(h▸ys)⟩ [])) else none) else none
     |_=>none)) else none
  |_,_=>none
 |_,_=>none
def fR (Θ:da) (S:St) (dst:Option Nat) (ts:List TypeId) (as:List Operand):zN:=match as,ts with
 |[x,y],[T,T']=>match S.dR Θ T x with
  |some (.al _ s (st::pp))=>(match S.at s with
   | .v r ex=>(match aY (st::pp) r.t r.m r.x,Θ.find T with
    |some ⟨.sl t,.o e _ me,xs⟩,some i=>bif decide (i.ty=.sl t)&&Nat.beq i.e e&&Θ.is T' (.sl t)&&me.bH then
      (match St.rd Θ (((S.weaken s).cover s (st::pp)).set s (.v r (ex++[st::pp]))) T' y with
      |some ⟨.sl t',m',ys⟩=>bif m'.Ho.bH then(if h:t'=t then
        some (ex.all (fun h=>!ph h (st::pp))&&decide ((xs.length+ys.length)*t.size≤4398046511104),St.put (((S.weaken s).cover s (st::pp)).set s (.v r (ex++[st::pp]))) dst (.v ⟨.sl t,.o e none me,xs++(h▸ys)⟩ [])) else none) else none
      |_=>none) else none
    |_,_=>none)
   |_=>none)
  |_=>none
 |_,_=>none
def ev (Θ:da) (hn:Hn) (S:St) (o:Oper):zN:=match o.op with
 | .move x=>pk Θ S o.dst o.type x
 | .assign x=>DP Θ S o.dst o.type x
 | .pick c a b=>QS Θ S o.dst o.type c a b
 | .alloc T=>pn Θ hn S o.dst T
 | .box T x=>aa1 Θ S o.dst T x
 | .build T ps=>Dh Θ S o.dst T ps.toList
 | .buildSlice T n ps=>bC Θ hn S o.dst T n ps.toList
 | .load T x=>gq Θ S o.dst T x
 | .store T x y=>match o.dst with
  |none=>(match lF Θ S T x y with
   |some (g,S1)=>some (g,pq Θ S S1 T y)
   |none=>none)
  |some _=>none
 | .nilCheck x=>uR Θ S o.dst x
 | .fieldAddr T x f=>gu Θ S o.dst T x f
 | .field T x f=>IE Θ S o.dst T x f
 | .indexAddr T x ix=>bZ Θ S o.dst T x ix
 | .index T x ix=>IF Θ S o.dst T x ix
 | .extract x j=>fQ S o.dst x j
 | .slice T x lo hi mx=>ek Θ S o.dst T x lo hi mx
 | .convert T T' x=>gD Θ S o.dst T T' x
 | .binOp op T x y _=>DQ Θ S o.dst op T x y
 | .unOp op _ x=>aqa Θ S o.dst op x
 | .makeSlice T l c=>gv Θ S o.dst T l c
 | .makeFunc (.func f) first cq=>uS S o.dst f first.toList cq.toList
 | .call { callee:=.builtin .len,args:=as,argTypes:=ts }=>aa3 Θ S o.dst ts.toList as.toList
 | .call { callee:=.builtin .append,args:=as,argTypes:=ts }=>match b5 Θ S o.dst ts.toList as.toList with
  |some r=>some r
  |none=>fR Θ S o.dst ts.toList as.toList
 |_=>none
end Go.Pv
namespace Go.Pv
set_option linter.unusedVariables false
set_option linter.unusedSimpArgs false
variable {w w':World} {Wr qT:Nat→Prop} {H:Nat→Value}
theorem kO {α:Type} (n:Nat):∀ {eT:List (List α)},(∀ c∈eT,c.length=n)→eT.flatten.length=eT.length*n
 |[],_=>by simp
 |c::r,h=>by
  have h1:=h c (by simp)
  have h2:=kO n (eT:=r) fun c hc=>h c (by simp[hc])
  simp[h1,h2,Nat.add_mul,Nat.add_comm]
theorem lh:∀ (t:Ty) {x:t.I} {cs:List Value},K w Wr t x cs→cs.length=t.size∧∀ u∈cs,u.oneCell'=true
 | .int k,n,cs,h=>by simp only[K] at h;subst h;exact⟨rfl,by simp[Value.oneCell']⟩
 | .bool,n,cs,h=>by simp only[K] at h;subst h;exact⟨rfl,by simp[Value.oneCell']⟩
 | .str,n,cs,h=>by simp only[K] at h;subst h;exact⟨rfl,by simp[Value.oneCell']⟩
 | .unit,n,cs,h=>by simp only[K] at h;subst h;exact⟨rfl,by simp⟩
 | .pair a b,x,cs,h=>by
  simp only[K] at h
  obtain⟨c0,c1,rfl,h0,h1⟩:=h
  obtain⟨l0,o0⟩:=lh a h0
  obtain⟨l1,o1⟩:=lh b h1
  refine⟨by simp[l0,l1,Ty.size],fun u hu=>?_⟩
  rcases List.mem_append.1 hu with hu |hu
  ·exact o0 u hu
  ·exact o1 u hu
 | .arr n t,xs,cs,h=>by
  simp only[K] at h
  obtain⟨eT,rfl,hl,hx,hj⟩:=h
  have fI:∀ c∈eT,c.length=t.size∧∀ u∈c,u.oneCell'=true:=by
   intro c hc
   obtain⟨j,GV,rfl⟩:=List.mem_iff_getElem.1 hc
   exact lh t (hj j (by omega) GV)
  refine⟨by rw[kO t.size fun c hc=>(fI c hc).1,hl];rfl,fun u hu=>?_⟩
  obtain⟨c,hc,hu⟩:=List.mem_flatten.1 hu
  exact(fI c hc).2 u hu
 | .sl t,xs,cs,h=>by
  simp only[K] at h
  obtain⟨A,c,rfl,_⟩:=h
  exact⟨rfl,by simp[Value.oneCell']⟩
 | .ptr t,xs,cs,h=>by
  simp only[K] at h
  obtain⟨g,off,cur,T,fr,rfl,_⟩:=h
  exact⟨rfl,by simp[Value.oneCell']⟩
structure aO (w w':World) (Wr qT:Nat→Prop):Prop where
 same:∀ g,¬Wr g→g<w.heap.size→w'.heap[g]?=w.heap[g]?
 wr:∀ g,g<w.heap.size→qT g→Wr g
theorem aO.refl (w:World) (Wr:Nat→Prop):aO w w Wr Wr:=⟨fun _ _ _=>rfl,fun _ _ h=>h⟩
theorem a8 {α:Type} {a:Array α} {g:Nat} {o:α} (h:a[g]?=some o):g<a.size:=(Array.getElem?_eq_some_iff.1 h).1
theorem bP (hs:aO w w' Wr qT):∀ (t:Ty) {x:t.I} {cs:List Value},K w Wr t x cs→K w' qT t x cs
 | .int k,n,cs,h=>h
 | .bool,n,cs,h=>h
 | .str,n,cs,h=>h
 | .unit,n,cs,h=>h
 | .pair a b,x,cs,h=>by
  simp only[K] at h ⊢
  obtain⟨c0,c1,rfl,h0,h1⟩:=h
  exact⟨c0,c1,rfl,bP hs a h0,bP hs b h1⟩
 | .arr n t,xs,cs,h=>by
  simp only[K] at h ⊢
  obtain⟨eT,rfl,hl,hx,hj⟩:=h
  exact⟨eT,rfl,hl,hx,fun j h1 h2=>bP hs t (hj j h1 h2)⟩
 | .sl t,xs,cs,h=>by
  simp only[K] at h ⊢
  obtain⟨A,c,rfl,hc,h⟩:=h
  refine⟨A,c,rfl,hc,fun hp=>?_⟩
  obtain⟨g,off,cur,T,fr,rfl,hg,hw,ho,hj⟩:=h hp
  have cf:=a8 hw
  exact⟨g,off,cur,T,fr,rfl,fun bd=>hg (hs.wr g cf bd),(hs.same g hg cf).trans hw,ho,fun j GV=>bP hs t (hj j GV)⟩
 | .ptr t,x,cs,h=>by
  simp only[K] at h ⊢
  obtain⟨g,off,cur,T,fr,rfl,hg,hw,ho,hj⟩:=h
  have cf:=a8 hw
  exact⟨g,off,cur,T,fr,rfl,fun bd=>hg (hs.wr g cf bd),(hs.same g hg cf).trans hw,ho,bP hs t hj⟩
theorem eH:∀ (t:Ty) {m:Md} {x:t.I} {cs:List Value} {ow:Nat→Prop} {hs:List Path},M w Wr H t m x cs ow hs→cs.length=t.size∧∀ u∈cs,u.oneCell'=true
 | .int k,m,n,cs,_,_,h=>lh (.int k) (by simp only[M] at h;exact h.2)
 | .bool,m,n,cs,_,_,h=>lh .bool (by simp only[M] at h;exact h.2)
 | .str,m,n,cs,_,_,h=>lh .str (by simp only[M] at h;exact h.2)
 | .unit,m,n,cs,_,_,h=>lh .unit (by simp only[M] at h;exact h.2)
 | .arr n t,m,_,cs,_,_,h=>lh (.arr n t) (by simp only[M] at h;exact h.2)
 | .pair a b,m,x,cs,ow,hs,h=>by
  simp only[M] at h
  rcases h with⟨_,_,h⟩ |⟨_,h⟩ |⟨ma,mb,c0,c1,s,_,rfl,h0,h1⟩
  ·exact h
  ·exact lh _ h
  ·obtain⟨l0,o0⟩:=eH a h0
   obtain⟨l1,o1⟩:=eH b h1
   refine⟨by simp[l0,l1,Ty.size],fun u hu=>?_⟩
   rcases List.mem_append.1 hu with hu |hu
   ·exact o0 u hu
   ·exact o1 u hu
 | .sl t,m,xs,cs,ow,hs,h=>by
  simp only[M] at h
  rcases h with⟨_,_,A,c,rfl⟩ |⟨_,h⟩ |⟨T,tag,me,A,c,_,rfl,_⟩
  ·exact⟨rfl,by simp[Value.oneCell']⟩
  ·exact lh _ h
  ·exact⟨rfl,by simp[Value.oneCell']⟩
 | .ptr t,m,xs,cs,ow,hs,h=>by
  simp only[M] at h
  rcases h with⟨_,_,h⟩ |⟨_,h⟩ |⟨T,tag,me,g,cur,_,rfl,_⟩
  ·exact h
  ·exact lh _ h
  ·exact⟨rfl,by simp[Value.oneCell']⟩
theorem dk {s:Step} {p:Path} {hs:List Path}:p∈sub s hs↔(s::p)∈hs:=by
 unfold sub
 rw[List.mem_filterMap]
 constructor
 ·rintro⟨q,hq,h⟩
  cases q with
  |nil=>simp at h
  |cons a r=>by_cases e:a=s<;>simp[e] at h;subst h e;exact hq
 ·intro h
  exact⟨_,h,by simp⟩
theorem mh {s:Step} {hs nV:List Path} (h:∀ p∈hs,p∈nV):∀ p∈sub s hs,p∈sub s nV:=fun p hp=>dk.2 (h _ (dk.1 hp))
theorem aH (bO:aO w w' Wr qT):∀ (t:Ty) {m:Md} {x:t.I} {cs:List Value} {ow cA:Nat→Prop} {hs nV:List Path},
  (∀ g,ow g→g<w.heap.size→w'.heap[g]?=w.heap[g]?)→(∀ g,ow g→g<w.heap.size→cA g)→(∀ p∈hs,p∈nV)→M w Wr H t m x cs ow hs→M w' qT H t m x cs cA nV
 | .int k,m,n,cs,_,_,_,_,_,_,_,h=>by simp only[M] at h ⊢;exact h
 | .bool,m,n,cs,_,_,_,_,_,_,_,h=>by simp only[M] at h ⊢;exact h
 | .str,m,n,cs,_,_,_,_,_,_,_,h=>by simp only[M] at h ⊢;exact h
 | .unit,m,n,cs,_,_,_,_,_,_,_,h=>by simp only[M] at h ⊢;exact h
 | .arr n t,m,_,cs,_,_,_,_,_,_,_,h=>by simp only[M] at h ⊢;exact⟨h.1,bP bO _ h.2⟩
 | .pair a b,m,x,cs,ow,cA,hs,nV,hb,ho,hp,h=>by
  simp only[M] at h ⊢
  rcases h with⟨h1,h⟩ |⟨h1,h⟩ |⟨ma,mb,c0,c1,s,e,rfl,h0,h1⟩
  ·exact .inl ⟨hp _ h1,h⟩
  ·exact .inr (.inl ⟨h1,bP bO _ h⟩)
  ·exact .inr (.inr ⟨ma,mb,c0,c1,s,e,rfl,aH bO a (fun g hg=>hb g hg.1) (fun g hg hl=>⟨ho g hg.1 hl,hg.2⟩) (mh hp) h0,
    aH bO b (fun g hg=>hb g hg.1) (fun g hg hl=>⟨ho g hg.1 hl,hg.2⟩) (mh hp) h1⟩)
 | .sl t,m,xs,cs,ow,cA,hs,nV,hb,ho,hp,h=>by
  simp only[M] at h ⊢
  rcases h with⟨h1,h⟩ |⟨h1,h⟩ |⟨T,tag,me,A,c,e,rfl,hc,ht,h⟩
  ·exact .inl ⟨hp _ h1,h⟩
  ·exact .inr (.inl ⟨h1,bP bO _ h⟩)
  ·refine .inr (.inr ⟨T,tag,me,A,c,e,rfl,hc,ht,?_⟩)
   rcases h with h |⟨g,cur,τ,rfl,hg,hw,iX,hm,hj⟩
   ·exact .inl h
   ·have cf:=a8 hw
    exact .inr ⟨g,cur,τ,rfl,ho g hg cf,(hb g hg cf).trans hw,iX,hm,fun j GV=>aH bO t (fun g' bd=>hb g' bd.1) (fun g' bd hl=>⟨ho g' bd.1 hl,bd.2⟩) (mh hp) (hj j GV)⟩
 | .ptr t,m,x,cs,ow,cA,hs,nV,hb,ho,hp,h=>by
  simp only[M] at h ⊢
  rcases h with⟨h1,h⟩ |⟨h1,h⟩ |⟨T,tag,me,g,cur,e,rfl,ht,hg,hw,h⟩
  ·exact .inl ⟨hp _ h1,h⟩
  ·exact .inr (.inl ⟨h1,bP bO _ h⟩)
  ·have cf:=a8 hw
   exact .inr (.inr ⟨T,tag,me,g,cur,e,rfl,ht,ho g hg cf,(hb g hg cf).trans hw,aH bO t (fun g' bd=>hb g' bd.1) (fun g' bd hl=>⟨ho g' bd.1 hl,bd.2⟩) (mh hp) h⟩)
theorem M_K (hw:∀ g,g<w.heap.size→qT g→Wr g):∀ (t:Ty) {m:Md} {x:t.I} {cs:List Value} {ow:Nat→Prop} {hs:List Path},hs=[]→(∀ g,ow g→¬qT g)→M w Wr H t m x cs ow hs→K w qT t x cs
 | .int k,m,n,cs,_,_,_,_,h=>by simp only[M] at h;exact h.2
 | .bool,m,n,cs,_,_,_,_,h=>by simp only[M] at h;exact h.2
 | .str,m,n,cs,_,_,_,_,h=>by simp only[M] at h;exact h.2
 | .unit,m,n,cs,_,_,_,_,h=>by simp only[M] at h;exact h.2
 | .arr n t,m,_,cs,_,_,_,_,h=>by simp only[M] at h;exact bP ⟨fun _ _ _=>rfl,hw⟩ _ h.2
 | .pair a b,m,x,cs,ow,hs,e,hn,h=>by
  subst e
  simp only[M] at h
  rcases h with⟨h1,h⟩ |⟨h1,h⟩ |⟨ma,mb,c0,c1,s,e,rfl,h0,h1⟩
  ·simp at h1
  ·exact bP ⟨fun _ _ _=>rfl,hw⟩ _ h
  ·simp only[K]
   exact⟨c0,c1,rfl,M_K hw a rfl (fun g hg=>hn g hg.1) h0,M_K hw b rfl (fun g hg=>hn g hg.1) h1⟩
 | .sl t,m,xs,cs,ow,hs,e,hn,h=>by
  subst e
  simp only[M] at h
  rcases h with⟨h1,h⟩ |⟨h1,h⟩ |⟨T,tag,me,A,c,e,rfl,hc,ht,h⟩
  ·simp at h1
  ·exact bP ⟨fun _ _ _=>rfl,hw⟩ _ h
  ·simp only[K]
   refine⟨A,c,rfl,hc,fun hp=>?_⟩
   rcases h with⟨rfl,_⟩ |⟨g,cur,τ,rfl,hg,hh,iX,hm,hj⟩
   ·simp at hp
   ·exact⟨g,0,cur,T,(0,0),rfl,hn g hg,hh,by rw[iX];have:=Nat.mul_le_mul_right t.size hc;omega,fun j GV=>by
     rw[Nat.zero_add];exact M_K hw t rfl (fun g' bd=>hn g' bd.1) (hj j GV)⟩
 | .ptr t,m,x,cs,ow,hs,e,hn,h=>by
  subst e
  simp only[M] at h
  rcases h with⟨h1,h⟩ |⟨h1,h⟩ |⟨T,tag,me,g,cur,e,rfl,ht,hg,hh,h⟩
  ·simp at h1
  ·exact bP ⟨fun _ _ _=>rfl,hw⟩ _ h
  ·have hl:=(eH t h).1
   simp only[K]
   refine⟨g,0,cur,T,(0,0),rfl,hn g hg,hh,by rw[←hl];simp,?_⟩
   rw[List.drop_zero,List.take_of_length_le (by omega)]
   exact M_K hw t rfl (fun g' bd=>hn g' bd.1) h
end Go.Pv
namespace Go.Pv
set_option linter.unusedVariables false
set_option linter.unusedSimpArgs false
variable {w w':World} {Wr qT:Nat→Prop} {H:Nat→Value}
theorem fW:∀ (t:Ty) {x:t.I} {cs:List Value} {ow:Nat→Prop} {hs:List Path},K w Wr t x cs→M w Wr H t .k x cs ow hs
 | .int _,_,_,_,_,h=>by simp only[M];exact⟨rfl,h⟩
 | .bool,_,_,_,_,h=>by simp only[M];exact⟨rfl,h⟩
 | .str,_,_,_,_,h=>by simp only[M];exact⟨rfl,h⟩
 | .unit,_,_,_,_,h=>by simp only[M];exact⟨rfl,h⟩
 | .arr _ _,_,_,_,_,h=>by simp only[M];exact⟨rfl,h⟩
 | .pair _ _,_,_,_,_,h=>by simp only[M];exact .inr (.inl ⟨rfl,h⟩)
 | .sl _,_,_,_,_,h=>by simp only[M];exact .inr (.inl ⟨rfl,h⟩)
 | .ptr _,_,_,_,_,h=>by simp only[M];exact .inr (.inl ⟨rfl,h⟩)
theorem fJ:∀ (t:Ty) {m:Md} {x:t.I} {cs:List Value} {ow:Nat→Prop} {hs:List Path},m.bH=true→M w Wr H t m x cs ow hs→K w Wr t x cs
 | .int _,_,_,_,_,_,_,h=>by simp only[M] at h;exact h.2
 | .bool,_,_,_,_,_,_,h=>by simp only[M] at h;exact h.2
 | .str,_,_,_,_,_,_,h=>by simp only[M] at h;exact h.2
 | .unit,_,_,_,_,_,_,h=>by simp only[M] at h;exact h.2
 | .arr _ _,_,_,_,_,_,_,h=>by simp only[M] at h;exact h.2
 | .sl _,m,_,_,_,_,hk,h=>by
  simp only[M] at h
  rcases h with⟨_,h,_⟩ |⟨_,h⟩ |⟨T,tag,me,A,c,rfl,_⟩
  ·rw[hk] at h;cases h
  ·exact h
  ·simp[Md.bH] at hk
 | .ptr _,m,_,_,_,_,hk,h=>by
  simp only[M] at h
  rcases h with⟨_,h,_⟩ |⟨_,h⟩ |⟨T,tag,me,g,cur,rfl,_⟩
  ·rw[hk] at h;cases h
  ·exact h
  ·simp[Md.bH] at hk
 | .pair a b,m,_,_,_,_,hk,h=>by
  simp only[M] at h
  rcases h with⟨_,h,_⟩ |⟨_,h⟩ |⟨ma,mb,c0,c1,s,rfl,rfl,h0,h1⟩
  ·rw[hk] at h;cases h
  ·exact h
  ·simp[Md.bH] at hk
   simp only[K]
   exact⟨c0,c1,rfl,fJ a hk.1 h0,fJ b hk.2 h1⟩
theorem nX {t:Ty} {m:Md} {x:t.I} {cs:List Value} {ow:Nat→Prop} {hs:List Path} (hk:m.bH=true) (h:K w Wr t x cs):M w Wr H t m x cs ow hs:=by
 cases t<;>simp only[M]<;>first |exact⟨hk,h⟩ |exact .inr (.inl ⟨hk,h⟩)
theorem pv {m:Md} (h:m.bH=true):m.Ho.bH=true:=by cases m<;>simp_all [Md.bH,Md.Ho]
theorem MA {m:Md} (h:m.bH=true):m.l.bH=true:=by cases m<;>simp_all [Md.bH,Md.l]
theorem MB {m:Md} (h:m.bH=true):m.r.bH=true:=by cases m<;>simp_all [Md.bH,Md.r]
theorem w4 {a b:Ty} {ma mb:Md} {x:a.I} {y:b.I} {c0 c1:List Value} {ow s:Nat→Prop} {hs:List Path}
  (h0:M w Wr H a ma x c0 (fun g=>ow g∧s g) (sub .fst hs)) (h1:M w Wr H b mb y c1 (fun g=>ow g∧ ¬s g) (sub .snd hs)):
  M w Wr H (.pair a b) (mkM ma mb) (x,y) (c0++c1) ow hs:=by
 unfold mkM
 cases h:ma.bH&&mb.bH with
 |false=>simp only[cond_false,M];exact .inr (.inr ⟨ma,mb,c0,c1,s,rfl,rfl,h0,h1⟩)
 |true=>
  simp at h
  exact fW _ (by simp only[K];exact⟨c0,c1,rfl,fJ a h.1 h0,fJ b h.2 h1⟩)
def rowAt (w:World) (g off n:Nat):Option (List Value):=match w.heap[g]? with
 |some (.cells cur _ _)=>if off+n≤cur.size then some ((cur.toList.drop off).take n) else none
 |_=>none
def aN (w:World):Path→(t:Ty)→List Value→Option (List Value)
 |[],_,cs=>some cs
 | .deref::p,.ptr t,[.pointer (some ⟨g,off,none⟩)]=>(rowAt w g off t.size).bind (aN w p t)
 | .fst::p,.pair a _,cs=>aN w p a (cs.take a.size)
 | .snd::p,.pair a b,cs=>aN w p b (cs.drop a.size)
 | .idx i::p,.sl t,[.slice (some ⟨g,off,none⟩) _ _]=>(rowAt w g (off+i*t.size) t.size).bind (aN w p t)
 |_::_,_,_=>none
def addrAt (w:World):Path→(t:Ty)→List Value→Option (Nat×Nat)→Option (Nat×Nat)
 |[],_,_,l=>l
 | .deref::p,.ptr t,[.pointer (some ⟨g,off,none⟩)],_=>(rowAt w g off t.size).bind fun cs=>addrAt w p t cs (some (g,off))
 | .fst::p,.pair a _,cs,l=>addrAt w p a (cs.take a.size) l
 | .snd::p,.pair a b,cs,l=>addrAt w p b (cs.drop a.size) (l.map fun q=>(q.1,q.2+a.size))
 | .idx i::p,.sl t,[.slice (some ⟨g,off,none⟩) _ _],_=>(rowAt w g (off+i*t.size) t.size).bind fun cs=>addrAt w p t cs (some (g,off+i*t.size))
 |_::_,_,_,_=>none
def valid:Path→(t:Ty)→t.I→Prop
 |[],_,_=>True
 | .deref::p,.ptr t,x=>valid p t x
 | .fst::p,.pair a _,x=>valid p a x.1
 | .snd::p,.pair _ b,x=>valid p b x.2
 | .idx i::p,.sl t,xs=>i<xs.length∧valid p t (xs.getD i t.z)
 |_::_,_,_=>False
def w5:Path→List Path→List Path
 |[],hs=>hs
 |s::p,hs=>w5 p (sub s hs)
theorem DS {p q:Path}:∀ {hs:List Path},q∈w5 p hs↔(p++q)∈hs:=by
 induction p with
 |nil=>intro hs;rfl
 |cons s p ih=>intro hs;simp only[w5,ih,dk,List.cons_append]
def open_ (p:Path) (hs:List Path):Prop:=∀ h∈hs,∀ s r,p≠h++s::r
theorem open_.sub {s:Step} {p:Path} {hs:List Path} (h:open_ (s::p) hs):open_ p (sub s hs):=fun q hq s' r e=>h _ (dk.1 hq) s' r (by rw[e];rfl)
theorem open_.not_nil {s:Step} {p:Path} {hs:List Path} (h:open_ (s::p) hs):[]∉hs:=fun hn=>h [] hn s p rfl
theorem bq {cur:Array Value} {T:TypeId} {fr:Nat×Nat} {g off n:Nat} (h:w.heap[g]?=some (.cells cur T fr)) (hl:off+n≤cur.size):rowAt w g off n=some ((cur.toList.drop off).take n):=by
 simp[rowAt,h,hl]
theorem focus:∀ (p:Path) {t:Ty} {m:Md} {x:t.I} {cs:List Value} {ow:Nat→Prop} {hs:List Path} {b:TV},M w Wr H t m x cs ow hs→open_ p hs→valid p t x→aY p t m x=some b→
  ∃ cI cA,aN w p t cs=some cI∧(∀ g,cA g→ow g)∧M w Wr H b.t b.m b.x cI cA (w5 p hs)
 |[],t,m,x,cs,ow,hs,b,h,ho,hv,hg=>by
  simp only[aY,Option.some.injEq] at hg
  subst hg
  exact⟨cs,ow,rfl,fun _ h=>h,h⟩
 | .deref::p,.ptr t,m,x,cs,ow,hs,b,h,ho,hv,hg=>by
  simp only[aY] at hg
  simp only[valid] at hv
  simp only[M] at h
  rcases h with⟨hn,_⟩ |⟨hk,h⟩ |⟨T,tag,me,g,cur,rfl,rfl,ht,qU,hw,h⟩
  ·exact absurd hn ho.not_nil
  ·simp only[K] at h
   obtain⟨g,off,cur,T,fr,rfl,hng,hw,hl,h⟩:=h
   obtain⟨cI,cA,h1,h2,h3⟩:=focus p (ow:=fun _=>False) (nX (pv hk) h) ho.sub hv hg
   exact⟨cI,cA,by simp only[aN,bq hw hl,Option.bind_some];exact h1,fun g hg=>(h2 g hg).elim,h3⟩
  ·have hlen:=(eH t h).1
   obtain⟨cI,cA,h1,h2,h3⟩:=focus p h ho.sub hv hg
   refine⟨cI,cA,?_,fun g hg=>(h2 g hg).1,h3⟩
   have iX:0+t.size≤cur.size:=by rw[←hlen];simp
   simp only[aN,bq hw iX,Option.bind_some,List.drop_zero]
   rw[List.take_of_length_le (by omega)]
   exact h1
 | .fst::p,.pair a b',m,x,cs,ow,hs,b,h,ho,hv,hg=>by
  simp only[aY] at hg
  simp only[valid] at hv
  simp only[M] at h
  rcases h with⟨hn,_⟩ |⟨hk,h⟩ |⟨ma,mb,c0,c1,s,rfl,rfl,h0,h1⟩
  ·exact absurd hn ho.not_nil
  ·simp only[K] at h
   obtain⟨c0,c1,rfl,h0,h1⟩:=h
   obtain⟨cI,cA,k1,k2,k3⟩:=focus p (ow:=fun _=>False) (nX (MA hk) h0) ho.sub hv hg
   exact⟨cI,cA,by simp only[aN];rw[←(lh a h0).1,List.take_left];exact k1,fun g hg=>(k2 g hg).elim,k3⟩
  ·obtain⟨cI,cA,k1,k2,k3⟩:=focus p h0 ho.sub hv hg
   exact⟨cI,cA,by simp only[aN];rw[←(eH a h0).1,List.take_left];exact k1,fun g hg=>(k2 g hg).1,k3⟩
 | .snd::p,.pair a b',m,x,cs,ow,hs,b,h,ho,hv,hg=>by
  simp only[aY] at hg
  simp only[valid] at hv
  simp only[M] at h
  rcases h with⟨hn,_⟩ |⟨hk,h⟩ |⟨ma,mb,c0,c1,s,rfl,rfl,h0,h1⟩
  ·exact absurd hn ho.not_nil
  ·simp only[K] at h
   obtain⟨c0,c1,rfl,h0,h1⟩:=h
   obtain⟨cI,cA,k1,k2,k3⟩:=focus p (ow:=fun _=>False) (nX (MB hk) h1) ho.sub hv hg
   exact⟨cI,cA,by simp only[aN];rw[←(lh a h0).1,List.drop_left];exact k1,fun g hg=>(k2 g hg).elim,k3⟩
  ·obtain⟨cI,cA,k1,k2,k3⟩:=focus p h1 ho.sub hv hg
   exact⟨cI,cA,by simp only[aN];rw[←(eH a h0).1,List.drop_left];exact k1,fun g hg=>(k2 g hg).1,k3⟩
 | .idx i::p,.sl t,m,xs,cs,ow,hs,b,h,ho,hv,hg=>by
  simp only[aY] at hg
  simp only[valid] at hv
  obtain⟨hi,hv⟩:=hv
  have eS:(show List t.I from xs).getD i t.z=(show List t.I from xs)[i]:=by simp[List.getD_eq_getElem?_getD,List.getElem?_eq_getElem hi]
  simp only[M] at h
  rcases h with⟨hn,_⟩ |⟨hk,h⟩ |⟨T,tag,me,A,c,rfl,rfl,hc,ht,h⟩
  ·exact absurd hn ho.not_nil
  ·simp only[K] at h
   obtain⟨A,c,rfl,hc,h⟩:=h
   obtain⟨g,off,cur,T,fr,rfl,hng,hw,hl,h⟩:=h (by omega)
   have hbound:off+i*t.size+t.size≤cur.size:=by
    have:=Nat.mul_le_mul_right t.size (show i+1≤xs.length from hi)
    rw[Nat.add_mul,Nat.one_mul] at this
    omega
   have hK:=h i hi
   rw[←eS] at hK
   obtain⟨cI,cA,h1,h2,h3⟩:=focus p (ow:=fun _=>False) (nX (pv hk) hK) ho.sub hv hg
   exact⟨cI,cA,by simp only[aN,bq hw hbound,Option.bind_some];exact h1,fun g hg=>(h2 g hg).elim,h3⟩
  ·rcases h with⟨rfl,_⟩ |⟨g,cur,τ,rfl,qU,hw,iX,hm,h⟩
   ·simp at hi
   ·have hbound:i*t.size+t.size≤cur.size:=by
     have h1:=Nat.mul_le_mul_right t.size (show i+1≤xs.length from hi)
     have h2:=Nat.mul_le_mul_right t.size hc
     rw[Nat.add_mul,Nat.one_mul] at h1
     omega
    have hM:=h i hi
    rw[←eS] at hM
    obtain⟨cI,cA,h1,h2,h3⟩:=focus p hM ho.sub hv hg
    exact⟨cI,cA,by simp only[aN,Nat.zero_add,bq hw hbound,Option.bind_some];exact h1,fun g hg=>(h2 g hg).1,h3⟩
end Go.Pv
namespace Go.Pv
set_option linter.unusedVariables false
set_option linter.unusedSimpArgs false
variable {w w':World} {Wr qT:Nat→Prop} {H:Nat→Value}
def putCells (cur:List Value) (off:Nat) (c:List Value):List Value:=cur.take off++c++cur.drop (off+c.length)
theorem iu (cur c:List Value) (off k:Nat) (h:off+c.length≤cur.length):
  (putCells cur off c)[k]?=if k<off then cur[k]? else if k<off+c.length then c[k - off]? else cur[k]?:=by
 unfold putCells
 have hl:(cur.take off).length=off:=by rw[List.length_take];omega
 by_cases h1:k<off
 ·rw[if_pos h1,List.append_assoc,List.getElem?_append_left (by omega),List.getElem?_take,if_pos h1]
 ·rw[if_neg h1]
  by_cases h2:k<off+c.length
  ·rw[if_pos h2,List.append_assoc,List.getElem?_append_right (by omega),hl,List.getElem?_append_left (by omega)]
  ·rw[if_neg h2,List.getElem?_append_right (by rw[List.length_append];omega),List.length_append,hl,List.getElem?_drop]
   congr 1
   omega
theorem iv (cur c:List Value) (off:Nat) (h:off+c.length≤cur.length):(putCells cur off c).length=cur.length:=by
 unfold putCells
 simp only[List.length_append,List.length_take,List.length_drop]
 omega
theorem aqb (cur c:List Value) (a off n:Nat) (h1:off+c.length≤n) (h2:a+n≤cur.length):
  ((putCells cur (a+off) c).drop a).take n=putCells ((cur.drop a).take n) off c:=by
 apply List.ext_getElem?
 intro k
 have hl:((cur.drop a).take n).length=n:=by simp;omega
 rw[iu _ _ _ _ (by omega)]
 by_cases hk:k<n
 ·rw[List.getElem?_take,if_pos hk,List.getElem?_drop,iu _ _ _ _ (by omega)]
  simp only[List.getElem?_take,if_pos hk,List.getElem?_drop]
  by_cases h3:k<off
  ·rw[if_pos h3,if_pos (by omega)]
  ·rw[if_neg h3,if_neg (by omega)]
   by_cases h4:k<off+c.length
   ·rw[if_pos h4,if_pos (by omega)];congr 1;omega
   ·rw[if_neg h4,if_neg (by omega)]
 ·rw[List.getElem?_take,if_neg hk,if_neg (by omega),if_neg (by omega),List.getElem?_take,if_neg hk]
theorem ah1 (cur c:List Value) (o a n:Nat) (h:o+c.length≤cur.length) (hd:a+n≤o∨o+c.length≤a):
  ((putCells cur o c).drop a).take n=(cur.drop a).take n:=by
 apply List.ext_getElem?
 intro k
 by_cases hk:k<n
 ·simp only[List.getElem?_take,if_pos hk,List.getElem?_drop]
  rw[iu _ _ _ _ h]
  by_cases h3:a+k<o
  ·rw[if_pos h3]
  ·rw[if_neg h3,if_neg (by omega)]
 ·simp only[List.getElem?_take,if_neg hk]
def aI:Path→Bool
 |[]=>true
 | .fst::p=>aI p
 | .snd::p=>aI p
 |_::_=>false
def aK:Path→Ty→Nat
 | .fst::p,.pair a _=>aK p a
 | .snd::p,.pair a b=>a.size+aK p b
 |_,_=>0
def pw:Path→Ty→List Value→List Value→List Value
 |[],_,_,c=>c
 | .fst::p,.pair a _,cs,c=>pw p a (cs.take a.size) c++cs.drop a.size
 | .snd::p,.pair a b,cs,c=>cs.take a.size++pw p b (cs.drop a.size) c
 |_,_,cs,_=>cs
def ll (w w':World) (loc:Option (Nat×Nat)) (c:List Value) (g:Nat):Prop:=match loc with
 |some q=>if g=q.1 then ∃ cur T,w.heap[g]?=some (.cells cur T (0,0))∧w'.heap[g]?=some (.cells (putCells cur.toList q.2 c).toArray T (0,0)) else w'.heap[g]?=w.heap[g]?
 |none=>w'.heap[g]?=w.heap[g]?
theorem eo:∀ (p:Path) {t:Ty} {m:Md} {x:t.I} {b:TV},aI p=true→aY p t m x=some b→aK p t+b.t.size≤t.size
 |[],t,m,x,b,_,hg=>by simp only[aY,Option.some.injEq] at hg;subst hg;simp[aK]
 | .fst::p,.pair a b',m,x,b,hm,hg=>by
  simp only[aY] at hg
  have:=eo p (by simpa[aI] using hm) hg
  simp only[aK,Ty.size];omega
 | .snd::p,.pair a b',m,x,b,hm,hg=>by
  simp only[aY] at hg
  have:=eo p (by simpa[aI] using hm) hg
  simp only[aK,Ty.size];omega
theorem ep:∀ (p:Path) {t:Ty} {cs:List Value},aI p=true→addrAt w p t cs none=none
 |[],_,_,_=>rfl
 | .fst::p,.pair a b,cs,h=>by simp only[addrAt];exact ep p (by simpa[aI] using h)
 | .snd::p,.pair a b,cs,h=>by simp only[addrAt,Option.map_none];exact ep p (by simpa[aI] using h)
 | .fst::p,.int _,_,_ | .fst::p,.bool,_,_ | .fst::p,.str,_,_ | .fst::p,.sl _,_,_ | .fst::p,.ptr _,_,_ | .fst::p,.unit,_,_ | .fst::p,.arr _ _,_,_=>by simp[addrAt]
 | .snd::p,.int _,_,_ | .snd::p,.bool,_,_ | .snd::p,.str,_,_ | .snd::p,.sl _,_,_ | .snd::p,.ptr _,_,_ | .snd::p,.unit,_,_ | .snd::p,.arr _ _,_,_=>by simp[addrAt]
theorem je:∀ (p:Path) {t:Ty} {m:Md} {x:t.I} {cs:List Value} {b:TV} {g o:Nat},aI p=true→aY p t m x=some b→addrAt w p t cs (some (g,o))=some (g,o+aK p t)
 |[],_,_,_,_,_,_,_,_,_=>by simp[addrAt,aK]
 | .fst::p,.pair a b,m,x,cs,_,_,_,h,hg=>by simp only[aY] at hg;simp only[addrAt,aK];exact je p (by simpa[aI] using h) hg
 | .snd::p,.pair a b,m,x,cs,_,g,o,h,hg=>by
  simp only[aY] at hg;simp only[addrAt,aK,Option.map_some]
  rw[je p (by simpa[aI] using h) hg,Nat.add_assoc]
theorem m8:∀ (p:Path) {t:Ty} {cs:List Value} (l l':Option (Nat×Nat)),aI p=false→addrAt w p t cs l=addrAt w p t cs l'
 |[],_,_,_,_,h=>by simp[aI] at h
 | .fst::p,.pair a b,cs,l,l',h=>by simp only[addrAt];exact m8 p _ _ (by simpa[aI] using h)
 | .snd::p,.pair a b,cs,l,l',h=>by simp only[addrAt];exact m8 p _ _ (by simpa[aI] using h)
 | .deref::p,.ptr t,cs,l,l',h=>by
  unfold addrAt
  split<;>simp_all
 | .idx i::p,.sl t,cs,l,l',h=>by
  unfold addrAt
  split<;>simp_all
 | .fst::p,.int _,_,_,_,_ | .fst::p,.bool,_,_,_,_ | .fst::p,.str,_,_,_,_ | .fst::p,.sl _,_,_,_,_ | .fst::p,.ptr _,_,_,_,_ | .fst::p,.unit,_,_,_,_ | .fst::p,.arr _ _,_,_,_,_=>by simp[addrAt]
 | .snd::p,.int _,_,_,_,_ | .snd::p,.bool,_,_,_,_ | .snd::p,.str,_,_,_,_ | .snd::p,.sl _,_,_,_,_ | .snd::p,.ptr _,_,_,_,_ | .snd::p,.unit,_,_,_,_ | .snd::p,.arr _ _,_,_,_,_=>by simp[addrAt]
 | .deref::p,.int _,_,_,_,_ | .deref::p,.bool,_,_,_,_ | .deref::p,.str,_,_,_,_ | .deref::p,.sl _,_,_,_,_ | .deref::p,.pair _ _,_,_,_,_ | .deref::p,.unit,_,_,_,_ | .deref::p,.arr _ _,_,_,_,_=>by simp[addrAt]
 | .idx _::p,.int _,_,_,_,_ | .idx _::p,.bool,_,_,_,_ | .idx _::p,.str,_,_,_,_ | .idx _::p,.ptr _,_,_,_,_ | .idx _::p,.pair _ _,_,_,_,_ | .idx _::p,.unit,_,_,_,_ | .idx _::p,.arr _ _,_,_,_,_=>by simp[addrAt]
theorem eI:∀ (p:Path) {t:Ty} {m:Md} {x:t.I} {cs:List Value} {b:TV},aI p=true→aY p t m x=some b→cs.length=t.size→aN w p t cs=some ((cs.drop (aK p t)).take b.t.size)
 |[],t,m,x,cs,b,_,hg,hl=>by
  simp only[aY,Option.some.injEq] at hg;subst hg
  simp only[aN,aK,List.drop_zero]
  rw[List.take_of_length_le (by show cs.length≤t.size;omega)]
 | .fst::p,.pair a b',m,x,cs,b,h,hg,hl=>by
  simp only[aY] at hg;simp only[Ty.size] at hl
  have hf:=eo p (by simpa[aI] using h) hg
  simp only[aN,aK]
  rw[eI p (by simpa[aI] using h) hg (by rw[List.length_take];omega),List.drop_take,List.take_take]
  congr 2;omega
 | .snd::p,.pair a b',m,x,cs,b,h,hg,hl=>by
  simp only[aY] at hg;simp only[Ty.size] at hl
  simp only[aN,aK]
  rw[eI p (by simpa[aI] using h) hg (by rw[List.length_drop];omega),List.drop_drop]
theorem kP:∀ (p:Path) {t:Ty} {m:Md} {x:t.I} {cs c:List Value} {b:TV},aI p=true→aY p t m x=some b→cs.length=t.size→c.length=b.t.size→pw p t cs c=putCells cs (aK p t) c
 |[],t,m,x,cs,c,b,_,hg,hl,hc=>by
  simp only[aY,Option.some.injEq] at hg;subst hg
  simp only[pw,aK,putCells,List.take_zero,List.nil_append,Nat.zero_add]
  rw[List.drop_of_length_le (by have Yd:c.length=t.size:=hc;omega),List.append_nil]
 | .fst::p,.pair a b',m,x,cs,c,b,h,hg,hl,hc=>by
  simp only[aY] at hg;simp only[Ty.size] at hl
  have hf:=eo p (by simpa[aI] using h) hg
  simp only[pw,aK]
  rw[kP p (by simpa[aI] using h) hg (by rw[List.length_take];omega) hc]
  unfold putCells
  rw[List.take_take,Nat.min_eq_left (by omega),List.append_assoc,List.append_assoc,List.append_assoc,List.drop_take]
  congr 2
  rw[show cs.drop a.size=(cs.drop (aK p a+c.length)).drop (a.size - (aK p a+c.length)) from by rw[List.drop_drop];congr 1;omega,List.take_append_drop]
 | .snd::p,.pair a b',m,x,cs,c,b,h,hg,hl,hc=>by
  simp only[aY] at hg;simp only[Ty.size] at hl
  simp only[pw,aK]
  rw[kP p (by simpa[aI] using h) hg (by rw[List.length_drop];omega) hc]
  unfold putCells
  rw[←List.append_assoc,←List.append_assoc,←List.take_add,List.drop_drop]
  congr 2;omega
theorem jZ:∀ (p:Path) {t:Ty} {cs c:List Value},aI p=false→pw p t cs c=cs
 |[],_,_,_,h=>by simp[aI] at h
 | .fst::p,.pair a b,cs,c,h=>by simp only[pw];rw[jZ p (by simpa[aI] using h),List.take_append_drop]
 | .snd::p,.pair a b,cs,c,h=>by simp only[pw];rw[jZ p (by simpa[aI] using h),List.take_append_drop]
 | .deref::p,t,cs,c,h=>by simp[pw]
 | .idx i::p,t,cs,c,h=>by simp[pw]
 | .fst::p,.int _,_,_,_ | .fst::p,.bool,_,_,_ | .fst::p,.str,_,_,_ | .fst::p,.sl _,_,_,_ | .fst::p,.ptr _,_,_,_ | .fst::p,.unit,_,_,_ | .fst::p,.arr _ _,_,_,_=>by simp[pw]
 | .snd::p,.int _,_,_,_ | .snd::p,.bool,_,_,_ | .snd::p,.str,_,_,_ | .snd::p,.sl _,_,_,_ | .snd::p,.ptr _,_,_,_ | .snd::p,.unit,_,_,_ | .snd::p,.arr _ _,_,_,_=>by simp[pw]
end Go.Pv
namespace Go.Pv
set_option linter.unusedVariables false
set_option linter.unusedSimpArgs false
variable {w w':World} {Wr qT:Nat→Prop} {H:Nat→Value}
def awv (w:World) (Wr:Nat→Prop) (H:Nat→Value) (p:Path) (t:Ty) (m:Md) (x:t.I) (cs:List Value) (ow cA:Nat→Prop) (hs:List Path) (b:TV) (cI:List Value):Prop:=
 ∀ (b2:TV) (r:Md×t.I),b2.t=b.t→gn b2 p t m x=some r→
  (∀ g off,addrAt w p t cs none=some (g,off)→ow g∧ ¬cA g∧∃ cur T,w.heap[g]?=some (.cells cur T (0,0))∧off+b.t.size≤cur.size∧cI=(cur.toList.drop off).take b.t.size)∧
  ∀ (w':World) (qT:Nat→Prop) (c:List Value) (j0:Nat→Prop) (nV:List Path),aO w w' Wr qT→c.length=b.t.size→
   (∀ g,ow g→¬cA g→g<w.heap.size→ll w w' (addrAt w p t cs none) c g)→M w' qT H b2.t b2.m b2.x c j0 (w5 p nV)→
   (∀ g,j0 g→g<w.heap.size→ow g→cA g)→(∀ h,(∀ q,h≠p++q)→h∈hs→h∈nV)→
   M w' qT H t r.1 r.2 (pw p t cs c) (fun g=>(ow g∧ ¬cA g)∨j0 g) nV
theorem l5 {s:Step} {p:Path} {hs nV:List Path} (h:∀ h,(∀ q,h≠s::p++q)→h∈hs→h∈nV):∀ h,(∀ q,h≠p++q)→h∈sub s hs→h∈sub s nV:=fun q hq hm=>
 dk.2 (h _ (fun r e=>hq r (by rw[List.cons_append] at e;injection e)) (dk.1 hm))
theorem rG {s s':Step} (nM:s'≠s) {p:Path} {hs nV:List Path} (h:∀ h,(∀ q,h≠s::p++q)→h∈hs→h∈nV):∀ q∈sub s' hs,q∈sub s' nV:=fun q hq=>
 dk.2 (h _ (fun r e=>by rw[List.cons_append] at e;injection e with e _;exact nM e) (dk.1 hq))
theorem DT {b2:TV} {i:Nat} {p:Path} {t:Ty} {T:TypeId} {tag:Option Nat} {me:Md} {xs:List t.I} {r:Md×List t.I} (h:gn b2 (.idx i::p) (.sl t) (.o T tag me) xs=some r):
  ∃ r1,gn b2 p t me (List.getD xs i t.z)=some r1∧r1.1=me∧r=(.o T tag me,List.set xs i r1.2):=by
 unfold gn at h
 split at h
 ·rename_i r1 h1
  split at h
  ·rename_i h2
   injection h with h
   exact⟨r1,h1,h2,h.symm⟩
  ·cases h
 ·cases h
theorem zO:∀ (p:Path) {t:Ty} {m:Md} {x:t.I} {cs:List Value} {ow:Nat→Prop} {hs:List Path} {b:TV},M w Wr H t m x cs ow hs→open_ p hs→valid p t x→aY p t m x=some b→
  ∃ cI cA,aN w p t cs=some cI∧(∀ g,cA g→ow g)∧M w Wr H b.t b.m b.x cI cA (w5 p hs)∧awv w Wr H p t m x cs ow cA hs b cI
 |[],t,m,x,cs,ow,hs,b,h,ho,hv,hg=>by
  simp only[aY,Option.some.injEq] at hg
  subst hg
  refine⟨cs,ow,rfl,fun _ h=>h,h,fun b2 r ht hr=>⟨fun g off e=>by simp[addrAt] at e,fun w' qT c j0 nV bO hc hb hm rB hh=>?_⟩⟩
  obtain⟨t2,m2,x2⟩:=b2
  simp only at ht
  subst ht
  simp only[gn,dite_true,Option.some.injEq] at hr
  subst hr
  exact aH (aO.refl _ _) t2 (fun _ _ _=>rfl) (fun g hg _=>.inr hg) (fun _ h=>h) hm
 | .deref::p,.ptr t,m,x,cs,ow,hs,b,h,ho,hv,hg=>by
  simp only[aY] at hg
  simp only[valid] at hv
  simp only[M] at h
  rcases h with⟨hn,_⟩ |⟨hk,h⟩ |⟨T,tag,me,g,cur,rfl,rfl,ht,qU,hw,h⟩
  ·exact absurd hn ho.not_nil
  ·obtain⟨cI,cA,h1,h2,h3⟩:=focus (H:=H) (ow:=ow) (.deref::p) (nX (t:=.ptr t) hk h) ho hv (by simpa only[aY] using hg)
   exact⟨cI,cA,h1,h2,h3,fun b2 r _ hr=>by cases m<;>simp[gn,Md.bH] at hr hk⟩
  ·have hlen:=(eH t h).1
   obtain⟨cI,cA,h1,h2,h3,h4⟩:=zO p h ho.sub hv hg
   have iX:0+t.size≤cur.size:=by rw[←hlen];simp
   have gM:rowAt w g 0 t.size=some cur.toList:=by rw[bq hw iX,List.drop_zero,List.take_of_length_le (by omega)]
   refine⟨cI,cA,?_,fun g hg=>(h2 g hg).1,h3,fun b2 r zP hr=>?_⟩
   ·simp only[aN,gM,Option.bind_some];exact h1
   simp only[gn] at hr
   cases QH:gn b2 p t me x with
   |none=>simp[QH] at hr
   |some r1=>
    simp only[QH,Option.some.injEq] at hr
    subst hr
    obtain⟨ha,kQ⟩:=h4 b2 r1 zP QH
    have nY:addrAt w (.deref::p) (.ptr t) [.pointer (some ⟨g,0,none⟩)] none=addrAt w p t cur.toList (some (g,0)):=by simp only[addrAt,gM,Option.bind_some]
    cases MC:aI p with
    |true=>
     have dx:=je (w:=w) (cs:=cur.toList) (g:=g) (o:=0) p MC hg
     have w6:=eo p MC hg
     have iY:=eI (w:=w) p MC hg hlen
     rw[h1] at iY
     injection iY with iY
     rw[nY,dx]
     refine⟨fun g' off e=>?_,fun w' qT c j0 nV bO hc hb hm rB hh=>?_⟩
     ·injection e with e
      injection e with e1 e2
      subst e1 e2
      exact⟨qU,fun hx=>(h2 g hx).2 rfl,cur,T,hw,by rw[←hlen] at w6;simp at w6 ⊢;omega,by rw[Nat.zero_add];exact iY⟩
     ·have cf:=a8 hw
      have bd:=hb g qU (fun hx=>(h2 g hx).2 rfl) cf
      simp only[ll,if_true,Nat.zero_add] at bd
      obtain⟨gk,T2,e2,rH⟩:=bd
      rw[hw] at e2
      injection e2 with e2
      injection e2 with e2 e3
      subst e2 e3
      have hM:=kQ w' qT c j0 (sub .deref nV) bO hc (fun g' eG rq hl=>by
       rw[ep p MC]
       have:=hb g' eG.1 rq hl
       simp only[ll,eG.2,if_false] at this
       exact this) hm (fun g' eG hl rq=>rB g' eG hl rq.1) (l5 hh)
      rw[kP p MC hg hlen hc] at hM
      simp only[pw,M]
      refine .inr (.inr ⟨T,tag,r1.1,g,_,rfl,rfl,ht,.inl ⟨qU,fun hx=>(h2 g hx).2 rfl⟩,rH,?_⟩)
      refine aH (aO.refl _ _) t (fun _ _ _=>rfl) (fun g' eG hl=>?_) (fun _ h=>h) hM
      rcases eG with⟨⟨a1,a2⟩,a3⟩ |a
      ·exact⟨.inl ⟨a1,a3⟩,a2⟩
      ·refine⟨.inr a,fun e=>?_⟩
       subst e
       exact(h2 g' (rB g' a cf qU)).2 rfl
    |false=>
     have dx:=m8 (w:=w) (t:=t) (cs:=cur.toList) p (some (g,0)) none MC
     rw[nY,dx]
     refine⟨fun g' off e=>?_,fun w' qT c j0 nV bO hc hb hm rB hh=>?_⟩
     ·obtain⟨a1,a2,a3⟩:=ha g' off e
      exact⟨a1.1,a2,a3⟩
     ·have cf:=a8 hw
      have hM:=kQ w' qT c j0 (sub .deref nV) bO hc (fun g' eG rq hl=>hb g' eG.1 rq hl) hm (fun g' eG hl rq=>rB g' eG hl rq.1) (l5 hh)
      rw[jZ p MC] at hM
      have rH:w'.heap[g]?=some (.cells cur T (0,0)):=by
       have bd:=hb g qU (fun hx=>(h2 g hx).2 rfl) cf
       cases py:addrAt w p t cur.toList none with
       |none=>rw[py] at bd;exact bd.trans hw
       |some q=>
        rw[py] at bd
        have nM:g≠q.1:=fun e=>(ha q.1 q.2 py).1.2 e.symm
        simp only[ll,nM,if_false] at bd
        exact bd.trans hw
      simp only[pw,M]
      refine .inr (.inr ⟨T,tag,r1.1,g,_,rfl,rfl,ht,.inl ⟨qU,fun hx=>(h2 g hx).2 rfl⟩,rH,?_⟩)
      refine aH (aO.refl _ _) t (fun _ _ _=>rfl) (fun g' eG hl=>?_) (fun _ h=>h) hM
      rcases eG with⟨⟨a1,a2⟩,a3⟩ |a
      ·exact⟨.inl ⟨a1,a3⟩,a2⟩
      ·refine⟨.inr a,fun e=>?_⟩
       subst e
       exact(h2 g' (rB g' a cf qU)).2 rfl
 | .fst::p,.pair a b',m,x,cs,ow,hs,b,h,ho,hv,hg=>by
  simp only[aY] at hg
  simp only[valid] at hv
  have j8:∃ c0 c1,∃ s:Nat→Prop,cs=c0++c1∧M w Wr H a m.l x.1 c0 (fun g=>ow g∧s g) (sub .fst hs)∧M w Wr H b' m.r x.2 c1 (fun g=>ow g∧ ¬s g) (sub .snd hs):=by
   simp only[M] at h
   rcases h with⟨hn,_⟩ |⟨hk,h⟩ |⟨ma,mb,c0,c1,s,rfl,rfl,h0,h1⟩
   ·exact absurd hn ho.not_nil
   ·simp only[K] at h
    obtain⟨c0,c1,rfl,h0,h1⟩:=h
    exact⟨c0,c1,fun _=>True,rfl,nX (MA hk) h0,nX (MB hk) h1⟩
   ·exact⟨c0,c1,s,rfl,h0,h1⟩
  obtain⟨c0,c1,s,rfl,h0,h1⟩:=j8
  obtain⟨cI,cA,k1,k2,k3,k4⟩:=zO p h0 ho.sub hv hg
  have l0:=(eH a h0).1
  have ht:(c0++c1).take a.size=c0:=by rw[←l0,List.take_left]
  have hd:(c0++c1).drop a.size=c1:=by rw[←l0,List.drop_left]
  refine⟨cI,cA,by simp only[aN,ht];exact k1,fun g hg=>(k2 g hg).1,k3,fun b2 r zP hr=>?_⟩
  simp only[gn] at hr
  cases QH:gn b2 p a m.l x.1 with
  |none=>simp[QH] at hr
  |some r1=>
   simp only[QH,Option.some.injEq] at hr
   subst hr
   obtain⟨ha,kQ⟩:=k4 b2 r1 zP QH
   have nY:addrAt w (.fst::p) (.pair a b') (c0++c1) none=addrAt w p a c0 none:=by simp only[addrAt,ht]
   rw[nY]
   refine⟨fun g' off e=>?_,fun w' qT c j0 nV bO hc hb hm rB hh=>?_⟩
   ·obtain⟨a1,a2,a3⟩:=ha g' off e
    exact⟨a1.1,a2,a3⟩
   ·have hM:=kQ w' qT c j0 (sub .fst nV) bO hc (fun g' eG rq hl=>hb g' eG.1 rq hl) hm (fun g' eG hl rq=>rB g' eG hl rq.1) (l5 hh)
    simp only[pw,ht,hd]
    refine w4 (s:=fun g=>(s g∧ow g)∨j0 g) ?_ ?_
    ·refine aH (aO.refl _ _) a (fun _ _ _=>rfl) (fun g' eG hl=>?_) (fun _ h=>h) hM
     rcases eG with⟨⟨a1,a2⟩,a3⟩ |q
     ·exact⟨.inl ⟨a1,a3⟩,.inl ⟨a2,a1⟩⟩
     ·exact⟨.inr q,.inr q⟩
    ·refine aH bO b' (fun g' eG hl=>?_) (fun g' eG hl=>⟨.inl ⟨eG.1,fun hx=>eG.2 (k2 g' hx).2⟩,fun hx=>?_⟩) (rG (by decide) hh) h1
     ·have bd:=hb g' eG.1 (fun hx=>eG.2 (k2 g' hx).2) hl
      cases py:addrAt w p a c0 none with
      |none=>rw[py] at bd;exact bd
      |some q=>
       rw[py] at bd
       have nM:g'≠q.1:=fun e=>eG.2 (by rw[e];exact(ha q.1 q.2 py).1.2)
       simp only[ll,nM,if_false] at bd
       exact bd
     ·rcases hx with hx |hx
      ·exact eG.2 hx.1
      ·exact eG.2 (k2 g' (rB g' hx hl eG.1)).2
 | .snd::p,.pair a b',m,x,cs,ow,hs,b,h,ho,hv,hg=>by
  simp only[aY] at hg
  simp only[valid] at hv
  have j8:∃ c0 c1,∃ s:Nat→Prop,cs=c0++c1∧M w Wr H a m.l x.1 c0 (fun g=>ow g∧s g) (sub .fst hs)∧M w Wr H b' m.r x.2 c1 (fun g=>ow g∧ ¬s g) (sub .snd hs):=by
   simp only[M] at h
   rcases h with⟨hn,_⟩ |⟨hk,h⟩ |⟨ma,mb,c0,c1,s,rfl,rfl,h0,h1⟩
   ·exact absurd hn ho.not_nil
   ·simp only[K] at h
    obtain⟨c0,c1,rfl,h0,h1⟩:=h
    exact⟨c0,c1,fun _=>True,rfl,nX (MA hk) h0,nX (MB hk) h1⟩
   ·exact⟨c0,c1,s,rfl,h0,h1⟩
  obtain⟨c0,c1,s,rfl,h0,h1⟩:=j8
  obtain⟨cI,cA,k1,k2,k3,k4⟩:=zO p h1 ho.sub hv hg
  have l0:=(eH a h0).1
  have ht:(c0++c1).take a.size=c0:=by rw[←l0,List.take_left]
  have hd:(c0++c1).drop a.size=c1:=by rw[←l0,List.drop_left]
  refine⟨cI,cA,by simp only[aN,hd];exact k1,fun g hg=>(k2 g hg).1,k3,fun b2 r zP hr=>?_⟩
  simp only[gn] at hr
  cases QH:gn b2 p b' m.r x.2 with
  |none=>simp[QH] at hr
  |some r1=>
   simp only[QH,Option.some.injEq] at hr
   subst hr
   obtain⟨ha,kQ⟩:=k4 b2 r1 zP QH
   have nY:addrAt w (.snd::p) (.pair a b') (c0++c1) none=addrAt w p b' c1 none:=by simp only[addrAt,hd,Option.map_none]
   rw[nY]
   refine⟨fun g' off e=>?_,fun w' qT c j0 nV bO hc hb hm rB hh=>?_⟩
   ·obtain⟨a1,a2,a3⟩:=ha g' off e
    exact⟨a1.1,a2,a3⟩
   ·have hM:=kQ w' qT c j0 (sub .snd nV) bO hc (fun g' eG rq hl=>hb g' eG.1 rq hl) hm (fun g' eG hl rq=>rB g' eG hl rq.1) (l5 hh)
    simp only[pw,ht,hd]
    refine w4 (s:=fun g=>(s g∧ow g)∧ ¬j0 g) ?_ ?_
    ·refine aH bO a (fun g' eG hl=>?_) (fun g' eG hl=>⟨.inl ⟨eG.1,fun hx=>(k2 g' hx).2 eG.2⟩,⟨eG.2,eG.1⟩,fun hx=>(k2 g' (rB g' hx hl eG.1)).2 eG.2⟩) (rG (by decide) hh) h0
     have bd:=hb g' eG.1 (fun hx=>(k2 g' hx).2 eG.2) hl
     cases py:addrAt w p b' c1 none with
     |none=>rw[py] at bd;exact bd
     |some q=>
      rw[py] at bd
      have nM:g'≠q.1:=fun e=>(ha q.1 q.2 py).1.2 (by rw[←e];exact eG.2)
      simp only[ll,nM,if_false] at bd
      exact bd
    ·refine aH (aO.refl _ _) b' (fun _ _ _=>rfl) (fun g' eG hl=>?_) (fun _ h=>h) hM
     rcases eG with⟨⟨a1,a2⟩,a3⟩ |q
     ·exact⟨.inl ⟨a1,a3⟩,fun hx=>a2 hx.1.1⟩
     ·exact⟨.inr q,fun hx=>hx.2 q⟩
 | .idx i::p,.sl t,m,xs,cs,ow,hs,b,h,ho,hv,hg=>by
  simp only[aY] at hg
  have hv0:=hv
  simp only[valid] at hv
  obtain⟨hi,hv⟩:=hv
  have eS:List.getD xs i t.z=xs[i]:=by simp[List.getD_eq_getElem?_getD,List.getElem?_eq_getElem hi]
  simp only[M] at h
  rcases h with⟨hn,_⟩ |⟨hk,h⟩ |⟨T,tag,me,A,c,rfl,rfl,hc,ht,h⟩
  ·exact absurd hn ho.not_nil
  ·obtain⟨cI,cA,h1,h2,h3⟩:=focus (H:=H) (ow:=ow) (.idx i::p) (nX (t:=.sl t) hk h) ho hv0 (by simpa only[aY] using hg)
   exact⟨cI,cA,h1,h2,h3,fun b2 r _ hr=>by cases m<;>simp[gn,Md.bH] at hr hk⟩
  ·rcases h with⟨rfl,_⟩ |⟨g,cur,τ,rfl,qU,hw,iX,hm,h⟩
   ·simp at hi
   ·have auy:i*t.size+t.size≤cur.size:=by
     have h1:=Nat.mul_le_mul_right t.size (show i+1≤xs.length from hi)
     have h2:=Nat.mul_le_mul_right t.size hc
     rw[Nat.add_mul,Nat.one_mul] at h1
     omega
    have MD:=h i hi
    rw[←eS] at MD
    have hlen:=(eH t MD).1
    obtain⟨cI,cA,h1,h2,h3,h4⟩:=zO p MD ho.sub hv hg
    have gM:rowAt w g (0+i*t.size) t.size=some ((cur.toList.drop (i*t.size)).take t.size):=by rw[Nat.zero_add,bq hw auy]
    refine⟨cI,cA,?_,fun g hg=>(h2 g hg).1,h3,fun b2 r zP hr=>?_⟩
    ·simp only[aN,gM,Option.bind_some];exact h1
    obtain⟨r1,QH,hme,rfl⟩:=DT hr
    obtain⟨ha,kQ⟩:=h4 b2 r1 zP QH
    have nY:addrAt w (.idx i::p) (.sl t) [.slice (some ⟨g,0,none⟩) xs.length c] none=addrAt w p t ((cur.toList.drop (i*t.size)).take t.size) (some (g,i*t.size)):=by
     simp only[addrAt];rw[gM];simp only[Option.bind_some,Nat.zero_add]
    -- the other elements,and this one,behind the change
    have cf:=a8 hw
    have rest:∀ (w':World) (qT:Nat→Prop) (c2:List Value) (j0:Nat→Prop) (nV:List Path) (gk:Array Value),aO w w' Wr qT→
      (∀ g',ow g'→g'≠g→¬cA g'→(∀ q,addrAt w p t ((cur.toList.drop (i*t.size)).take t.size) none=some q→g'≠q.1)→g'<w.heap.size→w'.heap[g']?=w.heap[g']?)→
      w'.heap[g]?=some (.cells gk T (0,0))→gk.size=cur.size→
      (∀ j,j<xs.length→j≠i→(gk.toList.drop (j*t.size)).take t.size=(cur.toList.drop (j*t.size)).take t.size)→
      M w' qT H t r1.1 r1.2 ((gk.toList.drop (i*t.size)).take t.size) (fun g'=>((ow g'∧g'≠g∧τ g'=i)∧ ¬cA g')∨j0 g') (sub (.idx i) nV)→
      (∀ g',j0 g'→g'<w.heap.size→ow g'→cA g')→(∀ h,(∀ q,h≠ .idx i::p++q)→h∈hs→h∈nV)→
      M w' qT H (.sl t) (.o T tag me) (List.set xs i r1.2) [.slice (some ⟨g,0,none⟩) xs.length c] (fun g'=>(ow g'∧ ¬cA g')∨j0 g') nV:=by
     intro w' qT c2 j0 nV gk bO kR rH aww ln hM rB hh
     have hng: ¬cA g:=fun hx=>(h2 g hx).2.1 rfl
     simp only[M]
     refine .inr (.inr ⟨T,tag,me,some ⟨g,0,none⟩,c,rfl,by rw[List.length_set],by rw[List.length_set];exact hc,fun h hh=>by rw[List.length_set];exact ht h hh,.inr ⟨g,gk,fun g'=>open Classical in if j0 g' then i else τ g',rfl,.inl ⟨qU,hng⟩,rH,by rw[aww,iX],hm,fun j hj=>?_⟩⟩)
     rw[List.length_set] at hj
     by_cases kS:j=i
     ·subst kS
      rw[List.getElem_set_self,←hme]
      refine aH (aO.refl _ _) t (fun _ _ _=>rfl) (fun g' eG hl=>?_) (fun _ h=>h) hM
      rcases eG with⟨⟨a1,a2,a3⟩,a4⟩ |a
      ·exact⟨.inl ⟨a1,a4⟩,a2,by simp only;split<;>first |rfl |exact a3⟩
      ·refine⟨.inr a,fun e=>?_,by simp only;rw[if_pos a]⟩
       subst e
       exact hng (rB g' a cf qU)
     ·rw[List.getElem_set_ne (fun e=>kS e.symm),ln j hj kS]
      have auz:∀ g',(ow g'∧g'≠g∧τ g'=j)→g'<w.heap.size→¬j0 g':=fun g' eG hl hx=>kS (by rw[←eG.2.2];exact(h2 g' (rB g' hx hl eG.1)).2.2)
      have auA:∀ g',(ow g'∧g'≠g∧τ g'=j)→¬cA g':=fun g' eG hx=>kS (by rw[←eG.2.2];exact(h2 g' hx).2.2)
      refine aH bO t (fun g' eG hl=>kR g' eG.1 eG.2.1 (auA g' eG) (fun q hq e=>?_) hl) (fun g' eG hl=>⟨.inl ⟨eG.1,auA g' eG⟩,eG.2.1,?_⟩) (rG (by intro e;injection e with e;exact kS e) hh) (h j hj)
      ·have:=(ha q.1 q.2 hq).1.2.2
       rw[←e,eG.2.2] at this
       exact kS this
      ·simp only
       rw[if_neg (auz g' eG hl)]
       exact eG.2.2
    cases MC:aI p with
    |true=>
     have dx:=je (w:=w) (cs:=(cur.toList.drop (i*t.size)).take t.size) (g:=g) (o:=i*t.size) p MC hg
     have w6:=eo p MC hg
     have iY:=eI (w:=w) p MC hg hlen
     rw[h1] at iY
     injection iY with iY
     rw[nY,dx]
     refine⟨fun g' off e=>?_,fun w' qT c2 j0 nV bO QU hb hm2 rB hh=>?_⟩
     ·injection e with e
      injection e with e1 e2
      subst e1 e2
      refine⟨qU,fun hx=>(h2 g hx).2.1 rfl,cur,T,hw,by omega,?_⟩
      rw[iY,List.drop_take,List.drop_drop,List.take_take]
      congr 1
      omega
     ·have bd:=hb g qU (fun hx=>(h2 g hx).2.1 rfl) cf
      simp only[ll,if_true] at bd
      obtain⟨gk,T2,e2,rH⟩:=bd
      rw[hw] at e2
      injection e2 with e2
      injection e2 with e2 e3
      subst e2 e3
      have auB:i*t.size+aK p t+c2.length≤cur.toList.length:=by rw[QU,Array.length_toList];omega
      have hM:=kQ w' qT c2 j0 (sub (.idx i) nV) bO QU (fun g' eG rq hl=>by
       rw[ep p MC]
       have:=hb g' eG.1 rq hl
       simp only[ll,eG.2.1,if_false] at this
       exact this) hm2 (fun g' eG hl rq=>rB g' eG hl rq.1) (l5 hh)
      rw[kP p MC hg hlen QU] at hM
      refine rest w' qT c2 j0 nV _ bO (fun g' eG rq hg3 _ hl=>?_) rH (by rw[List.size_toArray,iv _ _ _ auB,Array.length_toList]) (fun j hj kS=>?_) ?_ rB hh
      ·have:=hb g' eG hg3 hl
       simp only[ll,rq,if_false] at this
       exact this
      ·rw[List.toList_toArray]
       refine ah1 _ _ _ _ _ auB ?_
       rcases Nat.lt_or_gt_of_ne kS with aqc |aqc
       ·left
        have:=Nat.mul_le_mul_right t.size (show j+1≤i from aqc)
        rw[Nat.add_mul,Nat.one_mul] at this
        omega
       ·right
        have:=Nat.mul_le_mul_right t.size (show i+1≤j from aqc)
        rw[Nat.add_mul,Nat.one_mul] at this
        rw[QU]
        omega
      ·rw[List.toList_toArray,aqb _ _ _ _ _ (by rw[QU];omega) (by rw[Array.length_toList];omega)]
       exact hM
    |false=>
     have dx:=m8 (w:=w) (t:=t) (cs:=(cur.toList.drop (i*t.size)).take t.size) p (some (g,i*t.size)) none MC
     rw[nY,dx]
     refine⟨fun g' off e=>?_,fun w' qT c2 j0 nV bO QU hb hm2 rB hh=>?_⟩
     ·obtain⟨a1,a2,a3⟩:=ha g' off e
      exact⟨a1.1,a2,a3⟩
     ·have hM:=kQ w' qT c2 j0 (sub (.idx i) nV) bO QU (fun g' eG rq hl=>hb g' eG.1 rq hl) hm2 (fun g' eG hl rq=>rB g' eG hl rq.1) (l5 hh)
      rw[jZ p MC] at hM
      have same:∀ g',ow g'→¬cA g'→(∀ q,addrAt w p t ((cur.toList.drop (i*t.size)).take t.size) none=some q→g'≠q.1)→g'<w.heap.size→w'.heap[g']?=w.heap[g']?:=by
       intro g' eG rq hq hl
       have bd:=hb g' eG rq hl
       cases py:addrAt w p t ((cur.toList.drop (i*t.size)).take t.size) none with
       |none=>rw[py] at bd;exact bd
       |some q=>
        rw[py] at bd
        simp only[ll,hq q py,if_false] at bd
        exact bd
      have rH:w'.heap[g]?=some (.cells cur T (0,0)):=(same g qU (fun hx=>(h2 g hx).2.1 rfl) (fun q hq e=>(ha q.1 q.2 hq).1.2.1 e.symm) cf).trans hw
      exact rest w' qT c2 j0 nV cur bO (fun g' eG _ hg3 hq hl=>same g' eG hg3 hq hl) rH rfl (fun j hj kS=>rfl) hM rB hh
end Go.Pv
namespace Go.Pv
set_option linter.unusedVariables false
set_option linter.unusedSimpArgs false
structure aa where
 res:List TV
 refs:List TV
inductive Arg where
 |tv (a:TV)
 |fn (f:FuncId) (cq:List TV)
inductive Pass where
 |val |take |kT
 deriving DecidableEq
structure jf where
 sig:FuncId→List Pass
 run:FuncId→List Arg→(aa→Option aa)→Option aa
structure Entry where
 f:FuncId
 sig:List Pass
 run:List Arg→(aa→Option aa)→Option aa
def entry:List Entry→FuncId→Option Entry
 |[],_=>none
 |e::r,f=>bif Nat.beq e.f f then some e else entry r f
def jf.of (l:List Entry):jf where
 sig f:=match entry l f with
  |some e=>e.sig
  |none=>[]
 run f:=match entry l f with
  |some e=>e.run
  |none=>fun _ _=>none
inductive Ex where
 |n |x (id:Nat) |r
inductive CK where
 |kv (t:Ty) |pl (t:Ty) (s:Nat) (p:Path)
@[reducible] def DU:List CK→Type
 |[]=>Unit
 | .kv t::r=>t.I×DU r
 | .pl _ _ _::r=>DU r
def mj:(cs:List CK)→DU cs→List ID
 |[],_=>[]
 | .kv t::r,x=>.kv ⟨t,.k,x.1⟩::mj r x.2
 | .pl t s p::r,x=>.pl t s p::mj r x
def rI:(cs:List CK)→List ID→Option (DU cs)
 |[],[]=>some ()
 | .kv t::r,.kv ⟨t',m',x⟩::S=>if h:t'=t then(if m'=.k then match rI r S with
   |some y=>some (h▸x,y)
   |none=>none else none) else none
 | .pl t s p::r,.pl t' s' p'::S=>if t'=t then(bif Nat.beq s' s then(if p'=p then rI r S else none) else none) else none
 |_,_=>none
inductive Kd where
 |dead |v (t:Ty) (m:Md) |al (t:Ty) (s:Nat) |lE (f:FuncId) (cs:List CK)
@[reducible] def rr:List Kd→Type
 |[]=>Unit
 | .v t _::r=>t.I×rr r
 | .dead::r=>rr r
 | .al _ _::r=>rr r
 | .lE _ cs::r=>DU cs×rr r
def shape:(ks:List Kd)→rr ks→St
 |[],_=>[]
 | .v t m::r,x=>.v ⟨t,m,x.1⟩ []::shape r x.2
 | .dead::r,x=>.dead::shape r x
 | .al t s::r,x=>.al t s []::shape r x
 | .lE f cs::r,x=>.lE f (mj cs x.1)::shape r x.2
def proj:(ks:List Kd)→St→Option (rr ks)
 |[],[]=>some ()
 | .v t m::r,.v ⟨t',m',x⟩ []::S=>if h:t'=t then(if m'=m then match proj r S with
   |some y=>some (h▸x,y)
   |none=>none else none) else none
 | .dead::r,_::S=>proj r S
 | .al t s::r,.al t' s' []::S=>if t'=t then(bif Nat.beq s' s then proj r S else none) else none
 | .lE f cs::r,.lE f' cq::S=>bif Nat.beq f' f then(match rI cs cq,proj r S with
   |some y,some z=>some (y,z)
   |_,_=>none) else none
 |_,_=>none
def gE (all:List Kd):List Kd→Bool
 |[]=>true
 | .al _ s::r=>(match all[s]? with
  |some (.v _ _)=>true
  |_=>false)&&gE all r
 | .lE _ cs::r=>(cs.all fun c=>match c with
  | .kv _=>true
  | .pl _ s _=>match all[s]? with
   |some (.v _ _)=>true
   |_=>false)&&gE all r
 |_::r=>gE all r
inductive OT where
 |done |one (i:Nat) (t:OT) |any (l:List Nat) (t:OT) |par (l:List Nat) (ds:List (List Nat)) (t:OT) |own (d:Nat) (t:OT)
def OT.seq:List Nat→OT→OT
 |[],t=>t
 |i::r,t=>.one i (OT.seq r t)
structure Hint where
 tab:da
 hn:Hn:=[]
 loops:List (Nat×List Kd):=[]
 outs:List (Nat×Nat×List Kd):=[]
 bp:List (Nat×OT):=[]
 w7:Option (Nat×Bool):=none
 frz:List (Nat×List (Nat×Path)):=[]
def ME:Path→Bool
 |[]=>true | .idx _::_=>false |_::p=>ME p
def St.aqd (S:St) (q:Nat×Path):St:=match S.at q.1 with
 | .v r []=>match aY q.2 r.t r.m r.x with
  |some b=>bif b.m.bH|| !ME q.2 then S else(match q.2 with
   |[]=>S.put (some q.1) (.v (QR r) [])
   |_=>(match gn (QR b) q.2 r.t r.m r.x with
    |some (m,z)=>St.put (((S.weaken q.1).cover q.1 q.2).set q.1 (.v r [q.2])) (some q.1) (.v ⟨r.t,m,z⟩ [])
    |none=>S))
  |none=>S
 |_=>S
def Ye:List (Nat×List (Nat×Path))→Nat→St→St
 |[],_,S=>S
 |q::r,id,S=>bif Nat.beq q.1 id then q.2.foldl St.aqd S else Ye r id S
def nZ:List (Nat×List Kd)→Nat→Option (List Kd)
 |[],_=>none
 |q::r,k=>bif Nat.beq q.1 k then some q.2 else nZ r k
def ah2 (S:St) (i:Nat):Kd→St
 | .v _ m=>bif m.bH then S else match S.at i with
  | .al t s []=>(match S.dI (.tmp i) (.al t s []) with
   |some (a,S1)=>S1.put (some i) (.v a [])
   |none=>S)
  |_=>S
 |_=>S
def QV:List Kd→Nat→St→St
 |[],_,S=>S
 |k::r,i,S=>QV r (i+1) (ah2 S i k)
def tc (ks:List Kd) (S:St):Option St:=bif gE ks ks then(match proj ks (QV ks 0 S) with
  |some x=>some (shape ks x)
  |none=>none) else none
def Hint.clean (h:Hint) (key:Nat) (S:St):Option St:=match nZ h.loops key with
 |some ks=>tc ks S
 |none=>none
def Ex.num:Ex→Nat
 | .n=>0 | .r=>1 | .x id=>id+2
def aoL:List (Nat×Nat×List Kd)→Nat→Nat→Option (List Kd)
 |[],_,_=>none
 |q::r,k,e=>bif Nat.beq q.1 k&&Nat.beq q.2.1 e then some q.2.2 else aoL r k e
def Hq (S:St):ID→Option TV
 | .pl _ s p=>match S.place s p with
  |some a=>some (QR a)
  |none=>none
 | .kv a=>some a
def pz (S:St):List ID→Option (List TV)
 |[]=>some []
 |c::r=>match Hq S c,pz S r with
  |some a,some l=>some (a::l)
  |_,_=>none
def fZ (Θ:da):St→List Operand→List TypeId→List Pass→Option (List (Option TV)×St)
 |S,[],_,_=>some ([],S)
 |S,x::xs,T::Ts,p::ps=>match p with
  | .val=>match fZ Θ S xs Ts ps with
   |some r=>some (none::r.1,r.2)
   |none=>none
  | .take=>match S.take Θ T x with
   |some (a,S1)=>match fZ Θ S1 xs Ts ps with
    |some r=>some (some a::r.1,r.2)
    |none=>none
   |none=>none
  | .kT=>none
 |_,_,_,_=>none
def reads (Θ:da) (S:St):List Operand→List TypeId→List (Option TV)→Option (List Arg)
 |[],_,_=>some []
 |x::xs,T::Ts,p::ps=>match p with
  |some a=>match reads Θ S xs Ts ps with
   |some r=>some (.tv a::r)
   |none=>none
  |none=>match S.dR Θ T x with
   |some (.lE f cq)=>match pz S cq,reads Θ S xs Ts ps with
    |some l,some r=>some (.fn f l::r)
    |_,_=>none
   |some av=>match S.ta av,reads Θ S xs Ts ps with
    |some a,some r=>some (.tv (QR a)::r)
    |_,_=>none
   |none=>none
 |_,_,_=>none
def Hr:List TV→AV
 |[a]=>.v a []
 |l=>.ua (l.map some)
def UW (a:TV):Bool:=match a.t with
 | .ptr _=>a.m.bH
 |_=>false
def rJ (S:St) (f:FuncId):Option Nat→Option (List TV)
 |none=>some []
 |some i=>match S.at i with
  | .lE f' cq=>bif Nat.beq f' f then(match pz S cq with
   |some l=>bif l.all UW then some l else none
   |none=>none) else none
  |_=>none
def qV:Md→Bool
 | .k=>true | .o _ tag m=>(match tag with
  |none=>true
  |some _=>false)&&qV m
 | .p a b=>qV a&&qV b
def iw:Ty→Bool
 | .sl _=>false | .ptr _=>false | .pair a b=>iw a&&iw b | .arr _ t=>iw t |_=>true
def fK:Ty→Md→Bool
 | .sl t,.o _ _ m=>fK t m
 | .ptr t,.o _ _ m=>fK t m
 | .pair a b,.p m n=>fK a m&&fK b n
 |t,m=>m.bH&&iw t
def uk (S:St):Operand→Bool
 | .tmp i=>(match S.at i with
  | .v b []=>b.m.bH
  |_=>false)
 | .const _=>true
 |_=>false
def jg (S:St):List Operand→List (Option TV)→List Arg→Bool
 |[],_,_=>true
 |x::xs,p::ps,r::rs=>((match p with
  |some _=>true
  |none=>false)||(match r with
  | .tv b=>fK b.t b.m||uk S x
  | .fn _ cs=>cs.isEmpty))&&jg S xs ps rs
 |_,_,_=>false
def gN (h:Hint) (O:jf) (o:Oper) (f:FuncId) (cal:Option Nat) (args:List Operand) (ts:List TypeId) (S:St) (K:St→Option aa):Option aa:=
 match fZ h.tab S args ts (O.sig f) with
 |some (l,S1)=>match reads h.tab S1 args ts l,rJ S1 f cal with
  |some as,some cs=>O.run f (as++cs.map .tv) fun ret=>match ret.refs with
   |[]=>bif ret.res.all (fun d=>fK d.t d.m)||(cs.isEmpty&&jg S1 args l as) then K (S1.put o.dst (Hr ret.res)) else none
   |_::_=>none
  |_,_=>none
 |none=>none
def eV:Ty→Md→Bool
 | .sl _,.o _ _ m=>qV m
 | .ptr _,.o _ _ m=>qV m
 | .pair a b,.p m n=>eV a m&&eV b n
 |_,m=>m.bH
def rK:Ty→Md→Bool
 | .sl t,.o _ _ m=>fK t m
 | .ptr t,.o _ _ m=>fK t m
 | .pair a b,.p m n=>rK a m&&rK b n
 |_,m=>m.bH
def jh:Ty→Md→Nat→Md
 | .sl _,.o T _ m,n=>.o T (some n) m
 | .ptr _,.o T _ m,n=>.o T (some n) m
 | .pair a b,.p ma mb,n=>.p (jh a ma n) (jh b mb (n+a.size))
 |_,m,_=>m
def ft:(t:Ty)→Md→t.I→t.I→t.I
 | .sl _,.o ..,_,y=>y
 | .ptr _,.o ..,_,y=>y
 | .pair a b,.p ma mb,x,y=>(ft a ma x.1 y.1,ft b mb x.2 y.2)
 |_,_,x,_=>x
def uT:List Pass→Nat→Option Nat
 |[],_=>none
 | .kT::_,j=>some j
 |_::r,j=>uT r (j+1)
def j9 (x:Operand):AV→Option (Nat×Path)
 | .v _ _=>match x with
  | .tmp i=>some (i,[])
  |_=>none
 | .al _ s p=>some (s,p)
 |_=>none
def St.pA (S:St) (s:Nat) (b:TV):Path→Option St
 |[]=>some (S.put (some s) (.v b []))
 |p=>match S.at s with
  | .v r ex=>match gn b p r.t r.m r.x with
   |some (m,z)=>some (S.put (some s) (.v ⟨r.t,m,z⟩ ex.dropLast))
   |none=>none
  |_=>none
def rL (h:Hint) (O:jf) (o:Oper) (f:FuncId) (j:Nat) (args:List Operand) (ts:List TypeId) (S:St) (K:St→Option aa):Option aa:=
 match args[j]?,ts[j]? with
 |some x,some T=>match S.dR h.tab T x with
  |some av=>match j9 x av,S.dI x av with
   |some (s,p),some (b,S1)=>bif !b.m.bH&&eV b.t b.m then
     (match reads h.tab S1 args ts ((List.replicate args.length none).set j (some ⟨b.t,jh b.t b.m 0,b.x⟩)) with
     |some as=>bif rK b.t b.m||jg S1 args ((List.replicate args.length none).set j (some ⟨b.t,jh b.t b.m 0,b.x⟩)) as then O.run f as fun ret=>match ret.refs with
      |[c]=>bif ret.res.all (fun d=>fK d.t d.m&&qV d.m) then(if hc:c.t=b.t then(if c.m=jh b.t b.m 0 then
        (match S1.pA s ⟨b.t,b.m,ft b.t b.m b.x (hc▸c.x)⟩ p with
        |some S2=>K (S2.put o.dst (Hr ret.res))
        |none=>none) else none) else none) else none
      |_=>none else none
     |none=>none) else none
   |_,_=>none
  |none=>none
 |_,_=>none
noncomputable def both (a b:Option aa):Option aa:=open Classical in if a=b then a else none
theorem l6 (a:Option aa):both a a=a:=by simp[both]
theorem Yf {a b:Option aa} {r:aa} (h:both a b=some r):a=some r∧b=some r:=by
 unfold both at h
 split at h
 ·rename_i e;exact⟨h,by rw[←e];exact h⟩
 ·cases h
noncomputable def UX (h:Hint) (dst:Option Nat) (T:TypeId) (eq:Bool) (x:Operand) (S:St) (K:St→Option aa):Option aa:=match S.rd h.tab 0 x with
 |some ⟨.sl t,_,xs⟩=>bif h.tab.is T (.sl t) then(bif List.isEmpty xs then both (K (S.put dst (.v ⟨.bool,.k,true⟩ []))) (K (S.put dst (.v ⟨.bool,.k,false⟩ []))) else K (S.put dst (.v ⟨.bool,.k,!eq⟩ []))) else none
 |_=>none
def pB:Op→Bool
 | .binOp _ _ _ (.const (.slice none _ _)) _=>true
 |_=>false
noncomputable def gO (h:Hint) (O:jf) (o:Oper) (S:St) (K:St→Option aa):Option aa:=match o.op with
 | .call { callee:=.value (.func f),args:=as,argTypes:=ts }=>match uT (O.sig f) 0 with
  |some j=>rL h O o f j as.toList ts.toList S K
  |none=>gN h O o f none as.toList ts.toList S K
 | .call { callee:=.value (.tmp i),args:=as,argTypes:=ts }=>match S.at i with
  | .lE f _=>gN h O o f (some i) as.toList ts.toList S K
  |_=>none
 | .binOp .eql T x (.const (.slice none 0 0)) _=>UX h o.dst T true x S K
 | .binOp .neq T x (.const (.slice none 0 0)) _=>UX h o.dst T false x S K
 |_=>match ev h.tab h.hn S o with
  |some (g,S1)=>bif g then K S1 else none
  |none=>none
noncomputable def aS (h:Hint) (O:jf) (ops:Array Oper) (i:Nat) (S:St) (K:St→Option aa):Option aa:=match ops[i]? with
 |none=>none
 |some o=>match o.guard with
  |none=>gO h O o S K
  |some (j,want)=>match (ops[j]?).bind (·.dst) with
   |some d=>match S.at d with
    | .v ⟨.bool,m,q⟩ ex=>bif q then
      (bif want then gO h O o (S.set d (.v ⟨.bool,m,true⟩ ex)) K else K (St.put (S.set d (.v ⟨.bool,m,true⟩ ex)) o.dst .undef))
     else(bif want then K (St.put (S.set d (.v ⟨.bool,m,false⟩ ex)) o.dst .undef) else gO h O o (S.set d (.v ⟨.bool,m,false⟩ ex)) K)
    | .undef=>K (S.put o.dst .undef)
    |_=>none
   |none=>none
noncomputable def m9 (h:Hint) (O:jf) (ops:Array Oper):List Nat→St→(St→Option aa)→Option aa
 |[],S,K=>K S
 |i::r,S,K=>aS h O ops i S (fun S1=>m9 h O ops r S1 K)
def gX (S:St):Operand→Bool
 | .tmp i=>(match S.at i with
  | .v _ []=>true
  |_=>false)
 | .const _=>true
 |_=>false
def QW (S:St):Operand→Bool
 | .tmp i=>(match S.at i with
  | .v ⟨_,.k,_⟩ []=>true
  |_=>false)
 | .const _=>true
 |_=>false
def BZ (S:St):Option Operand→Bool
 |none=>true
 |some x=>gX S x
def aa4 (O:jf) (f:FuncId):Bool:=(O.sig f).all fun p=>match p with
 | .val=>true
 |_=>false
def aa5 (ops:Array Oper) (x:Nat):Option Nat:=ops.toList.findSome? fun o=>match o.dst,o.op with
 |some d,.fieldAddr _ (.tmp s) _=>bif Nat.beq d x then some s else none
 |_,_=>none
def jV (O:jf) (ops:Array Oper) (S:St) (o:Oper):Bool:=(match o.guard with
  |none=>true
  |some _=>false)&&(match o.dst with
  |some d=>!(S.at d).zM&&Nat.blt d S.length
  |none=>false)&&(match o.op with
  | .call { callee:=.value (.func f),args:=as,.. }=>aa4 O f&&as.toList.all (gX S)
  | .call { callee:=.builtin .append,args:=as,.. }=>as.toList.all (gX S)
  | .buildSlice _ _ ps=>ps.toList.all fun q=>gX S q.2
  | .load _ (.tmp x)=>(match aa5 ops x,S.at x with
   |some s,.ad _ s' p=>Nat.beq s' s&&(match S.cZ s p with
    |some a=>a.m.bH
    |none=>false)
   |none,.v ⟨.ptr _,.k,_⟩ []=>true
   |none,.v ⟨.ptr _,.o ..,_⟩ []=>(match S.cZ x [.deref] with
    |some a=>a.m.bH
    |none=>false)
   |_,_=>false)
  | .slice _ x lo hi none=>QW S x&&(BZ S lo&&BZ S hi)
  | .indexAddr _ x ix=>QW S x&&gX S ix
  |_=>false)
noncomputable def na (h:Hint) (O:jf) (ops:Array Oper):List Nat→St→(St→Option aa)→Option aa
 |[],S,K=>K S
 |i::r,S,K=>match ops[i]? with
  |some o=>bif jV O ops S o then aS h O ops i S (fun S1=>na h O ops r S1 K) else none
  |none=>none
def slotsOf:AV→List Nat
 | .al _ s _=>[s] | .ad _ s _=>[s] | .cut _ s _ _ _=>[s]
 | .lE _ cq=>cq.filterMap fun c=>match c with
  | .pl _ s _=>some s
  | .kv _=>none
 |_=>[]
def kD (Δ:Nat→Bool):St→Nat→Bool
 |[],_=>true
 |a::r,i=>((slotsOf a).all fun s=>Δ i==Δ s)&&kD Δ r (i+1)
def l7 (Δ:Nat→Bool):Operand→Bool
 | .tmp i=>Δ i
 | .const _=>true
 | .func _=>true
 | .global _=>false
def ah3 (Δ:Nat→Bool) (o:Oper):Bool:=match o.dst,o.op with
 |some d,.store ..=>false
 |some d,_=>Δ d
 |none,.store ..=>true
 |none,_=>false
def dP (Δ:Nat→Bool) (o:Oper):Bool:=(match o.guard with
  |none=>true
  |some _=>false)&&ah3 Δ o&&(match o.op with
 | .store _ x y=>l7 Δ x&&l7 Δ y
 | .makeSlice _ l c=>l7 Δ l&&l7 Δ c
 | .alloc _=>true
 | .buildSlice _ _ ps=>ps.toList.all fun q=>l7 Δ q.2
 | .load _ x=>l7 Δ x
 | .move x=>l7 Δ x
 | .extract x _=>l7 Δ x
 | .binOp _ _ x y _=>l7 Δ x&&(l7 Δ y&& !pB o.op)
 | .fieldAddr _ x _=>l7 Δ x
 | .indexAddr _ x ix=>l7 Δ x&&l7 Δ ix
 | .convert _ _ x=>l7 Δ x
 | .call { callee:=.builtin .append,args:=as,.. }=>as.toList.all (l7 Δ)
 | .call { callee:=.value (.func _),args:=as,.. }=>as.toList.all (l7 Δ)
 |_=>false)
def Yg (l:List Nat) (i:Nat):Bool:=l.any (Nat.beq i)
def QX (l:List Nat) (i:Nat):Bool:=!Yg l i
def lp (ds:List (List Nat)) (S:St):Bool:=ds.all fun d=>kD (Yg d) S 0
def DV (ds:List (List Nat)) (o:Oper):Bool:=ds.all fun d=>dP (Yg d) o||dP (QX d) o
def Yh (ds:List (List Nat)) (oi oj:Oper):Bool:=ds.any fun d=>(dP (Yg d) oi&&dP (QX d) oj)||(dP (QX d) oi&&dP (Yg d) oj)
def exB (oi oj:Oper):Bool:=match oi.guard,oj.guard,oi.dst,oj.dst,oi.op,oj.op with
 |none,none,some a,some b,.extract (.tmp x) p,.extract (.tmp y) q=>Nat.beq x y&&(!Nat.beq p q&&(!Nat.beq a b&&(!Nat.beq a x&& !Nat.beq b x)))
 |_,_,_,_,_,_=>false
def UY (S:St) (d:Nat):Option (Bool×St):=match S.at d with
 | .al _ s (st::pp)=>(match S.at s with
  | .v r ex=>(match aY (st::pp) r.t r.m r.x with
   |some b=>bif b.m.bH then none else some (ex.all (fun h=>!ph h (st::pp)),St.put (((S.weaken s).cover s (st::pp)).set s (.v r (ex++[st::pp]))) (some d) (.v b []))
   |none=>none)
  |_=>none)
 |_=>none
noncomputable def fu (h:Hint) (O:jf) (ops:Array Oper):OT→St→(St→Option aa)→Option aa
 | .done,S,K=>K S
 | .one i t,S,K=>aS h O ops i S (fun S1=>fu h O ops t S1 K)
 | .any l t,S,K=>na h O ops l S (fun S1=>fu h O ops t S1 K)
 | .own d t,S,K=>match UY S d with
  |some (g,S1)=>bif g then fu h O ops t S1 K else none
  |none=>none
 | .par l ds t,S,K=>bif lp ds S then m9 h O ops l S (fun S1=>fu h O ops t S1 K) else none
def quiet:Op→Bool
 | .move _=>true | .assign _=>true | .pick ..=>true | .build ..=>true | .load ..=>true | .nilCheck _=>true | .fieldAddr ..=>true | .field ..=>true | .indexAddr ..=>true | .index ..=>true
 | .extract ..=>true | .slice ..=>true | .convert ..=>true | .binOp ..=>true | .unOp ..=>true | .makeFunc ..=>true | .call { callee:=.builtin .len,.. }=>true |_=>false
def Dc (O:jf):Op→Bool
 | .alloc _=>true | .box ..=>true | .buildSlice ..=>true | .makeSlice ..=>true
 | .call { callee:=.value (.func f),.. }=>(O.sig f).all fun p=>match p with
  | .val=>true
  |_=>false
 |o=>quiet o
def still:Op→Bool
 | .extract ..=>true | .indexAddr ..=>true | .binOp ..=>true | .slice ..=>true | .move _=>true | .convert ..=>true | .fieldAddr ..=>true | .call { callee:=.builtin .len,.. }=>true |_=>false
def zQ (Θ:da) (o:Op):Bool:=still o&& !pB o&&(match o with
 | .convert _ T' _=>(match Θ.find T' with
  |some i=>(match i.ty with
   | .int _=>true
   |_=>false)
  |none=>false)
 |_=>true)
def ka (ops:Array Oper) (oi:Oper) (rest:Nat):List Oper→Nat→Bool
 |[],_=>true
 |oj::r,j=>(bif Nat.testBit rest j then oi.apart ops oj else true)&&ka ops oi rest r (j+1)
def a6 (o:Oper):Nat:=o.after.toList.foldr (fun e m=>bif Region.binds .any e then m|||2^e.on else m) 0
def aX (i:Nat):List Nat→Nat→Nat→Nat
 |[],_,acc=>acc
 |m::r,j,acc=>aX i r (j+1) (bif Nat.beq j i|| !(Nat.beq (m&&&acc) 0) then acc|||2^j else acc)
def w8 (O:jf) (ops:Array Oper) (oi:Oper) (rest:Nat):List Oper→Nat→Bool
 |[],_=>true
 |oj::r,j=>(bif Nat.testBit rest j then oi.apart ops oj&&Dc O oj.op else true)&&w8 O ops oi rest r (j+1)
def aa6 (Θ:da) (O:jf) (ops:Array Oper) (as:List Nat) (full L i:Nat):Bool:=match as[i]?,ops[i]? with
 |some m,some oi=>!Nat.testBit L i&&Nat.beq (m&&&L) m&&Nat.beq (aX i as 0 0&&&L) 0&&(Nat.beq (full^^^(aX i as 0 0|||L)) 0||(quiet oi.op&&(!pB oi.op&&w8 O ops oi (full^^^(aX i as 0 0|||L)) ops.toList 0))||(zQ Θ oi.op&&ka ops oi (full^^^(aX i as 0 0|||L)) ops.toList 0))
 |_,_=>false
def aM:Operand→List Nat
 | .tmp i=>[i]
 |_=>[]
def eW:Option Operand→List Nat
 |none=>[]
 |some x=>aM x
def aP (ops:Array Oper) (o:Oper):List Nat:=match o.op with
 | .call c=>c.args.toList.flatMap aM
 | .buildSlice _ _ ps=>ps.toList.flatMap fun q=>aM q.2
 | .load _ (.tmp x)=>(match aa5 ops x with
  |some s=>[x,s]
  |none=>[x])
 | .slice _ x lo hi _=>aM x++(eW lo++eW hi)
 | .indexAddr _ x ix=>aM x++aM ix
 |_=>[]
def jW (o:Oper):Bool:=match o.op with
 | .call { callee:=.value (.func _),.. }=>true
 | .load ..=>true
 | .slice ..=>true
 | .indexAddr ..=>true
 |_=>false
def Hs (ops:Array Oper) (oi oj:Oper):Bool:=(match oi.dst,oj.dst with
  |some a,some b=>!Nat.beq a b&& !(aP ops oj).any (Nat.beq a)&& !(aP ops oi).any (Nat.beq b)
  |_,_=>false)&&((jW oi&&jW oj)|| !(aP ops oi).any fun r=>(aP ops oj).any (Nat.beq r))
def DW (ops:Array Oper) (as:List Nat):List Nat→Bool
 |[]=>true
 |i::r=>(r.all fun j=>match as[j]?,ops[i]?,ops[j]? with
   |some m,some oi,some oj=>!Nat.beq i j&&(Nat.testBit m i||Hs ops oi oj)
   |_,_,_=>false)&&DW ops as r
def dX (l:List Nat):Nat:=l.foldr (fun i m=>m|||2^i) 0
def mm (as:List Nat):Nat→List Nat→Bool
 |_,[]=>true
 |L,i::r=>(match as[i]? with
  |some m=>Nat.beq (m&&&L) m
  |none=>false)&&mm as (L|||2^i) r
def ah4 (ops:Array Oper) (as:List Nat) (full L:Nat) (l:List Nat):Bool:=
 !l.isEmpty&&(l.all fun i=>Nat.blt i ops.size&& !Nat.testBit L i&&Nat.beq (aX i as 0 0&&&L) 0&&Nat.beq (full^^^(aX i as 0 0|||L|||dX l)) 0)&&DW ops as l&&mm as L l
def rM (ops:Array Oper) (as:List Nat) (ds:List (List Nat)):List Nat→Bool
 |[]=>true
 |i::r=>(r.all fun j=>match ops[i]?,ops[j]? with
   |some oi,some oj=>!Nat.beq i j&&(Nat.testBit (aX i as 0 0) j||(Yh ds oi oj||exB oi oj))
   |_,_=>false)&&rM ops as ds r
def aa7 (Θ:da) (ops:Array Oper) (as:List Nat) (full L i:Nat):Bool:=match ops[i]? with
 |some oi=>zQ Θ oi.op&&ka ops oi (full^^^(full&&&(aX i as 0 0|||L|||a6 oi))) ops.toList 0
 |none=>false
def ah5 (Θ:da) (ops:Array Oper) (as:List Nat) (full L:Nat) (l:List Nat) (ds:List (List Nat)):Bool:=
 !l.isEmpty&&(l.all fun i=>Nat.blt i ops.size&& !Nat.testBit L i&&Nat.beq (aX i as 0 0&&&L) 0&&(Nat.beq (full^^^(aX i as 0 0|||L|||dX l)) 0||aa7 Θ ops as full L i))&&rM ops as ds l&&mm as L l&&l.all fun i=>match ops[i]? with
  |some o=>DV ds o&& !pB o.op
  |none=>false
def fL (Θ:da) (O:jf) (ops:Array Oper) (as:List Nat) (full:Nat):Nat→OT→Bool
 |L,.done=>Nat.beq L full
 |L,.one i t=>aa6 Θ O ops as full L i&&fL Θ O ops as full (L|||2^i) t
 |L,.any l t=>ah4 ops as full L l&&fL Θ O ops as full (L|||dX l) t
 |L,.own _ t=>fL Θ O ops as full L t
 |L,.par l ds t=>ah5 Θ ops as full L l ds&&fL Θ O ops as full (L|||dX l) t
def OT.len:OT→Nat
 | .done=>0 | .one _ t=>t.len+1 | .any l t=>t.len+l.length | .par l _ t=>t.len+l.length | .own _ t=>t.len
def aqe (Θ:da) (O:jf) (ops:Array Oper) (l:OT):Bool:=Region.noSelect ops&&Nat.ble l.len ops.size&&fL Θ O ops (ops.toList.map a6) (2^ops.size - 1) 0 l
def B0 (S:St):St:=S.map fun a=>match a with
 | .al t s []=>.al t s []
 | .al ..=>.dead
 | .ad ..=>.dead
 | .cut ..=>.dead
 |a=>a
def aa8:List (Nat×OT)→Nat→Option OT
 |[],_=>none
 |q::r,k=>bif Nat.beq q.1 k then some q.2 else aa8 r k
def eX (h:Hint) (O:jf):Code→Bool
 | .region id ops true=>(match aa8 h.bp id with
  |some l=>aqe h.tab O ops l
  |none=>true)
 | .seq a b=>eX h O a&&eX h O b
 | .cond _ a b=>eX h O a&&eX h O b
 | .block _ c=>eX h O c
 | .loop c=>eX h O c
 |_=>true
def keyOf:Code→Nat
 | .region id _ _=>id
 | .seq a _=>keyOf a
 | .block _ c=>keyOf c
 | .loop c=>keyOf c
 |_=>0
def n0 (ops:Array Oper):Bool:=ops.toList.all fun o=>!pB o.op
def fX:Code→Bool
 | .region _ ops _=>n0 ops
 | .seq a b=>fX a&&fX b
 | .cond _ a b=>fX a&&fX b
 | .block _ c=>fX c
 | .loop c=>fX c
 |_=>true
abbrev Ks:=Ex→St→Option aa
def Hint.fM (h:Hint) (key:Nat) (K:Ks):Ks:=fun e S=>match aoL h.outs key e.num with
 |some ks=>(match tc ks S with
  |some S1=>K e S1
  |none=>none)
 |none=>none
noncomputable def pe (h:Hint) (O:jf) (L:Nat→St→Ks→Option aa):Code→St→Ks→Option aa
 | .skip,S,K=>K .n S
 | .region id ops false,S,K=>m9 h O ops (List.range ops.size) S (fun S1=>K .n (Ye h.frz id (B0 S1)))
 | .region id ops true,S,K=>match aa8 h.bp id with
  |some l=>fu h O ops l S (fun S1=>K .n (Ye h.frz id (B0 S1)))
  |none=>none
 | .seq a b,S,K=>pe h O L a S (fun e S1=>match e with
  | .n=>pe h O L b S1 K
  |e=>K e S1)
 | .cond c x y,S,K=>match S.rd h.tab 0 c with
  |some ⟨.bool,_,q⟩=>bif q then pe h O L x S K else pe h O L y S K
  |_=>none
 | .block id c,S,K=>pe h O L c S (fun e S1=>match e with
  | .x id'=>bif Nat.beq id' id then K .n S1 else K (.x id') S1
  |e=>K e S1)
 | .loop c,S,K=>match h.clean (keyOf c) S with
  |some S1=>L (keyOf c) S1 (h.fM (keyOf c) K)
  |none=>none
 | .exit id,S,K=>K (.x id) S
 | .ret,S,K=>K .r S
 |_,_,_=>none
def ub (Lf:Nat→Nat→St→Ks→Option aa) (N n awx:Nat):Nat→St→Ks→Option aa:=fun key S K=>bif Nat.beq key awx then Lf n key S K else Lf N key S K
noncomputable def kE (h:Hint) (O:jf) (L:Nat→St→Ks→Option aa) (c:Code) (S:St) (K:Ks):Option aa:=
 pe h O L c S (fun e S1=>match e with
  | .n=>(match h.clean (keyOf c) S1 with
   |some S2=>L (keyOf c) S2 K
   |none=>none)
  |e=>K e S1)
def nN (Θ:da) (S:St):List ResultVar→Option (List TV×St)
 |[]=>some ([],S)
 | .tmp t::r=>match S.dI (.tmp t) (S.at t) with
  |some (a,S1)=>match nN Θ S1 r with
   |some (l,S2)=>some (a::l,S2)
   |none=>none
  |none=>none
 | .cell t T::r=>match S.at t with
  | .v ⟨.ptr ty,.o _ _ me,x⟩ []=>match nN Θ (S.put (some t) .dead) r with
   |some (l,S2)=>bif Θ.is T ty then some (⟨ty,me,x⟩::l,S2) else none
   |none=>none
  |_=>none
def aoM:Arg→AV
 | .tv a=>.v a []
 | .fn f cq=>.lE f (cq.map .kv)
def start (fn:Func) (args:List Arg):St:=args.map aoM++List.replicate (fn.ntmps - args.length) .undef
def DX:Bool→TV→Option TV
 |false,b=>some b
 |true,⟨.ptr t,.o _ _ me,x⟩=>some ⟨t,me,x⟩
 |true,_=>none
noncomputable def kd (h:Hint) (O:jf) (L:Nat→St→Ks→Option aa) (fn:Func) (args:List Arg) (K:aa→Option aa):Option aa:=
 match fn.body with
 |some c=>pe h O L c (start fn args) (fun e S=>match e with
  | .x _=>none
  |_=>match nN h.tab S fn.results.toList with
   |some (l,S1)=>(match h.w7 with
    |none=>K ⟨l,[]⟩
    |some q=>match S1.at q.1 with
     | .v b []=>(match DX q.2 b with
      |some c=>K ⟨l,[c]⟩
      |none=>none)
     |_=>none)
   |none=>none)
 |none=>none
end Go.Pv
namespace Go.Pv
set_option linter.unusedVariables false
set_option linter.unusedSimpArgs false
def cJ {σ:Type} (X:(σ→Option aa)→Option aa):Prop:=∃ o:Option σ,∀ K,X K=o.bind K
theorem cJ.none {σ:Type}:cJ (σ:=σ) fun _=>none:=⟨.none,fun _=>rfl⟩
theorem cJ.pure {σ:Type} (s:σ):cJ fun K=>K s:=⟨some s,fun _=>rfl⟩
theorem cJ.bind {σ τ:Type} {X:(σ→Option aa)→Option aa} {Y:σ→(τ→Option aa)→Option aa} (h:cJ X) (hy:∀ s,cJ (Y s)):cJ fun K=>X fun s=>Y s K:=by
 obtain⟨o,ho⟩:=h
 cases o with
 |none=>exact⟨.none,fun K=>ho _⟩
 |some s=>
  obtain⟨o',G1⟩:=hy s
  exact⟨o',fun K=>(ho _).trans (G1 K)⟩
theorem cJ.bif {σ:Type} {X Y:(σ→Option aa)→Option aa} (c:Bool) (hx:cJ X) (hy:cJ Y):cJ fun K=>bif c then X K else Y K:=by cases c<;>assumption
def n5 (O:jf):Prop:=∀ f as,cJ (O.run f as)
def dE (X:Ks→Option aa):Prop:=∃ o:Option (Ex×St),∀ K,X K=o.bind fun q=>K q.1 q.2
theorem dE.none:dE fun _=>none:=⟨.none,fun _=>rfl⟩
theorem dE.pure (e:Ex) (S:St):dE fun K=>K e S:=⟨some (e,S),fun _=>rfl⟩
theorem dE.bind {X:Ks→Option aa} {Y:Ex→St→Ks→Option aa} (h:dE X) (hy:∀ e S,dE (Y e S)):dE fun K=>X fun e S=>Y e S K:=by
 obtain⟨o,ho⟩:=h
 cases o with
 |none=>exact⟨.none,fun K=>ho _⟩
 |some s=>
  obtain⟨o',G1⟩:=hy s.1 s.2
  exact⟨o',fun K=>(ho _).trans (G1 K)⟩
theorem dE.of {X:(St→Option aa)→Option aa} {Y:St→Ks→Option aa} (h:cJ X) (hy:∀ S,dE (Y S)):dE fun K=>X fun S=>Y S K:=by
 obtain⟨o,ho⟩:=h
 cases o with
 |none=>exact⟨.none,fun K=>ho _⟩
 |some s=>
  obtain⟨o',G1⟩:=hy s
  exact⟨o',fun K=>(ho _).trans (G1 K)⟩
theorem dE.to {X:Ks→Option aa} {Y:Ex→St→(aa→Option aa)→Option aa} (h:dE X) (hy:∀ e S,cJ (Y e S)):cJ fun K=>X fun e S=>Y e S K:=by
 obtain⟨o,ho⟩:=h
 cases o with
 |none=>exact⟨.none,fun K=>ho _⟩
 |some s=>
  obtain⟨o',G1⟩:=hy s.1 s.2
  exact⟨o',fun K=>(ho _).trans (G1 K)⟩
variable {h:Hint} {O:jf} {ops:Array Oper}
theorem DY (hO:n5 O) (o:Oper) (f:FuncId) (cal:Option Nat) (as:List Operand) (ts:List TypeId) (S:St):cJ (gN h O o f cal as ts S):=by
 unfold gN
 split
 ·split
  ·refine(hO f _).bind fun ret=>?_
   split
   ·exact cJ.bif _ (cJ.pure _) cJ.none
   ·exact cJ.none
  ·exact cJ.none
 ·exact cJ.none
theorem QY (hO:n5 O) (o:Oper) (f:FuncId) (j:Nat) (as:List Operand) (ts:List TypeId) (S:St):cJ (rL h O o f j as ts S):=by
 unfold rL
 split
 ·split
  ·split
   ·refine cJ.bif _ ?_ cJ.none
    split
    ·refine cJ.bif _ ?_ cJ.none
     refine(hO f _).bind fun ret=>?_
     split
     ·refine cJ.bif _ ?_ cJ.none
      split
      ·split
       ·split
        ·exact cJ.pure _
        ·exact cJ.none
       ·exact cJ.none
      ·exact cJ.none
     ·exact cJ.none
    ·exact cJ.none
   ·exact cJ.none
  ·exact cJ.none
 ·exact cJ.none
theorem DZ (hO:n5 O) (o:Oper) (hn:pB o.op=false) (S:St):cJ (gO h O o S):=by
 unfold gO
 split
 ·split
  ·exact QY hO ..
  ·exact DY hO ..
 ·split
  ·exact DY hO ..
  ·exact cJ.none
 ·rename_i ho;rw[ho] at hn;cases hn
 ·rename_i ho;rw[ho] at hn;cases hn
 ·split
  ·exact cJ.bif _ (cJ.pure _) cJ.none
  ·exact cJ.none
theorem iD (hO:n5 O) (i:Nat) (hn:∀ o,ops[i]?=some o→pB o.op=false) (S:St):cJ (aS h O ops i S):=by
 unfold aS
 split
 ·exact cJ.none
 ·rename_i o ho
  have hn:=hn o ho
  split
  ·exact DZ hO _ hn _
  ·split
   ·split
    ·exact cJ.bif _ (cJ.bif _ (DZ hO _ hn _) (cJ.pure _)) (cJ.bif _ (cJ.pure _) (DZ hO _ hn _))
    ·exact cJ.pure _
    ·exact cJ.none
   ·exact cJ.none
theorem D0 (hp:n0 ops=true) (i:Nat) (o:Oper) (ho:ops[i]?=some o):pB o.op=false:=by
 unfold n0 at hp
 have:=List.all_eq_true.1 hp o (by rw[←Array.getElem?_toList] at ho;exact List.mem_of_getElem? ho)
 simpa using this
theorem zR (hO:n5 O) (hp:n0 ops=true):∀ (l:List Nat) (S:St),cJ (m9 h O ops l S)
 |[],S=>cJ.pure S
 |i::r,S=>(iD hO i (D0 hp i) S).bind fun S1=>zR hO hp r S1
theorem Ht (hO:n5 O) (hp:n0 ops=true):∀ (l:List Nat) (S:St),cJ (na h O ops l S)
 |[],S=>cJ.pure S
 |i::r,S=>by
  simp only[show na h O ops (i::r) S=fun K=>na h O ops (i::r) S K from rfl,na]
  split
  ·exact cJ.bif _ ((iD hO i (D0 hp i) S).bind fun S1=>Ht hO hp r S1) cJ.none
  ·exact cJ.none
theorem mn (hO:n5 O) (hp:n0 ops=true):∀ (t:OT) (S:St),cJ (fu h O ops t S)
 | .done,S=>cJ.pure S
 | .one i t,S=>(iD hO i (D0 hp i) S).bind fun S1=>mn hO hp t S1
 | .any l t,S=>(Ht hO hp l S).bind fun S1=>mn hO hp t S1
 | .own d t,S=>by
  show cJ fun K=>fu h O ops (.own d t) S K
  simp only[fu]
  cases UY S d with
  |none=>exact cJ.none
  |some q=>exact cJ.bif _ (mn hO hp t q.2) cJ.none
 | .par l ds t,S=>cJ.bif _ ((zR hO hp l S).bind fun S1=>mn hO hp t S1) cJ.none
def Yi (h:Hint) (L:Nat→St→Ks→Option aa) (key:Nat):Prop:=∀ (ks:List Kd) (x:rr ks),nZ h.loops key=some ks→dE fun K=>L key (shape ks x) (h.fM key K)
def eJ:Code→List Nat
 | .seq a b=>eJ a++eJ b
 | .cond _ a b=>eJ a++eJ b
 | .block _ c=>eJ c
 | .loop c=>keyOf c::eJ c
 |_=>[]
theorem w9 {S S1:St} {key:Nat} (e:h.clean key S=some S1):∃ ks x,nZ h.loops key=some ks∧S1=shape ks x:=by
 unfold Hint.clean at e
 split at e
 case h_2=>cases e
 rename_i ks zJ
 unfold tc at e
 cases hk:gE ks ks with
 |false=>rw[hk] at e;cases e
 |true=>
  rw[hk] at e
  simp only[cond_true] at e
  split at e
  case h_2=>cases e
  rename_i x hx
  injection e with e
  exact⟨ks,x,zJ,e.symm⟩
theorem uU (hO:n5 O) {L:Nat→St→Ks→Option aa}:∀ (c:Code) (S:St),fX c=true→(∀ k∈eJ c,Yi h L k)→dE (pe h O L c S)
 | .skip,S,_,_=>dE.pure _ _
 | .region id ops false,S,hp,_=>dE.of (zR hO hp _ S) fun S1=>dE.pure _ _
 | .region id ops true,S,hp,_=>by
  show dE fun K=>pe h O L (.region id ops true) S K
  simp only[pe]
  split
  ·exact dE.of (mn hO hp _ S) fun S1=>dE.pure _ _
  ·exact dE.none
 | .seq a b,S,hp,hL=>by
  simp only[fX,Bool.and_eq_true] at hp
  show dE fun K=>pe h O L (.seq a b) S K
  simp only[pe]
  refine dE.bind (uU hO a S hp.1 fun k hk=>hL k (by simp[eJ,hk])) fun e S1=>?_
  cases e with
  |n=>exact uU hO b S1 hp.2 fun k hk=>hL k (by simp[eJ,hk])
  |x id=>exact dE.pure _ _
  |r=>exact dE.pure _ _
 | .cond c x y,S,hp,hL=>by
  simp only[fX,Bool.and_eq_true] at hp
  show dE fun K=>pe h O L (.cond c x y) S K
  simp only[pe]
  split
  ·rename_i q _
   cases q with
   |true=>exact uU hO x S hp.1 fun k hk=>hL k (by simp[eJ,hk])
   |false=>exact uU hO y S hp.2 fun k hk=>hL k (by simp[eJ,hk])
  ·exact dE.none
 | .block id c,S,hp,hL=>by
  simp only[fX] at hp
  show dE fun K=>pe h O L (.block id c) S K
  simp only[pe]
  refine dE.bind (uU hO c S hp fun k hk=>hL k (by simpa[eJ] using hk)) fun e S1=>?_
  cases e with
  |n=>exact dE.pure _ _
  |x id'=>
   cases h:Nat.beq id' id with
   |true=>exact⟨some (.n,S1),fun K=>by simp[h]⟩
   |false=>exact⟨some (.x id',S1),fun K=>by simp[h]⟩
  |r=>exact dE.pure _ _
 | .loop c,S,_,hL=>by
  show dE fun K=>pe h O L (.loop c) S K
  simp only[pe]
  split
  ·rename_i S1 hS1
   obtain⟨ks,x,hk,rfl⟩:=w9 hS1
   exact hL (keyOf c) (by simp[eJ]) ks x hk
  ·exact dE.none
 | .exit id,S,_,_=>dE.pure _ _
 | .ret,S,_,_=>dE.pure _ _
 | .rangeFunc ..,S,_,_=>dE.none
 | .scope _,S,_,_=>dE.none
 | .label _,S,_,_=>dE.none
 | .goto _,S,_,_=>dE.none
 | .refuse _,S,_,_=>dE.none
theorem Hu (h:Hint) (key:Nat) (e:Ex) (S:St):dE fun K=>h.fM key K e S:=by
 unfold Hint.fM
 split
 ·split
  ·exact dE.pure _ _
  ·exact dE.none
 ·exact dE.none
theorem D1 (fn:Func) (S:St):cJ fun(K:aa→Option aa)=>(match nN h.tab S fn.results.toList with
   |some (l,S1)=>(match h.w7 with
    |none=>K ⟨l,[]⟩
    |some q=>match S1.at q.1 with
     | .v b []=>(match DX q.2 b with
      |some c=>K ⟨l,[c]⟩
      |none=>none)
     |_=>none)
   |none=>none):=by
 split
 ·split
  ·exact cJ.pure _
  ·split
   ·split
    ·exact cJ.pure _
    ·exact cJ.none
   ·exact cJ.none
 ·exact cJ.none
theorem QZ (hO:n5 O) {L:Nat→St→Ks→Option aa} {fn:Func} {body:Code} (hb:fn.body=some body) (hp:fX body=true) (hL:∀ k∈eJ body,Yi h L k) (args:List Arg):cJ (kd h O L fn args):=by
 unfold kd
 rw[hb]
 simp only
 refine dE.to (uU hO body _ hp hL) fun e S=>?_
 cases e with
 |n=>exact D1 fn S
 |x id=>exact cJ.none
 |r=>exact D1 fn S
end Go.Pv
namespace Go.Pv
set_option linter.unusedVariables false
set_option linter.unusedSimpArgs false
def isAgg:Ty→Bool
 | .pair _ _=>true | .unit=>true | .arr _ _=>true |_=>false
def an (t:Ty) (v:Value) (cs:List Value):Prop:=if isAgg t=true then v=.agg cs.toArray else cs=[v]
section
variable (w:World) (Av:Nat→Prop) (H:Nat→Value) (tm:Nat→Value) (S:St)
structure Ref (t:Ty) (s:Nat) (p:Path) (r:TV) (cL:List Value):Prop where
 at_:∃ ex,S.at s=.v r ex∧open_ p ex
 val:valid p r.t r.x
 get:∃ b,aY p r.t r.m r.x=some b∧b.t=t
 mat:an r.t (tm s) cL
def mo:ID→Value→Prop
 | .kv a,u=>K w Av a.t a.x [u]
 | .pl t s p,u=>∃ r cL cs,Ref tm S (.ptr t) s p r cL∧aN w p r.t cL=some cs∧an (.ptr t) u cs
def Holds (own:Nat→Prop):AV→Value→Prop
 | .dead,_=>True
 | .undef,v=>v=undef
 | .v a ex,v=>∃ cs,an a.t v cs∧M w Av H a.t a.m a.x cs own ex
 | .ua l,v=>∃ (vs:List Value) (τ:Nat→Nat),v=.tuple vs.toArray∧vs.length=l.length∧
   ∀ (j:Nat) (a:TV),l[j]?=some (some a)→∃ u cs,vs[j]?=some u∧an a.t u cs∧M w Av H a.t a.m a.x cs (fun g=>own g∧τ g=j) []
 | .al t s p,v=>∃ r cL cs,Ref tm S t s p r cL∧aN w p r.t cL=some cs∧an t v cs
 | .ad t s p,v=>∃ r cL g off,Ref tm S t s p r cL∧addrAt w p r.t cL none=some (g,off)∧v=.pointer (some ⟨g,off,none⟩)
 | .cut t s p lo hi,v=>∃ r cL t' A n c,Ref tm S t s p r cL∧t=.sl t'∧aN w p r.t cL=some [.slice A n c]∧lo≤hi∧hi≤n∧
   v=.slice (if c=lo then A else A.map (·.add (lo*t'.size))) (hi - lo) (c - lo)
 | .lE f cq,v=>∃ vs:List Value,v=.func (.func f) #[] vs.toArray∧vs.length=cq.length∧∀ (j:Nat) (c:ID),cq[j]?=some c→∃ u,vs[j]?=some u∧mo w Av tm S c u
end
structure Fr (w0:World) (W0:Nat→Prop) (w:World):Prop where
 os:w.os=w0.os
 tape:w.tape=w0.tape
 output:w.output=w0.output
 size:w0.heap.size≤w.heap.size
 block:∀ g,g<w0.heap.size→¬W0 g→w.heap[g]?=w0.heap[g]?
def Av (σ:Nat→Option Nat) (Z:Nat→Prop) (g:Nat):Prop:=(∃ i,σ g=some i)∨Z g
def bR (a:Act) (i:Nat):Value:=a.tmps.getD i undef
structure aW (σ:Nat→Option Nat) (w0:World) (W0 Z:Nat→Prop) (H:Nat→Value) (S:St) (a:Act) (w:World):Prop where
 len:S.length=a.tmps.size
 defers:a.defers=[]
 fr:Fr w0 W0 w
 new:∀ g i,σ g=some i→w0.heap.size≤g∨W0 g
 lt:∀ g i,σ g=some i→g<w.heap.size
 old:∀ g,Z g→σ g=none∧g<w0.heap.size
 holds:∀ i,Holds w (Av σ Z) H (bR a) S (fun g=>σ g=some i) (S.at i) (bR a i)
def Rel (w0:World) (W0 Z:Nat→Prop) (H:Nat→Value) (S:St) (a:Act) (w:World):Prop:=∃ σ,aW σ w0 W0 Z H S a w
theorem eK {w w':World} {Wr qT:Nat→Prop} {H:Nat→Value} (bO:aO w w' Wr qT):∀ (p:Path) {t:Ty} {m:Md} {x:t.I} {cs:List Value} {ow:Nat→Prop} {hs:List Path} (l:Option (Nat×Nat)),
  M w Wr H t m x cs ow hs→(∀ g,ow g→g<w.heap.size→w'.heap[g]?=w.heap[g]?)→open_ p hs→valid p t x→aN w' p t cs=aN w p t cs∧addrAt w' p t cs l=addrAt w p t cs l
 |[],_,_,_,_,_,_,_,_,_,_,_=>⟨rfl,rfl⟩
 | .deref::p,.ptr t,m,x,cs,ow,hs,l,h,hb,ho,hv=>by
  simp only[valid] at hv
  simp only[M] at h
  rcases h with⟨hn,_⟩ |⟨hk,h⟩ |⟨T,tag,me,g,cur,rfl,rfl,ht,qU,hw,h⟩
  ·exact absurd hn ho.not_nil
  ·simp only[K] at h
   obtain⟨g,off,cur,T,fr,rfl,hng,hw,hl,h⟩:=h
   have G2:=(bO.same g hng (a8 hw)).trans hw
   have ih:=eK bO p (H:=H) (some (g,off)) (fW (ow:=fun _=>False) (hs:=sub .deref hs) t h) (fun _ h=>h.elim) ho.sub hv
   simp only[aN,addrAt,bq hw hl,bq G2 hl,Option.bind_some]
   exact ih
  ·have G2:=(hb g qU (a8 hw)).trans hw
   have iX:0+t.size≤cur.size:=by rw[←(eH t h).1];simp
   have gM:(cur.toList.drop 0).take t.size=cur.toList:=by rw[List.drop_zero,List.take_of_length_le (by rw[(eH t h).1];exact Nat.le_refl _)]
   have ih:=eK bO p (some (g,0)) h (fun g hg=>hb g hg.1) ho.sub hv
   simp only[aN,addrAt,bq hw iX,bq G2 iX,Option.bind_some,gM]
   exact ih
 | .fst::p,.pair a b',m,x,cs,ow,hs,l,h,hb,ho,hv=>by
  simp only[valid] at hv
  simp only[M] at h
  simp only[aN,addrAt]
  rcases h with⟨hn,_⟩ |⟨hk,h⟩ |⟨ma,mb,c0,c1,s,rfl,rfl,h0,h1⟩
  ·exact absurd hn ho.not_nil
  ·simp only[K] at h
   obtain⟨c0,c1,rfl,h0,h1⟩:=h
   rw[←(lh a h0).1,List.take_left]
   exact eK bO p (H:=H) l (fW (ow:=fun _=>False) (hs:=sub .fst hs) a h0) (fun _ h=>h.elim) ho.sub hv
  ·rw[←(eH a h0).1,List.take_left]
   exact eK bO p l h0 (fun g hg=>hb g hg.1) ho.sub hv
 | .snd::p,.pair a b',m,x,cs,ow,hs,l,h,hb,ho,hv=>by
  simp only[valid] at hv
  simp only[M] at h
  simp only[aN,addrAt]
  rcases h with⟨hn,_⟩ |⟨hk,h⟩ |⟨ma,mb,c0,c1,s,rfl,rfl,h0,h1⟩
  ·exact absurd hn ho.not_nil
  ·simp only[K] at h
   obtain⟨c0,c1,rfl,h0,h1⟩:=h
   rw[←(lh a h0).1,List.drop_left]
   exact eK bO p (H:=H) _ (fW (ow:=fun _=>False) (hs:=sub .snd hs) b' h1) (fun _ h=>h.elim) ho.sub hv
  ·rw[←(eH a h0).1,List.drop_left]
   exact eK bO p _ h1 (fun g hg=>hb g hg.1) ho.sub hv
 | .idx i::p,.sl t,m,xs,cs,ow,hs,l,h,hb,ho,hv=>by
  simp only[valid] at hv
  obtain⟨hi,hv⟩:=hv
  have eS:List.getD xs i t.z=xs[i]:=by simp[List.getD_eq_getElem?_getD,List.getElem?_eq_getElem hi]
  simp only[M] at h
  rcases h with⟨hn,_⟩ |⟨hk,h⟩ |⟨T,tag,me,A,c,rfl,rfl,hc,ht,h⟩
  ·exact absurd hn ho.not_nil
  ·simp only[K] at h
   obtain⟨A,c,rfl,hc,h⟩:=h
   obtain⟨g,off,cur,T,fr,rfl,hng,hw,hl,h⟩:=h (by omega)
   have G2:=(bO.same g hng (a8 hw)).trans hw
   have hbound:off+i*t.size+t.size≤cur.size:=by
    have:=Nat.mul_le_mul_right t.size (show i+1≤xs.length from hi)
    rw[Nat.add_mul,Nat.one_mul] at this
    omega
   have hK:=h i hi
   rw[←eS] at hK
   have ih:=eK bO p (H:=H) (some (g,off+i*t.size)) (fW (ow:=fun _=>False) (hs:=sub (.idx i) hs) t hK) (fun _ h=>h.elim) ho.sub hv
   simp only[aN,addrAt,bq hw hbound,bq G2 hbound,Option.bind_some]
   exact ih
  ·rcases h with⟨rfl,_⟩ |⟨g,cur,τ,rfl,qU,hw,iX,hm,h⟩
   ·simp at hi
   ·have G2:=(hb g qU (a8 hw)).trans hw
    have hbound:i*t.size+t.size≤cur.size:=by
     have h1:=Nat.mul_le_mul_right t.size (show i+1≤xs.length from hi)
     have h2:=Nat.mul_le_mul_right t.size hc
     rw[Nat.add_mul,Nat.one_mul] at h1
     omega
    have hM:=h i hi
    rw[←eS] at hM
    have ih:=eK bO p (some (g,i*t.size)) hM (fun g hg=>hb g hg.1) ho.sub hv
    simp only[aN,addrAt,Nat.zero_add,bq hw hbound,bq G2 hbound,Option.bind_some]
    exact ih
variable {w w':World} {A A':Nat→Prop} {H:Nat→Value} {tm rC:Nat→Value} {S S':St}
structure Kept (w w':World) (A:Nat→Prop) (H:Nat→Value) (tm rC:Nat→Value) (S S':St) (s:Nat):Prop where
 at_:∀ r ex,S.at s=.v r ex→S'.at s=.v r ex
 tm_:rC s=tm s
 hold:∃ own,Holds w A H tm S own (S.at s) (tm s)∧∀ g,own g→g<w.heap.size→w'.heap[g]?=w.heap[g]?
theorem eL {t:Ty} {v:Value} {cs cI:List Value} (h:an t v cs) (h':an t v cI):cs=cI:=by
 unfold an at*
 split at h
 ·rename_i ha
  rw[if_pos ha] at h'
  rw[h] at h'
  injection h' with h'
  simpa using h'
 ·rename_i ha
  rw[if_neg ha] at h'
  rw[h,h']
theorem Ref.kept {t:Ty} {s:Nat} {p:Path} {r:TV} {cL:List Value} (bO:aO w w' A A') (hk:Kept w w' A H tm rC S S' s) (h:Ref tm S t s p r cL):
  Ref rC S' t s p r cL∧∀ l,aN w' p r.t cL=aN w p r.t cL∧addrAt w' p r.t cL l=addrAt w p r.t cL l:=by
 obtain⟨⟨ex,h1,h2⟩,h3,h4,h5⟩:=h
 refine⟨⟨⟨ex,hk.at_ _ _ h1,h2⟩,h3,h4,by rw[hk.tm_];exact h5⟩,fun l=>?_⟩
 obtain⟨own,hh,hb⟩:=hk.hold
 rw[h1] at hh
 obtain⟨cs,hm,hM⟩:=hh
 obtain rfl:=eL h5 hm
 exact eK bO p l hM hb h2 h3
theorem mo.kept {c:ID} {u:Value} (bO:aO w w' A A') (hk:∀ t s p,c=.pl t s p→Kept w w' A H tm rC S S' s) (h:mo w A tm S c u):mo w' A' rC S' c u:=by
 cases c with
 |kv a=>exact bP bO _ h
 |pl t s p=>
  obtain⟨r,cL,cs,hr,hc,hm⟩:=h
  obtain⟨h1,h2⟩:=hr.kept bO (hk t s p rfl)
  exact⟨r,cL,cs,h1,by rw[(h2 none).1];exact hc,hm⟩
theorem Holds.kept {own IG:Nat→Prop} {a:AV} {v:Value} (bO:aO w w' A A') (ho:∀ g,own g→g<w.heap.size→w'.heap[g]?=w.heap[g]? ∧IG g)
  (hk:∀ s,a.refs s=true→Kept w w' A H tm rC S S' s) (h:Holds w A H tm S own a v):Holds w' A' H rC S' IG a v:=by
 cases a with
 |dead=>trivial
 |undef=>exact h
 |v a ex=>
  obtain⟨cs,h1,h2⟩:=h
  exact⟨cs,h1,aH bO _ (fun g hg hl=>(ho g hg hl).1) (fun g hg hl=>(ho g hg hl).2) (fun _ h=>h) h2⟩
 |ua l=>
  obtain⟨vs,τ,h1,h2,h3⟩:=h
  refine⟨vs,τ,h1,h2,fun j a hj=>?_⟩
  obtain⟨u,cs,k1,k2,k3⟩:=h3 j a hj
  exact⟨u,cs,k1,k2,aH bO _ (fun g hg hl=>(ho g hg.1 hl).1) (fun g hg hl=>⟨(ho g hg.1 hl).2,hg.2⟩) (fun _ h=>h) k3⟩
 |al t s p=>
  obtain⟨r,cL,cs,hr,hc,hm⟩:=h
  obtain⟨h1,h2⟩:=hr.kept bO (hk s (by simp[AV.refs]))
  exact⟨r,cL,cs,h1,by rw[(h2 none).1];exact hc,hm⟩
 |ad t s p=>
  obtain⟨r,cL,g,off,hr,hc,hm⟩:=h
  obtain⟨h1,h2⟩:=hr.kept bO (hk s (by simp[AV.refs]))
  exact⟨r,cL,g,off,h1,by rw[(h2 none).2];exact hc,hm⟩
 |cut t s p lo hi=>
  obtain⟨r,cL,t',A1,n,c,hr,ht,hc,hm⟩:=h
  obtain⟨h1,h2⟩:=hr.kept bO (hk s (by simp[AV.refs]))
  exact⟨r,cL,t',A1,n,c,h1,ht,by rw[(h2 none).1];exact hc,hm⟩
 |lE f cq=>
  obtain⟨vs,h1,h2,h3⟩:=h
  refine⟨vs,h1,h2,fun j c hj=>?_⟩
  obtain⟨u,k1,k2⟩:=h3 j c hj
  refine⟨u,k1,k2.kept bO (fun t s p e=>hk s ?_)⟩
  subst e
  simp only[AV.refs,List.any_eq_true]
  exact⟨_,List.mem_of_getElem? hj,by simp⟩
theorem cN (S:St) (d:Nat) (a:AV) (i:Nat):St.at (S.set d a) i=if i=d∧d<S.length then a else S.at i:=by
 unfold St.at
 rw[List.getD_eq_getElem?_getD,List.getD_eq_getElem?_getD,List.getElem?_set]
 by_cases h:d=i
 ·subst h
  by_cases hl:d<S.length
  ·simp[hl]
  ·simp[hl]
 ·have h': ¬i=d:=fun e=>h e.symm
  simp[h,h']
theorem D2 (S:St) (f:AV→AV) (hf:f .dead=.dead) (i:Nat):St.at (S.map f) i=f (S.at i):=by
 unfold St.at
 rw[List.getD_eq_getElem?_getD,List.getD_eq_getElem?_getD,List.getElem?_map]
 cases S[i]? with
 |none=>simp[hf]
 |some a=>rfl
theorem ah6 (S:St) (d i:Nat):(S.kill d).at i=bif (S.at i).refs d then .dead else S.at i:=D2 S _ (by simp[AV.refs]) i
theorem ke (S:St) (d i:Nat):(S.weaken d).at i=bif (S.at i).eU d then .dead else S.at i:=D2 S _ (by simp[AV.eU]) i
theorem aa9 (S:St) (d:Nat):(S.kill d).length=S.length:=by simp[St.kill]
theorem dL (S:St) (d:Nat) (a:AV) (i:Nat):(S.put (some d) a).at i=if i=d∧d<S.length then(bif a.refs d then .dead else a) else bif (S.at i).refs d&&(S.at d).zM then .dead else S.at i:=by
 simp only[St.put]
 cases (S.at d).zM
 ·simp only[cond_false,cN,Bool.and_false]
 ·simp only[cond_true,cN,aa9,ah6,Bool.and_true]
theorem bV (S:St) (dst:Option Nat) (a:AV):(S.put dst a).length=S.length:=by
 cases dst with
 |none=>rfl
 |some d=>simp only[St.put];cases (S.at d).zM<;>simp[St.kill]
theorem aqf {own:Nat→Prop} {w:World} {A:Nat→Prop} {H:Nat→Value} {tm:Nat→Value} {S:St} {av:AV} {v:Value} {d:Nat} (h:Holds w A H tm S own av v) (hr:av.refs d=true):(S.at d).zM=true:=by
 cases av with
 |dead=>cases hr
 |undef=>cases hr
 |v a ex=>cases hr
 |ua l=>cases hr
 |al t s p=>
  obtain rfl:s=d:=Nat.eq_of_beq_eq_true hr
  obtain⟨r,cL,cs,h1,_⟩:=h
  obtain⟨ex,h2,_⟩:=h1.at_
  rw[h2];rfl
 |ad t s p=>
  obtain rfl:s=d:=Nat.eq_of_beq_eq_true hr
  obtain⟨r,cL,g,off,h1,_⟩:=h
  obtain⟨ex,h2,_⟩:=h1.at_
  rw[h2];rfl
 |cut t s p lo hi=>
  obtain rfl:s=d:=Nat.eq_of_beq_eq_true hr
  obtain⟨r,cL,t',A,n,c,h1,_⟩:=h
  obtain⟨ex,h2,_⟩:=h1.at_
  rw[h2];rfl
 |lE f cq=>
  simp only[AV.refs,List.any_eq_true] at hr
  obtain⟨c,hc,hr⟩:=hr
  obtain⟨vs,_,_,h3⟩:=h
  obtain⟨j,hj⟩:=List.mem_iff_getElem?.1 hc
  obtain⟨u,_,h4⟩:=h3 j c hj
  cases c with
  |kv a=>cases hr
  |pl t s p=>
   obtain rfl:s=d:=Nat.eq_of_beq_eq_true hr
   obtain⟨r,cL,cs,h1,_⟩:=h4
   obtain⟨ex,h2,_⟩:=h1.at_
   rw[h2];rfl
theorem zS (a:Act) (d:Nat) (v:Value) (i:Nat):bR (a.put (some d) v) i=if i=d∧d<a.tmps.size then v else bR a i:=by
 unfold bR Act.put
 simp only[Array.getD_eq_getD_getElem?,Array.getElem?_setIfInBounds]
 by_cases h:d=i
 ·subst h
  by_cases hl:d<a.tmps.size
  ·simp[hl]
  ·simp[hl]
 ·have h': ¬i=d:=fun e=>h e.symm
  simp[h,h']
theorem aa' (a:Act) (dst:Option Nat) (v:Value):(a.put dst v).tmps.size=a.tmps.size:=by
 cases dst<;>simp[Act.put]
theorem put_defers (a:Act) (dst:Option Nat) (v:Value):(a.put dst v).defers=a.defers:=by cases dst<;>rfl
theorem aW.put {σ dq:Nat→Option Nat} {w0:World} {W0 Z:Nat→Prop} {a:Act} {dst:Option Nat} {av:AV} {v:Value} (h:aW σ w0 W0 Z H S a w)
  (bO:aO w w' (Av σ Z) (Av dq Z)) (qW:Fr w0 W0 w') (Yj:∀ g i,dq g=some i→(w0.heap.size≤g∨W0 g)∧g<w'.heap.size) (hold:∀ g,Z g→dq g=none)
  (ln:∀ i g,i<S.length→dst≠some i→σ g=some i→w'.heap[g]?=w.heap[g]? ∧dq g=some i)
  (m5:∀ d,dst=some d→d<S.length→av.refs d=false→Holds w' (Av dq Z) H (bR (a.put dst v)) (S.put dst av) (fun g=>dq g=some d) av v):
  aW dq w0 W0 Z H (S.put dst av) (a.put dst v) w':=by
 have qX:∀ i,¬i<S.length→S.at i=.dead:=fun i hl=>by
  unfold St.at
  rw[List.getD_eq_getElem?_getD,List.getElem?_eq_none (by omega)]
  rfl
 refine⟨by rw[bV,aa'];exact h.len,by rw[put_defers];exact h.defers,qW,fun g i hg=>(Yj g i hg).1,fun g i hg=>(Yj g i hg).2,fun g hg=>⟨hold g hg,(h.old g hg).2⟩,fun i=>?_⟩
 by_cases Hv:i<S.length
 rotate_left
 ·have:(S.put dst av).at i=.dead:=by
   unfold St.at
   rw[List.getD_eq_getElem?_getD,List.getElem?_eq_none (by rw[bV];omega)]
   rfl
  rw[this]
  trivial
 cases dst with
 |none=>
  have hk:∀ s,Kept w w' (Av σ Z) H (bR a) (bR a) S S s:=fun s=>by
   by_cases hs:s<S.length
   ·exact⟨fun _ _ h=>h,rfl,_,h.holds s,fun g hg _=>(ln s g hs (by simp) hg).1⟩
   ·exact⟨fun _ _ h=>h,rfl,fun _=>False,by rw[qX s hs];trivial,fun _ h=>h.elim⟩
  exact(h.holds i).kept bO (fun g hg _=>ln i g Hv (by simp) hg) (fun s _=>hk s)
 |some d=>
  by_cases hi:i=d∧d<S.length
  ·obtain⟨rfl,hl⟩:=hi
   rw[dL,if_pos ⟨rfl,hl⟩,zS,if_pos ⟨rfl,by rw[←h.len];exact hl⟩]
   cases hr:av.refs i with
   |true=>simp[Holds]
   |false=>exact m5 i rfl hl hr
  ·have Hw: ¬(i=d∧d<a.tmps.size):=by rw[←h.len];exact hi
   rw[dL,if_neg hi,zS,if_neg Hw]
   cases hr:(S.at i).refs d with
   |true=>rw[aqf (h.holds i) hr];simp[Holds]
   |false=>
    simp only[Bool.false_and,cond_false]
    by_cases hd:i=d
    ·subst hd
     rw[qX i (fun hl=>hi ⟨rfl,hl⟩)]
     trivial
    ·refine(h.holds i).kept bO (fun g hg _=>ln i g Hv (by simpa using fun e=>hd e.symm) hg) (fun s hs=>?_)
     have zT:s≠d:=fun e=>by subst e;rw[hr] at hs;cases hs
     refine⟨?_,?_,?_⟩
     ·intro r ex hv
      rw[dL,if_neg (fun e=>zT e.1),hv]
      rfl
     ·rw[zS,if_neg (fun e=>zT e.1)]
     ·by_cases hs:s<S.length
      ·exact⟨_,h.holds s,fun g hg _=>(ln s g hs (by simpa using fun e=>zT e.symm) hg).1⟩
      ·exact⟨fun _=>False,by rw[qX s hs];trivial,fun _ h=>h.elim⟩
def release (σ:Nat→Option Nat) (dst:Option Nat) (g:Nat):Option Nat:=if dst.isSome=true∧σ g=dst then none else σ g
theorem fv {σ:Nat→Option Nat} {dst:Option Nat} {g i:Nat} (h:release σ dst g=some i):σ g=some i∧dst≠some i:=by
 unfold release at h
 split at h
 ·cases h
 ·rename_i hn
  refine⟨h,fun e=>hn ⟨by rw[e];rfl,by rw[h,e]⟩⟩
theorem lG {σ:Nat→Option Nat} {dst:Option Nat} {g i:Nat} (hd:dst≠some i) (h:σ g=some i):release σ dst g=some i:=by
 unfold release
 rw[if_neg (fun e=>hd (by rw[←e.2,h])),h]
theorem uV {σ:Nat→Option Nat} {dst:Option Nat} {Z:Nat→Prop} {g:Nat} (h:Av (release σ dst) Z g):Av σ Z g:=by
 rcases h with⟨i,h⟩ |h
 ·exact .inl ⟨i,(fv h).1⟩
 ·exact .inr h
theorem aW.pure {σ:Nat→Option Nat} {w0:World} {W0 Z:Nat→Prop} {a:Act} {dst:Option Nat} {av:AV} {v:Value} (h:aW σ w0 W0 Z H S a w)
  (hv:Holds w (Av σ Z) H (bR a) S (fun _=>False) av v):aW (release σ dst) w0 W0 Z H (S.put dst av) (a.put dst v) w:=by
 have bO:aO w w (Av σ Z) (Av (release σ dst) Z):=⟨fun _ _ _=>rfl,fun g _ hg=>uV hg⟩
 refine h.put bO h.fr (fun g i hg=>⟨h.new g i (fv hg).1,h.lt g i (fv hg).1⟩) (fun g hg=>by unfold release;split<;>first |rfl |exact(h.old g hg).1) (fun i g _ hd hg=>⟨rfl,lG hd hg⟩) (fun d hd hl hr=>?_)
 subst hd
 refine hv.kept bO (fun _ h _=>h.elim) (fun s hs=>?_)
 have zT:s≠d:=fun e=>by subst e;rw[hr] at hs;cases hs
 refine⟨fun r ex hv=>?_,by rw[zS,if_neg (fun e=>zT e.1)],_,h.holds s,fun _ _ _=>rfl⟩
 rw[dL,if_neg (fun e=>zT e.1),hv]
 rfl
def aoN (σ:Nat→Option Nat) (x:Operand) (g:Nat):Prop:=∃ i,x=.tmp i∧σ g=some i
theorem bu {σ:Nat→Option Nat} {w0:World} {W0 Z:Nat→Prop} {a:Act} {Θ:da} {T:TypeId} {x:Operand} {av:AV} (h:aW σ w0 W0 Z H S a w) (he:S.dR Θ T x=some av):
  Holds w (Av σ Z) H (bR a) S (aoN σ x) av (a.eval x):=by
 cases x with
 |tmp i=>
  simp only[St.dR,Option.some.injEq] at he
  subst he
  refine(h.holds i).kept (aO.refl _ _) (fun g hg _=>⟨rfl,i,rfl,hg⟩) (fun s _=>⟨fun _ _ h=>h,rfl,_,h.holds s,fun _ _ _=>rfl⟩)
 |const c=>
  simp only[St.dR] at he
  split at he
  ·rename_i b hb
   injection he with he
   subst he
   unfold m6 at hb
   split at hb
   ·injection hb with hb;subst hb
    exact⟨[a.eval (.const _)],by simp only[an,isAgg];rfl,by simp[M,K,Act.eval,Md.bH]⟩
   ·injection hb with hb;subst hb
    exact⟨[a.eval (.const _)],by simp only[an,isAgg];rfl,by simp[M,K,Act.eval,Md.bH]⟩
   ·injection hb with hb;subst hb
    exact⟨[a.eval (.const _)],by simp only[an,isAgg];rfl,by simp[M,K,Act.eval,Md.bH]⟩
   ·split at hb
    ·rename_i i hi
     split at hb
     ·rename_i t ht
      injection hb with hb
      subst hb
      refine⟨[.slice none 0 0],by simp[an,isAgg,Act.eval],?_⟩
      simp only[M]
      exact .inr (.inr ⟨_,_,_,none,0,rfl,rfl,Nat.le_refl _,fun h hh=>(by cases hh),.inl (by simp)⟩)
     ·cases hb
    ·cases hb
   ·cases hb
  ·cases he
 |func f=>
  simp only[St.dR,Option.some.injEq] at he
  subst he
  exact⟨[],by simp[Act.eval],rfl,fun j c hj=>by simp at hj⟩
 |global g=>simp[St.dR] at he
theorem Q0 {own:Nat→Prop} {t:Ty} {m:Md} {x:t.I} {cs:List Value} (h:M w A H t m x cs own []):K w (fun _=>False) t x cs:=M_K (fun _ _ h=>h.elim) t rfl (fun _ _ h=>h) h
theorem IH {t:Ty} {v:Value} {cs:List Value} (h:an t v cs) (h1:∀ u∈cs,u.oneCell'=true):v.cells.toList=cs:=by
 unfold an at h
 split at h
 ·subst h;rfl
 ·subst h
  have:=h1 v (by simp)
  cases v<;>first |rfl |(simp[Value.oneCell'] at this)
theorem n6:∀ (q r:Path),gp q (q++r)=true
 |[],_=>by simp[gp]
 | .idx i::q,r=>by simp[gp];exact n6 q r
 | .deref::q,r=>by simp[gp];exact n6 q r
 | .fst::q,r=>by simp[gp];exact n6 q r
 | .snd::q,r=>by simp[gp];exact n6 q r
theorem n7:∀ (q r:Path),gp (q++r) q=true
 |[],[]=>by simp[gp]
 |[],_::_=>by simp[gp]
 | .idx i::q,r=>by simp[gp];exact n7 q r
 | .deref::q,r=>by simp[gp];exact n7 q r
 | .fst::q,r=>by simp[gp];exact n7 q r
 | .snd::q,r=>by simp[gp];exact n7 q r
theorem um {p:Path} {ex:List Path} (h:∀ q∈ex,gp q p=false):open_ p ex:=fun q hq s r e=>by
 have:=h q hq
 rw[e,n6] at this
 cases this
theorem uo {p:Path} {ex:List Path} (h:∀ q∈ex,gp q p=false):w5 p ex=[]:=by
 cases hs:w5 p ex with
 |nil=>rfl
 |cons q r=>
  have:q∈w5 p ex:=by rw[hs];simp
  have:=h _ (DS.1 this)
  rw[n7] at this
  cases this
end Go.Pv
