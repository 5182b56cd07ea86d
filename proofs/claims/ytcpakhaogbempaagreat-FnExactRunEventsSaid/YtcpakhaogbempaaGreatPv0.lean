/- A verified evaluator of the program's form over pure values, part 0: what it tells of a function holds. -/
import Derived.Calls
import Derived.KernelRfl
import Derived.Laws.AppendOwn
import Derived.Laws.Sem
import Derived.Orders
namespace Go.Pv
set_option linter.unusedVariables false
set_option linter.unusedSimpArgs false
inductive Ty where
 |int (k:IntKind) |bool |str |sl (t:Ty) |ptr (t:Ty) |pair (a b:Ty) |unit |arr (n:Nat) (t:Ty)
 deriving DecidableEq,Inhabited
@[reducible] def Ty.I:Ty→Type
 | .int _=>Int | .bool=>Bool | .str=>ByteArray | .sl t=>List t.I | .ptr t=>t.I | .pair a b=>a.I×b.I | .unit=>Unit | .arr _ t=>List t.I
def Ty.size:Ty→Nat
 | .pair a b=>a.size+b.size | .unit=>0 | .arr n t=>n*t.size |_=>1
def Ty.z:(t:Ty)→t.I
 | .int _=>(0:Int) | .bool=>false | .str=>ByteArray.empty | .sl _=>[] | .ptr t=>t.z | .pair a b=>(a.z,b.z) | .unit=>() | .arr n t=>List.replicate n t.z
inductive Md where
 |k |o (T:TypeId) (tag:Option Nat) (m:Md) |p (a b:Md)
 deriving DecidableEq,Inhabited
def Md.bP:Md→Bool
 | .k=>true | .o ..=>false | .p a b=>a.bP&&b.bP
inductive Step where
 |deref |fst |snd |idx (i:Nat)
 deriving DecidableEq,Inhabited
abbrev Path:=List Step
def sub (s:Step) (hs:List Path):List Path:=hs.filterMap fun p=>match p with
 |s'::r=>if s'=s then some r else none
 |[]=>none
section
variable (w:World) (Wr:Nat→Prop)
def K:(t:Ty)→t.I→List Value→Prop
 | .int k,n,cs=>cs=[.int k n]
 | .bool,b,cs=>cs=[.bool b]
 | .str,s,cs=>cs=[.string s]
 | .unit,_,cs=>cs=[]
 | .pair a b,x,cs=>∃ c0 c1,cs=c0++c1∧K a x.1 c0∧K b x.2 c1
 | .arr n t,xs,cs=>∃ eK:List (List Value),cs=eK.flatten∧eK.length=n∧xs.length=n∧∀ j (h:j<xs.length) (h':j<eK.length),K t xs[j] eK[j]
 | .sl t,xs,cs=>∃ A c,cs=[.slice A xs.length c]∧xs.length≤c∧(0<xs.length→∃ g off cur T fr,A=some ⟨g,off,none⟩∧ ¬Wr g∧w.heap[g]?=some (.cells cur T fr)∧off+xs.length*t.size≤cur.size∧∀ j (h:j<xs.length),K t xs[j] ((cur.toList.drop (off+j*t.size)).take t.size))
 | .ptr t,x,cs=>∃ g off cur T fr,cs=[.pointer (some ⟨g,off,none⟩)]∧ ¬Wr g∧w.heap[g]?=some (.cells cur T fr)∧off+t.size≤cur.size∧K t x ((cur.toList.drop off).take t.size)
def M (H:Nat→Value):(t:Ty)→(m:Md)→t.I→List Value→(Nat→Prop)→List Path→Prop
 | .sl t,m,xs,cs,ow,hs=>([]∈hs∧m.bP=false∧∃ A c,cs=[.slice A xs.length c])∨(m.bP=true∧K w Wr (.sl t) xs cs)∨
   ∃ T tag me A c,m=.o T tag me∧cs=[.slice A xs.length c]∧xs.length≤c∧(∀ h,tag=some h→H h=.slice A xs.length c)∧
    ((xs=[]∧c=0)∨∃ g cur,∃ τ:Nat→Nat,A=some ⟨g,0,none⟩∧ow g∧w.heap[g]?=some (.cells cur T (0,0))∧cur.size=c*t.size∧c≤maxLen∧
     ∀ j (h:j<xs.length),M H t me xs[j] ((cur.toList.drop (j*t.size)).take t.size) (fun g'=>ow g'∧g'≠g∧τ g'=j) (sub (.idx j) hs))
 | .ptr t,m,x,cs,ow,hs=>([]∈hs∧m.bP=false∧cs.length=1∧∀ u∈cs,u.oneCell'=true)∨(m.bP=true∧K w Wr (.ptr t) x cs)∨
   ∃ T tag me g cur,m=.o T tag me∧cs=[.pointer (some ⟨g,0,none⟩)]∧(∀ h,tag=some h→H h=.pointer (some ⟨g,0,none⟩))∧ow g∧w.heap[g]?=some (.cells cur T (0,0))∧
    M H t me x cur.toList (fun g'=>ow g'∧g'≠g) (sub .deref hs)
 | .pair a b,m,x,cs,ow,hs=>([]∈hs∧m.bP=false∧cs.length=a.size+b.size∧∀ u∈cs,u.oneCell'=true)∨(m.bP=true∧K w Wr (.pair a b) x cs)∨
   ∃ ma mb c0 c1,∃ s:Nat→Prop,m=.p ma mb∧cs=c0++c1∧M H a ma x.1 c0 (fun g'=>ow g'∧s g') (sub .fst hs)∧M H b mb x.2 c1 (fun g'=>ow g'∧ ¬s g') (sub .snd hs)
 | .int k,m,x,cs,_,_=>m.bP=true∧K w Wr (.int k) x cs
 | .bool,m,x,cs,_,_=>m.bP=true∧K w Wr .bool x cs
 | .str,m,x,cs,_,_=>m.bP=true∧K w Wr .str x cs
 | .unit,m,x,cs,_,_=>m.bP=true∧K w Wr .unit x cs
 | .arr n t,m,x,cs,_,_=>m.bP=true∧K w Wr (.arr n t) x cs
end
end Go.Pv
namespace Go.Pv
set_option linter.unusedVariables false
set_option linter.unusedSimpArgs false
structure TV where
 t:Ty
 m:Md
 x:t.I
inductive IF where
 |pl (t:Ty) (s:Nat) (p:Path)
 |kv (a:TV)
inductive AV where
 |dead
 |undef
 |v (a:TV) (ex:List Path)
 |tz (l:List (Option TV))
 |al (t:Ty) (s:Nat) (p:Path)
 |ad (t:Ty) (s:Nat) (p:Path)
 |cut (t:Ty) (s:Nat) (p:Path) (lo hi:Nat)
 |ld (f:FuncId) (cy:List IF)
abbrev St:=List AV
structure TI where
 T:TypeId
 ty:Ty
 e:TypeId
 fs:List TypeId
abbrev de:=List TI
def de.find (Θ:de) (T:TypeId):Option TI:=match Θ with
 |[]=>none
 |i::r=>bif Nat.beq i.T T then some i else de.find r T
def Md.Hq:Md→Md
 | .o _ _ m=>m |_=>.k
def Md.l:Md→Md
 | .p a _=>a |m=>m
def Md.r:Md→Md
 | .p _ b=>b |m=>m
def mkM (a b:Md):Md:=bif a.bP&&b.bP then .k else .p a b
def bd:Path→(t:Ty)→Md→t.I→Option TV
 |[],t,m,x=>some ⟨t,m,x⟩
 | .deref::p,.ptr t,m,x=>bd p t m.Hq x
 | .fst::p,.pair a _,m,x=>bd p a m.l x.1
 | .snd::p,.pair _ b,m,x=>bd p b m.r x.2
 | .idx i::p,.sl t,m,xs=>bd p t m.Hq (xs.getD i t.z)
 |_::_,_,_,_=>none
def fX (b:TV):Path→(t:Ty)→Md→t.I→Option (Md×t.I)
 |[],t,_,_=>if h:b.t=t then some (b.m,h▸b.x) else none
 | .deref::p,.ptr t,.o T tag me,x=>match fX b p t me x with
  |some r=>some (.o T tag r.1,r.2)
  |none=>none
 | .fst::p,.pair t u,m,x=>match fX b p t m.l x.1 with
  |some r=>some (mkM r.1 m.r,(r.2,x.2))
  |none=>none
 | .snd::p,.pair t u,m,x=>match fX b p u m.r x.2 with
  |some r=>some (mkM m.l r.1,(x.1,r.2))
  |none=>none
 | .idx i::p,.sl t,.o T tag me,xs=>match fX b p t me (xs.getD i t.z) with
  |some r=>if r.1=me then some (.o T tag me,xs.set i r.2) else none
  |none=>none
 |_::_,_,_,_=>none
def fY:Path→Path→Bool
 |[],_=>true
 |_,[]=>true
 | .idx _::p,.idx _::q=>fY p q
 |s::p,s'::q=>if s=s' then fY p q else false
def under:Path→Path→Bool
 |[],[]=>false
 |[],_::_=>true
 |_::_,[]=>false
 | .idx _::p,.idx _::q=>under p q
 |s::p,s'::q=>if s=s' then under p q else false
def pre:Path→Path→Bool
 |[],_=>true
 | .deref::p,.deref::q=>pre p q
 | .fst::p,.fst::q=>pre p q
 | .snd::p,.snd::q=>pre p q
 |_,_=>false
def oI:Path→Path→Bool
 |[],_=>true
 |_,[]=>true
 | .idx i::p,.idx j::q=>oI p q&&Nat.beq i j
 |s::p,s'::q=>if s=s' then oI p q else false
def fI:Path→Path→Bool
 |[],[]=>true
 | .idx _::p,.idx _::q=>fI p q
 | .deref::p,.deref::q=>fI p q
 | .fst::p,.fst::q=>fI p q
 | .snd::p,.snd::q=>fI p q
 |_,_=>false
def Ck:Path→Path→Bool
 | .idx i::p,.idx j::q=>Ck p q&&Nat.beq i j
 |_::p,_::q=>Ck p q
 |_,_=>true
def dC (p:Path):List Path→Bool×List Path
 |[]=>(true,[])
 |h::r=>bif fI p h then(Ck p h,r) else((dC p r).1,h::(dC p r).2)
def depth:Path→Nat
 |[]=>0 | .deref::p=>depth p+1 | .idx _::p=>depth p+1 |_::p=>depth p
def AV.refs (d:Nat):AV→Bool
 | .al _ s _=>Nat.beq s d | .ad _ s _=>Nat.beq s d | .cut _ s _ _ _=>Nat.beq s d
 | .ld _ cy=>cy.any fun c=>match c with
  | .pl _ s _=>Nat.beq s d
  | .kv _=>false
 |_=>false
def AV.eL (d:Nat):AV→Bool
 | .al _ s p=>Nat.beq s d&&match p with
  |[]=>false
  |_=>true
 | .ad _ s p=>Nat.beq s d&&Nat.ble 2 (depth p)
 | .cut _ s _ _ _=>Nat.beq s d
 | .ld _ cy=>cy.any fun c=>match c with
  | .pl _ s (_::_)=>Nat.beq s d
  |_=>false
 |_=>false
def St.at (S:St) (i:Nat):AV:=S.getD i .dead
def St.kill (S:St) (d:Nat):St:=S.map fun a=>bif a.refs d then .dead else a
def St.weaken (S:St) (d:Nat):St:=S.map fun a=>bif a.eL d then .dead else a
def St.cover (S:St) (d:Nat) (p:Path):St:=S.map fun a=>match a with
 | .ad t s q=>bif Nat.beq s d&&under p q then .dead else .ad t s q
 |a=>a
def AV.z8:AV→Bool
 | .v ..=>true |_=>false
def St.put (S:St) (dst:Option Nat) (a:AV):St:=match dst with
 |none=>S
 |some d=>(bif (S.at d).z8 then S.kill d else S).set d (bif a.refs d then .dead else a)
def RG (a:TV):TV:=⟨a.t,.k,a.x⟩
def mK (Θ:de) (T:TypeId):Value→Option TV
 | .int k n=>some ⟨.int k,.k,n⟩
 | .bool b=>some ⟨.bool,.k,b⟩
 | .string s=>some ⟨.str,.k,s⟩
 | .slice none 0 0=>match Θ.find T with
  |some i=>match i.ty with
   | .sl t=>some ⟨.sl t,.o i.e none .k,[]⟩
   |_=>none
  |none=>none
 |_=>none
def St.place (S:St) (s:Nat) (p:Path):Option TV:=match S.at s with
 | .v a ex=>bif ex.all (fun h=>!fY h p) then bd p a.t a.m a.x else none
 |_=>none
def St.c9 (S:St) (s:Nat) (p:Path):Option TV:=match S.at s with
 | .v a ex=>bif ex.all (fun h=>!under h p) then bd p a.t a.m a.x else none
 |_=>none
def St.dP (Θ:de) (S:St) (T:TypeId):Operand→Option AV
 | .tmp i=>some (S.at i)
 | .const c=>match mK Θ T c with
  |some a=>some (.v a [])
  |none=>none
 | .func f=>some (.ld f [])
 | .global _=>none
def St.sy (S:St):AV→Option TV
 | .v a []=>some a
 | .al _ s p=>S.place s p
 | .cut _ s p lo hi=>match S.place s p with
  |some ⟨.sl t,m,xs⟩=>some ⟨.sl t,m,(xs.take hi).drop lo⟩
  |_=>none
 |_=>none
def St.rd (Θ:de) (S:St) (T:TypeId) (x:Operand):Option TV:=match S.dP Θ T x with
 |some a=>S.sy a
 |none=>none
def St.kY (Θ:de) (S:St) (x:Operand):Option Int:=match S.rd Θ 0 x with
 |some ⟨.int _,_,n⟩=>some n
 |_=>none
def St.dD (S:St) (x:Operand):AV→Option (TV×St)
 | .v a ex=>bif a.m.bP then some (a,S) else match ex,x with
  |[],.tmp i=>some (a,S.put (some i) .dead)
  |[],_=>some (a,S)
  |_,_=>none
 | .al _ s p=>match S.place s p with
  |some a=>bif a.m.bP then some (a,S) else match p,S.at s with
   |[],_=>some (a,S.put (some s) .dead)
   |_,.v r ex=>some (a,((S.weaken s).cover s p).set s (.v r (ex++[p])))
   |_,_=>none
  |none=>none
 | .cut _ s [] lo hi=>match S.place s [] with
  |some ⟨.sl t,.o T _ me,xs⟩=>bif Nat.beq lo 0 then some (⟨.sl t,.o T none me,xs.take hi⟩,S.put (some s) .dead) else none
  |_=>none
 |_=>none
def St.take (Θ:de) (S:St) (T:TypeId) (x:Operand):Option (TV×St):=match S.dP Θ T x with
 |some a=>S.dD x a
 |none=>none
def St.copy (S:St) (x:Operand):AV→Option AV
 | .v a ex=>bif a.m.bP then some (.v a []) else match x with
  | .tmp i=>some (.al a.t i [])
  |_=>match ex with
   |[]=>some (.v a [])
   |_=>none
 | .tz _=>none
 | .dead=>none
 |a=>some a
def mL (i n:Nat):Path:=bif Nat.beq (i+1) n then(bif Nat.beq n 1 then [.fst] else List.replicate i .snd) else List.replicate i .snd++[.fst]
def zgo (f:TypeId→Md):List TypeId→Md
 |[]=>.k
 |[a]=>f a
 |a::r=>mkM (f a) (zgo f r)
def MG (Θ:de):Nat→TypeId→Md
 |0,_=>.k
 |n+1,T=>match Θ.find T with
  |none=>.k
  |some i=>match i.ty with
   | .sl _=>.o i.e none (MG Θ n i.e)
   | .pair _ _=>zgo (MG Θ n) i.fs
   |_=>.k
def ko:Ty→Bool
 | .ptr _=>false | .arr _ _=>false | .pair a b=>ko a&&ko b |_=>true
def ug:Ty→Md→Bool
 | .pair a b,.p ma mb=>(ug a ma&&ug b mb)||(ma.bP&&mb.bP&&ko a&&ko b)
 | .sl _,.o _ none _=>true
 |t,m=>m.bP&&ko t
inductive Tgt where
 |k (a:TV)
 |pl (t:Ty) (s:Nat) (p:Path)
def Tgt.ty:Tgt→Ty
 | .k a=>a.t
 | .pl t _ _=>t
def St.Hr (S:St) (x:Operand):AV→Option Tgt
 | .v ⟨.ptr t,m,y⟩ []=>match m,x with
  | .k,_=>some (.k ⟨t,.k,y⟩)
  | .o ..,.tmp i=>some (.pl t i [.deref])
  |_,_=>none
 | .v ⟨.ptr t,.o ..,_⟩ _=>match x with
  | .tmp i=>some (.pl t i [.deref])
  |_=>none
 | .al (.ptr t) s p=>match S.c9 s p with
  |some ⟨.ptr t',.k,y⟩=>some (.k ⟨t',.k,y⟩)
  |some ⟨.ptr _,.o ..,_⟩=>some (.pl t s (p++[.deref]))
  |_=>none
 | .ad t s p=>some (.pl t s p)
 |_=>none
def St.loadAt (S:St):Tgt→Option AV
 | .k a=>some (.v (RG a) [])
 | .pl t s p=>match S.c9 s p with
  |some a=>bif a.m.bP then(match S.place s p with
   |some a=>some (.v (RG a) [])
   |none=>none) else some (.al t s p)
  |none=>none
def bt (s:ByteArray) (i:Int):Int:=if h:i.toNat<s.size then((s[i.toNat]'h).toNat:Int) else 0
def aj9 (op:BinOp) (k:IntKind) (x y:Int):Option (Bool×TV):=match op with
 | .add=>some (true,⟨.int k,.k,k.wrap (x+y)⟩)
 | .sub=>some (true,⟨.int k,.k,k.wrap (x - y)⟩)
 | .mul=>some (true,⟨.int k,.k,k.wrap (x*y)⟩)
 | .quo=>some (!decide (y=0),⟨.int k,.k,k.wrap (x.tdiv y)⟩)
 | .rem=>some (!decide (y=0),⟨.int k,.k,x.tmod y⟩)
 | .and=>some (true,⟨.int k,.k,k.wrap (BitVec.ofInt k.bits x&&&BitVec.ofInt k.bits y).toNat⟩)
 | .or=>some (true,⟨.int k,.k,k.wrap (BitVec.ofInt k.bits x|||BitVec.ofInt k.bits y).toNat⟩)
 | .xor=>some (true,⟨.int k,.k,k.wrap (BitVec.ofInt k.bits x^^^BitVec.ofInt k.bits y).toNat⟩)
 | .eql=>some (true,⟨.bool,.k,x==y⟩)
 | .neq=>some (true,⟨.bool,.k,x != y⟩)
 | .lss=>some (true,⟨.bool,.k,decide (x<y)⟩)
 | .leq=>some (true,⟨.bool,.k,decide (x≤y)⟩)
 | .gtr=>some (true,⟨.bool,.k,decide (x>y)⟩)
 | .geq=>some (true,⟨.bool,.k,decide (x≥y)⟩)
 | .shl=>some (decide (0≤y),⟨.int k,.k,k.wrap (x*2^(min y.toNat k.bits))⟩)
 | .shr=>some (decide (0≤y),⟨.int k,.k,x.fdiv (2^(min y.toNat k.bits))⟩)
 |_=>none
def aj' (op:BinOp) (x y:ByteArray):Option (Bool×TV):=match op with
 | .add=>some (decide (x.size+y.size≤9223372036854775807),⟨.str,.k,x++y⟩)
 | .eql=>some (true,⟨.bool,.k,x.toList==y.toList⟩)
 | .neq=>some (true,⟨.bool,.k,!(x.toList==y.toList)⟩)
 |_=>none
def ME:(t:Ty)→t.I→t.I→Option Bool
 | .int _,x,y=>some (decide ((x:Int)=y))
 | .bool,x,y=>some ((x:Bool)==y)
 | .str,x,y=>some ((x:ByteArray)==y)
 | .pair a b,x,y=>match ME a x.1 y.1,ME b x.2 y.2 with
  |some p,some q=>some (p&&q)
  |_,_=>none
 | .unit,_,_=>some true
 |_,_,_=>none
def gz (op:BinOp) (a b:TV):Option (Bool×TV):=match a,b with
 |⟨.int k,_,x⟩,⟨.int k',_,y⟩=>if k=k'∨op=.shl∨op=.shr then aj9 op k x y else none
 |⟨.str,_,x⟩,⟨.str,_,y⟩=>aj' op x y
 |⟨.bool,_,x⟩,⟨.bool,_,y⟩=>match op with
  | .eql=>some (true,⟨.bool,.k,x==y⟩)
  | .neq=>some (true,⟨.bool,.k,!(x==y)⟩)
  |_=>none
 |⟨.pair t u,_,x⟩,⟨t',_,y⟩=>if h:t'=.pair t u then match op,ME (.pair t u) x (h▸y) with
   | .eql,some r=>some (true,⟨.bool,.k,r⟩)
   | .neq,some r=>some (true,⟨.bool,.k,!r⟩)
   |_,_=>none
  else none
 |_,_=>none
def aka (op:UnOp) (a:TV):Option TV:=match op,a with
 | .not,⟨.bool,_,x⟩=>some ⟨.bool,.k,!x⟩
 | .neg,⟨.int k,_,x⟩=>some ⟨.int k,.k,k.wrap (0 - x)⟩
 | .xor,⟨.int k,_,x⟩=>some ⟨.int k,.k,k.wrap (BitVec.ofInt k.bits (if k.signed then -1 else k.max)^^^BitVec.ofInt k.bits x).toNat⟩
 |_,_=>none
def G1:List TV→TV
 |[]=>⟨.unit,.k,()⟩
 |[a]=>a
 |a::r=>⟨.pair a.t (G1 r).t,mkM a.m (G1 r).m,(a.x,(G1 r).x)⟩
def dE (l:List TV):TV:=match l with
 |[a]=>⟨.pair a.t .unit,mkM a.m .k,(a.x,())⟩
 |l=>G1 l
def qQ (Θ:de) (T:TypeId):Option TV:=match Θ.find T with
 |some i=>bif ug i.ty (MG Θ 9 T) then some ⟨i.ty,MG Θ 9 T,i.ty.z⟩ else none
 |none=>none
def St.parts (Θ:de) (S:St) (ps:List (Nat×Operand)):List TypeId→Nat→Option (List TV×St)
 |[],_=>some ([],S)
 |T::r,j=>match ps.find? (fun q=>Nat.beq q.1 j) with
  |some q=>match S.take Θ T q.2 with
   |some (a,S1)=>match S1.parts Θ ps r (j+1) with
    |some (l,S2)=>some (a::l,S2)
    |none=>none
   |none=>none
  |none=>match qQ Θ T with
   |some a=>match S.parts Θ ps r (j+1) with
    |some (l,S2)=>some (a::l,S2)
    |none=>none
   |none=>none
def jX (n:Nat):List (Nat×Operand)→Bool
 |[]=>true
 |q::r=>Nat.blt q.1 n&& !(r.any fun q'=>Nat.beq q'.1 q.1)&&jX n r
def qR (t:Ty) (m:Md):List TV→Option (List t.I)
 |[]=>some []
 |a::r=>if h:a.t=t then(if a.m=m then match qR t m r with
   |some l=>some ((h▸a.x)::l)
   |none=>none else none) else none
abbrev Hn:=List (Nat×Md)
def Hn.find (h:Hn) (d:Option Nat) (m:Md):Md:=match d with
 |none=>m
 |some d=>match h with
  |[]=>m
  |q::r=>bif Nat.beq q.1 d then q.2 else Hn.find r (some d) m
def Hn.Z1 (h:Hn) (d:Option Nat):Bool:=match h.find d (.o 0 none .k) with
 | .k=>true
 |_=>false
def de.is (Θ:de) (T:TypeId) (t:Ty):Bool:=match Θ.find T with
 |some i=>decide (i.ty=t)
 |none=>false
abbrev z':=Option (Bool×St)
def oJ (Θ:de) (S:St) (dst:Option Nat) (T:TypeId) (x:Operand):z':=match S.dP Θ T x with
 |some (.tz l)=>(match dst,x with
  |some d,.tmp i=>bif Nat.beq d i|| !Nat.blt d S.length then none else some (true,(S.put (some i) .dead).put (some d) (.tz l))
  |_,_=>none)
 |some a=>match S.copy x a with
  |some a=>some (true,S.put dst a)
  |none=>none
 |none=>none
def D8 (Θ:de) (S:St) (dst:Option Nat) (T:TypeId) (x:Operand):z':=match S.dP Θ T x with
 |some a=>match dst,x,a with
  |some d,.tmp i,.v a ex=>bif a.m.bP then some (true,S.put dst (.v a [])) else match ex with
   |[]=>bif Nat.beq d i|| !Nat.blt d S.length then none else some (true,(St.put (S.put (some i) .dead) dst (.v a [])).set i (.al a.t d []))
   |_=>none
  |_,_,.v a ex=>bif a.m.bP then some (true,S.put dst (.v a [])) else match ex,x with
   |[],.const _=>some (true,S.put dst (.v a []))
   |_,_=>none
  |some d,_,.al t s []=>bif Nat.beq s d then none else some (true,S.put dst (.al t s []))
  |some d,_,.ld f c=>bif AV.refs d (.ld f c) then none else some (true,S.put dst (.ld f c))
  |_,_,.undef=>some (true,S.put dst .undef)
  |_,_,a=>match S.dD x a with
   |some (a,S1)=>some (true,S1.put dst (.v a []))
   |none=>none
 |none=>match x with
  | .const _=>some (true,S.put dst .dead)
  |_=>none
def RH (Θ:de) (S:St) (dst:Option Nat) (T:TypeId) (c a b:Operand):z':=match S.rd Θ 0 c with
 |some ⟨.bool,_,q⟩=>match S.dP Θ T a,S.dP Θ T b with
  |some (.v ⟨.bool,_,x⟩ _),some (.v ⟨.bool,_,y⟩ _)=>some (true,S.put dst (.v ⟨.bool,.k,bif q then x else y⟩ []))
  |some p,some r=>match (bif q then S.copy a p else S.copy b r) with
   |some a=>some (true,S.put dst a)
   |none=>none
  |_,_=>none
 |_=>none
def oK (Θ:de) (hn:Hn) (S:St) (dst:Option Nat) (T:TypeId):z':=match qQ Θ T with
 |some z=>bif ug z.t (hn.find dst z.m) then some (true,S.put dst (.v ⟨.ptr z.t,.o T none (hn.find dst z.m),z.t.z⟩ [])) else none
 |none=>none
def ac4 (Θ:de) (S:St) (dst:Option Nat) (T:TypeId) (x:Operand):z':=match S.take Θ T x with
 |some (a,S1)=>bif Θ.is T a.t then some (true,S1.put dst (.v ⟨.ptr a.t,.o T none a.m,a.x⟩ [])) else none
 |none=>none
def Dz (Θ:de) (S:St) (dst:Option Nat) (T:TypeId) (ps:List (Nat×Operand)):z':=match Θ.find T with
 |some i=>match S.parts Θ ps i.fs 0 with
  |some (l,S1)=>bif decide ((dE l).t=i.ty)&&ac5 i.ty&&jX l.length ps then some (true,S1.put dst (.v (dE l) [])) else none
  |none=>none
 |none=>none
 where ac5:Ty→Bool
 | .pair _ _=>true
 |_=>false
def bH (Θ:de) (hn:Hn) (S:St) (dst:Option Nat) (T:TypeId) (n:Nat) (ps:List (Nat×Operand)):z':=match Θ.find T with
 |some ⟨_,.sl t,e,_⟩=>bif jX n ps&&Nat.ble n 1800 then(match S.parts Θ ps (List.replicate n e) 0 with
  |some (l,S1)=>(match l with
   |[]=>some (true,S1.put dst (.v ⟨.sl t,bif hn.Z1 dst then .k else .o e none (hn.find dst .k),[]⟩ []))
   |a::_=>match qR t a.m l with
    |some xs=>some (true,S1.put dst (.v ⟨.sl t,bif hn.Z1 dst&&a.m.bP then .k else .o e none a.m,xs⟩ []))
    |none=>none)
  |none=>none) else none
 |_=>none
def fZ (Θ:de) (S:St) (dst:Option Nat) (T:TypeId) (x:Operand):z':=match S.dP Θ 0 x with
 |some a=>match S.Hr x a with
  |some g=>match S.loadAt g with
   |some r=>bif Θ.is T g.ty then some (true,S.put dst r) else none
   |none=>none
  |none=>none
 |none=>none
def lf (Θ:de) (S:St) (T:TypeId) (x y:Operand):z':=match S.dP Θ 0 x with
 |some a=>match S.Hr x a with
  |some (.pl _ s p)=>match S.take Θ T y with
   |some (b,S1)=>bif Θ.is T b.t then(match S1.at s with
    | .v r ex=>match fX b p r.t r.m r.x with
     |some (m,z)=>bif ex.all (fun h=>!under h p) then some ((dC p (ex.filter fun h=>!pre p h)).1,(S1.weaken s).set s (.v ⟨r.t,m,z⟩ (dC p (ex.filter fun h=>!pre p h)).2)) else none
     |none=>none
    |_=>none) else none
   |none=>none
  |_=>none
 |none=>none
def oM (Θ:de) (S S1:St) (T:TypeId) (y:Operand):St:=match S.dP Θ T y with
 |some (.al _ s [])=>(match S.at s,S1.at s with
  | .v ⟨.sl t,m,xs⟩ [],.dead=>bif m.bP then S1 else S1.set s (.v ⟨.sl t,m,xs⟩ [[]])
  |_,_=>S1)
 |_=>S1
def uh (Θ:de) (S:St) (dst:Option Nat) (x:Operand):z':=match S.dP Θ 0 x with
 |some a=>match S.Hr x a with
  |some g=>match S.copy x a,(match g with
   | .k _=>some ()
   | .pl _ s p=>match S.c9 s p with
    |some _=>some ()
    |none=>none) with
   |some a,some _=>some (true,S.put dst a)
   |_,_=>none
  |none=>none
 |none=>none
def ga (Θ:de) (S:St) (dst:Option Nat) (T:TypeId) (x:Operand) (f:Nat):z':=match S.dP Θ 0 x,Θ.find T with
 |some a,some i=>bif Nat.blt f i.fs.length then(match S.Hr x a with
  |some (.k ⟨t,m,y⟩)=>bif decide (i.ty=t) then(match bd (mL f i.fs.length) t .k y with
   |some b=>some (true,S.put dst (.v ⟨.ptr b.t,.k,b.x⟩ []))
   |none=>none) else none
  |some (.pl t s p)=>bif decide (i.ty=t) then(match S.c9 s (p++mL f i.fs.length) with
   |some b=>some (true,S.put dst (.ad b.t s (p++mL f i.fs.length)))
   |none=>none) else none
  |none=>none) else none
 |_,_=>none
def IG (Θ:de) (S:St) (dst:Option Nat) (T:TypeId) (x:Operand) (f:Nat):z':=match S.dP Θ 0 x,Θ.find T with
 |some (.v a ex),some i=>bif Nat.blt f i.fs.length&&decide (i.ty=a.t) then(match x with
  | .tmp j=>match bd (mL f i.fs.length) a.t a.m a.x with
   |some b=>bif b.m.bP then(match ex with
    |[]=>some (true,S.put dst (.v (RG b) []))
    |_=>none) else(match S.c9 j (mL f i.fs.length) with
    |some _=>some (true,S.put dst (.al b.t j (mL f i.fs.length)))
    |none=>none)
   |none=>none
  |_=>none) else none
 |_,_=>none
def aM (n:Int) (len:Nat):Bool:=decide (0≤n)&&decide (n<(len:Int))
def ck (Θ:de) (S:St) (dst:Option Nat) (T:TypeId) (x ix:Operand):z':=match S.dP Θ 0 x,S.kY Θ ix with
 |some (.v ⟨.sl t,m,xs⟩ ex),some n=>bif Θ.is T (.sl t) then(match m,x with
  | .k,_=>some (aM n xs.length,S.put dst (.v ⟨.ptr t,.k,xs.getD n.toNat t.z⟩ []))
  | .o ..,.tmp j=>match S.c9 j [.idx n.toNat] with
   |some _=>some (aM n xs.length,S.put dst (.ad t j [.idx n.toNat]))
   |none=>none
  |_,_=>none) else none
 |some (.al (.sl t) s p),some n=>bif Θ.is T (.sl t) then(match S.c9 s p with
  |some ⟨.sl t',.k,xs⟩=>some (aM n xs.length,S.put dst (.v ⟨.ptr t',.k,xs.getD n.toNat t'.z⟩ []))
  |some ⟨.sl t',.o ..,xs⟩=>match S.c9 s (p++[.idx n.toNat]) with
   |some _=>some (aM n xs.length,S.put dst (.ad t' s (p++[.idx n.toNat])))
   |none=>none
  |_=>none) else none
 |_,_=>none
def IH (Θ:de) (S:St) (dst:Option Nat) (T:TypeId) (x ix:Operand):z':=match S.rd Θ 0 x,S.kY Θ ix with
 |some ⟨.str,_,s⟩,some n=>bif Θ.is T .str then some (aM n s.size,S.put dst (.v ⟨.int .u8,.k,bt s n⟩ [])) else none
 |_,_=>none
def fD (S:St) (dst:Option Nat) (x:Operand) (j:Nat):z':=match x with
 | .tmp i=>match S.at i with
  | .tz l=>match l.getD j none with
   |some a=>bif a.m.bP then some (true,S.put dst (.v a [])) else(match dst with
    |some d=>bif Nat.beq d i then none else some (true,St.put (S.set i (.tz (l.set j none))) (some d) (.v a []))
    |none=>none)
   |none=>none
  |_=>none
 |_=>none
def gD (Θ:de) (S:St) (d:Int):Option Operand→Option Int
 |none=>some d
 |some x=>S.kY Θ x
def dX (Θ:de) (S:St) (dst:Option Nat) (T:TypeId) (x:Operand) (lo hi mx:Option Operand):z':=match S.dP Θ 0 x,S.rd Θ 0 x,gD Θ S 0 lo with
 |some a,some ⟨.str,_,s⟩,some l=>match mx,gD Θ S (s.size:Int) hi with
  |none,some h=>bif Θ.is T .str then some (decide (0≤l)&&decide (l≤h)&&decide (h≤(s.size:Int)),S.put dst (.v ⟨.str,.k,s.extract l.toNat h.toNat⟩ [])) else none
  |_,_=>none
 |some a,some ⟨.sl t,m,xs⟩,some l=>bif Θ.is T (.sl t) then(match gD Θ S (xs.length:Int) hi,mx,Θ.find T with
  |some h,none,_=>match m,a,x with
   | .k,_,_=>some (decide (0≤l)&&decide (l≤h)&&decide (h≤(xs.length:Int)),S.put dst (.v ⟨.sl t,.k,(xs.take h.toNat).drop l.toNat⟩ []))
   |_,.v ..,.tmp i=>some (decide (0≤l)&&decide (l≤h)&&decide (h≤(xs.length:Int)),S.put dst (.cut (.sl t) i [] l.toNat h.toNat))
   |_,.al _ s p,_=>some (decide (0≤l)&&decide (l≤h)&&decide (h≤(xs.length:Int)),S.put dst (.cut (.sl t) s p l.toNat h.toNat))
   |_,_,_=>none
  |some h,some z,some i=>match S.kY Θ z,hi with
   |some c,some _=>some (decide (l=0)&&decide (h=0)&&decide (c=0),S.put dst (.v ⟨.sl t,.o i.e none .k,[]⟩ []))
   |_,_=>none
  |_,_,_=>none) else none
 |_,_,_=>none
def bytesOf (xs:List Int):ByteArray:=xs.foldl (fun r n=>r.push (UInt8.ofNat n.toNat)) ByteArray.empty
def gp (Θ:de) (S:St) (dst:Option Nat) (T T':TypeId) (x:Operand):z':=match S.rd Θ 0 x,Θ.find T,Θ.find T' with
 |some ⟨.int _,_,n⟩,some _,some ⟨_,.int k,_,_⟩=>some (true,S.put dst (.v ⟨.int k,.k,k.wrap n⟩ []))
 |some ⟨.sl (.int .u8),_,xs⟩,some ⟨_,.sl (.int .u8),_,_⟩,some ⟨_,.str,_,_⟩=>some (true,S.put dst (.v ⟨.str,.k,bytesOf xs⟩ []))
 |_,_,_=>none
def D9 (Θ:de) (S:St) (dst:Option Nat) (op:BinOp) (T:TypeId) (x y:Operand):z':=match S.rd Θ T x,S.rd Θ T y with
 |some a,some b=>match a.t with
  | .bool=>bif Θ.is T .bool then(match gz op a b with
   |some (g,r)=>some (g,S.put dst (.v r []))
   |none=>none) else none
  | .pair _ _=>bif Θ.is T a.t then(match gz op a b with
   |some (g,r)=>some (g,S.put dst (.v r []))
   |none=>none) else none
  |_=>match gz op a b with
   |some (g,r)=>some (g,S.put dst (.v r []))
   |none=>none
 |_,_=>none
def aui (Θ:de) (S:St) (dst:Option Nat) (op:UnOp) (x:Operand):z':=match S.rd Θ 0 x with
 |some a=>match aka op a with
  |some r=>some (true,S.put dst (.v r []))
  |none=>none
 |none=>none
def gb (Θ:de) (S:St) (dst:Option Nat) (T:TypeId) (l c:Operand):z':=match Θ.find T,S.kY Θ l,S.kY Θ c with
 |some ⟨_,.sl t,e,_⟩,some n,some n'=>match qQ Θ e with
  |some z=>if z.t=t then some (decide (n=n')&&decide (0≤n)&&decide (n≤1099511627776),S.put dst (.v ⟨.sl t,.o e none z.m,List.replicate n.toNat t.z⟩ [])) else none
  |none=>none
 |_,_,_=>none
def asK (S:St):Operand→Option IF
 | .tmp i=>match S.at i with
  | .v ⟨.ptr t,.o ..,_⟩ _=>some (IF.pl t i [])
  | .v ⟨.ptr t,.k,y⟩ _=>some (IF.kv ⟨.ptr t,.k,y⟩)
  | .al (.ptr t) s p=>some (IF.pl t s p)
  |_=>none
 |_=>none
def D' (S:St):List Operand→Option (List IF)
 |[]=>some []
 |x::r=>match asK S x,D' S r with
  |some c,some l=>some (c::l)
  |_,_=>none
def ui (S:St) (dst:Option Nat) (f:FuncId) (first cy:List Operand):z':=match first,D' S cy with
 |[],some l=>match dst with
  |some d=>bif AV.refs d (.ld f l) then none else some (true,S.put dst (.ld f l))
  |none=>none
 |_,_=>none
def asL:TV→Option Int
 |⟨.sl _,_,xs⟩=>some (xs.length:Int)
 |⟨.str,_,b⟩=>some (b.size:Int)
 |_=>none
def ac6 (Θ:de) (S:St) (dst:Option Nat) (ts:List TypeId) (as:List Operand):z':=match as,ts with
 |[x],[T]=>match (match S.dP Θ 0 x with
   |some (.v a ex)=>bif ex.any List.isEmpty then none else some a
   |some (.al t s p)=>(match S.place s p with
    |some b=>some b
    |none=>match S.c9 s p with
     |some ⟨.sl t,m,xs⟩=>some ⟨.sl t,m,xs⟩
     |_=>none)
   |some a=>S.sy a
   |none=>none) with
  |some b=>bif Θ.is T b.t then(match asL b with
   |some n=>some (true,S.put dst (.v ⟨.int .i64,.k,n⟩ []))
   |none=>none) else none
  |none=>none
 |_,_=>none
def cl (Θ:de) (S:St) (dst:Option Nat) (ts:List TypeId) (as:List Operand):z':=match as,ts with
 |[x,y],[T,T']=>match S.take Θ T x,Θ.find T with
  |some (⟨.sl t,.o e _ me,xs⟩,S1),some i=>bif decide (i.ty=.sl t)&&Nat.beq i.e e&&Θ.is T' (.sl t) then
    (bif me.bP then(match S1.rd Θ T' y with
     |some ⟨.sl t',m',ys⟩=>bif m'.Hq.bP then(if h:t'=t then
       some (decide ((xs.length+ys.length)*t.size≤4398046511104),S1.put dst (.v ⟨.sl t,.o e none me,xs++(h▸ys)⟩ [])) else none) else none
     |_=>none)
    else(match S1.take Θ T' y with
     |some (⟨.sl t',m',ys⟩,S2)=>if h:t'=t then
       (if m'.Hq=me then some (decide ((xs.length+ys.length)*t.size≤4398046511104),S2.put dst (.v ⟨.sl t,.o e none me,xs++(h▸ys)⟩ [])) else none) else none
     |_=>none)) else none
  |_,_=>none
 |_,_=>none
def fE (Θ:de) (S:St) (dst:Option Nat) (ts:List TypeId) (as:List Operand):z':=match as,ts with
 |[x,y],[T,T']=>match S.dP Θ T x with
  |some (.al _ s (st::pp))=>(match S.at s with
   | .v r ex=>(match bd (st::pp) r.t r.m r.x,Θ.find T with
    |some ⟨.sl t,.o e _ me,xs⟩,some i=>bif decide (i.ty=.sl t)&&Nat.beq i.e e&&Θ.is T' (.sl t)&&me.bP then
      (match St.rd Θ (((S.weaken s).cover s (st::pp)).set s (.v r (ex++[st::pp]))) T' y with
      |some ⟨.sl t',m',ys⟩=>bif m'.Hq.bP then(if h:t'=t then
        some (ex.all (fun h=>!oI h (st::pp))&&decide ((xs.length+ys.length)*t.size≤4398046511104),St.put (((S.weaken s).cover s (st::pp)).set s (.v r (ex++[st::pp]))) dst (.v ⟨.sl t,.o e none me,xs++(h▸ys)⟩ [])) else none) else none
      |_=>none) else none
    |_,_=>none)
   |_=>none)
  |_=>none
 |_,_=>none
def ev (Θ:de) (hn:Hn) (S:St) (o:Oper):z':=match o.op with
 | .move x=>oJ Θ S o.dst o.type x
 | .assign x=>D8 Θ S o.dst o.type x
 | .pick c a b=>RH Θ S o.dst o.type c a b
 | .alloc T=>oK Θ hn S o.dst T
 | .box T x=>ac4 Θ S o.dst T x
 | .build T ps=>Dz Θ S o.dst T ps.toList
 | .buildSlice T n ps=>bH Θ hn S o.dst T n ps.toList
 | .load T x=>fZ Θ S o.dst T x
 | .store T x y=>match o.dst with
  |none=>(match lf Θ S T x y with
   |some (g,S1)=>some (g,oM Θ S S1 T y)
   |none=>none)
  |some _=>none
 | .nilCheck x=>uh Θ S o.dst x
 | .fieldAddr T x f=>ga Θ S o.dst T x f
 | .field T x f=>IG Θ S o.dst T x f
 | .indexAddr T x ix=>ck Θ S o.dst T x ix
 | .index T x ix=>IH Θ S o.dst T x ix
 | .extract x j=>fD S o.dst x j
 | .slice T x lo hi mx=>dX Θ S o.dst T x lo hi mx
 | .convert T T' x=>gp Θ S o.dst T T' x
 | .binOp op T x y _=>D9 Θ S o.dst op T x y
 | .unOp op _ x=>aui Θ S o.dst op x
 | .makeSlice T l c=>gb Θ S o.dst T l c
 | .makeFunc (.func f) first cy=>ui S o.dst f first.toList cy.toList
 | .call { callee:=.builtin .len,args:=as,argTypes:=ts }=>ac6 Θ S o.dst ts.toList as.toList
 | .call { callee:=.builtin .append,args:=as,argTypes:=ts }=>match cl Θ S o.dst ts.toList as.toList with
  |some r=>some r
  |none=>fE Θ S o.dst ts.toList as.toList
 |_=>none
end Go.Pv
namespace Go.Pv
set_option linter.unusedVariables false
set_option linter.unusedSimpArgs false
variable {w w':World} {Wr qu:Nat→Prop} {H:Nat→Value}
theorem kr {α:Type} (n:Nat):∀ {eK:List (List α)},(∀ c∈eK,c.length=n)→eK.flatten.length=eK.length*n
 |[],_=>by simp
 |c::r,h=>by
  have h1:=h c (by simp)
  have h2:=kr n (eK:=r) fun c hc=>h c (by simp[hc])
  simp[h1,h2,Nat.add_mul,Nat.add_comm]
theorem kK:∀ (t:Ty) {x:t.I} {cs:List Value},K w Wr t x cs→cs.length=t.size∧∀ u∈cs,u.oneCell'=true
 | .int k,n,cs,h=>by simp only[K] at h;subst h;exact⟨rfl,by simp[Value.oneCell']⟩
 | .bool,n,cs,h=>by simp only[K] at h;subst h;exact⟨rfl,by simp[Value.oneCell']⟩
 | .str,n,cs,h=>by simp only[K] at h;subst h;exact⟨rfl,by simp[Value.oneCell']⟩
 | .unit,n,cs,h=>by simp only[K] at h;subst h;exact⟨rfl,by simp⟩
 | .pair a b,x,cs,h=>by
  simp only[K] at h
  obtain⟨c0,c1,rfl,h0,h1⟩:=h
  obtain⟨l0,o0⟩:=kK a h0
  obtain⟨l1,o1⟩:=kK b h1
  refine⟨by simp[l0,l1,Ty.size],fun u hu=>?_⟩
  rcases List.mem_append.1 hu with hu |hu
  ·exact o0 u hu
  ·exact o1 u hu
 | .arr n t,xs,cs,h=>by
  simp only[K] at h
  obtain⟨eK,rfl,hl,hx,hj⟩:=h
  have gq:∀ c∈eK,c.length=t.size∧∀ u∈c,u.oneCell'=true:=by
   intro c hc
   obtain⟨j,G2,rfl⟩:=List.mem_iff_getElem.1 hc
   exact kK t (hj j (by omega) G2)
  refine⟨by rw[kr t.size fun c hc=>(gq c hc).1,hl];rfl,fun u hu=>?_⟩
  obtain⟨c,hc,hu⟩:=List.mem_flatten.1 hu
  exact(gq c hc).2 u hu
 | .sl t,xs,cs,h=>by
  simp only[K] at h
  obtain⟨A,c,rfl,_⟩:=h
  exact⟨rfl,by simp[Value.oneCell']⟩
 | .ptr t,xs,cs,h=>by
  simp only[K] at h
  obtain⟨g,off,cur,T,fr,rfl,_⟩:=h
  exact⟨rfl,by simp[Value.oneCell']⟩
structure aU (w w':World) (Wr qu:Nat→Prop):Prop where
 same:∀ g,¬Wr g→g<w.heap.size→w'.heap[g]?=w.heap[g]?
 wr:∀ g,g<w.heap.size→qu g→Wr g
theorem aU.refl (w:World) (Wr:Nat→Prop):aU w w Wr Wr:=⟨fun _ _ _=>rfl,fun _ _ h=>h⟩
theorem bn {α:Type} {a:Array α} {g:Nat} {o:α} (h:a[g]?=some o):g<a.size:=(Array.getElem?_eq_some_iff.1 h).1
theorem b6 (hs:aU w w' Wr qu):∀ (t:Ty) {x:t.I} {cs:List Value},K w Wr t x cs→K w' qu t x cs
 | .int k,n,cs,h=>h
 | .bool,n,cs,h=>h
 | .str,n,cs,h=>h
 | .unit,n,cs,h=>h
 | .pair a b,x,cs,h=>by
  simp only[K] at h ⊢
  obtain⟨c0,c1,rfl,h0,h1⟩:=h
  exact⟨c0,c1,rfl,b6 hs a h0,b6 hs b h1⟩
 | .arr n t,xs,cs,h=>by
  simp only[K] at h ⊢
  obtain⟨eK,rfl,hl,hx,hj⟩:=h
  exact⟨eK,rfl,hl,hx,fun j h1 h2=>b6 hs t (hj j h1 h2)⟩
 | .sl t,xs,cs,h=>by
  simp only[K] at h ⊢
  obtain⟨A,c,rfl,hc,h⟩:=h
  refine⟨A,c,rfl,hc,fun hp=>?_⟩
  obtain⟨g,off,cur,T,fr,rfl,hg,hw,ho,hj⟩:=h hp
  have cR:=bn hw
  exact⟨g,off,cur,T,fr,rfl,fun bp=>hg (hs.wr g cR bp),(hs.same g hg cR).trans hw,ho,fun j G2=>b6 hs t (hj j G2)⟩
 | .ptr t,x,cs,h=>by
  simp only[K] at h ⊢
  obtain⟨g,off,cur,T,fr,rfl,hg,hw,ho,hj⟩:=h
  have cR:=bn hw
  exact⟨g,off,cur,T,fr,rfl,fun bp=>hg (hs.wr g cR bp),(hs.same g hg cR).trans hw,ho,b6 hs t hj⟩
theorem er:∀ (t:Ty) {m:Md} {x:t.I} {cs:List Value} {ow:Nat→Prop} {hs:List Path},M w Wr H t m x cs ow hs→cs.length=t.size∧∀ u∈cs,u.oneCell'=true
 | .int k,m,n,cs,_,_,h=>kK (.int k) (by simp only[M] at h;exact h.2)
 | .bool,m,n,cs,_,_,h=>kK .bool (by simp only[M] at h;exact h.2)
 | .str,m,n,cs,_,_,h=>kK .str (by simp only[M] at h;exact h.2)
 | .unit,m,n,cs,_,_,h=>kK .unit (by simp only[M] at h;exact h.2)
 | .arr n t,m,_,cs,_,_,h=>kK (.arr n t) (by simp only[M] at h;exact h.2)
 | .pair a b,m,x,cs,ow,hs,h=>by
  simp only[M] at h
  rcases h with⟨_,_,h⟩ |⟨_,h⟩ |⟨ma,mb,c0,c1,s,_,rfl,h0,h1⟩
  ·exact h
  ·exact kK _ h
  ·obtain⟨l0,o0⟩:=er a h0
   obtain⟨l1,o1⟩:=er b h1
   refine⟨by simp[l0,l1,Ty.size],fun u hu=>?_⟩
   rcases List.mem_append.1 hu with hu |hu
   ·exact o0 u hu
   ·exact o1 u hu
 | .sl t,m,xs,cs,ow,hs,h=>by
  simp only[M] at h
  rcases h with⟨_,_,A,c,rfl⟩ |⟨_,h⟩ |⟨T,tag,me,A,c,_,rfl,_⟩
  ·exact⟨rfl,by simp[Value.oneCell']⟩
  ·exact kK _ h
  ·exact⟨rfl,by simp[Value.oneCell']⟩
 | .ptr t,m,xs,cs,ow,hs,h=>by
  simp only[M] at h
  rcases h with⟨_,_,h⟩ |⟨_,h⟩ |⟨T,tag,me,g,cur,_,rfl,_⟩
  ·exact h
  ·exact kK _ h
  ·exact⟨rfl,by simp[Value.oneCell']⟩
theorem dk {s:Step} {p:Path} {hs:List Path}:p∈sub s hs↔(s::p)∈hs:=by
 unfold sub
 rw[List.mem_filterMap]
 constructor
 ·rintro⟨q,hq,h⟩
  cases q with
  |nil=>simp at h
  |cons a r=>by_cases e:a=s<;>simp[e] at h;subst h e;exact hq
 ·intro h
  exact⟨_,h,by simp⟩
theorem lO {s:Step} {hs nE:List Path} (h:∀ p∈hs,p∈nE):∀ p∈sub s hs,p∈sub s nE:=fun p hp=>dk.2 (h _ (dk.1 hp))
theorem aK (b5:aU w w' Wr qu):∀ (t:Ty) {m:Md} {x:t.I} {cs:List Value} {ow cE:Nat→Prop} {hs nE:List Path},
  (∀ g,ow g→g<w.heap.size→w'.heap[g]?=w.heap[g]?)→(∀ g,ow g→g<w.heap.size→cE g)→(∀ p∈hs,p∈nE)→M w Wr H t m x cs ow hs→M w' qu H t m x cs cE nE
 | .int k,m,n,cs,_,_,_,_,_,_,_,h=>by simp only[M] at h ⊢;exact h
 | .bool,m,n,cs,_,_,_,_,_,_,_,h=>by simp only[M] at h ⊢;exact h
 | .str,m,n,cs,_,_,_,_,_,_,_,h=>by simp only[M] at h ⊢;exact h
 | .unit,m,n,cs,_,_,_,_,_,_,_,h=>by simp only[M] at h ⊢;exact h
 | .arr n t,m,_,cs,_,_,_,_,_,_,_,h=>by simp only[M] at h ⊢;exact⟨h.1,b6 b5 _ h.2⟩
 | .pair a b,m,x,cs,ow,cE,hs,nE,hb,ho,hp,h=>by
  simp only[M] at h ⊢
  rcases h with⟨h1,h⟩ |⟨h1,h⟩ |⟨ma,mb,c0,c1,s,e,rfl,h0,h1⟩
  ·exact .inl ⟨hp _ h1,h⟩
  ·exact .inr (.inl ⟨h1,b6 b5 _ h⟩)
  ·exact .inr (.inr ⟨ma,mb,c0,c1,s,e,rfl,aK b5 a (fun g hg=>hb g hg.1) (fun g hg hl=>⟨ho g hg.1 hl,hg.2⟩) (lO hp) h0,
    aK b5 b (fun g hg=>hb g hg.1) (fun g hg hl=>⟨ho g hg.1 hl,hg.2⟩) (lO hp) h1⟩)
 | .sl t,m,xs,cs,ow,cE,hs,nE,hb,ho,hp,h=>by
  simp only[M] at h ⊢
  rcases h with⟨h1,h⟩ |⟨h1,h⟩ |⟨T,tag,me,A,c,e,rfl,hc,ht,h⟩
  ·exact .inl ⟨hp _ h1,h⟩
  ·exact .inr (.inl ⟨h1,b6 b5 _ h⟩)
  ·refine .inr (.inr ⟨T,tag,me,A,c,e,rfl,hc,ht,?_⟩)
   rcases h with h |⟨g,cur,τ,rfl,hg,hw,iD,hm,hj⟩
   ·exact .inl h
   ·have cR:=bn hw
    exact .inr ⟨g,cur,τ,rfl,ho g hg cR,(hb g hg cR).trans hw,iD,hm,fun j G2=>aK b5 t (fun g' bp=>hb g' bp.1) (fun g' bp hl=>⟨ho g' bp.1 hl,bp.2⟩) (lO hp) (hj j G2)⟩
 | .ptr t,m,x,cs,ow,cE,hs,nE,hb,ho,hp,h=>by
  simp only[M] at h ⊢
  rcases h with⟨h1,h⟩ |⟨h1,h⟩ |⟨T,tag,me,g,cur,e,rfl,ht,hg,hw,h⟩
  ·exact .inl ⟨hp _ h1,h⟩
  ·exact .inr (.inl ⟨h1,b6 b5 _ h⟩)
  ·have cR:=bn hw
   exact .inr (.inr ⟨T,tag,me,g,cur,e,rfl,ht,ho g hg cR,(hb g hg cR).trans hw,aK b5 t (fun g' bp=>hb g' bp.1) (fun g' bp hl=>⟨ho g' bp.1 hl,bp.2⟩) (lO hp) h⟩)
theorem M_K (hw:∀ g,g<w.heap.size→qu g→Wr g):∀ (t:Ty) {m:Md} {x:t.I} {cs:List Value} {ow:Nat→Prop} {hs:List Path},hs=[]→(∀ g,ow g→¬qu g)→M w Wr H t m x cs ow hs→K w qu t x cs
 | .int k,m,n,cs,_,_,_,_,h=>by simp only[M] at h;exact h.2
 | .bool,m,n,cs,_,_,_,_,h=>by simp only[M] at h;exact h.2
 | .str,m,n,cs,_,_,_,_,h=>by simp only[M] at h;exact h.2
 | .unit,m,n,cs,_,_,_,_,h=>by simp only[M] at h;exact h.2
 | .arr n t,m,_,cs,_,_,_,_,h=>by simp only[M] at h;exact b6 ⟨fun _ _ _=>rfl,hw⟩ _ h.2
 | .pair a b,m,x,cs,ow,hs,e,hn,h=>by
  subst e
  simp only[M] at h
  rcases h with⟨h1,h⟩ |⟨h1,h⟩ |⟨ma,mb,c0,c1,s,e,rfl,h0,h1⟩
  ·simp at h1
  ·exact b6 ⟨fun _ _ _=>rfl,hw⟩ _ h
  ·simp only[K]
   exact⟨c0,c1,rfl,M_K hw a rfl (fun g hg=>hn g hg.1) h0,M_K hw b rfl (fun g hg=>hn g hg.1) h1⟩
 | .sl t,m,xs,cs,ow,hs,e,hn,h=>by
  subst e
  simp only[M] at h
  rcases h with⟨h1,h⟩ |⟨h1,h⟩ |⟨T,tag,me,A,c,e,rfl,hc,ht,h⟩
  ·simp at h1
  ·exact b6 ⟨fun _ _ _=>rfl,hw⟩ _ h
  ·simp only[K]
   refine⟨A,c,rfl,hc,fun hp=>?_⟩
   rcases h with⟨rfl,_⟩ |⟨g,cur,τ,rfl,hg,hh,iD,hm,hj⟩
   ·simp at hp
   ·exact⟨g,0,cur,T,(0,0),rfl,hn g hg,hh,by rw[iD];have:=Nat.mul_le_mul_right t.size hc;omega,fun j G2=>by
     rw[Nat.zero_add];exact M_K hw t rfl (fun g' bp=>hn g' bp.1) (hj j G2)⟩
 | .ptr t,m,x,cs,ow,hs,e,hn,h=>by
  subst e
  simp only[M] at h
  rcases h with⟨h1,h⟩ |⟨h1,h⟩ |⟨T,tag,me,g,cur,e,rfl,ht,hg,hh,h⟩
  ·simp at h1
  ·exact b6 ⟨fun _ _ _=>rfl,hw⟩ _ h
  ·have hl:=(er t h).1
   simp only[K]
   refine⟨g,0,cur,T,(0,0),rfl,hn g hg,hh,by rw[←hl];simp,?_⟩
   rw[List.drop_zero,List.take_of_length_le (by omega)]
   exact M_K hw t rfl (fun g' bp=>hn g' bp.1) h
end Go.Pv
namespace Go.Pv
set_option linter.unusedVariables false
set_option linter.unusedSimpArgs false
variable {w w':World} {Wr qu:Nat→Prop} {H:Nat→Value}
theorem fJ:∀ (t:Ty) {x:t.I} {cs:List Value} {ow:Nat→Prop} {hs:List Path},K w Wr t x cs→M w Wr H t .k x cs ow hs
 | .int _,_,_,_,_,h=>by simp only[M];exact⟨rfl,h⟩
 | .bool,_,_,_,_,h=>by simp only[M];exact⟨rfl,h⟩
 | .str,_,_,_,_,h=>by simp only[M];exact⟨rfl,h⟩
 | .unit,_,_,_,_,h=>by simp only[M];exact⟨rfl,h⟩
 | .arr _ _,_,_,_,_,h=>by simp only[M];exact⟨rfl,h⟩
 | .pair _ _,_,_,_,_,h=>by simp only[M];exact .inr (.inl ⟨rfl,h⟩)
 | .sl _,_,_,_,_,h=>by simp only[M];exact .inr (.inl ⟨rfl,h⟩)
 | .ptr _,_,_,_,_,h=>by simp only[M];exact .inr (.inl ⟨rfl,h⟩)
theorem fv:∀ (t:Ty) {m:Md} {x:t.I} {cs:List Value} {ow:Nat→Prop} {hs:List Path},m.bP=true→M w Wr H t m x cs ow hs→K w Wr t x cs
 | .int _,_,_,_,_,_,_,h=>by simp only[M] at h;exact h.2
 | .bool,_,_,_,_,_,_,h=>by simp only[M] at h;exact h.2
 | .str,_,_,_,_,_,_,h=>by simp only[M] at h;exact h.2
 | .unit,_,_,_,_,_,_,h=>by simp only[M] at h;exact h.2
 | .arr _ _,_,_,_,_,_,_,h=>by simp only[M] at h;exact h.2
 | .sl _,m,_,_,_,_,hk,h=>by
  simp only[M] at h
  rcases h with⟨_,h,_⟩ |⟨_,h⟩ |⟨T,tag,me,A,c,rfl,_⟩
  ·rw[hk] at h;cases h
  ·exact h
  ·simp[Md.bP] at hk
 | .ptr _,m,_,_,_,_,hk,h=>by
  simp only[M] at h
  rcases h with⟨_,h,_⟩ |⟨_,h⟩ |⟨T,tag,me,g,cur,rfl,_⟩
  ·rw[hk] at h;cases h
  ·exact h
  ·simp[Md.bP] at hk
 | .pair a b,m,_,_,_,_,hk,h=>by
  simp only[M] at h
  rcases h with⟨_,h,_⟩ |⟨_,h⟩ |⟨ma,mb,c0,c1,s,rfl,rfl,h0,h1⟩
  ·rw[hk] at h;cases h
  ·exact h
  ·simp[Md.bP] at hk
   simp only[K]
   exact⟨c0,c1,rfl,fv a hk.1 h0,fv b hk.2 h1⟩
theorem nG {t:Ty} {m:Md} {x:t.I} {cs:List Value} {ow:Nat→Prop} {hs:List Path} (hk:m.bP=true) (h:K w Wr t x cs):M w Wr H t m x cs ow hs:=by
 cases t<;>simp only[M]<;>first |exact⟨hk,h⟩ |exact .inr (.inl ⟨hk,h⟩)
theorem oN {m:Md} (h:m.bP=true):m.Hq.bP=true:=by cases m<;>simp_all [Md.bP,Md.Hq]
theorem MH {m:Md} (h:m.bP=true):m.l.bP=true:=by cases m<;>simp_all [Md.bP,Md.l]
theorem MI {m:Md} (h:m.bP=true):m.r.bP=true:=by cases m<;>simp_all [Md.bP,Md.r]
theorem wW {a b:Ty} {ma mb:Md} {x:a.I} {y:b.I} {c0 c1:List Value} {ow s:Nat→Prop} {hs:List Path}
  (h0:M w Wr H a ma x c0 (fun g=>ow g∧s g) (sub .fst hs)) (h1:M w Wr H b mb y c1 (fun g=>ow g∧ ¬s g) (sub .snd hs)):
  M w Wr H (.pair a b) (mkM ma mb) (x,y) (c0++c1) ow hs:=by
 unfold mkM
 cases h:ma.bP&&mb.bP with
 |false=>simp only[cond_false,M];exact .inr (.inr ⟨ma,mb,c0,c1,s,rfl,rfl,h0,h1⟩)
 |true=>
  simp at h
  exact fJ _ (by simp only[K];exact⟨c0,c1,rfl,fv a h.1 h0,fv b h.2 h1⟩)
def rowAt (w:World) (g off n:Nat):Option (List Value):=match w.heap[g]? with
 |some (.cells cur _ _)=>if off+n≤cur.size then some ((cur.toList.drop off).take n) else none
 |_=>none
def aT (w:World):Path→(t:Ty)→List Value→Option (List Value)
 |[],_,cs=>some cs
 | .deref::p,.ptr t,[.pointer (some ⟨g,off,none⟩)]=>(rowAt w g off t.size).bind (aT w p t)
 | .fst::p,.pair a _,cs=>aT w p a (cs.take a.size)
 | .snd::p,.pair a b,cs=>aT w p b (cs.drop a.size)
 | .idx i::p,.sl t,[.slice (some ⟨g,off,none⟩) _ _]=>(rowAt w g (off+i*t.size) t.size).bind (aT w p t)
 |_::_,_,_=>none
def addrAt (w:World):Path→(t:Ty)→List Value→Option (Nat×Nat)→Option (Nat×Nat)
 |[],_,_,l=>l
 | .deref::p,.ptr t,[.pointer (some ⟨g,off,none⟩)],_=>(rowAt w g off t.size).bind fun cs=>addrAt w p t cs (some (g,off))
 | .fst::p,.pair a _,cs,l=>addrAt w p a (cs.take a.size) l
 | .snd::p,.pair a b,cs,l=>addrAt w p b (cs.drop a.size) (l.map fun q=>(q.1,q.2+a.size))
 | .idx i::p,.sl t,[.slice (some ⟨g,off,none⟩) _ _],_=>(rowAt w g (off+i*t.size) t.size).bind fun cs=>addrAt w p t cs (some (g,off+i*t.size))
 |_::_,_,_,_=>none
def valid:Path→(t:Ty)→t.I→Prop
 |[],_,_=>True
 | .deref::p,.ptr t,x=>valid p t x
 | .fst::p,.pair a _,x=>valid p a x.1
 | .snd::p,.pair _ b,x=>valid p b x.2
 | .idx i::p,.sl t,xs=>i<xs.length∧valid p t (xs.getD i t.z)
 |_::_,_,_=>False
def wX:Path→List Path→List Path
 |[],hs=>hs
 |s::p,hs=>wX p (sub s hs)
theorem Ea {p q:Path}:∀ {hs:List Path},q∈wX p hs↔(p++q)∈hs:=by
 induction p with
 |nil=>intro hs;rfl
 |cons s p ih=>intro hs;simp only[wX,ih,dk,List.cons_append]
def open_ (p:Path) (hs:List Path):Prop:=∀ h∈hs,∀ s r,p≠h++s::r
theorem open_.sub {s:Step} {p:Path} {hs:List Path} (h:open_ (s::p) hs):open_ p (sub s hs):=fun q hq s' r e=>h _ (dk.1 hq) s' r (by rw[e];rfl)
theorem open_.not_nil {s:Step} {p:Path} {hs:List Path} (h:open_ (s::p) hs):[]∉hs:=fun hn=>h [] hn s p rfl
theorem bA {cur:Array Value} {T:TypeId} {fr:Nat×Nat} {g off n:Nat} (h:w.heap[g]?=some (.cells cur T fr)) (hl:off+n≤cur.size):rowAt w g off n=some ((cur.toList.drop off).take n):=by
 simp[rowAt,h,hl]
theorem focus:∀ (p:Path) {t:Ty} {m:Md} {x:t.I} {cs:List Value} {ow:Nat→Prop} {hs:List Path} {b:TV},M w Wr H t m x cs ow hs→open_ p hs→valid p t x→bd p t m x=some b→
  ∃ cM cE,aT w p t cs=some cM∧(∀ g,cE g→ow g)∧M w Wr H b.t b.m b.x cM cE (wX p hs)
 |[],t,m,x,cs,ow,hs,b,h,ho,hv,hg=>by
  simp only[bd,Option.some.injEq] at hg
  subst hg
  exact⟨cs,ow,rfl,fun _ h=>h,h⟩
 | .deref::p,.ptr t,m,x,cs,ow,hs,b,h,ho,hv,hg=>by
  simp only[bd] at hg
  simp only[valid] at hv
  simp only[M] at h
  rcases h with⟨hn,_⟩ |⟨hk,h⟩ |⟨T,tag,me,g,cur,rfl,rfl,ht,qv,hw,h⟩
  ·exact absurd hn ho.not_nil
  ·simp only[K] at h
   obtain⟨g,off,cur,T,fr,rfl,hng,hw,hl,h⟩:=h
   obtain⟨cM,cE,h1,h2,h3⟩:=focus p (ow:=fun _=>False) (nG (oN hk) h) ho.sub hv hg
   exact⟨cM,cE,by simp only[aT,bA hw hl,Option.bind_some];exact h1,fun g hg=>(h2 g hg).elim,h3⟩
  ·have hlen:=(er t h).1
   obtain⟨cM,cE,h1,h2,h3⟩:=focus p h ho.sub hv hg
   refine⟨cM,cE,?_,fun g hg=>(h2 g hg).1,h3⟩
   have iD:0+t.size≤cur.size:=by rw[←hlen];simp
   simp only[aT,bA hw iD,Option.bind_some,List.drop_zero]
   rw[List.take_of_length_le (by omega)]
   exact h1
 | .fst::p,.pair a b',m,x,cs,ow,hs,b,h,ho,hv,hg=>by
  simp only[bd] at hg
  simp only[valid] at hv
  simp only[M] at h
  rcases h with⟨hn,_⟩ |⟨hk,h⟩ |⟨ma,mb,c0,c1,s,rfl,rfl,h0,h1⟩
  ·exact absurd hn ho.not_nil
  ·simp only[K] at h
   obtain⟨c0,c1,rfl,h0,h1⟩:=h
   obtain⟨cM,cE,k1,k2,k3⟩:=focus p (ow:=fun _=>False) (nG (MH hk) h0) ho.sub hv hg
   exact⟨cM,cE,by simp only[aT];rw[←(kK a h0).1,List.take_left];exact k1,fun g hg=>(k2 g hg).elim,k3⟩
  ·obtain⟨cM,cE,k1,k2,k3⟩:=focus p h0 ho.sub hv hg
   exact⟨cM,cE,by simp only[aT];rw[←(er a h0).1,List.take_left];exact k1,fun g hg=>(k2 g hg).1,k3⟩
 | .snd::p,.pair a b',m,x,cs,ow,hs,b,h,ho,hv,hg=>by
  simp only[bd] at hg
  simp only[valid] at hv
  simp only[M] at h
  rcases h with⟨hn,_⟩ |⟨hk,h⟩ |⟨ma,mb,c0,c1,s,rfl,rfl,h0,h1⟩
  ·exact absurd hn ho.not_nil
  ·simp only[K] at h
   obtain⟨c0,c1,rfl,h0,h1⟩:=h
   obtain⟨cM,cE,k1,k2,k3⟩:=focus p (ow:=fun _=>False) (nG (MI hk) h1) ho.sub hv hg
   exact⟨cM,cE,by simp only[aT];rw[←(kK a h0).1,List.drop_left];exact k1,fun g hg=>(k2 g hg).elim,k3⟩
  ·obtain⟨cM,cE,k1,k2,k3⟩:=focus p h1 ho.sub hv hg
   exact⟨cM,cE,by simp only[aT];rw[←(er a h0).1,List.drop_left];exact k1,fun g hg=>(k2 g hg).1,k3⟩
 | .idx i::p,.sl t,m,xs,cs,ow,hs,b,h,ho,hv,hg=>by
  simp only[bd] at hg
  simp only[valid] at hv
  obtain⟨hi,hv⟩:=hv
  have eH:(show List t.I from xs).getD i t.z=(show List t.I from xs)[i]:=by simp[List.getD_eq_getElem?_getD,List.getElem?_eq_getElem hi]
  simp only[M] at h
  rcases h with⟨hn,_⟩ |⟨hk,h⟩ |⟨T,tag,me,A,c,rfl,rfl,hc,ht,h⟩
  ·exact absurd hn ho.not_nil
  ·simp only[K] at h
   obtain⟨A,c,rfl,hc,h⟩:=h
   obtain⟨g,off,cur,T,fr,rfl,hng,hw,hl,h⟩:=h (by omega)
   have hbound:off+i*t.size+t.size≤cur.size:=by
    have:=Nat.mul_le_mul_right t.size (show i+1≤xs.length from hi)
    rw[Nat.add_mul,Nat.one_mul] at this
    omega
   have hK:=h i hi
   rw[←eH] at hK
   obtain⟨cM,cE,h1,h2,h3⟩:=focus p (ow:=fun _=>False) (nG (oN hk) hK) ho.sub hv hg
   exact⟨cM,cE,by simp only[aT,bA hw hbound,Option.bind_some];exact h1,fun g hg=>(h2 g hg).elim,h3⟩
  ·rcases h with⟨rfl,_⟩ |⟨g,cur,τ,rfl,qv,hw,iD,hm,h⟩
   ·simp at hi
   ·have hbound:i*t.size+t.size≤cur.size:=by
     have h1:=Nat.mul_le_mul_right t.size (show i+1≤xs.length from hi)
     have h2:=Nat.mul_le_mul_right t.size hc
     rw[Nat.add_mul,Nat.one_mul] at h1
     omega
    have hM:=h i hi
    rw[←eH] at hM
    obtain⟨cM,cE,h1,h2,h3⟩:=focus p hM ho.sub hv hg
    exact⟨cM,cE,by simp only[aT,Nat.zero_add,bA hw hbound,Option.bind_some];exact h1,fun g hg=>(h2 g hg).1,h3⟩
end Go.Pv
namespace Go.Pv
set_option linter.unusedVariables false
set_option linter.unusedSimpArgs false
variable {w w':World} {Wr qu:Nat→Prop} {H:Nat→Value}
def putCells (cur:List Value) (off:Nat) (c:List Value):List Value:=cur.take off++c++cur.drop (off+c.length)
theorem gV (cur c:List Value) (off k:Nat) (h:off+c.length≤cur.length):
  (putCells cur off c)[k]?=if k<off then cur[k]? else if k<off+c.length then c[k - off]? else cur[k]?:=by
 unfold putCells
 have hl:(cur.take off).length=off:=by rw[List.length_take];omega
 by_cases h1:k<off
 ·rw[if_pos h1,List.append_assoc,List.getElem?_append_left (by omega),List.getElem?_take,if_pos h1]
 ·rw[if_neg h1]
  by_cases h2:k<off+c.length
  ·rw[if_pos h2,List.append_assoc,List.getElem?_append_right (by omega),hl,List.getElem?_append_left (by omega)]
  ·rw[if_neg h2,List.getElem?_append_right (by rw[List.length_append];omega),List.length_append,hl,List.getElem?_drop]
   congr 1
   omega
theorem gW (cur c:List Value) (off:Nat) (h:off+c.length≤cur.length):(putCells cur off c).length=cur.length:=by
 unfold putCells
 simp only[List.length_append,List.length_take,List.length_drop]
 omega
theorem auj (cur c:List Value) (a off n:Nat) (h1:off+c.length≤n) (h2:a+n≤cur.length):
  ((putCells cur (a+off) c).drop a).take n=putCells ((cur.drop a).take n) off c:=by
 apply List.ext_getElem?
 intro k
 have hl:((cur.drop a).take n).length=n:=by simp;omega
 rw[gV _ _ _ _ (by omega)]
 by_cases hk:k<n
 ·rw[List.getElem?_take,if_pos hk,List.getElem?_drop,gV _ _ _ _ (by omega)]
  simp only[List.getElem?_take,if_pos hk,List.getElem?_drop]
  by_cases h3:k<off
  ·rw[if_pos h3,if_pos (by omega)]
  ·rw[if_neg h3,if_neg (by omega)]
   by_cases h4:k<off+c.length
   ·rw[if_pos h4,if_pos (by omega)];congr 1;omega
   ·rw[if_neg h4,if_neg (by omega)]
 ·rw[List.getElem?_take,if_neg hk,if_neg (by omega),if_neg (by omega),List.getElem?_take,if_neg hk]
theorem akb (cur c:List Value) (o a n:Nat) (h:o+c.length≤cur.length) (hd:a+n≤o∨o+c.length≤a):
  ((putCells cur o c).drop a).take n=(cur.drop a).take n:=by
 apply List.ext_getElem?
 intro k
 by_cases hk:k<n
 ·simp only[List.getElem?_take,if_pos hk,List.getElem?_drop]
  rw[gV _ _ _ _ h]
  by_cases h3:a+k<o
  ·rw[if_pos h3]
  ·rw[if_neg h3,if_neg (by omega)]
 ·simp only[List.getElem?_take,if_neg hk]
def aN:Path→Bool
 |[]=>true
 | .fst::p=>aN p
 | .snd::p=>aN p
 |_::_=>false
def aQ:Path→Ty→Nat
 | .fst::p,.pair a _=>aQ p a
 | .snd::p,.pair a b=>a.size+aQ p b
 |_,_=>0
def oO:Path→Ty→List Value→List Value→List Value
 |[],_,_,c=>c
 | .fst::p,.pair a _,cs,c=>oO p a (cs.take a.size) c++cs.drop a.size
 | .snd::p,.pair a b,cs,c=>cs.take a.size++oO p b (cs.drop a.size) c
 |_,_,cs,_=>cs
def kL (w w':World) (loc:Option (Nat×Nat)) (c:List Value) (g:Nat):Prop:=match loc with
 |some q=>if g=q.1 then ∃ cur T,w.heap[g]?=some (.cells cur T (0,0))∧w'.heap[g]?=some (.cells (putCells cur.toList q.2 c).toArray T (0,0)) else w'.heap[g]?=w.heap[g]?
 |none=>w'.heap[g]?=w.heap[g]?
theorem dY:∀ (p:Path) {t:Ty} {m:Md} {x:t.I} {b:TV},aN p=true→bd p t m x=some b→aQ p t+b.t.size≤t.size
 |[],t,m,x,b,_,hg=>by simp only[bd,Option.some.injEq] at hg;subst hg;simp[aQ]
 | .fst::p,.pair a b',m,x,b,hm,hg=>by
  simp only[bd] at hg
  have:=dY p (by simpa[aN] using hm) hg
  simp only[aQ,Ty.size];omega
 | .snd::p,.pair a b',m,x,b,hm,hg=>by
  simp only[bd] at hg
  have:=dY p (by simpa[aN] using hm) hg
  simp only[aQ,Ty.size];omega
theorem dZ:∀ (p:Path) {t:Ty} {cs:List Value},aN p=true→addrAt w p t cs none=none
 |[],_,_,_=>rfl
 | .fst::p,.pair a b,cs,h=>by simp only[addrAt];exact dZ p (by simpa[aN] using h)
 | .snd::p,.pair a b,cs,h=>by simp only[addrAt,Option.map_none];exact dZ p (by simpa[aN] using h)
 | .fst::p,.int _,_,_ | .fst::p,.bool,_,_ | .fst::p,.str,_,_ | .fst::p,.sl _,_,_ | .fst::p,.ptr _,_,_ | .fst::p,.unit,_,_ | .fst::p,.arr _ _,_,_=>by simp[addrAt]
 | .snd::p,.int _,_,_ | .snd::p,.bool,_,_ | .snd::p,.str,_,_ | .snd::p,.sl _,_,_ | .snd::p,.ptr _,_,_ | .snd::p,.unit,_,_ | .snd::p,.arr _ _,_,_=>by simp[addrAt]
theorem iJ:∀ (p:Path) {t:Ty} {m:Md} {x:t.I} {cs:List Value} {b:TV} {g o:Nat},aN p=true→bd p t m x=some b→addrAt w p t cs (some (g,o))=some (g,o+aQ p t)
 |[],_,_,_,_,_,_,_,_,_=>by simp[addrAt,aQ]
 | .fst::p,.pair a b,m,x,cs,_,_,_,h,hg=>by simp only[bd] at hg;simp only[addrAt,aQ];exact iJ p (by simpa[aN] using h) hg
 | .snd::p,.pair a b,m,x,cs,_,g,o,h,hg=>by
  simp only[bd] at hg;simp only[addrAt,aQ,Option.map_some]
  rw[iJ p (by simpa[aN] using h) hg,Nat.add_assoc]
theorem mM:∀ (p:Path) {t:Ty} {cs:List Value} (l l':Option (Nat×Nat)),aN p=false→addrAt w p t cs l=addrAt w p t cs l'
 |[],_,_,_,_,h=>by simp[aN] at h
 | .fst::p,.pair a b,cs,l,l',h=>by simp only[addrAt];exact mM p _ _ (by simpa[aN] using h)
 | .snd::p,.pair a b,cs,l,l',h=>by simp only[addrAt];exact mM p _ _ (by simpa[aN] using h)
 | .deref::p,.ptr t,cs,l,l',h=>by
  unfold addrAt
  split<;>simp_all
 | .idx i::p,.sl t,cs,l,l',h=>by
  unfold addrAt
  split<;>simp_all
 | .fst::p,.int _,_,_,_,_ | .fst::p,.bool,_,_,_,_ | .fst::p,.str,_,_,_,_ | .fst::p,.sl _,_,_,_,_ | .fst::p,.ptr _,_,_,_,_ | .fst::p,.unit,_,_,_,_ | .fst::p,.arr _ _,_,_,_,_=>by simp[addrAt]
 | .snd::p,.int _,_,_,_,_ | .snd::p,.bool,_,_,_,_ | .snd::p,.str,_,_,_,_ | .snd::p,.sl _,_,_,_,_ | .snd::p,.ptr _,_,_,_,_ | .snd::p,.unit,_,_,_,_ | .snd::p,.arr _ _,_,_,_,_=>by simp[addrAt]
 | .deref::p,.int _,_,_,_,_ | .deref::p,.bool,_,_,_,_ | .deref::p,.str,_,_,_,_ | .deref::p,.sl _,_,_,_,_ | .deref::p,.pair _ _,_,_,_,_ | .deref::p,.unit,_,_,_,_ | .deref::p,.arr _ _,_,_,_,_=>by simp[addrAt]
 | .idx _::p,.int _,_,_,_,_ | .idx _::p,.bool,_,_,_,_ | .idx _::p,.str,_,_,_,_ | .idx _::p,.ptr _,_,_,_,_ | .idx _::p,.pair _ _,_,_,_,_ | .idx _::p,.unit,_,_,_,_ | .idx _::p,.arr _ _,_,_,_,_=>by simp[addrAt]
theorem ey:∀ (p:Path) {t:Ty} {m:Md} {x:t.I} {cs:List Value} {b:TV},aN p=true→bd p t m x=some b→cs.length=t.size→aT w p t cs=some ((cs.drop (aQ p t)).take b.t.size)
 |[],t,m,x,cs,b,_,hg,hl=>by
  simp only[bd,Option.some.injEq] at hg;subst hg
  simp only[aT,aQ,List.drop_zero]
  rw[List.take_of_length_le (by show cs.length≤t.size;omega)]
 | .fst::p,.pair a b',m,x,cs,b,h,hg,hl=>by
  simp only[bd] at hg;simp only[Ty.size] at hl
  have hf:=dY p (by simpa[aN] using h) hg
  simp only[aT,aQ]
  rw[ey p (by simpa[aN] using h) hg (by rw[List.length_take];omega),List.drop_take,List.take_take]
  congr 2;omega
 | .snd::p,.pair a b',m,x,cs,b,h,hg,hl=>by
  simp only[bd] at hg;simp only[Ty.size] at hl
  simp only[aT,aQ]
  rw[ey p (by simpa[aN] using h) hg (by rw[List.length_drop];omega),List.drop_drop]
theorem kt:∀ (p:Path) {t:Ty} {m:Md} {x:t.I} {cs c:List Value} {b:TV},aN p=true→bd p t m x=some b→cs.length=t.size→c.length=b.t.size→oO p t cs c=putCells cs (aQ p t) c
 |[],t,m,x,cs,c,b,_,hg,hl,hc=>by
  simp only[bd,Option.some.injEq] at hg;subst hg
  simp only[oO,aQ,putCells,List.take_zero,List.nil_append,Nat.zero_add]
  rw[List.drop_of_length_le (by have hc':c.length=t.size:=hc;omega),List.append_nil]
 | .fst::p,.pair a b',m,x,cs,c,b,h,hg,hl,hc=>by
  simp only[bd] at hg;simp only[Ty.size] at hl
  have hf:=dY p (by simpa[aN] using h) hg
  simp only[oO,aQ]
  rw[kt p (by simpa[aN] using h) hg (by rw[List.length_take];omega) hc]
  unfold putCells
  rw[List.take_take,Nat.min_eq_left (by omega),List.append_assoc,List.append_assoc,List.append_assoc,List.drop_take]
  congr 2
  rw[show cs.drop a.size=(cs.drop (aQ p a+c.length)).drop (a.size - (aQ p a+c.length)) from by rw[List.drop_drop];congr 1;omega,List.take_append_drop]
 | .snd::p,.pair a b',m,x,cs,c,b,h,hg,hl,hc=>by
  simp only[bd] at hg;simp only[Ty.size] at hl
  simp only[oO,aQ]
  rw[kt p (by simpa[aN] using h) hg (by rw[List.length_drop];omega) hc]
  unfold putCells
  rw[←List.append_assoc,←List.append_assoc,←List.take_add,List.drop_drop]
  congr 2;omega
theorem jC:∀ (p:Path) {t:Ty} {cs c:List Value},aN p=false→oO p t cs c=cs
 |[],_,_,_,h=>by simp[aN] at h
 | .fst::p,.pair a b,cs,c,h=>by simp only[oO];rw[jC p (by simpa[aN] using h),List.take_append_drop]
 | .snd::p,.pair a b,cs,c,h=>by simp only[oO];rw[jC p (by simpa[aN] using h),List.take_append_drop]
 | .deref::p,t,cs,c,h=>by simp[oO]
 | .idx i::p,t,cs,c,h=>by simp[oO]
 | .fst::p,.int _,_,_,_ | .fst::p,.bool,_,_,_ | .fst::p,.str,_,_,_ | .fst::p,.sl _,_,_,_ | .fst::p,.ptr _,_,_,_ | .fst::p,.unit,_,_,_ | .fst::p,.arr _ _,_,_,_=>by simp[oO]
 | .snd::p,.int _,_,_,_ | .snd::p,.bool,_,_,_ | .snd::p,.str,_,_,_ | .snd::p,.sl _,_,_,_ | .snd::p,.ptr _,_,_,_ | .snd::p,.unit,_,_,_ | .snd::p,.arr _ _,_,_,_=>by simp[oO]
end Go.Pv
namespace Go.Pv
set_option linter.unusedVariables false
set_option linter.unusedSimpArgs false
variable {w w':World} {Wr qu:Nat→Prop} {H:Nat→Value}
def aAZ (w:World) (Wr:Nat→Prop) (H:Nat→Value) (p:Path) (t:Ty) (m:Md) (x:t.I) (cs:List Value) (ow cE:Nat→Prop) (hs:List Path) (b:TV) (cM:List Value):Prop:=
 ∀ (b2:TV) (r:Md×t.I),b2.t=b.t→fX b2 p t m x=some r→
  (∀ g off,addrAt w p t cs none=some (g,off)→ow g∧ ¬cE g∧∃ cur T,w.heap[g]?=some (.cells cur T (0,0))∧off+b.t.size≤cur.size∧cM=(cur.toList.drop off).take b.t.size)∧
  ∀ (w':World) (qu:Nat→Prop) (c:List Value) (jD:Nat→Prop) (nE:List Path),aU w w' Wr qu→c.length=b.t.size→
   (∀ g,ow g→¬cE g→g<w.heap.size→kL w w' (addrAt w p t cs none) c g)→M w' qu H b2.t b2.m b2.x c jD (wX p nE)→
   (∀ g,jD g→g<w.heap.size→ow g→cE g)→(∀ h,(∀ q,h≠p++q)→h∈hs→h∈nE)→
   M w' qu H t r.1 r.2 (oO p t cs c) (fun g=>(ow g∧ ¬cE g)∨jD g) nE
theorem lH {s:Step} {p:Path} {hs nE:List Path} (h:∀ h,(∀ q,h≠s::p++q)→h∈hs→h∈nE):∀ h,(∀ q,h≠p++q)→h∈sub s hs→h∈sub s nE:=fun q hq hm=>
 dk.2 (h _ (fun r e=>hq r (by rw[List.cons_append] at e;injection e)) (dk.1 hm))
theorem qS {s s':Step} (nH:s'≠s) {p:Path} {hs nE:List Path} (h:∀ h,(∀ q,h≠s::p++q)→h∈hs→h∈nE):∀ q∈sub s' hs,q∈sub s' nE:=fun q hq=>
 dk.2 (h _ (fun r e=>by rw[List.cons_append] at e;injection e with e _;exact nH e) (dk.1 hq))
theorem Eb {b2:TV} {i:Nat} {p:Path} {t:Ty} {T:TypeId} {tag:Option Nat} {me:Md} {xs:List t.I} {r:Md×List t.I} (h:fX b2 (.idx i::p) (.sl t) (.o T tag me) xs=some r):
  ∃ r1,fX b2 p t me (List.getD xs i t.z)=some r1∧r1.1=me∧r=(.o T tag me,List.set xs i r1.2):=by
 unfold fX at h
 split at h
 ·rename_i r1 h1
  split at h
  ·rename_i h2
   injection h with h
   exact⟨r1,h1,h2,h.symm⟩
  ·cases h
 ·cases h
theorem Aa:∀ (p:Path) {t:Ty} {m:Md} {x:t.I} {cs:List Value} {ow:Nat→Prop} {hs:List Path} {b:TV},M w Wr H t m x cs ow hs→open_ p hs→valid p t x→bd p t m x=some b→
  ∃ cM cE,aT w p t cs=some cM∧(∀ g,cE g→ow g)∧M w Wr H b.t b.m b.x cM cE (wX p hs)∧aAZ w Wr H p t m x cs ow cE hs b cM
 |[],t,m,x,cs,ow,hs,b,h,ho,hv,hg=>by
  simp only[bd,Option.some.injEq] at hg
  subst hg
  refine⟨cs,ow,rfl,fun _ h=>h,h,fun b2 r ht hr=>⟨fun g off e=>by simp[addrAt] at e,fun w' qu c jD nE b5 hc hb hm qO hh=>?_⟩⟩
  obtain⟨t2,m2,x2⟩:=b2
  simp only at ht
  subst ht
  simp only[fX,dite_true,Option.some.injEq] at hr
  subst hr
  exact aK (aU.refl _ _) t2 (fun _ _ _=>rfl) (fun g hg _=>.inr hg) (fun _ h=>h) hm
 | .deref::p,.ptr t,m,x,cs,ow,hs,b,h,ho,hv,hg=>by
  simp only[bd] at hg
  simp only[valid] at hv
  simp only[M] at h
  rcases h with⟨hn,_⟩ |⟨hk,h⟩ |⟨T,tag,me,g,cur,rfl,rfl,ht,qv,hw,h⟩
  ·exact absurd hn ho.not_nil
  ·obtain⟨cM,cE,h1,h2,h3⟩:=focus (H:=H) (ow:=ow) (.deref::p) (nG (t:=.ptr t) hk h) ho hv (by simpa only[bd] using hg)
   exact⟨cM,cE,h1,h2,h3,fun b2 r _ hr=>by cases m<;>simp[fX,Md.bP] at hr hk⟩
  ·have hlen:=(er t h).1
   obtain⟨cM,cE,h1,h2,h3,h4⟩:=Aa p h ho.sub hv hg
   have iD:0+t.size≤cur.size:=by rw[←hlen];simp
   have gE:rowAt w g 0 t.size=some cur.toList:=by rw[bA hw iD,List.drop_zero,List.take_of_length_le (by omega)]
   refine⟨cM,cE,?_,fun g hg=>(h2 g hg).1,h3,fun b2 r Ab hr=>?_⟩
   ·simp only[aT,gE,Option.bind_some];exact h1
   simp only[fX] at hr
   cases Rx:fX b2 p t me x with
   |none=>simp[Rx] at hr
   |some r1=>
    simp only[Rx,Option.some.injEq] at hr
    subst hr
    obtain⟨ha,ku⟩:=h4 b2 r1 Ab Rx
    have nI:addrAt w (.deref::p) (.ptr t) [.pointer (some ⟨g,0,none⟩)] none=addrAt w p t cur.toList (some (g,0)):=by simp only[addrAt,gE,Option.bind_some]
    cases MF:aN p with
    |true=>
     have du:=iJ (w:=w) (cs:=cur.toList) (g:=g) (o:=0) p MF hg
     have wY:=dY p MF hg
     have jq:=ey (w:=w) p MF hg hlen
     rw[h1] at jq
     injection jq with jq
     rw[nI,du]
     refine⟨fun g' off e=>?_,fun w' qu c jD nE b5 hc hb hm qO hh=>?_⟩
     ·injection e with e
      injection e with e1 e2
      subst e1 e2
      exact⟨qv,fun hx=>(h2 g hx).2 rfl,cur,T,hw,by rw[←hlen] at wY;simp at wY ⊢;omega,by rw[Nat.zero_add];exact jq⟩
     ·have cR:=bn hw
      have bp:=hb g qv (fun hx=>(h2 g hx).2 rfl) cR
      simp only[kL,if_true,Nat.zero_add] at bp
      obtain⟨fS,T2,e2,qT⟩:=bp
      rw[hw] at e2
      injection e2 with e2
      injection e2 with e2 e3
      subst e2 e3
      have hM:=ku w' qu c jD (sub .deref nE) b5 hc (fun g' ep qK hl=>by
       rw[dZ p MF]
       have:=hb g' ep.1 qK hl
       simp only[kL,ep.2,if_false] at this
       exact this) hm (fun g' ep hl qK=>qO g' ep hl qK.1) (lH hh)
      rw[kt p MF hg hlen hc] at hM
      simp only[oO,M]
      refine .inr (.inr ⟨T,tag,r1.1,g,_,rfl,rfl,ht,.inl ⟨qv,fun hx=>(h2 g hx).2 rfl⟩,qT,?_⟩)
      refine aK (aU.refl _ _) t (fun _ _ _=>rfl) (fun g' ep hl=>?_) (fun _ h=>h) hM
      rcases ep with⟨⟨a1,a2⟩,a3⟩ |a
      ·exact⟨.inl ⟨a1,a3⟩,a2⟩
      ·refine⟨.inr a,fun e=>?_⟩
       subst e
       exact(h2 g' (qO g' a cR qv)).2 rfl
    |false=>
     have du:=mM (w:=w) (t:=t) (cs:=cur.toList) p (some (g,0)) none MF
     rw[nI,du]
     refine⟨fun g' off e=>?_,fun w' qu c jD nE b5 hc hb hm qO hh=>?_⟩
     ·obtain⟨a1,a2,a3⟩:=ha g' off e
      exact⟨a1.1,a2,a3⟩
     ·have cR:=bn hw
      have hM:=ku w' qu c jD (sub .deref nE) b5 hc (fun g' ep qK hl=>hb g' ep.1 qK hl) hm (fun g' ep hl qK=>qO g' ep hl qK.1) (lH hh)
      rw[jC p MF] at hM
      have qT:w'.heap[g]?=some (.cells cur T (0,0)):=by
       have bp:=hb g qv (fun hx=>(h2 g hx).2 rfl) cR
       cases oP:addrAt w p t cur.toList none with
       |none=>rw[oP] at bp;exact bp.trans hw
       |some q=>
        rw[oP] at bp
        have nH:g≠q.1:=fun e=>(ha q.1 q.2 oP).1.2 e.symm
        simp only[kL,nH,if_false] at bp
        exact bp.trans hw
      simp only[oO,M]
      refine .inr (.inr ⟨T,tag,r1.1,g,_,rfl,rfl,ht,.inl ⟨qv,fun hx=>(h2 g hx).2 rfl⟩,qT,?_⟩)
      refine aK (aU.refl _ _) t (fun _ _ _=>rfl) (fun g' ep hl=>?_) (fun _ h=>h) hM
      rcases ep with⟨⟨a1,a2⟩,a3⟩ |a
      ·exact⟨.inl ⟨a1,a3⟩,a2⟩
      ·refine⟨.inr a,fun e=>?_⟩
       subst e
       exact(h2 g' (qO g' a cR qv)).2 rfl
 | .fst::p,.pair a b',m,x,cs,ow,hs,b,h,ho,hv,hg=>by
  simp only[bd] at hg
  simp only[valid] at hv
  have jE:∃ c0 c1,∃ s:Nat→Prop,cs=c0++c1∧M w Wr H a m.l x.1 c0 (fun g=>ow g∧s g) (sub .fst hs)∧M w Wr H b' m.r x.2 c1 (fun g=>ow g∧ ¬s g) (sub .snd hs):=by
   simp only[M] at h
   rcases h with⟨hn,_⟩ |⟨hk,h⟩ |⟨ma,mb,c0,c1,s,rfl,rfl,h0,h1⟩
   ·exact absurd hn ho.not_nil
   ·simp only[K] at h
    obtain⟨c0,c1,rfl,h0,h1⟩:=h
    exact⟨c0,c1,fun _=>True,rfl,nG (MH hk) h0,nG (MI hk) h1⟩
   ·exact⟨c0,c1,s,rfl,h0,h1⟩
  obtain⟨c0,c1,s,rfl,h0,h1⟩:=jE
  obtain⟨cM,cE,k1,k2,k3,k4⟩:=Aa p h0 ho.sub hv hg
  have l0:=(er a h0).1
  have ht:(c0++c1).take a.size=c0:=by rw[←l0,List.take_left]
  have hd:(c0++c1).drop a.size=c1:=by rw[←l0,List.drop_left]
  refine⟨cM,cE,by simp only[aT,ht];exact k1,fun g hg=>(k2 g hg).1,k3,fun b2 r Ab hr=>?_⟩
  simp only[fX] at hr
  cases Rx:fX b2 p a m.l x.1 with
  |none=>simp[Rx] at hr
  |some r1=>
   simp only[Rx,Option.some.injEq] at hr
   subst hr
   obtain⟨ha,ku⟩:=k4 b2 r1 Ab Rx
   have nI:addrAt w (.fst::p) (.pair a b') (c0++c1) none=addrAt w p a c0 none:=by simp only[addrAt,ht]
   rw[nI]
   refine⟨fun g' off e=>?_,fun w' qu c jD nE b5 hc hb hm qO hh=>?_⟩
   ·obtain⟨a1,a2,a3⟩:=ha g' off e
    exact⟨a1.1,a2,a3⟩
   ·have hM:=ku w' qu c jD (sub .fst nE) b5 hc (fun g' ep qK hl=>hb g' ep.1 qK hl) hm (fun g' ep hl qK=>qO g' ep hl qK.1) (lH hh)
    simp only[oO,ht,hd]
    refine wW (s:=fun g=>(s g∧ow g)∨jD g) ?_ ?_
    ·refine aK (aU.refl _ _) a (fun _ _ _=>rfl) (fun g' ep hl=>?_) (fun _ h=>h) hM
     rcases ep with⟨⟨a1,a2⟩,a3⟩ |q
     ·exact⟨.inl ⟨a1,a3⟩,.inl ⟨a2,a1⟩⟩
     ·exact⟨.inr q,.inr q⟩
    ·refine aK b5 b' (fun g' ep hl=>?_) (fun g' ep hl=>⟨.inl ⟨ep.1,fun hx=>ep.2 (k2 g' hx).2⟩,fun hx=>?_⟩) (qS (by decide) hh) h1
     ·have bp:=hb g' ep.1 (fun hx=>ep.2 (k2 g' hx).2) hl
      cases oP:addrAt w p a c0 none with
      |none=>rw[oP] at bp;exact bp
      |some q=>
       rw[oP] at bp
       have nH:g'≠q.1:=fun e=>ep.2 (by rw[e];exact(ha q.1 q.2 oP).1.2)
       simp only[kL,nH,if_false] at bp
       exact bp
     ·rcases hx with hx |hx
      ·exact ep.2 hx.1
      ·exact ep.2 (k2 g' (qO g' hx hl ep.1)).2
 | .snd::p,.pair a b',m,x,cs,ow,hs,b,h,ho,hv,hg=>by
  simp only[bd] at hg
  simp only[valid] at hv
  have jE:∃ c0 c1,∃ s:Nat→Prop,cs=c0++c1∧M w Wr H a m.l x.1 c0 (fun g=>ow g∧s g) (sub .fst hs)∧M w Wr H b' m.r x.2 c1 (fun g=>ow g∧ ¬s g) (sub .snd hs):=by
   simp only[M] at h
   rcases h with⟨hn,_⟩ |⟨hk,h⟩ |⟨ma,mb,c0,c1,s,rfl,rfl,h0,h1⟩
   ·exact absurd hn ho.not_nil
   ·simp only[K] at h
    obtain⟨c0,c1,rfl,h0,h1⟩:=h
    exact⟨c0,c1,fun _=>True,rfl,nG (MH hk) h0,nG (MI hk) h1⟩
   ·exact⟨c0,c1,s,rfl,h0,h1⟩
  obtain⟨c0,c1,s,rfl,h0,h1⟩:=jE
  obtain⟨cM,cE,k1,k2,k3,k4⟩:=Aa p h1 ho.sub hv hg
  have l0:=(er a h0).1
  have ht:(c0++c1).take a.size=c0:=by rw[←l0,List.take_left]
  have hd:(c0++c1).drop a.size=c1:=by rw[←l0,List.drop_left]
  refine⟨cM,cE,by simp only[aT,hd];exact k1,fun g hg=>(k2 g hg).1,k3,fun b2 r Ab hr=>?_⟩
  simp only[fX] at hr
  cases Rx:fX b2 p b' m.r x.2 with
  |none=>simp[Rx] at hr
  |some r1=>
   simp only[Rx,Option.some.injEq] at hr
   subst hr
   obtain⟨ha,ku⟩:=k4 b2 r1 Ab Rx
   have nI:addrAt w (.snd::p) (.pair a b') (c0++c1) none=addrAt w p b' c1 none:=by simp only[addrAt,hd,Option.map_none]
   rw[nI]
   refine⟨fun g' off e=>?_,fun w' qu c jD nE b5 hc hb hm qO hh=>?_⟩
   ·obtain⟨a1,a2,a3⟩:=ha g' off e
    exact⟨a1.1,a2,a3⟩
   ·have hM:=ku w' qu c jD (sub .snd nE) b5 hc (fun g' ep qK hl=>hb g' ep.1 qK hl) hm (fun g' ep hl qK=>qO g' ep hl qK.1) (lH hh)
    simp only[oO,ht,hd]
    refine wW (s:=fun g=>(s g∧ow g)∧ ¬jD g) ?_ ?_
    ·refine aK b5 a (fun g' ep hl=>?_) (fun g' ep hl=>⟨.inl ⟨ep.1,fun hx=>(k2 g' hx).2 ep.2⟩,⟨ep.2,ep.1⟩,fun hx=>(k2 g' (qO g' hx hl ep.1)).2 ep.2⟩) (qS (by decide) hh) h0
     have bp:=hb g' ep.1 (fun hx=>(k2 g' hx).2 ep.2) hl
     cases oP:addrAt w p b' c1 none with
     |none=>rw[oP] at bp;exact bp
     |some q=>
      rw[oP] at bp
      have nH:g'≠q.1:=fun e=>(ha q.1 q.2 oP).1.2 (by rw[←e];exact ep.2)
      simp only[kL,nH,if_false] at bp
      exact bp
    ·refine aK (aU.refl _ _) b' (fun _ _ _=>rfl) (fun g' ep hl=>?_) (fun _ h=>h) hM
     rcases ep with⟨⟨a1,a2⟩,a3⟩ |q
     ·exact⟨.inl ⟨a1,a3⟩,fun hx=>a2 hx.1.1⟩
     ·exact⟨.inr q,fun hx=>hx.2 q⟩
 | .idx i::p,.sl t,m,xs,cs,ow,hs,b,h,ho,hv,hg=>by
  simp only[bd] at hg
  have hv0:=hv
  simp only[valid] at hv
  obtain⟨hi,hv⟩:=hv
  have eH:List.getD xs i t.z=xs[i]:=by simp[List.getD_eq_getElem?_getD,List.getElem?_eq_getElem hi]
  simp only[M] at h
  rcases h with⟨hn,_⟩ |⟨hk,h⟩ |⟨T,tag,me,A,c,rfl,rfl,hc,ht,h⟩
  ·exact absurd hn ho.not_nil
  ·obtain⟨cM,cE,h1,h2,h3⟩:=focus (H:=H) (ow:=ow) (.idx i::p) (nG (t:=.sl t) hk h) ho hv0 (by simpa only[bd] using hg)
   exact⟨cM,cE,h1,h2,h3,fun b2 r _ hr=>by cases m<;>simp[fX,Md.bP] at hr hk⟩
  ·rcases h with⟨rfl,_⟩ |⟨g,cur,τ,rfl,qv,hw,iD,hm,h⟩
   ·simp at hi
   ·have azd:i*t.size+t.size≤cur.size:=by
     have h1:=Nat.mul_le_mul_right t.size (show i+1≤xs.length from hi)
     have h2:=Nat.mul_le_mul_right t.size hc
     rw[Nat.add_mul,Nat.one_mul] at h1
     omega
    have MJ:=h i hi
    rw[←eH] at MJ
    have hlen:=(er t MJ).1
    obtain⟨cM,cE,h1,h2,h3,h4⟩:=Aa p MJ ho.sub hv hg
    have gE:rowAt w g (0+i*t.size) t.size=some ((cur.toList.drop (i*t.size)).take t.size):=by rw[Nat.zero_add,bA hw azd]
    refine⟨cM,cE,?_,fun g hg=>(h2 g hg).1,h3,fun b2 r Ab hr=>?_⟩
    ·simp only[aT,gE,Option.bind_some];exact h1
    obtain⟨r1,Rx,hme,rfl⟩:=Eb hr
    obtain⟨ha,ku⟩:=h4 b2 r1 Ab Rx
    have nI:addrAt w (.idx i::p) (.sl t) [.slice (some ⟨g,0,none⟩) xs.length c] none=addrAt w p t ((cur.toList.drop (i*t.size)).take t.size) (some (g,i*t.size)):=by
     simp only[addrAt];rw[gE];simp only[Option.bind_some,Nat.zero_add]
    -- the other elements,and this one,behind the change
    have cR:=bn hw
    have rest:∀ (w':World) (qu:Nat→Prop) (c2:List Value) (jD:Nat→Prop) (nE:List Path) (fS:Array Value),aU w w' Wr qu→
      (∀ g',ow g'→g'≠g→¬cE g'→(∀ q,addrAt w p t ((cur.toList.drop (i*t.size)).take t.size) none=some q→g'≠q.1)→g'<w.heap.size→w'.heap[g']?=w.heap[g']?)→
      w'.heap[g]?=some (.cells fS T (0,0))→fS.size=cur.size→
      (∀ j,j<xs.length→j≠i→(fS.toList.drop (j*t.size)).take t.size=(cur.toList.drop (j*t.size)).take t.size)→
      M w' qu H t r1.1 r1.2 ((fS.toList.drop (i*t.size)).take t.size) (fun g'=>((ow g'∧g'≠g∧τ g'=i)∧ ¬cE g')∨jD g') (sub (.idx i) nE)→
      (∀ g',jD g'→g'<w.heap.size→ow g'→cE g')→(∀ h,(∀ q,h≠ .idx i::p++q)→h∈hs→h∈nE)→
      M w' qu H (.sl t) (.o T tag me) (List.set xs i r1.2) [.slice (some ⟨g,0,none⟩) xs.length c] (fun g'=>(ow g'∧ ¬cE g')∨jD g') nE:=by
     intro w' qu c2 jD nE fS b5 kx qT aA0 kM hM qO hh
     have hng: ¬cE g:=fun hx=>(h2 g hx).2.1 rfl
     simp only[M]
     refine .inr (.inr ⟨T,tag,me,some ⟨g,0,none⟩,c,rfl,by rw[List.length_set],by rw[List.length_set];exact hc,fun h hh=>by rw[List.length_set];exact ht h hh,.inr ⟨g,fS,fun g'=>open Classical in if jD g' then i else τ g',rfl,.inl ⟨qv,hng⟩,qT,by rw[aA0,iD],hm,fun j hj=>?_⟩⟩)
     rw[List.length_set] at hj
     by_cases lg:j=i
     ·subst lg
      rw[List.getElem_set_self,←hme]
      refine aK (aU.refl _ _) t (fun _ _ _=>rfl) (fun g' ep hl=>?_) (fun _ h=>h) hM
      rcases ep with⟨⟨a1,a2,a3⟩,a4⟩ |a
      ·exact⟨.inl ⟨a1,a4⟩,a2,by simp only;split<;>first |rfl |exact a3⟩
      ·refine⟨.inr a,fun e=>?_,by simp only;rw[if_pos a]⟩
       subst e
       exact hng (qO g' a cR qv)
     ·rw[List.getElem_set_ne (fun e=>lg e.symm),kM j hj lg]
      have aze:∀ g',(ow g'∧g'≠g∧τ g'=j)→g'<w.heap.size→¬jD g':=fun g' ep hl hx=>lg (by rw[←ep.2.2];exact(h2 g' (qO g' hx hl ep.1)).2.2)
      have azf:∀ g',(ow g'∧g'≠g∧τ g'=j)→¬cE g':=fun g' ep hx=>lg (by rw[←ep.2.2];exact(h2 g' hx).2.2)
      refine aK b5 t (fun g' ep hl=>kx g' ep.1 ep.2.1 (azf g' ep) (fun q hq e=>?_) hl) (fun g' ep hl=>⟨.inl ⟨ep.1,azf g' ep⟩,ep.2.1,?_⟩) (qS (by intro e;injection e with e;exact lg e) hh) (h j hj)
      ·have:=(ha q.1 q.2 hq).1.2.2
       rw[←e,ep.2.2] at this
       exact lg this
      ·simp only
       rw[if_neg (aze g' ep hl)]
       exact ep.2.2
    cases MF:aN p with
    |true=>
     have du:=iJ (w:=w) (cs:=(cur.toList.drop (i*t.size)).take t.size) (g:=g) (o:=i*t.size) p MF hg
     have wY:=dY p MF hg
     have jq:=ey (w:=w) p MF hg hlen
     rw[h1] at jq
     injection jq with jq
     rw[nI,du]
     refine⟨fun g' off e=>?_,fun w' qu c2 jD nE b5 hc2 hb hm2 qO hh=>?_⟩
     ·injection e with e
      injection e with e1 e2
      subst e1 e2
      refine⟨qv,fun hx=>(h2 g hx).2.1 rfl,cur,T,hw,by omega,?_⟩
      rw[jq,List.drop_take,List.drop_drop,List.take_take]
      congr 1
      omega
     ·have bp:=hb g qv (fun hx=>(h2 g hx).2.1 rfl) cR
      simp only[kL,if_true] at bp
      obtain⟨fS,T2,e2,qT⟩:=bp
      rw[hw] at e2
      injection e2 with e2
      injection e2 with e2 e3
      subst e2 e3
      have azg:i*t.size+aQ p t+c2.length≤cur.toList.length:=by rw[hc2,Array.length_toList];omega
      have hM:=ku w' qu c2 jD (sub (.idx i) nE) b5 hc2 (fun g' ep qK hl=>by
       rw[dZ p MF]
       have:=hb g' ep.1 qK hl
       simp only[kL,ep.2.1,if_false] at this
       exact this) hm2 (fun g' ep hl qK=>qO g' ep hl qK.1) (lH hh)
      rw[kt p MF hg hlen hc2] at hM
      refine rest w' qu c2 jD nE _ b5 (fun g' ep qK hg3 _ hl=>?_) qT (by rw[List.size_toArray,gW _ _ _ azg,Array.length_toList]) (fun j hj lg=>?_) ?_ qO hh
      ·have:=hb g' ep hg3 hl
       simp only[kL,qK,if_false] at this
       exact this
      ·rw[List.toList_toArray]
       refine akb _ _ _ _ _ azg ?_
       rcases Nat.lt_or_gt_of_ne lg with auk |auk
       ·left
        have:=Nat.mul_le_mul_right t.size (show j+1≤i from auk)
        rw[Nat.add_mul,Nat.one_mul] at this
        omega
       ·right
        have:=Nat.mul_le_mul_right t.size (show i+1≤j from auk)
        rw[Nat.add_mul,Nat.one_mul] at this
        rw[hc2]
        omega
      ·rw[List.toList_toArray,auj _ _ _ _ _ (by rw[hc2];omega) (by rw[Array.length_toList];omega)]
       exact hM
    |false=>
     have du:=mM (w:=w) (t:=t) (cs:=(cur.toList.drop (i*t.size)).take t.size) p (some (g,i*t.size)) none MF
     rw[nI,du]
     refine⟨fun g' off e=>?_,fun w' qu c2 jD nE b5 hc2 hb hm2 qO hh=>?_⟩
     ·obtain⟨a1,a2,a3⟩:=ha g' off e
      exact⟨a1.1,a2,a3⟩
     ·have hM:=ku w' qu c2 jD (sub (.idx i) nE) b5 hc2 (fun g' ep qK hl=>hb g' ep.1 qK hl) hm2 (fun g' ep hl qK=>qO g' ep hl qK.1) (lH hh)
      rw[jC p MF] at hM
      have same:∀ g',ow g'→¬cE g'→(∀ q,addrAt w p t ((cur.toList.drop (i*t.size)).take t.size) none=some q→g'≠q.1)→g'<w.heap.size→w'.heap[g']?=w.heap[g']?:=by
       intro g' ep qK hq hl
       have bp:=hb g' ep qK hl
       cases oP:addrAt w p t ((cur.toList.drop (i*t.size)).take t.size) none with
       |none=>rw[oP] at bp;exact bp
       |some q=>
        rw[oP] at bp
        simp only[kL,hq q oP,if_false] at bp
        exact bp
      have qT:w'.heap[g]?=some (.cells cur T (0,0)):=(same g qv (fun hx=>(h2 g hx).2.1 rfl) (fun q hq e=>(ha q.1 q.2 hq).1.2.1 e.symm) cR).trans hw
      exact rest w' qu c2 jD nE cur b5 (fun g' ep _ hg3 hq hl=>same g' ep hg3 hq hl) qT rfl (fun j hj lg=>rfl) hM qO hh
end Go.Pv
namespace Go.Pv
set_option linter.unusedVariables false
set_option linter.unusedSimpArgs false
structure aa where
 res:List TV
 refs:List TV
inductive Arg where
 |tv (a:TV)
 |fn (f:FuncId) (cy:List TV)
inductive Pass where
 |val |take |ns
 deriving DecidableEq
structure jr where
 sig:FuncId→List Pass
 run:FuncId→List Arg→(aa→Option aa)→Option aa
structure Entry where
 f:FuncId
 sig:List Pass
 run:List Arg→(aa→Option aa)→Option aa
def entry:List Entry→FuncId→Option Entry
 |[],_=>none
 |e::r,f=>bif Nat.beq e.f f then some e else entry r f
def jr.of (l:List Entry):jr where
 sig f:=match entry l f with
  |some e=>e.sig
  |none=>[]
 run f:=match entry l f with
  |some e=>e.run
  |none=>fun _ _=>none
inductive Ex where
 |n |x (id:Nat) |r
inductive CK where
 |kv (t:Ty) |pl (t:Ty) (s:Nat) (p:Path)
@[reducible] def Ee:List CK→Type
 |[]=>Unit
 | .kv t::r=>t.I×Ee r
 | .pl _ _ _::r=>Ee r
def lP:(cs:List CK)→Ee cs→List IF
 |[],_=>[]
 | .kv t::r,x=>.kv ⟨t,.k,x.1⟩::lP r x.2
 | .pl t s p::r,x=>.pl t s p::lP r x
def qU:(cs:List CK)→List IF→Option (Ee cs)
 |[],[]=>some ()
 | .kv t::r,.kv ⟨t',m',x⟩::S=>if h:t'=t then(if m'=.k then match qU r S with
   |some y=>some (h▸x,y)
   |none=>none else none) else none
 | .pl t s p::r,.pl t' s' p'::S=>if t'=t then(bif Nat.beq s' s then(if p'=p then qU r S else none) else none) else none
 |_,_=>none
inductive Kd where
 |dead |v (t:Ty) (m:Md) |al (t:Ty) (s:Nat) |ld (f:FuncId) (cs:List CK)
@[reducible] def qL:List Kd→Type
 |[]=>Unit
 | .v t _::r=>t.I×qL r
 | .dead::r=>qL r
 | .al _ _::r=>qL r
 | .ld _ cs::r=>Ee cs×qL r
def shape:(ks:List Kd)→qL ks→St
 |[],_=>[]
 | .v t m::r,x=>.v ⟨t,m,x.1⟩ []::shape r x.2
 | .dead::r,x=>.dead::shape r x
 | .al t s::r,x=>.al t s []::shape r x
 | .ld f cs::r,x=>.ld f (lP cs x.1)::shape r x.2
def proj:(ks:List Kd)→St→Option (qL ks)
 |[],[]=>some ()
 | .v t m::r,.v ⟨t',m',x⟩ []::S=>if h:t'=t then(if m'=m then match proj r S with
   |some y=>some (h▸x,y)
   |none=>none else none) else none
 | .dead::r,_::S=>proj r S
 | .al t s::r,.al t' s' []::S=>if t'=t then(bif Nat.beq s' s then proj r S else none) else none
 | .ld f cs::r,.ld f' cy::S=>bif Nat.beq f' f then(match qU cs cy,proj r S with
   |some y,some z=>some (y,z)
   |_,_=>none) else none
 |_,_=>none
def gu (all:List Kd):List Kd→Bool
 |[]=>true
 | .al _ s::r=>(match all[s]? with
  |some (.v _ _)=>true
  |_=>false)&&gu all r
 | .ld _ cs::r=>(cs.all fun c=>match c with
  | .kv _=>true
  | .pl _ s _=>match all[s]? with
   |some (.v _ _)=>true
   |_=>false)&&gu all r
 |_::r=>gu all r
inductive OT where
 |done |one (i:Nat) (t:OT) |any (l:List Nat) (t:OT) |par (l:List Nat) (ds:List (List Nat)) (t:OT) |own (d:Nat) (t:OT)
def OT.seq:List Nat→OT→OT
 |[],t=>t
 |i::r,t=>.one i (OT.seq r t)
structure Hint where
 tab:de
 hn:Hn:=[]
 loops:List (Nat×List Kd):=[]
 outs:List (Nat×Nat×List Kd):=[]
 bj:List (Nat×OT):=[]
 uj:Option (Nat×Bool):=none
 frz:List (Nat×List (Nat×Path)):=[]
def MK:Path→Bool
 |[]=>true | .idx _::_=>false |_::p=>MK p
def St.aul (S:St) (q:Nat×Path):St:=match S.at q.1 with
 | .v r []=>match bd q.2 r.t r.m r.x with
  |some b=>bif b.m.bP|| !MK q.2 then S else(match q.2 with
   |[]=>S.put (some q.1) (.v (RG r) [])
   |_=>(match fX (RG b) q.2 r.t r.m r.x with
    |some (m,z)=>St.put (((S.weaken q.1).cover q.1 q.2).set q.1 (.v r [q.2])) (some q.1) (.v ⟨r.t,m,z⟩ [])
    |none=>S))
  |none=>S
 |_=>S
def Z2:List (Nat×List (Nat×Path))→Nat→St→St
 |[],_,S=>S
 |q::r,id,S=>bif Nat.beq q.1 id then q.2.foldl St.aul S else Z2 r id S
def nJ:List (Nat×List Kd)→Nat→Option (List Kd)
 |[],_=>none
 |q::r,k=>bif Nat.beq q.1 k then some q.2 else nJ r k
def akc (S:St) (i:Nat):Kd→St
 | .v _ m=>bif m.bP then S else match S.at i with
  | .al t s []=>(match S.dD (.tmp i) (.al t s []) with
   |some (a,S1)=>S1.put (some i) (.v a [])
   |none=>S)
  |_=>S
 |_=>S
def RI:List Kd→Nat→St→St
 |[],_,S=>S
 |k::r,i,S=>RI r (i+1) (akc S i k)
def sA (ks:List Kd) (S:St):Option St:=bif gu ks ks then(match proj ks (RI ks 0 S) with
  |some x=>some (shape ks x)
  |none=>none) else none
def Hint.clean (h:Hint) (key:Nat) (S:St):Option St:=match nJ h.loops key with
 |some ks=>sA ks S
 |none=>none
def Ex.num:Ex→Nat
 | .n=>0 | .r=>1 | .x id=>id+2
def asM:List (Nat×Nat×List Kd)→Nat→Nat→Option (List Kd)
 |[],_,_=>none
 |q::r,k,e=>bif Nat.beq q.1 k&&Nat.beq q.2.1 e then some q.2.2 else asM r k e
def Hs (S:St):IF→Option TV
 | .pl _ s p=>match S.place s p with
  |some a=>some (RG a)
  |none=>none
 | .kv a=>some a
def oQ (S:St):List IF→Option (List TV)
 |[]=>some []
 |c::r=>match Hs S c,oQ S r with
  |some a,some l=>some (a::l)
  |_,_=>none
def fM (Θ:de):St→List Operand→List TypeId→List Pass→Option (List (Option TV)×St)
 |S,[],_,_=>some ([],S)
 |S,x::xs,T::Ts,p::ps=>match p with
  | .val=>match fM Θ S xs Ts ps with
   |some r=>some (none::r.1,r.2)
   |none=>none
  | .take=>match S.take Θ T x with
   |some (a,S1)=>match fM Θ S1 xs Ts ps with
    |some r=>some (some a::r.1,r.2)
    |none=>none
   |none=>none
  | .ns=>none
 |_,_,_,_=>none
def reads (Θ:de) (S:St):List Operand→List TypeId→List (Option TV)→Option (List Arg)
 |[],_,_=>some []
 |x::xs,T::Ts,p::ps=>match p with
  |some a=>match reads Θ S xs Ts ps with
   |some r=>some (.tv a::r)
   |none=>none
  |none=>match S.dP Θ T x with
   |some (.ld f cy)=>match oQ S cy,reads Θ S xs Ts ps with
    |some l,some r=>some (.fn f l::r)
    |_,_=>none
   |some av=>match S.sy av,reads Θ S xs Ts ps with
    |some a,some r=>some (.tv (RG a)::r)
    |_,_=>none
   |none=>none
 |_,_,_=>none
def Ht:List TV→AV
 |[a]=>.v a []
 |l=>.tz (l.map some)
def Wx (a:TV):Bool:=match a.t with
 | .ptr _=>a.m.bP
 |_=>false
def qV (S:St) (f:FuncId):Option Nat→Option (List TV)
 |none=>some []
 |some i=>match S.at i with
  | .ld f' cy=>bif Nat.beq f' f then(match oQ S cy with
   |some l=>bif l.all Wx then some l else none
   |none=>none) else none
  |_=>none
def qw:Md→Bool
 | .k=>true | .o _ tag m=>(match tag with
  |none=>true
  |some _=>false)&&qw m
 | .p a b=>qw a&&qw b
def gX:Ty→Bool
 | .sl _=>false | .ptr _=>false | .pair a b=>gX a&&gX b | .arr _ t=>gX t |_=>true
def fw:Ty→Md→Bool
 | .sl t,.o _ _ m=>fw t m
 | .ptr t,.o _ _ m=>fw t m
 | .pair a b,.p m n=>fw a m&&fw b n
 |t,m=>m.bP&&gX t
def tJ (S:St):Operand→Bool
 | .tmp i=>(match S.at i with
  | .v b []=>b.m.bP
  |_=>false)
 | .const _=>true
 |_=>false
def iK (S:St):List Operand→List (Option TV)→List Arg→Bool
 |[],_,_=>true
 |x::xs,p::ps,r::rs=>((match p with
  |some _=>true
  |none=>false)||(match r with
  | .tv b=>fw b.t b.m||tJ S x
  | .fn _ cs=>cs.isEmpty))&&iK S xs ps rs
 |_,_,_=>false
def gF (h:Hint) (O:jr) (o:Oper) (f:FuncId) (cal:Option Nat) (args:List Operand) (ts:List TypeId) (S:St) (K:St→Option aa):Option aa:=
 match fM h.tab S args ts (O.sig f) with
 |some (l,S1)=>match reads h.tab S1 args ts l,qV S1 f cal with
  |some as,some cs=>O.run f (as++cs.map .tv) fun ret=>match ret.refs with
   |[]=>bif ret.res.all (fun d=>fw d.t d.m)||(cs.isEmpty&&iK S1 args l as) then K (S1.put o.dst (Ht ret.res)) else none
   |_::_=>none
  |_,_=>none
 |none=>none
def eM:Ty→Md→Bool
 | .sl _,.o _ _ m=>qw m
 | .ptr _,.o _ _ m=>qw m
 | .pair a b,.p m n=>eM a m&&eM b n
 |_,m=>m.bP
def qW:Ty→Md→Bool
 | .sl t,.o _ _ m=>fw t m
 | .ptr t,.o _ _ m=>fw t m
 | .pair a b,.p m n=>qW a m&&qW b n
 |_,m=>m.bP
def iL:Ty→Md→Nat→Md
 | .sl _,.o T _ m,n=>.o T (some n) m
 | .ptr _,.o T _ m,n=>.o T (some n) m
 | .pair a b,.p ma mb,n=>.p (iL a ma n) (iL b mb (n+a.size))
 |_,m,_=>m
def fe:(t:Ty)→Md→t.I→t.I→t.I
 | .sl _,.o ..,_,y=>y
 | .ptr _,.o ..,_,y=>y
 | .pair a b,.p ma mb,x,y=>(fe a ma x.1 y.1,fe b mb x.2 y.2)
 |_,_,x,_=>x
def uk:List Pass→Nat→Option Nat
 |[],_=>none
 | .ns::_,j=>some j
 |_::r,j=>uk r (j+1)
def jF (x:Operand):AV→Option (Nat×Path)
 | .v _ _=>match x with
  | .tmp i=>some (i,[])
  |_=>none
 | .al _ s p=>some (s,p)
 |_=>none
def St.oS (S:St) (s:Nat) (b:TV):Path→Option St
 |[]=>some (S.put (some s) (.v b []))
 |p=>match S.at s with
  | .v r ex=>match fX b p r.t r.m r.x with
   |some (m,z)=>some (S.put (some s) (.v ⟨r.t,m,z⟩ ex.dropLast))
   |none=>none
  |_=>none
def qX (h:Hint) (O:jr) (o:Oper) (f:FuncId) (j:Nat) (args:List Operand) (ts:List TypeId) (S:St) (K:St→Option aa):Option aa:=
 match args[j]?,ts[j]? with
 |some x,some T=>match S.dP h.tab T x with
  |some av=>match jF x av,S.dD x av with
   |some (s,p),some (b,S1)=>bif !b.m.bP&&eM b.t b.m then
     (match reads h.tab S1 args ts ((List.replicate args.length none).set j (some ⟨b.t,iL b.t b.m 0,b.x⟩)) with
     |some as=>bif qW b.t b.m||iK S1 args ((List.replicate args.length none).set j (some ⟨b.t,iL b.t b.m 0,b.x⟩)) as then O.run f as fun ret=>match ret.refs with
      |[c]=>bif ret.res.all (fun d=>fw d.t d.m&&qw d.m) then(if hc:c.t=b.t then(if c.m=iL b.t b.m 0 then
        (match S1.oS s ⟨b.t,b.m,fe b.t b.m b.x (hc▸c.x)⟩ p with
        |some S2=>K (S2.put o.dst (Ht ret.res))
        |none=>none) else none) else none) else none
      |_=>none else none
     |none=>none) else none
   |_,_=>none
  |none=>none
 |_,_=>none
noncomputable def both (a b:Option aa):Option aa:=open Classical in if a=b then a else none
theorem lI (a:Option aa):both a a=a:=by simp[both]
theorem Z3 {a b:Option aa} {r:aa} (h:both a b=some r):a=some r∧b=some r:=by
 unfold both at h
 split at h
 ·rename_i e;exact⟨h,by rw[←e];exact h⟩
 ·cases h
noncomputable def Wy (h:Hint) (dst:Option Nat) (T:TypeId) (eq:Bool) (x:Operand) (S:St) (K:St→Option aa):Option aa:=match S.rd h.tab 0 x with
 |some ⟨.sl t,_,xs⟩=>bif h.tab.is T (.sl t) then(bif List.isEmpty xs then both (K (S.put dst (.v ⟨.bool,.k,true⟩ []))) (K (S.put dst (.v ⟨.bool,.k,false⟩ []))) else K (S.put dst (.v ⟨.bool,.k,!eq⟩ []))) else none
 |_=>none
def oT:Op→Bool
 | .binOp _ _ _ (.const (.slice none _ _)) _=>true
 |_=>false
noncomputable def gG (h:Hint) (O:jr) (o:Oper) (S:St) (K:St→Option aa):Option aa:=match o.op with
 | .call { callee:=.value (.func f),args:=as,argTypes:=ts }=>match uk (O.sig f) 0 with
  |some j=>qX h O o f j as.toList ts.toList S K
  |none=>gF h O o f none as.toList ts.toList S K
 | .call { callee:=.value (.tmp i),args:=as,argTypes:=ts }=>match S.at i with
  | .ld f _=>gF h O o f (some i) as.toList ts.toList S K
  |_=>none
 | .binOp .eql T x (.const (.slice none 0 0)) _=>Wy h o.dst T true x S K
 | .binOp .neq T x (.const (.slice none 0 0)) _=>Wy h o.dst T false x S K
 |_=>match ev h.tab h.hn S o with
  |some (g,S1)=>bif g then K S1 else none
  |none=>none
noncomputable def aW (h:Hint) (O:jr) (ops:Array Oper) (i:Nat) (S:St) (K:St→Option aa):Option aa:=match ops[i]? with
 |none=>none
 |some o=>match o.guard with
  |none=>gG h O o S K
  |some (j,want)=>match (ops[j]?).bind (·.dst) with
   |some d=>match S.at d with
    | .v ⟨.bool,m,q⟩ ex=>bif q then
      (bif want then gG h O o (S.set d (.v ⟨.bool,m,true⟩ ex)) K else K (St.put (S.set d (.v ⟨.bool,m,true⟩ ex)) o.dst .undef))
     else(bif want then K (St.put (S.set d (.v ⟨.bool,m,false⟩ ex)) o.dst .undef) else gG h O o (S.set d (.v ⟨.bool,m,false⟩ ex)) K)
    | .undef=>K (S.put o.dst .undef)
    |_=>none
   |none=>none
noncomputable def mO (h:Hint) (O:jr) (ops:Array Oper):List Nat→St→(St→Option aa)→Option aa
 |[],S,K=>K S
 |i::r,S,K=>aW h O ops i S (fun S1=>mO h O ops r S1 K)
def gK (S:St):Operand→Bool
 | .tmp i=>(match S.at i with
  | .v _ []=>true
  |_=>false)
 | .const _=>true
 |_=>false
def RJ (S:St):Operand→Bool
 | .tmp i=>(match S.at i with
  | .v ⟨_,.k,_⟩ []=>true
  |_=>false)
 | .const _=>true
 |_=>false
def Cl (S:St):Option Operand→Bool
 |none=>true
 |some x=>gK S x
def ac7 (O:jr) (f:FuncId):Bool:=(O.sig f).all fun p=>match p with
 | .val=>true
 |_=>false
def ac8 (ops:Array Oper) (x:Nat):Option Nat:=ops.toList.findSome? fun o=>match o.dst,o.op with
 |some d,.fieldAddr _ (.tmp s) _=>bif Nat.beq d x then some s else none
 |_,_=>none
def jx (O:jr) (ops:Array Oper) (S:St) (o:Oper):Bool:=(match o.guard with
  |none=>true
  |some _=>false)&&(match o.dst with
  |some d=>!(S.at d).z8&&Nat.blt d S.length
  |none=>false)&&(match o.op with
  | .call { callee:=.value (.func f),args:=as,.. }=>ac7 O f&&as.toList.all (gK S)
  | .call { callee:=.builtin .append,args:=as,.. }=>as.toList.all (gK S)
  | .buildSlice _ _ ps=>ps.toList.all fun q=>gK S q.2
  | .load _ (.tmp x)=>(match ac8 ops x,S.at x with
   |some s,.ad _ s' p=>Nat.beq s' s&&(match S.c9 s p with
    |some a=>a.m.bP
    |none=>false)
   |none,.v ⟨.ptr _,.k,_⟩ []=>true
   |none,.v ⟨.ptr _,.o ..,_⟩ []=>(match S.c9 x [.deref] with
    |some a=>a.m.bP
    |none=>false)
   |_,_=>false)
  | .slice _ x lo hi none=>RJ S x&&(Cl S lo&&Cl S hi)
  | .indexAddr _ x ix=>RJ S x&&gK S ix
  |_=>false)
noncomputable def mP (h:Hint) (O:jr) (ops:Array Oper):List Nat→St→(St→Option aa)→Option aa
 |[],S,K=>K S
 |i::r,S,K=>match ops[i]? with
  |some o=>bif jx O ops S o then aW h O ops i S (fun S1=>mP h O ops r S1 K) else none
  |none=>none
def slotsOf:AV→List Nat
 | .al _ s _=>[s] | .ad _ s _=>[s] | .cut _ s _ _ _=>[s]
 | .ld _ cy=>cy.filterMap fun c=>match c with
  | .pl _ s _=>some s
  | .kv _=>none
 |_=>[]
def jY (Δ:Nat→Bool):St→Nat→Bool
 |[],_=>true
 |a::r,i=>((slotsOf a).all fun s=>Δ i==Δ s)&&jY Δ r (i+1)
def lJ (Δ:Nat→Bool):Operand→Bool
 | .tmp i=>Δ i
 | .const _=>true
 | .func _=>true
 | .global _=>false
def akd (Δ:Nat→Bool) (o:Oper):Bool:=match o.dst,o.op with
 |some d,.store ..=>false
 |some d,_=>Δ d
 |none,.store ..=>true
 |none,_=>false
def dM (Δ:Nat→Bool) (o:Oper):Bool:=(match o.guard with
  |none=>true
  |some _=>false)&&akd Δ o&&(match o.op with
 | .store _ x y=>lJ Δ x&&lJ Δ y
 | .makeSlice _ l c=>lJ Δ l&&lJ Δ c
 | .alloc _=>true
 | .buildSlice _ _ ps=>ps.toList.all fun q=>lJ Δ q.2
 | .load _ x=>lJ Δ x
 | .move x=>lJ Δ x
 | .extract x _=>lJ Δ x
 | .binOp _ _ x y _=>lJ Δ x&&(lJ Δ y&& !oT o.op)
 | .fieldAddr _ x _=>lJ Δ x
 | .indexAddr _ x ix=>lJ Δ x&&lJ Δ ix
 | .convert _ _ x=>lJ Δ x
 | .call { callee:=.builtin .append,args:=as,.. }=>as.toList.all (lJ Δ)
 | .call { callee:=.value (.func _),args:=as,.. }=>as.toList.all (lJ Δ)
 |_=>false)
def Z4 (l:List Nat) (i:Nat):Bool:=l.any (Nat.beq i)
def RK (l:List Nat) (i:Nat):Bool:=!Z4 l i
def kN (ds:List (List Nat)) (S:St):Bool:=ds.all fun d=>jY (Z4 d) S 0
def Ef (ds:List (List Nat)) (o:Oper):Bool:=ds.all fun d=>dM (Z4 d) o||dM (RK d) o
def Z5 (ds:List (List Nat)) (oi oj:Oper):Bool:=ds.any fun d=>(dM (Z4 d) oi&&dM (RK d) oj)||(dM (RK d) oi&&dM (Z4 d) oj)
def exB (oi oj:Oper):Bool:=match oi.guard,oj.guard,oi.dst,oj.dst,oi.op,oj.op with
 |none,none,some a,some b,.extract (.tmp x) p,.extract (.tmp y) q=>Nat.beq x y&&(!Nat.beq p q&&(!Nat.beq a b&&(!Nat.beq a x&& !Nat.beq b x)))
 |_,_,_,_,_,_=>false
def Wz (S:St) (d:Nat):Option (Bool×St):=match S.at d with
 | .al _ s (st::pp)=>(match S.at s with
  | .v r ex=>(match bd (st::pp) r.t r.m r.x with
   |some b=>bif b.m.bP then none else some (ex.all (fun h=>!oI h (st::pp)),St.put (((S.weaken s).cover s (st::pp)).set s (.v r (ex++[st::pp]))) (some d) (.v b []))
   |none=>none)
  |_=>none)
 |_=>none
noncomputable def ff (h:Hint) (O:jr) (ops:Array Oper):OT→St→(St→Option aa)→Option aa
 | .done,S,K=>K S
 | .one i t,S,K=>aW h O ops i S (fun S1=>ff h O ops t S1 K)
 | .any l t,S,K=>mP h O ops l S (fun S1=>ff h O ops t S1 K)
 | .own d t,S,K=>match Wz S d with
  |some (g,S1)=>bif g then ff h O ops t S1 K else none
  |none=>none
 | .par l ds t,S,K=>bif kN ds S then mO h O ops l S (fun S1=>ff h O ops t S1 K) else none
def quiet:Op→Bool
 | .move _=>true | .assign _=>true | .pick ..=>true | .build ..=>true | .load ..=>true | .nilCheck _=>true | .fieldAddr ..=>true | .field ..=>true | .indexAddr ..=>true | .index ..=>true
 | .extract ..=>true | .slice ..=>true | .convert ..=>true | .binOp ..=>true | .unOp ..=>true | .makeFunc ..=>true | .call { callee:=.builtin .len,.. }=>true |_=>false
def Du (O:jr):Op→Bool
 | .alloc _=>true | .box ..=>true | .buildSlice ..=>true | .makeSlice ..=>true
 | .call { callee:=.value (.func f),.. }=>(O.sig f).all fun p=>match p with
  | .val=>true
  |_=>false
 |o=>quiet o
def still:Op→Bool
 | .extract ..=>true | .indexAddr ..=>true | .binOp ..=>true | .slice ..=>true | .move _=>true | .convert ..=>true | .fieldAddr ..=>true | .call { callee:=.builtin .len,.. }=>true |_=>false
def Ac (Θ:de) (o:Op):Bool:=still o&& !oT o&&(match o with
 | .convert _ T' _=>(match Θ.find T' with
  |some i=>(match i.ty with
   | .int _=>true
   |_=>false)
  |none=>false)
 |_=>true)
def jG (ops:Array Oper) (oi:Oper) (rest:Nat):List Oper→Nat→Bool
 |[],_=>true
 |oj::r,j=>(bif Nat.testBit rest j then oi.apart ops oj else true)&&jG ops oi rest r (j+1)
def bg (o:Oper):Nat:=o.after.toList.foldr (fun e m=>bif Region.binds .any e then m|||2^e.on else m) 0
def bw (i:Nat):List Nat→Nat→Nat→Nat
 |[],_,acc=>acc
 |m::r,j,acc=>bw i r (j+1) (bif Nat.beq j i|| !(Nat.beq (m&&&acc) 0) then acc|||2^j else acc)
def wZ (O:jr) (ops:Array Oper) (oi:Oper) (rest:Nat):List Oper→Nat→Bool
 |[],_=>true
 |oj::r,j=>(bif Nat.testBit rest j then oi.apart ops oj&&Du O oj.op else true)&&wZ O ops oi rest r (j+1)
def ac9 (Θ:de) (O:jr) (ops:Array Oper) (as:List Nat) (full L i:Nat):Bool:=match as[i]?,ops[i]? with
 |some m,some oi=>!Nat.testBit L i&&Nat.beq (m&&&L) m&&Nat.beq (bw i as 0 0&&&L) 0&&(Nat.beq (full^^^(bw i as 0 0|||L)) 0||(quiet oi.op&&(!oT oi.op&&wZ O ops oi (full^^^(bw i as 0 0|||L)) ops.toList 0))||(Ac Θ oi.op&&jG ops oi (full^^^(bw i as 0 0|||L)) ops.toList 0))
 |_,_=>false
def aS:Operand→List Nat
 | .tmp i=>[i]
 |_=>[]
def eN:Option Operand→List Nat
 |none=>[]
 |some x=>aS x
def aV (ops:Array Oper) (o:Oper):List Nat:=match o.op with
 | .call c=>c.args.toList.flatMap aS
 | .buildSlice _ _ ps=>ps.toList.flatMap fun q=>aS q.2
 | .load _ (.tmp x)=>(match ac8 ops x with
  |some s=>[x,s]
  |none=>[x])
 | .slice _ x lo hi _=>aS x++(eN lo++eN hi)
 | .indexAddr _ x ix=>aS x++aS ix
 |_=>[]
def jy (o:Oper):Bool:=match o.op with
 | .call { callee:=.value (.func _),.. }=>true
 | .load ..=>true
 | .slice ..=>true
 | .indexAddr ..=>true
 |_=>false
def Hu (ops:Array Oper) (oi oj:Oper):Bool:=(match oi.dst,oj.dst with
  |some a,some b=>!Nat.beq a b&& !(aV ops oj).any (Nat.beq a)&& !(aV ops oi).any (Nat.beq b)
  |_,_=>false)&&((jy oi&&jy oj)|| !(aV ops oi).any fun r=>(aV ops oj).any (Nat.beq r))
def Eg (ops:Array Oper) (as:List Nat):List Nat→Bool
 |[]=>true
 |i::r=>(r.all fun j=>match as[j]?,ops[i]?,ops[j]? with
   |some m,some oi,some oj=>!Nat.beq i j&&(Nat.testBit m i||Hu ops oi oj)
   |_,_,_=>false)&&Eg ops as r
def dS (l:List Nat):Nat:=l.foldr (fun i m=>m|||2^i) 0
def lQ (as:List Nat):Nat→List Nat→Bool
 |_,[]=>true
 |L,i::r=>(match as[i]? with
  |some m=>Nat.beq (m&&&L) m
  |none=>false)&&lQ as (L|||2^i) r
def ake (ops:Array Oper) (as:List Nat) (full L:Nat) (l:List Nat):Bool:=
 !l.isEmpty&&(l.all fun i=>Nat.blt i ops.size&& !Nat.testBit L i&&Nat.beq (bw i as 0 0&&&L) 0&&Nat.beq (full^^^(bw i as 0 0|||L|||dS l)) 0)&&Eg ops as l&&lQ as L l
def qY (ops:Array Oper) (as:List Nat) (ds:List (List Nat)):List Nat→Bool
 |[]=>true
 |i::r=>(r.all fun j=>match ops[i]?,ops[j]? with
   |some oi,some oj=>!Nat.beq i j&&(Nat.testBit (bw i as 0 0) j||(Z5 ds oi oj||exB oi oj))
   |_,_=>false)&&qY ops as ds r
def ac' (Θ:de) (ops:Array Oper) (as:List Nat) (full L i:Nat):Bool:=match ops[i]? with
 |some oi=>Ac Θ oi.op&&jG ops oi (full^^^(full&&&(bw i as 0 0|||L|||bg oi))) ops.toList 0
 |none=>false
def akf (Θ:de) (ops:Array Oper) (as:List Nat) (full L:Nat) (l:List Nat) (ds:List (List Nat)):Bool:=
 !l.isEmpty&&(l.all fun i=>Nat.blt i ops.size&& !Nat.testBit L i&&Nat.beq (bw i as 0 0&&&L) 0&&(Nat.beq (full^^^(bw i as 0 0|||L|||dS l)) 0||ac' Θ ops as full L i))&&qY ops as ds l&&lQ as L l&&l.all fun i=>match ops[i]? with
  |some o=>Ef ds o&& !oT o.op
  |none=>false
def fx (Θ:de) (O:jr) (ops:Array Oper) (as:List Nat) (full:Nat):Nat→OT→Bool
 |L,.done=>Nat.beq L full
 |L,.one i t=>ac9 Θ O ops as full L i&&fx Θ O ops as full (L|||2^i) t
 |L,.any l t=>ake ops as full L l&&fx Θ O ops as full (L|||dS l) t
 |L,.own _ t=>fx Θ O ops as full L t
 |L,.par l ds t=>akf Θ ops as full L l ds&&fx Θ O ops as full (L|||dS l) t
def OT.len:OT→Nat
 | .done=>0 | .one _ t=>t.len+1 | .any l t=>t.len+l.length | .par l _ t=>t.len+l.length | .own _ t=>t.len
def aum (Θ:de) (O:jr) (ops:Array Oper) (l:OT):Bool:=Region.noSelect ops&&Nat.ble l.len ops.size&&fx Θ O ops (ops.toList.map bg) (2^ops.size - 1) 0 l
def Cm (S:St):St:=S.map fun a=>match a with
 | .al t s []=>.al t s []
 | .al ..=>.dead
 | .ad ..=>.dead
 | .cut ..=>.dead
 |a=>a
def ada:List (Nat×OT)→Nat→Option OT
 |[],_=>none
 |q::r,k=>bif Nat.beq q.1 k then some q.2 else ada r k
def eO (h:Hint) (O:jr):Code→Bool
 | .region id ops true=>(match ada h.bj id with
  |some l=>aum h.tab O ops l
  |none=>true)
 | .seq a b=>eO h O a&&eO h O b
 | .cond _ a b=>eO h O a&&eO h O b
 | .block _ c=>eO h O c
 | .loop c=>eO h O c
 |_=>true
def keyOf:Code→Nat
 | .region id _ _=>id
 | .seq a _=>keyOf a
 | .block _ c=>keyOf c
 | .loop c=>keyOf c
 |_=>0
def nK (ops:Array Oper):Bool:=ops.toList.all fun o=>!oT o.op
def fK:Code→Bool
 | .region _ ops _=>nK ops
 | .seq a b=>fK a&&fK b
 | .cond _ a b=>fK a&&fK b
 | .block _ c=>fK c
 | .loop c=>fK c
 |_=>true
abbrev Ks:=Ex→St→Option aa
def Hint.fy (h:Hint) (key:Nat) (K:Ks):Ks:=fun e S=>match asM h.outs key e.num with
 |some ks=>(match sA ks S with
  |some S1=>K e S1
  |none=>none)
 |none=>none
noncomputable def pe (h:Hint) (O:jr) (L:Nat→St→Ks→Option aa):Code→St→Ks→Option aa
 | .skip,S,K=>K .n S
 | .region id ops false,S,K=>mO h O ops (List.range ops.size) S (fun S1=>K .n (Z2 h.frz id (Cm S1)))
 | .region id ops true,S,K=>match ada h.bj id with
  |some l=>ff h O ops l S (fun S1=>K .n (Z2 h.frz id (Cm S1)))
  |none=>none
 | .seq a b,S,K=>pe h O L a S (fun e S1=>match e with
  | .n=>pe h O L b S1 K
  |e=>K e S1)
 | .cond c x y,S,K=>match S.rd h.tab 0 c with
  |some ⟨.bool,_,q⟩=>bif q then pe h O L x S K else pe h O L y S K
  |_=>none
 | .block id c,S,K=>pe h O L c S (fun e S1=>match e with
  | .x id'=>bif Nat.beq id' id then K .n S1 else K (.x id') S1
  |e=>K e S1)
 | .loop c,S,K=>match h.clean (keyOf c) S with
  |some S1=>L (keyOf c) S1 (h.fy (keyOf c) K)
  |none=>none
 | .exit id,S,K=>K (.x id) S
 | .ret,S,K=>K .r S
 |_,_,_=>none
def tC (Lf:Nat→Nat→St→Ks→Option aa) (N n aA1:Nat):Nat→St→Ks→Option aa:=fun key S K=>bif Nat.beq key aA1 then Lf n key S K else Lf N key S K
noncomputable def jZ (h:Hint) (O:jr) (L:Nat→St→Ks→Option aa) (c:Code) (S:St) (K:Ks):Option aa:=
 pe h O L c S (fun e S1=>match e with
  | .n=>(match h.clean (keyOf c) S1 with
   |some S2=>L (keyOf c) S2 K
   |none=>none)
  |e=>K e S1)
def nt (Θ:de) (S:St):List ResultVar→Option (List TV×St)
 |[]=>some ([],S)
 | .tmp t::r=>match S.dD (.tmp t) (S.at t) with
  |some (a,S1)=>match nt Θ S1 r with
   |some (l,S2)=>some (a::l,S2)
   |none=>none
  |none=>none
 | .cell t T::r=>match S.at t with
  | .v ⟨.ptr ty,.o _ _ me,x⟩ []=>match nt Θ (S.put (some t) .dead) r with
   |some (l,S2)=>bif Θ.is T ty then some (⟨ty,me,x⟩::l,S2) else none
   |none=>none
  |_=>none
def asN:Arg→AV
 | .tv a=>.v a []
 | .fn f cy=>.ld f (cy.map .kv)
def start (fn:Func) (args:List Arg):St:=args.map asN++List.replicate (fn.ntmps - args.length) .undef
def Eh:Bool→TV→Option TV
 |false,b=>some b
 |true,⟨.ptr t,.o _ _ me,x⟩=>some ⟨t,me,x⟩
 |true,_=>none
noncomputable def lR (h:Hint) (O:jr) (L:Nat→St→Ks→Option aa) (fn:Func) (args:List Arg) (K:aa→Option aa):Option aa:=
 match fn.body with
 |some c=>pe h O L c (start fn args) (fun e S=>match e with
  | .x _=>none
  |_=>match nt h.tab S fn.results.toList with
   |some (l,S1)=>(match h.uj with
    |none=>K ⟨l,[]⟩
    |some q=>match S1.at q.1 with
     | .v b []=>(match Eh q.2 b with
      |some c=>K ⟨l,[c]⟩
      |none=>none)
     |_=>none)
   |none=>none)
 |none=>none
end Go.Pv
namespace Go.Pv
set_option linter.unusedVariables false
set_option linter.unusedSimpArgs false
def cN {σ:Type} (X:(σ→Option aa)→Option aa):Prop:=∃ o:Option σ,∀ K,X K=o.bind K
theorem cN.none {σ:Type}:cN (σ:=σ) fun _=>none:=⟨.none,fun _=>rfl⟩
theorem cN.pure {σ:Type} (s:σ):cN fun K=>K s:=⟨some s,fun _=>rfl⟩
theorem cN.bind {σ τ:Type} {X:(σ→Option aa)→Option aa} {Y:σ→(τ→Option aa)→Option aa} (h:cN X) (hy:∀ s,cN (Y s)):cN fun K=>X fun s=>Y s K:=by
 obtain⟨o,ho⟩:=h
 cases o with
 |none=>exact⟨.none,fun K=>ho _⟩
 |some s=>
  obtain⟨o',G6⟩:=hy s
  exact⟨o',fun K=>(ho _).trans (G6 K)⟩
theorem cN.bif {σ:Type} {X Y:(σ→Option aa)→Option aa} (c:Bool) (hx:cN X) (hy:cN Y):cN fun K=>bif c then X K else Y K:=by cases c<;>assumption
def nL (O:jr):Prop:=∀ f as,cN (O.run f as)
def dx (X:Ks→Option aa):Prop:=∃ o:Option (Ex×St),∀ K,X K=o.bind fun q=>K q.1 q.2
theorem dx.none:dx fun _=>none:=⟨.none,fun _=>rfl⟩
theorem dx.pure (e:Ex) (S:St):dx fun K=>K e S:=⟨some (e,S),fun _=>rfl⟩
theorem dx.bind {X:Ks→Option aa} {Y:Ex→St→Ks→Option aa} (h:dx X) (hy:∀ e S,dx (Y e S)):dx fun K=>X fun e S=>Y e S K:=by
 obtain⟨o,ho⟩:=h
 cases o with
 |none=>exact⟨.none,fun K=>ho _⟩
 |some s=>
  obtain⟨o',G6⟩:=hy s.1 s.2
  exact⟨o',fun K=>(ho _).trans (G6 K)⟩
theorem dx.of {X:(St→Option aa)→Option aa} {Y:St→Ks→Option aa} (h:cN X) (hy:∀ S,dx (Y S)):dx fun K=>X fun S=>Y S K:=by
 obtain⟨o,ho⟩:=h
 cases o with
 |none=>exact⟨.none,fun K=>ho _⟩
 |some s=>
  obtain⟨o',G6⟩:=hy s
  exact⟨o',fun K=>(ho _).trans (G6 K)⟩
theorem dx.to {X:Ks→Option aa} {Y:Ex→St→(aa→Option aa)→Option aa} (h:dx X) (hy:∀ e S,cN (Y e S)):cN fun K=>X fun e S=>Y e S K:=by
 obtain⟨o,ho⟩:=h
 cases o with
 |none=>exact⟨.none,fun K=>ho _⟩
 |some s=>
  obtain⟨o',G6⟩:=hy s.1 s.2
  exact⟨o',fun K=>(ho _).trans (G6 K)⟩
variable {h:Hint} {O:jr} {ops:Array Oper}
theorem Ei (hO:nL O) (o:Oper) (f:FuncId) (cal:Option Nat) (as:List Operand) (ts:List TypeId) (S:St):cN (gF h O o f cal as ts S):=by
 unfold gF
 split
 ·split
  ·refine(hO f _).bind fun ret=>?_
   split
   ·exact cN.bif _ (cN.pure _) cN.none
   ·exact cN.none
  ·exact cN.none
 ·exact cN.none
theorem RL (hO:nL O) (o:Oper) (f:FuncId) (j:Nat) (as:List Operand) (ts:List TypeId) (S:St):cN (qX h O o f j as ts S):=by
 unfold qX
 split
 ·split
  ·split
   ·refine cN.bif _ ?_ cN.none
    split
    ·refine cN.bif _ ?_ cN.none
     refine(hO f _).bind fun ret=>?_
     split
     ·refine cN.bif _ ?_ cN.none
      split
      ·split
       ·split
        ·exact cN.pure _
        ·exact cN.none
       ·exact cN.none
      ·exact cN.none
     ·exact cN.none
    ·exact cN.none
   ·exact cN.none
  ·exact cN.none
 ·exact cN.none
theorem Ej (hO:nL O) (o:Oper) (hn:oT o.op=false) (S:St):cN (gG h O o S):=by
 unfold gG
 split
 ·split
  ·exact RL hO ..
  ·exact Ei hO ..
 ·split
  ·exact Ei hO ..
  ·exact cN.none
 ·rename_i ho;rw[ho] at hn;cases hn
 ·rename_i ho;rw[ho] at hn;cases hn
 ·split
  ·exact cN.bif _ (cN.pure _) cN.none
  ·exact cN.none
theorem ia (hO:nL O) (i:Nat) (hn:∀ o,ops[i]?=some o→oT o.op=false) (S:St):cN (aW h O ops i S):=by
 unfold aW
 split
 ·exact cN.none
 ·rename_i o ho
  have hn:=hn o ho
  split
  ·exact Ej hO _ hn _
  ·split
   ·split
    ·exact cN.bif _ (cN.bif _ (Ej hO _ hn _) (cN.pure _)) (cN.bif _ (cN.pure _) (Ej hO _ hn _))
    ·exact cN.pure _
    ·exact cN.none
   ·exact cN.none
theorem El (hp:nK ops=true) (i:Nat) (o:Oper) (ho:ops[i]?=some o):oT o.op=false:=by
 unfold nK at hp
 have:=List.all_eq_true.1 hp o (by rw[←Array.getElem?_toList] at ho;exact List.mem_of_getElem? ho)
 simpa using this
theorem Ad (hO:nL O) (hp:nK ops=true):∀ (l:List Nat) (S:St),cN (mO h O ops l S)
 |[],S=>cN.pure S
 |i::r,S=>(ia hO i (El hp i) S).bind fun S1=>Ad hO hp r S1
theorem Hv (hO:nL O) (hp:nK ops=true):∀ (l:List Nat) (S:St),cN (mP h O ops l S)
 |[],S=>cN.pure S
 |i::r,S=>by
  simp only[show mP h O ops (i::r) S=fun K=>mP h O ops (i::r) S K from rfl,mP]
  split
  ·exact cN.bif _ ((ia hO i (El hp i) S).bind fun S1=>Hv hO hp r S1) cN.none
  ·exact cN.none
theorem lS (hO:nL O) (hp:nK ops=true):∀ (t:OT) (S:St),cN (ff h O ops t S)
 | .done,S=>cN.pure S
 | .one i t,S=>(ia hO i (El hp i) S).bind fun S1=>lS hO hp t S1
 | .any l t,S=>(Hv hO hp l S).bind fun S1=>lS hO hp t S1
 | .own d t,S=>by
  show cN fun K=>ff h O ops (.own d t) S K
  simp only[ff]
  cases Wz S d with
  |none=>exact cN.none
  |some q=>exact cN.bif _ (lS hO hp t q.2) cN.none
 | .par l ds t,S=>cN.bif _ ((Ad hO hp l S).bind fun S1=>lS hO hp t S1) cN.none
def Z6 (h:Hint) (L:Nat→St→Ks→Option aa) (key:Nat):Prop:=∀ (ks:List Kd) (x:qL ks),nJ h.loops key=some ks→dx fun K=>L key (shape ks x) (h.fy key K)
def ez:Code→List Nat
 | .seq a b=>ez a++ez b
 | .cond _ a b=>ez a++ez b
 | .block _ c=>ez c
 | .loop c=>keyOf c::ez c
 |_=>[]
theorem w4 {S S1:St} {key:Nat} (e:h.clean key S=some S1):∃ ks x,nJ h.loops key=some ks∧S1=shape ks x:=by
 unfold Hint.clean at e
 split at e
 case h_2=>cases e
 rename_i ks z6
 unfold sA at e
 cases hk:gu ks ks with
 |false=>rw[hk] at e;cases e
 |true=>
  rw[hk] at e
  simp only[cond_true] at e
  split at e
  case h_2=>cases e
  rename_i x hx
  injection e with e
  exact⟨ks,x,z6,e.symm⟩
theorem um (hO:nL O) {L:Nat→St→Ks→Option aa}:∀ (c:Code) (S:St),fK c=true→(∀ k∈ez c,Z6 h L k)→dx (pe h O L c S)
 | .skip,S,_,_=>dx.pure _ _
 | .region id ops false,S,hp,_=>dx.of (Ad hO hp _ S) fun S1=>dx.pure _ _
 | .region id ops true,S,hp,_=>by
  show dx fun K=>pe h O L (.region id ops true) S K
  simp only[pe]
  split
  ·exact dx.of (lS hO hp _ S) fun S1=>dx.pure _ _
  ·exact dx.none
 | .seq a b,S,hp,hL=>by
  simp only[fK,Bool.and_eq_true] at hp
  show dx fun K=>pe h O L (.seq a b) S K
  simp only[pe]
  refine dx.bind (um hO a S hp.1 fun k hk=>hL k (by simp[ez,hk])) fun e S1=>?_
  cases e with
  |n=>exact um hO b S1 hp.2 fun k hk=>hL k (by simp[ez,hk])
  |x id=>exact dx.pure _ _
  |r=>exact dx.pure _ _
 | .cond c x y,S,hp,hL=>by
  simp only[fK,Bool.and_eq_true] at hp
  show dx fun K=>pe h O L (.cond c x y) S K
  simp only[pe]
  split
  ·rename_i q _
   cases q with
   |true=>exact um hO x S hp.1 fun k hk=>hL k (by simp[ez,hk])
   |false=>exact um hO y S hp.2 fun k hk=>hL k (by simp[ez,hk])
  ·exact dx.none
 | .block id c,S,hp,hL=>by
  simp only[fK] at hp
  show dx fun K=>pe h O L (.block id c) S K
  simp only[pe]
  refine dx.bind (um hO c S hp fun k hk=>hL k (by simpa[ez] using hk)) fun e S1=>?_
  cases e with
  |n=>exact dx.pure _ _
  |x id'=>
   cases h:Nat.beq id' id with
   |true=>exact⟨some (.n,S1),fun K=>by simp[h]⟩
   |false=>exact⟨some (.x id',S1),fun K=>by simp[h]⟩
  |r=>exact dx.pure _ _
 | .loop c,S,_,hL=>by
  show dx fun K=>pe h O L (.loop c) S K
  simp only[pe]
  split
  ·rename_i S1 hS1
   obtain⟨ks,x,hk,rfl⟩:=w4 hS1
   exact hL (keyOf c) (by simp[ez]) ks x hk
  ·exact dx.none
 | .exit id,S,_,_=>dx.pure _ _
 | .ret,S,_,_=>dx.pure _ _
 | .rangeFunc ..,S,_,_=>dx.none
 | .scope _,S,_,_=>dx.none
 | .label _,S,_,_=>dx.none
 | .goto _,S,_,_=>dx.none
 | .refuse _,S,_,_=>dx.none
theorem Hw (h:Hint) (key:Nat) (e:Ex) (S:St):dx fun K=>h.fy key K e S:=by
 unfold Hint.fy
 split
 ·split
  ·exact dx.pure _ _
  ·exact dx.none
 ·exact dx.none
theorem Em (fn:Func) (S:St):cN fun(K:aa→Option aa)=>(match nt h.tab S fn.results.toList with
   |some (l,S1)=>(match h.uj with
    |none=>K ⟨l,[]⟩
    |some q=>match S1.at q.1 with
     | .v b []=>(match Eh q.2 b with
      |some c=>K ⟨l,[c]⟩
      |none=>none)
     |_=>none)
   |none=>none):=by
 split
 ·split
  ·exact cN.pure _
  ·split
   ·split
    ·exact cN.pure _
    ·exact cN.none
   ·exact cN.none
 ·exact cN.none
theorem RM (hO:nL O) {L:Nat→St→Ks→Option aa} {fn:Func} {body:Code} (hb:fn.body=some body) (hp:fK body=true) (hL:∀ k∈ez body,Z6 h L k) (args:List Arg):cN (lR h O L fn args):=by
 unfold lR
 rw[hb]
 simp only
 refine dx.to (um hO body _ hp hL) fun e S=>?_
 cases e with
 |n=>exact Em fn S
 |x id=>exact cN.none
 |r=>exact Em fn S
end Go.Pv
namespace Go.Pv
set_option linter.unusedVariables false
set_option linter.unusedSimpArgs false
def isAgg:Ty→Bool
 | .pair _ _=>true | .unit=>true | .arr _ _=>true |_=>false
def az (t:Ty) (v:Value) (cs:List Value):Prop:=if isAgg t=true then v=.agg cs.toArray else cs=[v]
section
variable (w:World) (Av:Nat→Prop) (H:Nat→Value) (tm:Nat→Value) (S:St)
structure Ref (t:Ty) (s:Nat) (p:Path) (r:TV) (cO:List Value):Prop where
 at_:∃ ex,S.at s=.v r ex∧open_ p ex
 val:valid p r.t r.x
 get:∃ b,bd p r.t r.m r.x=some b∧b.t=t
 mat:az r.t (tm s) cO
def lT:IF→Value→Prop
 | .kv a,u=>K w Av a.t a.x [u]
 | .pl t s p,u=>∃ r cO cs,Ref tm S (.ptr t) s p r cO∧aT w p r.t cO=some cs∧az (.ptr t) u cs
def Holds (own:Nat→Prop):AV→Value→Prop
 | .dead,_=>True
 | .undef,v=>v=undef
 | .v a ex,v=>∃ cs,az a.t v cs∧M w Av H a.t a.m a.x cs own ex
 | .tz l,v=>∃ (vs:List Value) (τ:Nat→Nat),v=.tuple vs.toArray∧vs.length=l.length∧
   ∀ (j:Nat) (a:TV),l[j]?=some (some a)→∃ u cs,vs[j]?=some u∧az a.t u cs∧M w Av H a.t a.m a.x cs (fun g=>own g∧τ g=j) []
 | .al t s p,v=>∃ r cO cs,Ref tm S t s p r cO∧aT w p r.t cO=some cs∧az t v cs
 | .ad t s p,v=>∃ r cO g off,Ref tm S t s p r cO∧addrAt w p r.t cO none=some (g,off)∧v=.pointer (some ⟨g,off,none⟩)
 | .cut t s p lo hi,v=>∃ r cO t' A n c,Ref tm S t s p r cO∧t=.sl t'∧aT w p r.t cO=some [.slice A n c]∧lo≤hi∧hi≤n∧
   v=.slice (if c=lo then A else A.map (·.add (lo*t'.size))) (hi - lo) (c - lo)
 | .ld f cy,v=>∃ vs:List Value,v=.func (.func f) #[] vs.toArray∧vs.length=cy.length∧∀ (j:Nat) (c:IF),cy[j]?=some c→∃ u,vs[j]?=some u∧lT w Av tm S c u
end
structure Fr (w0:World) (W0:Nat→Prop) (w:World):Prop where
 os:w.os=w0.os
 tape:w.tape=w0.tape
 output:w.output=w0.output
 size:w0.heap.size≤w.heap.size
 block:∀ g,g<w0.heap.size→¬W0 g→w.heap[g]?=w0.heap[g]?
def Av (σ:Nat→Option Nat) (Z:Nat→Prop) (g:Nat):Prop:=(∃ i,σ g=some i)∨Z g
def b9 (a:Act) (i:Nat):Value:=a.tmps.getD i undef
structure a7 (σ:Nat→Option Nat) (w0:World) (W0 Z:Nat→Prop) (H:Nat→Value) (S:St) (a:Act) (w:World):Prop where
 len:S.length=a.tmps.size
 defers:a.defers=[]
 fr:Fr w0 W0 w
 new:∀ g i,σ g=some i→w0.heap.size≤g∨W0 g
 lt:∀ g i,σ g=some i→g<w.heap.size
 old:∀ g,Z g→σ g=none∧g<w0.heap.size
 holds:∀ i,Holds w (Av σ Z) H (b9 a) S (fun g=>σ g=some i) (S.at i) (b9 a i)
def Rel (w0:World) (W0 Z:Nat→Prop) (H:Nat→Value) (S:St) (a:Act) (w:World):Prop:=∃ σ,a7 σ w0 W0 Z H S a w
theorem eA {w w':World} {Wr qu:Nat→Prop} {H:Nat→Value} (b5:aU w w' Wr qu):∀ (p:Path) {t:Ty} {m:Md} {x:t.I} {cs:List Value} {ow:Nat→Prop} {hs:List Path} (l:Option (Nat×Nat)),
  M w Wr H t m x cs ow hs→(∀ g,ow g→g<w.heap.size→w'.heap[g]?=w.heap[g]?)→open_ p hs→valid p t x→aT w' p t cs=aT w p t cs∧addrAt w' p t cs l=addrAt w p t cs l
 |[],_,_,_,_,_,_,_,_,_,_,_=>⟨rfl,rfl⟩
 | .deref::p,.ptr t,m,x,cs,ow,hs,l,h,hb,ho,hv=>by
  simp only[valid] at hv
  simp only[M] at h
  rcases h with⟨hn,_⟩ |⟨hk,h⟩ |⟨T,tag,me,g,cur,rfl,rfl,ht,qv,hw,h⟩
  ·exact absurd hn ho.not_nil
  ·simp only[K] at h
   obtain⟨g,off,cur,T,fr,rfl,hng,hw,hl,h⟩:=h
   have G7:=(b5.same g hng (bn hw)).trans hw
   have ih:=eA b5 p (H:=H) (some (g,off)) (fJ (ow:=fun _=>False) (hs:=sub .deref hs) t h) (fun _ h=>h.elim) ho.sub hv
   simp only[aT,addrAt,bA hw hl,bA G7 hl,Option.bind_some]
   exact ih
  ·have G7:=(hb g qv (bn hw)).trans hw
   have iD:0+t.size≤cur.size:=by rw[←(er t h).1];simp
   have gE:(cur.toList.drop 0).take t.size=cur.toList:=by rw[List.drop_zero,List.take_of_length_le (by rw[(er t h).1];exact Nat.le_refl _)]
   have ih:=eA b5 p (some (g,0)) h (fun g hg=>hb g hg.1) ho.sub hv
   simp only[aT,addrAt,bA hw iD,bA G7 iD,Option.bind_some,gE]
   exact ih
 | .fst::p,.pair a b',m,x,cs,ow,hs,l,h,hb,ho,hv=>by
  simp only[valid] at hv
  simp only[M] at h
  simp only[aT,addrAt]
  rcases h with⟨hn,_⟩ |⟨hk,h⟩ |⟨ma,mb,c0,c1,s,rfl,rfl,h0,h1⟩
  ·exact absurd hn ho.not_nil
  ·simp only[K] at h
   obtain⟨c0,c1,rfl,h0,h1⟩:=h
   rw[←(kK a h0).1,List.take_left]
   exact eA b5 p (H:=H) l (fJ (ow:=fun _=>False) (hs:=sub .fst hs) a h0) (fun _ h=>h.elim) ho.sub hv
  ·rw[←(er a h0).1,List.take_left]
   exact eA b5 p l h0 (fun g hg=>hb g hg.1) ho.sub hv
 | .snd::p,.pair a b',m,x,cs,ow,hs,l,h,hb,ho,hv=>by
  simp only[valid] at hv
  simp only[M] at h
  simp only[aT,addrAt]
  rcases h with⟨hn,_⟩ |⟨hk,h⟩ |⟨ma,mb,c0,c1,s,rfl,rfl,h0,h1⟩
  ·exact absurd hn ho.not_nil
  ·simp only[K] at h
   obtain⟨c0,c1,rfl,h0,h1⟩:=h
   rw[←(kK a h0).1,List.drop_left]
   exact eA b5 p (H:=H) _ (fJ (ow:=fun _=>False) (hs:=sub .snd hs) b' h1) (fun _ h=>h.elim) ho.sub hv
  ·rw[←(er a h0).1,List.drop_left]
   exact eA b5 p _ h1 (fun g hg=>hb g hg.1) ho.sub hv
 | .idx i::p,.sl t,m,xs,cs,ow,hs,l,h,hb,ho,hv=>by
  simp only[valid] at hv
  obtain⟨hi,hv⟩:=hv
  have eH:List.getD xs i t.z=xs[i]:=by simp[List.getD_eq_getElem?_getD,List.getElem?_eq_getElem hi]
  simp only[M] at h
  rcases h with⟨hn,_⟩ |⟨hk,h⟩ |⟨T,tag,me,A,c,rfl,rfl,hc,ht,h⟩
  ·exact absurd hn ho.not_nil
  ·simp only[K] at h
   obtain⟨A,c,rfl,hc,h⟩:=h
   obtain⟨g,off,cur,T,fr,rfl,hng,hw,hl,h⟩:=h (by omega)
   have G7:=(b5.same g hng (bn hw)).trans hw
   have hbound:off+i*t.size+t.size≤cur.size:=by
    have:=Nat.mul_le_mul_right t.size (show i+1≤xs.length from hi)
    rw[Nat.add_mul,Nat.one_mul] at this
    omega
   have hK:=h i hi
   rw[←eH] at hK
   have ih:=eA b5 p (H:=H) (some (g,off+i*t.size)) (fJ (ow:=fun _=>False) (hs:=sub (.idx i) hs) t hK) (fun _ h=>h.elim) ho.sub hv
   simp only[aT,addrAt,bA hw hbound,bA G7 hbound,Option.bind_some]
   exact ih
  ·rcases h with⟨rfl,_⟩ |⟨g,cur,τ,rfl,qv,hw,iD,hm,h⟩
   ·simp at hi
   ·have G7:=(hb g qv (bn hw)).trans hw
    have hbound:i*t.size+t.size≤cur.size:=by
     have h1:=Nat.mul_le_mul_right t.size (show i+1≤xs.length from hi)
     have h2:=Nat.mul_le_mul_right t.size hc
     rw[Nat.add_mul,Nat.one_mul] at h1
     omega
    have hM:=h i hi
    rw[←eH] at hM
    have ih:=eA b5 p (some (g,i*t.size)) hM (fun g hg=>hb g hg.1) ho.sub hv
    simp only[aT,addrAt,Nat.zero_add,bA hw hbound,bA G7 hbound,Option.bind_some]
    exact ih
variable {w w':World} {A A':Nat→Prop} {H:Nat→Value} {tm qP:Nat→Value} {S S':St}
structure Kept (w w':World) (A:Nat→Prop) (H:Nat→Value) (tm qP:Nat→Value) (S S':St) (s:Nat):Prop where
 at_:∀ r ex,S.at s=.v r ex→S'.at s=.v r ex
 tm_:qP s=tm s
 hold:∃ own,Holds w A H tm S own (S.at s) (tm s)∧∀ g,own g→g<w.heap.size→w'.heap[g]?=w.heap[g]?
theorem eB {t:Ty} {v:Value} {cs cM:List Value} (h:az t v cs) (h':az t v cM):cs=cM:=by
 unfold az at*
 split at h
 ·rename_i ha
  rw[if_pos ha] at h'
  rw[h] at h'
  injection h' with h'
  simpa using h'
 ·rename_i ha
  rw[if_neg ha] at h'
  rw[h,h']
theorem Ref.kept {t:Ty} {s:Nat} {p:Path} {r:TV} {cO:List Value} (b5:aU w w' A A') (hk:Kept w w' A H tm qP S S' s) (h:Ref tm S t s p r cO):
  Ref qP S' t s p r cO∧∀ l,aT w' p r.t cO=aT w p r.t cO∧addrAt w' p r.t cO l=addrAt w p r.t cO l:=by
 obtain⟨⟨ex,h1,h2⟩,h3,h4,h5⟩:=h
 refine⟨⟨⟨ex,hk.at_ _ _ h1,h2⟩,h3,h4,by rw[hk.tm_];exact h5⟩,fun l=>?_⟩
 obtain⟨own,hh,hb⟩:=hk.hold
 rw[h1] at hh
 obtain⟨cs,hm,hM⟩:=hh
 obtain rfl:=eB h5 hm
 exact eA b5 p l hM hb h2 h3
theorem lT.kept {c:IF} {u:Value} (b5:aU w w' A A') (hk:∀ t s p,c=.pl t s p→Kept w w' A H tm qP S S' s) (h:lT w A tm S c u):lT w' A' qP S' c u:=by
 cases c with
 |kv a=>exact b6 b5 _ h
 |pl t s p=>
  obtain⟨r,cO,cs,hr,hc,hm⟩:=h
  obtain⟨h1,h2⟩:=hr.kept b5 (hk t s p rfl)
  exact⟨r,cO,cs,h1,by rw[(h2 none).1];exact hc,hm⟩
theorem Holds.kept {own II:Nat→Prop} {a:AV} {v:Value} (b5:aU w w' A A') (ho:∀ g,own g→g<w.heap.size→w'.heap[g]?=w.heap[g]? ∧II g)
  (hk:∀ s,a.refs s=true→Kept w w' A H tm qP S S' s) (h:Holds w A H tm S own a v):Holds w' A' H qP S' II a v:=by
 cases a with
 |dead=>trivial
 |undef=>exact h
 |v a ex=>
  obtain⟨cs,h1,h2⟩:=h
  exact⟨cs,h1,aK b5 _ (fun g hg hl=>(ho g hg hl).1) (fun g hg hl=>(ho g hg hl).2) (fun _ h=>h) h2⟩
 |tz l=>
  obtain⟨vs,τ,h1,h2,h3⟩:=h
  refine⟨vs,τ,h1,h2,fun j a hj=>?_⟩
  obtain⟨u,cs,k1,k2,k3⟩:=h3 j a hj
  exact⟨u,cs,k1,k2,aK b5 _ (fun g hg hl=>(ho g hg.1 hl).1) (fun g hg hl=>⟨(ho g hg.1 hl).2,hg.2⟩) (fun _ h=>h) k3⟩
 |al t s p=>
  obtain⟨r,cO,cs,hr,hc,hm⟩:=h
  obtain⟨h1,h2⟩:=hr.kept b5 (hk s (by simp[AV.refs]))
  exact⟨r,cO,cs,h1,by rw[(h2 none).1];exact hc,hm⟩
 |ad t s p=>
  obtain⟨r,cO,g,off,hr,hc,hm⟩:=h
  obtain⟨h1,h2⟩:=hr.kept b5 (hk s (by simp[AV.refs]))
  exact⟨r,cO,g,off,h1,by rw[(h2 none).2];exact hc,hm⟩
 |cut t s p lo hi=>
  obtain⟨r,cO,t',A1,n,c,hr,ht,hc,hm⟩:=h
  obtain⟨h1,h2⟩:=hr.kept b5 (hk s (by simp[AV.refs]))
  exact⟨r,cO,t',A1,n,c,h1,ht,by rw[(h2 none).1];exact hc,hm⟩
 |ld f cy=>
  obtain⟨vs,h1,h2,h3⟩:=h
  refine⟨vs,h1,h2,fun j c hj=>?_⟩
  obtain⟨u,k1,k2⟩:=h3 j c hj
  refine⟨u,k1,k2.kept b5 (fun t s p e=>hk s ?_)⟩
  subst e
  simp only[AV.refs,List.any_eq_true]
  exact⟨_,List.mem_of_getElem? hj,by simp⟩
theorem cS (S:St) (d:Nat) (a:AV) (i:Nat):St.at (S.set d a) i=if i=d∧d<S.length then a else S.at i:=by
 unfold St.at
 rw[List.getD_eq_getElem?_getD,List.getD_eq_getElem?_getD,List.getElem?_set]
 by_cases h:d=i
 ·subst h
  by_cases hl:d<S.length
  ·simp[hl]
  ·simp[hl]
 ·have h': ¬i=d:=fun e=>h e.symm
  simp[h,h']
theorem Eo (S:St) (f:AV→AV) (hf:f .dead=.dead) (i:Nat):St.at (S.map f) i=f (S.at i):=by
 unfold St.at
 rw[List.getD_eq_getElem?_getD,List.getD_eq_getElem?_getD,List.getElem?_map]
 cases S[i]? with
 |none=>simp[hf]
 |some a=>rfl
theorem akg (S:St) (d i:Nat):(S.kill d).at i=bif (S.at i).refs d then .dead else S.at i:=Eo S _ (by simp[AV.refs]) i
theorem jH (S:St) (d i:Nat):(S.weaken d).at i=bif (S.at i).eL d then .dead else S.at i:=Eo S _ (by simp[AV.eL]) i
theorem adb (S:St) (d:Nat):(S.kill d).length=S.length:=by simp[St.kill]
theorem dF (S:St) (d:Nat) (a:AV) (i:Nat):(S.put (some d) a).at i=if i=d∧d<S.length then(bif a.refs d then .dead else a) else bif (S.at i).refs d&&(S.at d).z8 then .dead else S.at i:=by
 simp only[St.put]
 cases (S.at d).z8
 ·simp only[cond_false,cS,Bool.and_false]
 ·simp only[cond_true,cS,adb,akg,Bool.and_true]
theorem cd (S:St) (dst:Option Nat) (a:AV):(S.put dst a).length=S.length:=by
 cases dst with
 |none=>rfl
 |some d=>simp only[St.put];cases (S.at d).z8<;>simp[St.kill]
theorem aun {own:Nat→Prop} {w:World} {A:Nat→Prop} {H:Nat→Value} {tm:Nat→Value} {S:St} {av:AV} {v:Value} {d:Nat} (h:Holds w A H tm S own av v) (hr:av.refs d=true):(S.at d).z8=true:=by
 cases av with
 |dead=>cases hr
 |undef=>cases hr
 |v a ex=>cases hr
 |tz l=>cases hr
 |al t s p=>
  obtain rfl:s=d:=Nat.eq_of_beq_eq_true hr
  obtain⟨r,cO,cs,h1,_⟩:=h
  obtain⟨ex,h2,_⟩:=h1.at_
  rw[h2];rfl
 |ad t s p=>
  obtain rfl:s=d:=Nat.eq_of_beq_eq_true hr
  obtain⟨r,cO,g,off,h1,_⟩:=h
  obtain⟨ex,h2,_⟩:=h1.at_
  rw[h2];rfl
 |cut t s p lo hi=>
  obtain rfl:s=d:=Nat.eq_of_beq_eq_true hr
  obtain⟨r,cO,t',A,n,c,h1,_⟩:=h
  obtain⟨ex,h2,_⟩:=h1.at_
  rw[h2];rfl
 |ld f cy=>
  simp only[AV.refs,List.any_eq_true] at hr
  obtain⟨c,hc,hr⟩:=hr
  obtain⟨vs,_,_,h3⟩:=h
  obtain⟨j,hj⟩:=List.mem_iff_getElem?.1 hc
  obtain⟨u,_,h4⟩:=h3 j c hj
  cases c with
  |kv a=>cases hr
  |pl t s p=>
   obtain rfl:s=d:=Nat.eq_of_beq_eq_true hr
   obtain⟨r,cO,cs,h1,_⟩:=h4
   obtain⟨ex,h2,_⟩:=h1.at_
   rw[h2];rfl
theorem Ae (a:Act) (d:Nat) (v:Value) (i:Nat):b9 (a.put (some d) v) i=if i=d∧d<a.tmps.size then v else b9 a i:=by
 unfold b9 Act.put
 simp only[Array.getD_eq_getD_getElem?,Array.getElem?_setIfInBounds]
 by_cases h:d=i
 ·subst h
  by_cases hl:d<a.tmps.size
  ·simp[hl]
  ·simp[hl]
 ·have h': ¬i=d:=fun e=>h e.symm
  simp[h,h']
theorem ade (a:Act) (dst:Option Nat) (v:Value):(a.put dst v).tmps.size=a.tmps.size:=by
 cases dst<;>simp[Act.put]
theorem put_defers (a:Act) (dst:Option Nat) (v:Value):(a.put dst v).defers=a.defers:=by cases dst<;>rfl
theorem a7.put {σ dm:Nat→Option Nat} {w0:World} {W0 Z:Nat→Prop} {a:Act} {dst:Option Nat} {av:AV} {v:Value} (h:a7 σ w0 W0 Z H S a w)
  (b5:aU w w' (Av σ Z) (Av dm Z)) (qx:Fr w0 W0 w') (Z7:∀ g i,dm g=some i→(w0.heap.size≤g∨W0 g)∧g<w'.heap.size) (hold:∀ g,Z g→dm g=none)
  (kM:∀ i g,i<S.length→dst≠some i→σ g=some i→w'.heap[g]?=w.heap[g]? ∧dm g=some i)
  (mH:∀ d,dst=some d→d<S.length→av.refs d=false→Holds w' (Av dm Z) H (b9 (a.put dst v)) (S.put dst av) (fun g=>dm g=some d) av v):
  a7 dm w0 W0 Z H (S.put dst av) (a.put dst v) w':=by
 have qy:∀ i,¬i<S.length→S.at i=.dead:=fun i hl=>by
  unfold St.at
  rw[List.getD_eq_getElem?_getD,List.getElem?_eq_none (by omega)]
  rfl
 refine⟨by rw[cd,ade];exact h.len,by rw[put_defers];exact h.defers,qx,fun g i hg=>(Z7 g i hg).1,fun g i hg=>(Z7 g i hg).2,fun g hg=>⟨hold g hg,(h.old g hg).2⟩,fun i=>?_⟩
 by_cases Hy:i<S.length
 rotate_left
 ·have:(S.put dst av).at i=.dead:=by
   unfold St.at
   rw[List.getD_eq_getElem?_getD,List.getElem?_eq_none (by rw[cd];omega)]
   rfl
  rw[this]
  trivial
 cases dst with
 |none=>
  have hk:∀ s,Kept w w' (Av σ Z) H (b9 a) (b9 a) S S s:=fun s=>by
   by_cases hs:s<S.length
   ·exact⟨fun _ _ h=>h,rfl,_,h.holds s,fun g hg _=>(kM s g hs (by simp) hg).1⟩
   ·exact⟨fun _ _ h=>h,rfl,fun _=>False,by rw[qy s hs];trivial,fun _ h=>h.elim⟩
  exact(h.holds i).kept b5 (fun g hg _=>kM i g Hy (by simp) hg) (fun s _=>hk s)
 |some d=>
  by_cases hi:i=d∧d<S.length
  ·obtain⟨rfl,hl⟩:=hi
   rw[dF,if_pos ⟨rfl,hl⟩,Ae,if_pos ⟨rfl,by rw[←h.len];exact hl⟩]
   cases hr:av.refs i with
   |true=>simp[Holds]
   |false=>exact mH i rfl hl hr
  ·have ML: ¬(i=d∧d<a.tmps.size):=by rw[←h.len];exact hi
   rw[dF,if_neg hi,Ae,if_neg ML]
   cases hr:(S.at i).refs d with
   |true=>rw[aun (h.holds i) hr];simp[Holds]
   |false=>
    simp only[Bool.false_and,cond_false]
    by_cases hd:i=d
    ·subst hd
     rw[qy i (fun hl=>hi ⟨rfl,hl⟩)]
     trivial
    ·refine(h.holds i).kept b5 (fun g hg _=>kM i g Hy (by simpa using fun e=>hd e.symm) hg) (fun s hs=>?_)
     have Af:s≠d:=fun e=>by subst e;rw[hr] at hs;cases hs
     refine⟨?_,?_,?_⟩
     ·intro r ex hv
      rw[dF,if_neg (fun e=>Af e.1),hv]
      rfl
     ·rw[Ae,if_neg (fun e=>Af e.1)]
     ·by_cases hs:s<S.length
      ·exact⟨_,h.holds s,fun g hg _=>(kM s g hs (by simpa using fun e=>Af e.symm) hg).1⟩
      ·exact⟨fun _=>False,by rw[qy s hs];trivial,fun _ h=>h.elim⟩
def release (σ:Nat→Option Nat) (dst:Option Nat) (g:Nat):Option Nat:=if dst.isSome=true∧σ g=dst then none else σ g
theorem fg {σ:Nat→Option Nat} {dst:Option Nat} {g i:Nat} (h:release σ dst g=some i):σ g=some i∧dst≠some i:=by
 unfold release at h
 split at h
 ·cases h
 ·rename_i hn
  refine⟨h,fun e=>hn ⟨by rw[e];rfl,by rw[h,e]⟩⟩
theorem lh {σ:Nat→Option Nat} {dst:Option Nat} {g i:Nat} (hd:dst≠some i) (h:σ g=some i):release σ dst g=some i:=by
 unfold release
 rw[if_neg (fun e=>hd (by rw[←e.2,h])),h]
theorem uo {σ:Nat→Option Nat} {dst:Option Nat} {Z:Nat→Prop} {g:Nat} (h:Av (release σ dst) Z g):Av σ Z g:=by
 rcases h with⟨i,h⟩ |h
 ·exact .inl ⟨i,(fg h).1⟩
 ·exact .inr h
theorem a7.pure {σ:Nat→Option Nat} {w0:World} {W0 Z:Nat→Prop} {a:Act} {dst:Option Nat} {av:AV} {v:Value} (h:a7 σ w0 W0 Z H S a w)
  (hv:Holds w (Av σ Z) H (b9 a) S (fun _=>False) av v):a7 (release σ dst) w0 W0 Z H (S.put dst av) (a.put dst v) w:=by
 have b5:aU w w (Av σ Z) (Av (release σ dst) Z):=⟨fun _ _ _=>rfl,fun g _ hg=>uo hg⟩
 refine h.put b5 h.fr (fun g i hg=>⟨h.new g i (fg hg).1,h.lt g i (fg hg).1⟩) (fun g hg=>by unfold release;split<;>first |rfl |exact(h.old g hg).1) (fun i g _ hd hg=>⟨rfl,lh hd hg⟩) (fun d hd hl hr=>?_)
 subst hd
 refine hv.kept b5 (fun _ h _=>h.elim) (fun s hs=>?_)
 have Af:s≠d:=fun e=>by subst e;rw[hr] at hs;cases hs
 refine⟨fun r ex hv=>?_,by rw[Ae,if_neg (fun e=>Af e.1)],_,h.holds s,fun _ _ _=>rfl⟩
 rw[dF,if_neg (fun e=>Af e.1),hv]
 rfl
def asO (σ:Nat→Option Nat) (x:Operand) (g:Nat):Prop:=∃ i,x=.tmp i∧σ g=some i
theorem bD {σ:Nat→Option Nat} {w0:World} {W0 Z:Nat→Prop} {a:Act} {Θ:de} {T:TypeId} {x:Operand} {av:AV} (h:a7 σ w0 W0 Z H S a w) (he:S.dP Θ T x=some av):
  Holds w (Av σ Z) H (b9 a) S (asO σ x) av (a.eval x):=by
 cases x with
 |tmp i=>
  simp only[St.dP,Option.some.injEq] at he
  subst he
  refine(h.holds i).kept (aU.refl _ _) (fun g hg _=>⟨rfl,i,rfl,hg⟩) (fun s _=>⟨fun _ _ h=>h,rfl,_,h.holds s,fun _ _ _=>rfl⟩)
 |const c=>
  simp only[St.dP] at he
  split at he
  ·rename_i b hb
   injection he with he
   subst he
   unfold mK at hb
   split at hb
   ·injection hb with hb;subst hb
    exact⟨[a.eval (.const _)],by simp only[az,isAgg];rfl,by simp[M,K,Act.eval,Md.bP]⟩
   ·injection hb with hb;subst hb
    exact⟨[a.eval (.const _)],by simp only[az,isAgg];rfl,by simp[M,K,Act.eval,Md.bP]⟩
   ·injection hb with hb;subst hb
    exact⟨[a.eval (.const _)],by simp only[az,isAgg];rfl,by simp[M,K,Act.eval,Md.bP]⟩
   ·split at hb
    ·rename_i i hi
     split at hb
     ·rename_i t ht
      injection hb with hb
      subst hb
      refine⟨[.slice none 0 0],by simp[az,isAgg,Act.eval],?_⟩
      simp only[M]
      exact .inr (.inr ⟨_,_,_,none,0,rfl,rfl,Nat.le_refl _,fun h hh=>(by cases hh),.inl (by simp)⟩)
     ·cases hb
    ·cases hb
   ·cases hb
  ·cases he
 |func f=>
  simp only[St.dP,Option.some.injEq] at he
  subst he
  exact⟨[],by simp[Act.eval],rfl,fun j c hj=>by simp at hj⟩
 |global g=>simp[St.dP] at he
theorem RN {own:Nat→Prop} {t:Ty} {m:Md} {x:t.I} {cs:List Value} (h:M w A H t m x cs own []):K w (fun _=>False) t x cs:=M_K (fun _ _ h=>h.elim) t rfl (fun _ _ h=>h) h
theorem IJ {t:Ty} {v:Value} {cs:List Value} (h:az t v cs) (h1:∀ u∈cs,u.oneCell'=true):v.cells.toList=cs:=by
 unfold az at h
 split at h
 ·subst h;rfl
 ·subst h
  have:=h1 v (by simp)
  cases v<;>first |rfl |(simp[Value.oneCell'] at this)
theorem nM:∀ (q r:Path),fY q (q++r)=true
 |[],_=>by simp[fY]
 | .idx i::q,r=>by simp[fY];exact nM q r
 | .deref::q,r=>by simp[fY];exact nM q r
 | .fst::q,r=>by simp[fY];exact nM q r
 | .snd::q,r=>by simp[fY];exact nM q r
theorem nN:∀ (q r:Path),fY (q++r) q=true
 |[],[]=>by simp[fY]
 |[],_::_=>by simp[fY]
 | .idx i::q,r=>by simp[fY];exact nN q r
 | .deref::q,r=>by simp[fY];exact nN q r
 | .fst::q,r=>by simp[fY];exact nN q r
 | .snd::q,r=>by simp[fY];exact nN q r
theorem tK {p:Path} {ex:List Path} (h:∀ q∈ex,fY q p=false):open_ p ex:=fun q hq s r e=>by
 have:=h q hq
 rw[e,nM] at this
 cases this
theorem tL {p:Path} {ex:List Path} (h:∀ q∈ex,fY q p=false):wX p ex=[]:=by
 cases hs:wX p ex with
 |nil=>rfl
 |cons q r=>
  have:q∈wX p ex:=by rw[hs];simp
  have:=h _ (Ea.1 this)
  rw[nN] at this
  cases this
end Go.Pv
