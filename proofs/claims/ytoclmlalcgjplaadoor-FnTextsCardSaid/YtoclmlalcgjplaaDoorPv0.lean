/- A verified evaluator of the program's form over pure values, part 0: what it tells of a function holds. -/
import Derived.Calls
import Derived.KernelRfl
import Derived.Laws.AppendOwn
import Derived.Laws.Sem
import Derived.Orders
namespace Go.Pv
set_option linter.unusedVariables false
set_option linter.unusedSimpArgs false
inductive Ty where
 | int (k : IntKind) | bool | str | sl (t : Ty) | ptr (t : Ty) | pair (a b : Ty) | unit | arr (n : Nat) (t : Ty)
 deriving DecidableEq, Inhabited
@[reducible] def Ty.I : Ty → Type
 | .int _ => Int | .bool => Bool | .str => ByteArray | .sl t => List t.I | .ptr t => t.I | .pair a b => a.I × b.I | .unit => Unit | .arr _ t => List t.I
def Ty.size : Ty → Nat
 | .pair a b => a.size + b.size | .unit => 0 | .arr n t => n * t.size | _ => 1
def Ty.z : (t : Ty) → t.I
 | .int _ => (0 : Int) | .bool => false | .str => ByteArray.empty | .sl _ => [] | .ptr t => t.z | .pair a b => (a.z, b.z) | .unit => () | .arr n t => List.replicate n t.z
inductive Md where
 | k | o (T : TypeId) (tag : Option Nat) (m : Md) | p (a b : Md)
 deriving DecidableEq, Inhabited
def Md.isK : Md → Bool
 | .k => true | .o .. => false | .p a b => a.isK && b.isK
inductive Step where
 | deref | fst | snd | idx (i : Nat)
 deriving DecidableEq, Inhabited
abbrev Path := List Step
def sub (s : Step) (hs : List Path) : List Path := hs.filterMap fun p => match p with
 | s' :: r => if s' = s then some r else none
 | [] => none
section
variable (w : World) (Wr : Nat → Prop)
def K : (t : Ty) → t.I → List Value → Prop
 | .int k, n, cs => cs = [.int k n]
 | .bool, b, cs => cs = [.bool b]
 | .str, s, cs => cs = [.string s]
 | .unit, _, cs => cs = []
 | .pair a b, x, cs => ∃ c0 c1, cs = c0 ++ c1 ∧ K a x.1 c0 ∧ K b x.2 c1
 | .arr n t, xs, cs => ∃ css : List (List Value), cs = css.flatten ∧ css.length = n ∧ xs.length = n ∧ ∀ j (h : j < xs.length) (h' : j < css.length), K t xs[j] css[j]
 | .sl t, xs, cs => ∃ A c, cs = [.slice A xs.length c] ∧ xs.length ≤ c ∧ (0 < xs.length → ∃ g off cur T fr, A = some ⟨g, off, none⟩ ∧ ¬ Wr g ∧ w.heap[g]? = some (.cells cur T fr) ∧ off + xs.length * t.size ≤ cur.size ∧ ∀ j (h : j < xs.length), K t xs[j] ((cur.toList.drop (off + j * t.size)).take t.size))
 | .ptr t, x, cs => ∃ g off cur T fr, cs = [.pointer (some ⟨g, off, none⟩)] ∧ ¬ Wr g ∧ w.heap[g]? = some (.cells cur T fr) ∧ off + t.size ≤ cur.size ∧ K t x ((cur.toList.drop off).take t.size)
def M (H : Nat → Value) : (t : Ty) → (m : Md) → t.I → List Value → (Nat → Prop) → List Path → Prop
 | .sl t, m, xs, cs, ow, hs => ([] ∈ hs ∧ m.isK = false ∧ ∃ A c, cs = [.slice A xs.length c]) ∨ (m.isK = true ∧ K w Wr (.sl t) xs cs) ∨
   ∃ T tag me A c, m = .o T tag me ∧ cs = [.slice A xs.length c] ∧ xs.length ≤ c ∧ (∀ h, tag = some h → H h = .slice A xs.length c) ∧
    ((xs = [] ∧ c = 0) ∨ ∃ g cur, ∃ τ : Nat → Nat, A = some ⟨g, 0, none⟩ ∧ ow g ∧ w.heap[g]? = some (.cells cur T (0, 0)) ∧ cur.size = c * t.size ∧ c ≤ maxLen ∧
     ∀ j (h : j < xs.length), M H t me xs[j] ((cur.toList.drop (j * t.size)).take t.size) (fun g' => ow g' ∧ g' ≠ g ∧ τ g' = j) (sub (.idx j) hs))
 | .ptr t, m, x, cs, ow, hs => ([] ∈ hs ∧ m.isK = false ∧ cs.length = 1 ∧ ∀ u ∈ cs, u.oneCell' = true) ∨ (m.isK = true ∧ K w Wr (.ptr t) x cs) ∨
   ∃ T tag me g cur, m = .o T tag me ∧ cs = [.pointer (some ⟨g, 0, none⟩)] ∧ (∀ h, tag = some h → H h = .pointer (some ⟨g, 0, none⟩)) ∧ ow g ∧ w.heap[g]? = some (.cells cur T (0, 0)) ∧
    M H t me x cur.toList (fun g' => ow g' ∧ g' ≠ g) (sub .deref hs)
 | .pair a b, m, x, cs, ow, hs => ([] ∈ hs ∧ m.isK = false ∧ cs.length = a.size + b.size ∧ ∀ u ∈ cs, u.oneCell' = true) ∨ (m.isK = true ∧ K w Wr (.pair a b) x cs) ∨
   ∃ ma mb c0 c1, ∃ s : Nat → Prop, m = .p ma mb ∧ cs = c0 ++ c1 ∧ M H a ma x.1 c0 (fun g' => ow g' ∧ s g') (sub .fst hs) ∧ M H b mb x.2 c1 (fun g' => ow g' ∧ ¬ s g') (sub .snd hs)
 | .int k, m, x, cs, _, _ => m.isK = true ∧ K w Wr (.int k) x cs
 | .bool, m, x, cs, _, _ => m.isK = true ∧ K w Wr .bool x cs
 | .str, m, x, cs, _, _ => m.isK = true ∧ K w Wr .str x cs
 | .unit, m, x, cs, _, _ => m.isK = true ∧ K w Wr .unit x cs
 | .arr n t, m, x, cs, _, _ => m.isK = true ∧ K w Wr (.arr n t) x cs
end
end Go.Pv
namespace Go.Pv
set_option linter.unusedVariables false
set_option linter.unusedSimpArgs false
structure TV where
 t : Ty
 m : Md
 x : t.I
inductive Cap where
 | pl (t : Ty) (s : Nat) (p : Path)
 | kv (a : TV)
inductive AV where
 | dead
 | undef
 | v (a : TV) (ex : List Path)
 | tup (l : List (Option TV))
 | al (t : Ty) (s : Nat) (p : Path)
 | ad (t : Ty) (s : Nat) (p : Path)
 | cut (t : Ty) (s : Nat) (p : Path) (lo hi : Nat)
 | clo (f : FuncId) (caps : List Cap)
abbrev St := List AV
structure TI where
 T : TypeId
 ty : Ty
 e : TypeId
 fs : List TypeId
abbrev Tab := List TI
def Tab.find (Θ : Tab) (T : TypeId) : Option TI := match Θ with
 | [] => none
 | i :: r => bif Nat.beq i.T T then some i else Tab.find r T
def Md.inn : Md → Md
 | .o _ _ m => m | _ => .k
def Md.l : Md → Md
 | .p a _ => a | m => m
def Md.r : Md → Md
 | .p _ b => b | m => m
def mkM (a b : Md) : Md := bif a.isK && b.isK then .k else .p a b
def getP : Path → (t : Ty) → Md → t.I → Option TV
 | [], t, m, x => some ⟨t, m, x⟩
 | .deref :: p, .ptr t, m, x => getP p t m.inn x
 | .fst :: p, .pair a _, m, x => getP p a m.l x.1
 | .snd :: p, .pair _ b, m, x => getP p b m.r x.2
 | .idx i :: p, .sl t, m, xs => getP p t m.inn (xs.getD i t.z)
 | _ :: _, _, _, _ => none
def setP (b : TV) : Path → (t : Ty) → Md → t.I → Option (Md × t.I)
 | [], t, _, _ => if h : b.t = t then some (b.m, h ▸ b.x) else none
 | .deref :: p, .ptr t, .o T tag me, x => match setP b p t me x with
  | some r => some (.o T tag r.1, r.2)
  | none => none
 | .fst :: p, .pair t u, m, x => match setP b p t m.l x.1 with
  | some r => some (mkM r.1 m.r, (r.2, x.2))
  | none => none
 | .snd :: p, .pair t u, m, x => match setP b p u m.r x.2 with
  | some r => some (mkM m.l r.1, (x.1, r.2))
  | none => none
 | .idx i :: p, .sl t, .o T tag me, xs => match setP b p t me (xs.getD i t.z) with
  | some r => if r.1 = me then some (.o T tag me, xs.set i r.2) else none
  | none => none
 | _ :: _, _, _, _ => none
def clash : Path → Path → Bool
 | [], _ => true
 | _, [] => true
 | .idx _ :: p, .idx _ :: q => clash p q
 | s :: p, s' :: q => if s = s' then clash p q else false
def under : Path → Path → Bool
 | [], [] => false
 | [], _ :: _ => true
 | _ :: _, [] => false
 | .idx _ :: p, .idx _ :: q => under p q
 | s :: p, s' :: q => if s = s' then under p q else false
def pre : Path → Path → Bool
 | [], _ => true
 | .deref :: p, .deref :: q => pre p q
 | .fst :: p, .fst :: q => pre p q
 | .snd :: p, .snd :: q => pre p q
 | _, _ => false
def clashE : Path → Path → Bool
 | [], _ => true
 | _, [] => true
 | .idx i :: p, .idx j :: q => clashE p q && Nat.beq i j
 | s :: p, s' :: q => if s = s' then clashE p q else false
def alikeP : Path → Path → Bool
 | [], [] => true
 | .idx _ :: p, .idx _ :: q => alikeP p q
 | .deref :: p, .deref :: q => alikeP p q
 | .fst :: p, .fst :: q => alikeP p q
 | .snd :: p, .snd :: q => alikeP p q
 | _, _ => false
def sameP : Path → Path → Bool
 | .idx i :: p, .idx j :: q => sameP p q && Nat.beq i j
 | _ :: p, _ :: q => sameP p q
 | _, _ => true
def dropSame (p : Path) : List Path → Bool × List Path
 | [] => (true, [])
 | h :: r => bif alikeP p h then (sameP p h, r) else ((dropSame p r).1, h :: (dropSame p r).2)
def depth : Path → Nat
 | [] => 0 | .deref :: p => depth p + 1 | .idx _ :: p => depth p + 1 | _ :: p => depth p
def AV.refs (d : Nat) : AV → Bool
 | .al _ s _ => Nat.beq s d | .ad _ s _ => Nat.beq s d | .cut _ s _ _ _ => Nat.beq s d
 | .clo _ caps => caps.any fun c => match c with
  | .pl _ s _ => Nat.beq s d
  | .kv _ => false
 | _ => false
def AV.frail (d : Nat) : AV → Bool
 | .al _ s p => Nat.beq s d && match p with
  | [] => false
  | _ => true
 | .ad _ s p => Nat.beq s d && Nat.ble 2 (depth p)
 | .cut _ s _ _ _ => Nat.beq s d
 | .clo _ caps => caps.any fun c => match c with
  | .pl _ s (_ :: _) => Nat.beq s d
  | _ => false
 | _ => false
def St.at (S : St) (i : Nat) : AV := S.getD i .dead
def St.kill (S : St) (d : Nat) : St := S.map fun a => bif a.refs d then .dead else a
def St.weaken (S : St) (d : Nat) : St := S.map fun a => bif a.frail d then .dead else a
def St.cover (S : St) (d : Nat) (p : Path) : St := S.map fun a => match a with
 | .ad t s q => bif Nat.beq s d && under p q then .dead else .ad t s q
 | a => a
def AV.isV : AV → Bool
 | .v .. => true | _ => false
def St.put (S : St) (dst : Option Nat) (a : AV) : St := match dst with
 | none => S
 | some d => (bif (S.at d).isV then S.kill d else S).set d (bif a.refs d then .dead else a)
def againA (s : Nat) (t' : Ty) (a b : AV) : AV := match a, b with
 | .al t q [], .dead => bif Nat.beq q s && decide (t = t') then .al t q [] else .dead
 | _, b => b
def St.again (S S2 : St) (s : Nat) : St := match S2.at s with
 | .v r _ => List.zipWith (againA s r.t) S S2
 | _ => S2
def kTV (a : TV) : TV := ⟨a.t, .k, a.x⟩
def constTV (Θ : Tab) (T : TypeId) : Value → Option TV
 | .int k n => some ⟨.int k, .k, n⟩
 | .bool b => some ⟨.bool, .k, b⟩
 | .string s => some ⟨.str, .k, s⟩
 | .slice none 0 0 => match Θ.find T with
  | some i => match i.ty with
   | .sl t => some ⟨.sl t, .o i.e none .k, []⟩
   | _ => none
  | none => none
 | _ => none
def St.place (S : St) (s : Nat) (p : Path) : Option TV := match S.at s with
 | .v a ex => bif ex.all (fun h => !clash h p) then getP p a.t a.m a.x else none
 | _ => none
def St.glance (S : St) (s : Nat) (p : Path) : Option TV := match S.at s with
 | .v a ex => bif ex.all (fun h => !under h p) then getP p a.t a.m a.x else none
 | _ => none
def St.opv (Θ : Tab) (S : St) (T : TypeId) : Operand → Option AV
 | .tmp i => some (S.at i)
 | .const c => match constTV Θ T c with
  | some a => some (.v a [])
  | none => none
 | .func f => some (.clo f [])
 | .global _ => none
def St.rdA (S : St) : AV → Option TV
 | .v a [] => some a
 | .al _ s p => S.place s p
 | .cut _ s p lo hi => match S.place s p with
  | some ⟨.sl t, m, xs⟩ => some ⟨.sl t, m, (xs.take hi).drop lo⟩
  | _ => none
 | _ => none
def St.rd (Θ : Tab) (S : St) (T : TypeId) (x : Operand) : Option TV := match S.opv Θ T x with
 | some a => S.rdA a
 | none => none
def St.rdInt (Θ : Tab) (S : St) (x : Operand) : Option Int := match S.rd Θ 0 x with
 | some ⟨.int _, _, n⟩ => some n
 | _ => none
def St.takeA (S : St) (x : Operand) : AV → Option (TV × St)
 | .v a ex => bif a.m.isK then some (a, S) else match ex, x with
  | [], .tmp i => some (a, S.put (some i) .dead)
  | [], _ => some (a, S)
  | _, _ => none
 | .al _ s p => match S.place s p with
  | some a => bif a.m.isK then some (a, S) else match p, S.at s with
   | [], _ => some (a, S.put (some s) .dead)
   | _, .v r ex => some (a, ((S.weaken s).cover s p).set s (.v r (ex ++ [p])))
   | _, _ => none
  | none => none
 | .cut _ s [] lo hi => match S.place s [] with
  | some ⟨.sl t, .o T _ me, xs⟩ => bif Nat.beq lo 0 then some (⟨.sl t, .o T none me, xs.take hi⟩, S.put (some s) .dead) else none
  | _ => none
 | _ => none
def St.take (Θ : Tab) (S : St) (T : TypeId) (x : Operand) : Option (TV × St) := match S.opv Θ T x with
 | some a => S.takeA x a
 | none => none
def St.copy (S : St) (x : Operand) : AV → Option AV
 | .v a ex => bif a.m.isK then some (.v a []) else match x with
  | .tmp i => some (.al a.t i [])
  | _ => match ex with
   | [] => some (.v a [])
   | _ => none
 | .tup _ => none
 | .dead => none
 | a => some a
def fld (i n : Nat) : Path := bif Nat.beq (i + 1) n then (bif Nat.beq n 1 then [.fst] else List.replicate i .snd) else List.replicate i .snd ++ [.fst]
def zgo (f : TypeId → Md) : List TypeId → Md
 | [] => .k
 | [a] => f a
 | a :: r => mkM (f a) (zgo f r)
def zmode (Θ : Tab) : Nat → TypeId → Md
 | 0, _ => .k
 | n + 1, T => match Θ.find T with
  | none => .k
  | some i => match i.ty with
   | .sl _ => .o i.e none (zmode Θ n i.e)
   | .pair _ _ => zgo (zmode Θ n) i.fs
   | _ => .k
def zread : Ty → Bool
 | .ptr _ => false | .arr _ _ => false | .pair a b => zread a && zread b | _ => true
def zfit : Ty → Md → Bool
 | .pair a b, .p ma mb => (zfit a ma && zfit b mb) || (ma.isK && mb.isK && zread a && zread b)
 | .sl _, .o _ none _ => true
 | t, m => m.isK && zread t
inductive Tgt where
 | k (a : TV)
 | pl (t : Ty) (s : Nat) (p : Path)
def Tgt.ty : Tgt → Ty
 | .k a => a.t
 | .pl t _ _ => t
def St.tgt (S : St) (x : Operand) : AV → Option Tgt
 | .v ⟨.ptr t, m, y⟩ [] => match m, x with
  | .k, _ => some (.k ⟨t, .k, y⟩)
  | .o .., .tmp i => some (.pl t i [.deref])
  | _, _ => none
 | .v ⟨.ptr t, .o .., _⟩ _ => match x with
  | .tmp i => some (.pl t i [.deref])
  | _ => none
 | .al (.ptr t) s p => match S.glance s p with
  | some ⟨.ptr t', .k, y⟩ => some (.k ⟨t', .k, y⟩)
  | some ⟨.ptr _, .o .., _⟩ => some (.pl t s (p ++ [.deref]))
  | _ => none
 | .ad t s p => some (.pl t s p)
 | _ => none
def St.loadAt (S : St) : Tgt → Option AV
 | .k a => some (.v (kTV a) [])
 | .pl t s p => match S.glance s p with
  | some a => bif a.m.isK then (match S.place s p with
   | some a => some (.v (kTV a) [])
   | none => none) else some (.al t s p)
  | none => none
def bt (s : ByteArray) (i : Int) : Int := if h : i.toNat < s.size then ((s[i.toNat]'h).toNat : Int) else 0
def binI (op : BinOp) (k : IntKind) (x y : Int) : Option (Bool × TV) := match op with
 | .add => some (true, ⟨.int k, .k, k.wrap (x + y)⟩)
 | .sub => some (true, ⟨.int k, .k, k.wrap (x - y)⟩)
 | .mul => some (true, ⟨.int k, .k, k.wrap (x * y)⟩)
 | .quo => some (!decide (y = 0), ⟨.int k, .k, k.wrap (x.tdiv y)⟩)
 | .rem => some (!decide (y = 0), ⟨.int k, .k, x.tmod y⟩)
 | .and => some (true, ⟨.int k, .k, k.wrap (BitVec.ofInt k.bits x &&& BitVec.ofInt k.bits y).toNat⟩)
 | .or => some (true, ⟨.int k, .k, k.wrap (BitVec.ofInt k.bits x ||| BitVec.ofInt k.bits y).toNat⟩)
 | .xor => some (true, ⟨.int k, .k, k.wrap (BitVec.ofInt k.bits x ^^^ BitVec.ofInt k.bits y).toNat⟩)
 | .eql => some (true, ⟨.bool, .k, x == y⟩)
 | .neq => some (true, ⟨.bool, .k, x != y⟩)
 | .lss => some (true, ⟨.bool, .k, decide (x < y)⟩)
 | .leq => some (true, ⟨.bool, .k, decide (x ≤ y)⟩)
 | .gtr => some (true, ⟨.bool, .k, decide (x > y)⟩)
 | .geq => some (true, ⟨.bool, .k, decide (x ≥ y)⟩)
 | .shl => some (decide (0 ≤ y), ⟨.int k, .k, k.wrap (x * 2 ^ (min y.toNat k.bits))⟩)
 | .shr => some (decide (0 ≤ y), ⟨.int k, .k, x.fdiv (2 ^ (min y.toNat k.bits))⟩)
 | _ => none
def binS (op : BinOp) (x y : ByteArray) : Option (Bool × TV) := match op with
 | .add => some (decide (x.size + y.size ≤ 9223372036854775807), ⟨.str, .k, x ++ y⟩)
 | .eql => some (true, ⟨.bool, .k, x.toList == y.toList⟩)
 | .neq => some (true, ⟨.bool, .k, !(x.toList == y.toList)⟩)
 | _ => none
def eqV : (t : Ty) → t.I → t.I → Option Bool
 | .int _, x, y => some (decide ((x : Int) = y))
 | .bool, x, y => some ((x : Bool) == y)
 | .str, x, y => some ((x : ByteArray) == y)
 | .pair a b, x, y => match eqV a x.1 y.1, eqV b x.2 y.2 with
  | some p, some q => some (p && q)
  | _, _ => none
 | .unit, _, _ => some true
 | _, _, _ => none
def binTV (op : BinOp) (a b : TV) : Option (Bool × TV) := match a, b with
 | ⟨.int k, _, x⟩, ⟨.int k', _, y⟩ => if k = k' ∨ op = .shl ∨ op = .shr then binI op k x y else none
 | ⟨.str, _, x⟩, ⟨.str, _, y⟩ => binS op x y
 | ⟨.bool, _, x⟩, ⟨.bool, _, y⟩ => match op with
  | .eql => some (true, ⟨.bool, .k, x == y⟩)
  | .neq => some (true, ⟨.bool, .k, !(x == y)⟩)
  | _ => none
 | ⟨.pair t u, _, x⟩, ⟨t', _, y⟩ => if h : t' = .pair t u then match op, eqV (.pair t u) x (h ▸ y) with
   | .eql, some r => some (true, ⟨.bool, .k, r⟩)
   | .neq, some r => some (true, ⟨.bool, .k, !r⟩)
   | _, _ => none
  else none
 | _, _ => none
def unTV (op : UnOp) (a : TV) : Option TV := match op, a with
 | .not, ⟨.bool, _, x⟩ => some ⟨.bool, .k, !x⟩
 | .neg, ⟨.int k, _, x⟩ => some ⟨.int k, .k, k.wrap (0 - x)⟩
 | .xor, ⟨.int k, _, x⟩ => some ⟨.int k, .k, k.wrap (BitVec.ofInt k.bits (if k.signed then -1 else k.max) ^^^ BitVec.ofInt k.bits x).toNat⟩
 | _, _ => none
def mkS : List TV → TV
 | [] => ⟨.unit, .k, ()⟩
 | [a] => a
 | a :: r => ⟨.pair a.t (mkS r).t, mkM a.m (mkS r).m, (a.x, (mkS r).x)⟩
def mkStruct (l : List TV) : TV := match l with
 | [a] => ⟨.pair a.t .unit, mkM a.m .k, (a.x, ())⟩
 | l => mkS l
def zeroTV (Θ : Tab) (T : TypeId) : Option TV := match Θ.find T with
 | some i => bif zfit i.ty (zmode Θ 9 T) then some ⟨i.ty, zmode Θ 9 T, i.ty.z⟩ else none
 | none => none
def St.parts (Θ : Tab) (S : St) (ps : List (Nat × Operand)) : List TypeId → Nat → Option (List TV × St)
 | [], _ => some ([], S)
 | T :: r, j => match ps.find? (fun q => Nat.beq q.1 j) with
  | some q => match S.take Θ T q.2 with
   | some (a, S1) => match S1.parts Θ ps r (j + 1) with
    | some (l, S2) => some (a :: l, S2)
    | none => none
   | none => none
  | none => match zeroTV Θ T with
   | some a => match S.parts Θ ps r (j + 1) with
    | some (l, S2) => some (a :: l, S2)
    | none => none
   | none => none
def placesB (n : Nat) : List (Nat × Operand) → Bool
 | [] => true
 | q :: r => Nat.blt q.1 n && !(r.any fun q' => Nat.beq q'.1 q.1) && placesB n r
def listOf (t : Ty) (m : Md) : List TV → Option (List t.I)
 | [] => some []
 | a :: r => if h : a.t = t then (if a.m = m then match listOf t m r with
   | some l => some ((h ▸ a.x) :: l)
   | none => none else none) else none
abbrev Hn := List (Nat × Md)
def Hn.find (h : Hn) (d : Option Nat) (m : Md) : Md := match d with
 | none => m
 | some d => match h with
  | [] => m
  | q :: r => bif Nat.beq q.1 d then q.2 else Hn.find r (some d) m
def Hn.froz (h : Hn) (d : Option Nat) : Bool := match h.find d (.o 0 none .k) with
 | .k => true
 | _ => false
def Tab.is (Θ : Tab) (T : TypeId) (t : Ty) : Bool := match Θ.find T with
 | some i => decide (i.ty = t)
 | none => false
abbrev Res := Option (Bool × St)
def evMove (Θ : Tab) (S : St) (dst : Option Nat) (T : TypeId) (x : Operand) : Res := match S.opv Θ T x with
 | some (.tup l) => (match dst, x with
  | some d, .tmp i => bif Nat.beq d i || !Nat.blt d S.length then none else some (true, (S.put (some i) .dead).put (some d) (.tup l))
  | _, _ => none)
 | some a => match S.copy x a with
  | some a => some (true, S.put dst a)
  | none => none
 | none => none
def evAssign (Θ : Tab) (S : St) (dst : Option Nat) (T : TypeId) (x : Operand) : Res := match S.opv Θ T x with
 | some a => match dst, x, a with
  | some d, .tmp i, .v a ex => bif a.m.isK then some (true, S.put dst (.v a [])) else match ex with
   | [] => bif Nat.beq d i || !Nat.blt d S.length then none else some (true, (St.put (S.put (some i) .dead) dst (.v a [])).set i (.al a.t d []))
   | _ => none
  | _, _, .v a ex => bif a.m.isK then some (true, S.put dst (.v a [])) else match ex, x with
   | [], .const _ => some (true, S.put dst (.v a []))
   | _, _ => none
  | some d, _, .al t s [] => bif Nat.beq s d then none else some (true, S.put dst (.al t s []))
  | some d, _, .clo f c => bif AV.refs d (.clo f c) then none else some (true, S.put dst (.clo f c))
  | _, _, .undef => some (true, S.put dst .undef)
  | _, _, a => match S.takeA x a with
   | some (a, S1) => some (true, S1.put dst (.v a []))
   | none => none
 | none => match x with
  | .const _ => some (true, S.put dst .dead)
  | _ => none
def evPick (Θ : Tab) (S : St) (dst : Option Nat) (T : TypeId) (c a b : Operand) : Res := match S.rd Θ 0 c with
 | some ⟨.bool, _, q⟩ => match S.opv Θ T a, S.opv Θ T b with
  | some (.v ⟨.bool, _, x⟩ _), some (.v ⟨.bool, _, y⟩ _) => some (true, S.put dst (.v ⟨.bool, .k, bif q then x else y⟩ []))
  | some p, some r => match (bif q then S.copy a p else S.copy b r) with
   | some a => some (true, S.put dst a)
   | none => none
  | _, _ => none
 | _ => none
def evAlloc (Θ : Tab) (hn : Hn) (S : St) (dst : Option Nat) (T : TypeId) : Res := match zeroTV Θ T with
 | some z => bif zfit z.t (hn.find dst z.m) then some (true, S.put dst (.v ⟨.ptr z.t, .o T none (hn.find dst z.m), z.t.z⟩ [])) else none
 | none => none
def evBox (Θ : Tab) (S : St) (dst : Option Nat) (T : TypeId) (x : Operand) : Res := match S.take Θ T x with
 | some (a, S1) => bif Θ.is T a.t then some (true, S1.put dst (.v ⟨.ptr a.t, .o T none a.m, a.x⟩ [])) else none
 | none => none
def evBuild (Θ : Tab) (S : St) (dst : Option Nat) (T : TypeId) (ps : List (Nat × Operand)) : Res := match Θ.find T with
 | some i => match S.parts Θ ps i.fs 0 with
  | some (l, S1) => bif decide ((mkStruct l).t = i.ty) && isPair i.ty && placesB l.length ps then some (true, S1.put dst (.v (mkStruct l) [])) else none
  | none => none
 | none => none
 where isPair : Ty → Bool
 | .pair _ _ => true
 | _ => false
def evBuildSlice (Θ : Tab) (hn : Hn) (S : St) (dst : Option Nat) (T : TypeId) (n : Nat) (ps : List (Nat × Operand)) : Res := match Θ.find T with
 | some ⟨_, .sl t, e, _⟩ => bif placesB n ps && Nat.ble n 1800 then (match S.parts Θ ps (List.replicate n e) 0 with
  | some (l, S1) => (match l with
   | [] => some (true, S1.put dst (.v ⟨.sl t, bif hn.froz dst then .k else .o e none (hn.find dst .k), []⟩ []))
   | a :: _ => match listOf t a.m l with
    | some xs => some (true, S1.put dst (.v ⟨.sl t, bif hn.froz dst && a.m.isK then .k else .o e none a.m, xs⟩ []))
    | none => none)
  | none => none) else none
 | _ => none
def Ty.flat : Ty → Bool
 | .int _ => true | .bool => true | .str => true | _ => false
def fitR (t : Ty) : AV → Bool
 | .al .. => !t.flat
 | _ => true
def evLoad (Θ : Tab) (S : St) (dst : Option Nat) (T : TypeId) (x : Operand) : Res := match S.opv Θ 0 x with
 | some a => match S.tgt x a with
  | some g => match S.loadAt g with
   | some r => bif fitR g.ty r && Θ.is T g.ty then some (true, S.put dst r) else none
   | none => none
  | none => none
 | none => none
def evStore (Θ : Tab) (S : St) (T : TypeId) (x y : Operand) : Res := match S.opv Θ 0 x with
 | some a => match S.tgt x a with
  | some (.pl _ s p) => match S.take Θ T y with
   | some (b, S1) => bif Θ.is T b.t then (match S1.at s with
    | .v r ex => match setP b p r.t r.m r.x with
     | some (m, z) => bif ex.all (fun h => !under h p) then some ((dropSame p (ex.filter fun h => !pre p h)).1, (S1.weaken s).set s (.v ⟨r.t, m, z⟩ (dropSame p (ex.filter fun h => !pre p h)).2)) else none
     | none => none
    | _ => none) else none
   | none => none
  | _ => none
 | none => none
def shadow (Θ : Tab) (S S1 : St) (T : TypeId) (y : Operand) : St := match S.opv Θ T y with
 | some (.al _ s []) => (match S.at s, S1.at s with
  | .v ⟨.sl t, m, xs⟩ [], .dead => bif m.isK then S1 else S1.set s (.v ⟨.sl t, m, xs⟩ [[]])
  | _, _ => S1)
 | _ => S1
def evNilCheck (Θ : Tab) (S : St) (dst : Option Nat) (x : Operand) : Res := match S.opv Θ 0 x with
 | some a => match S.tgt x a with
  | some g => match S.copy x a, (match g with
   | .k _ => some ()
   | .pl _ s p => match S.glance s p with
    | some _ => some ()
    | none => none) with
   | some a, some _ => some (true, S.put dst a)
   | _, _ => none
  | none => none
 | none => none
def evFieldAddr (Θ : Tab) (S : St) (dst : Option Nat) (T : TypeId) (x : Operand) (f : Nat) : Res := match S.opv Θ 0 x, Θ.find T with
 | some a, some i => bif Nat.blt f i.fs.length then (match S.tgt x a with
  | some (.k ⟨t, m, y⟩) => bif decide (i.ty = t) then (match getP (fld f i.fs.length) t .k y with
   | some b => some (true, S.put dst (.v ⟨.ptr b.t, .k, b.x⟩ []))
   | none => none) else none
  | some (.pl t s p) => bif decide (i.ty = t) then (match S.glance s (p ++ fld f i.fs.length) with
   | some b => some (true, S.put dst (.ad b.t s (p ++ fld f i.fs.length)))
   | none => none) else none
  | none => none) else none
 | _, _ => none
def evField (Θ : Tab) (S : St) (dst : Option Nat) (T : TypeId) (x : Operand) (f : Nat) : Res := match S.opv Θ 0 x, Θ.find T with
 | some (.v a ex), some i => bif Nat.blt f i.fs.length && decide (i.ty = a.t) then (match x with
  | .tmp j => match getP (fld f i.fs.length) a.t a.m a.x with
   | some b => bif b.m.isK then (match ex with
    | [] => some (true, S.put dst (.v (kTV b) []))
    | _ => none) else (match S.glance j (fld f i.fs.length) with
    | some _ => some (true, S.put dst (.al b.t j (fld f i.fs.length)))
    | none => none)
   | none => none
  | _ => none) else none
 | _, _ => none
def inB (n : Int) (len : Nat) : Bool := decide (0 ≤ n) && decide (n < (len : Int))
def evIndexAddr (Θ : Tab) (S : St) (dst : Option Nat) (T : TypeId) (x ix : Operand) : Res := match S.opv Θ 0 x, S.rdInt Θ ix with
 | some (.v ⟨.sl t, m, xs⟩ ex), some n => bif Θ.is T (.sl t) then (match m, x with
  | .k, _ => some (inB n xs.length, S.put dst (.v ⟨.ptr t, .k, xs.getD n.toNat t.z⟩ []))
  | .o .., .tmp j => match S.glance j [.idx n.toNat] with
   | some _ => some (inB n xs.length, S.put dst (.ad t j [.idx n.toNat]))
   | none => none
  | _, _ => none) else none
 | some (.al (.sl t) s p), some n => bif Θ.is T (.sl t) then (match S.glance s p with
  | some ⟨.sl t', .k, xs⟩ => some (inB n xs.length, S.put dst (.v ⟨.ptr t', .k, xs.getD n.toNat t'.z⟩ []))
  | some ⟨.sl t', .o .., xs⟩ => match S.glance s (p ++ [.idx n.toNat]) with
   | some _ => some (inB n xs.length, S.put dst (.ad t' s (p ++ [.idx n.toNat])))
   | none => none
  | _ => none) else none
 | _, _ => none
def evIndex (Θ : Tab) (S : St) (dst : Option Nat) (T : TypeId) (x ix : Operand) : Res := match S.rd Θ 0 x, S.rdInt Θ ix with
 | some ⟨.str, _, s⟩, some n => bif Θ.is T .str then some (inB n s.size, S.put dst (.v ⟨.int .u8, .k, bt s n⟩ [])) else none
 | _, _ => none
def evExtract (S : St) (dst : Option Nat) (x : Operand) (j : Nat) : Res := match x with
 | .tmp i => match S.at i with
  | .tup l => match l.getD j none with
   | some a => bif a.m.isK then some (true, S.put dst (.v a [])) else (match dst with
    | some d => bif Nat.beq d i then none else some (true, St.put (S.set i (.tup (l.set j none))) (some d) (.v a []))
    | none => none)
   | none => none
  | _ => none
 | _ => none
def optInt (Θ : Tab) (S : St) (d : Int) : Option Operand → Option Int
 | none => some d
 | some x => S.rdInt Θ x
def evSlice (Θ : Tab) (S : St) (dst : Option Nat) (T : TypeId) (x : Operand) (lo hi mx : Option Operand) : Res := match S.opv Θ 0 x, S.rd Θ 0 x, optInt Θ S 0 lo with
 | some a, some ⟨.str, _, s⟩, some l => match mx, optInt Θ S (s.size : Int) hi with
  | none, some h => bif Θ.is T .str then some (decide (0 ≤ l) && decide (l ≤ h) && decide (h ≤ (s.size : Int)), S.put dst (.v ⟨.str, .k, s.extract l.toNat h.toNat⟩ [])) else none
  | _, _ => none
 | some a, some ⟨.sl t, m, xs⟩, some l => bif Θ.is T (.sl t) then (match optInt Θ S (xs.length : Int) hi, mx, Θ.find T with
  | some h, none, _ => match m, a, x with
   | .k, _, _ => some (decide (0 ≤ l) && decide (l ≤ h) && decide (h ≤ (xs.length : Int)), S.put dst (.v ⟨.sl t, .k, (xs.take h.toNat).drop l.toNat⟩ []))
   | _, .v .., .tmp i => some (decide (0 ≤ l) && decide (l ≤ h) && decide (h ≤ (xs.length : Int)), S.put dst (.cut (.sl t) i [] l.toNat h.toNat))
   | _, .al _ s p, _ => some (decide (0 ≤ l) && decide (l ≤ h) && decide (h ≤ (xs.length : Int)), S.put dst (.cut (.sl t) s p l.toNat h.toNat))
   | _, _, _ => none
  | some h, some z, some i => match S.rdInt Θ z, hi with
   | some c, some _ => some (decide (l = 0) && decide (h = 0) && decide (c = 0), S.put dst (.v ⟨.sl t, .o i.e none .k, []⟩ []))
   | _, _ => none
  | _, _, _ => none) else none
 | _, _, _ => none
def bytesOf (xs : List Int) : ByteArray := xs.foldl (fun r n => r.push (UInt8.ofNat n.toNat)) ByteArray.empty
def evConvert (Θ : Tab) (S : St) (dst : Option Nat) (T T' : TypeId) (x : Operand) : Res := match S.rd Θ 0 x, Θ.find T, Θ.find T' with
 | some ⟨.int _, _, n⟩, some _, some ⟨_, .int k, _, _⟩ => some (true, S.put dst (.v ⟨.int k, .k, k.wrap n⟩ []))
 | some ⟨.sl (.int .u8), _, xs⟩, some ⟨_, .sl (.int .u8), _, _⟩, some ⟨_, .str, _, _⟩ => some (true, S.put dst (.v ⟨.str, .k, bytesOf xs⟩ []))
 | _, _, _ => none
def evBin (Θ : Tab) (S : St) (dst : Option Nat) (op : BinOp) (T : TypeId) (x y : Operand) : Res := match S.rd Θ T x, S.rd Θ T y with
 | some a, some b => match a.t with
  | .bool => bif Θ.is T .bool then (match binTV op a b with
   | some (g, r) => some (g, S.put dst (.v r []))
   | none => none) else none
  | .pair _ _ => bif Θ.is T a.t then (match binTV op a b with
   | some (g, r) => some (g, S.put dst (.v r []))
   | none => none) else none
  | _ => match binTV op a b with
   | some (g, r) => some (g, S.put dst (.v r []))
   | none => none
 | _, _ => none
def evUn (Θ : Tab) (S : St) (dst : Option Nat) (op : UnOp) (x : Operand) : Res := match S.rd Θ 0 x with
 | some a => match unTV op a with
  | some r => some (true, S.put dst (.v r []))
  | none => none
 | none => none
def evMakeSlice (Θ : Tab) (S : St) (dst : Option Nat) (T : TypeId) (l c : Operand) : Res := match Θ.find T, S.rdInt Θ l, S.rdInt Θ c with
 | some ⟨_, .sl t, e, _⟩, some n, some n' => match zeroTV Θ e with
  | some z => if z.t = t then some (decide (n = n') && decide (0 ≤ n) && decide (n ≤ 1099511627776), S.put dst (.v ⟨.sl t, .o e none z.m, List.replicate n.toNat t.z⟩ [])) else none
  | none => none
 | _, _, _ => none
def capOf (S : St) : Operand → Option Cap
 | .tmp i => match S.at i with
  | .v ⟨.ptr t, .o .., _⟩ _ => some (Cap.pl t i [])
  | .v ⟨.ptr t, .k, y⟩ _ => some (Cap.kv ⟨.ptr t, .k, y⟩)
  | .al (.ptr t) s p => some (Cap.pl t s p)
  | _ => none
 | _ => none
def capsOf (S : St) : List Operand → Option (List Cap)
 | [] => some []
 | x :: r => match capOf S x, capsOf S r with
  | some c, some l => some (c :: l)
  | _, _ => none
def evMakeFunc (S : St) (dst : Option Nat) (f : FuncId) (first caps : List Operand) : Res := match first, capsOf S caps with
 | [], some l => match dst with
  | some d => bif AV.refs d (.clo f l) then none else some (true, S.put dst (.clo f l))
  | none => none
 | _, _ => none
def lenTV : TV → Option Int
 | ⟨.sl _, _, xs⟩ => some (xs.length : Int)
 | ⟨.str, _, b⟩ => some (b.size : Int)
 | _ => none
def evLen (Θ : Tab) (S : St) (dst : Option Nat) (ts : List TypeId) (as : List Operand) : Res := match as, ts with
 | [x], [T] => match (match S.opv Θ 0 x with
   | some (.v a ex) => bif ex.any List.isEmpty then none else some a
   | some (.al t s p) => (match S.place s p with
    | some b => some b
    | none => match S.glance s p with
     | some ⟨.sl t, m, xs⟩ => some ⟨.sl t, m, xs⟩
     | _ => none)
   | some a => S.rdA a
   | none => none) with
  | some b => bif Θ.is T b.t then (match lenTV b with
   | some n => some (true, S.put dst (.v ⟨.int .i64, .k, n⟩ []))
   | none => none) else none
  | none => none
 | _, _ => none
def evAppend (Θ : Tab) (S : St) (dst : Option Nat) (ts : List TypeId) (as : List Operand) : Res := match as, ts with
 | [x, y], [T, T'] => match S.take Θ T x, Θ.find T with
  | some (⟨.sl t, .o e _ me, xs⟩, S1), some i => bif decide (i.ty = .sl t) && Nat.beq i.e e && Θ.is T' (.sl t) then
    (bif me.isK then (match S1.rd Θ T' y with
     | some ⟨.sl t', m', ys⟩ => bif m'.inn.isK then (if h : t' = t then
       some (decide ((xs.length + ys.length) * t.size ≤ 4398046511104), S1.put dst (.v ⟨.sl t, .o e none me, xs ++ (h ▸ ys)⟩ [])) else none) else none
     | _ => none)
    else (match S1.take Θ T' y with
     | some (⟨.sl t', m', ys⟩, S2) => if h : t' = t then
       (if m'.inn = me then some (decide ((xs.length + ys.length) * t.size ≤ 4398046511104), S2.put dst (.v ⟨.sl t, .o e none me, xs ++ (h ▸ ys)⟩ [])) else none) else none
     | _ => none)) else none
  | _, _ => none
 | _, _ => none
def evAppendC (Θ : Tab) (S : St) (dst : Option Nat) (ts : List TypeId) (as : List Operand) : Res := match as, ts with
 | [x, y], [T, T'] => match S.opv Θ T x with
  | some (.al _ s (st :: pp)) => (match S.at s with
   | .v r ex => (match getP (st :: pp) r.t r.m r.x, Θ.find T with
    | some ⟨.sl t, .o e _ me, xs⟩, some i => bif decide (i.ty = .sl t) && Nat.beq i.e e && Θ.is T' (.sl t) && me.isK then
      (match St.rd Θ (((S.weaken s).cover s (st :: pp)).set s (.v r (ex ++ [st :: pp]))) T' y with
      | some ⟨.sl t', m', ys⟩ => bif m'.inn.isK then (if h : t' = t then
        some (ex.all (fun h => !clashE h (st :: pp)) && decide ((xs.length + ys.length) * t.size ≤ 4398046511104), St.put (((S.weaken s).cover s (st :: pp)).set s (.v r (ex ++ [st :: pp]))) dst (.v ⟨.sl t, .o e none me, xs ++ (h ▸ ys)⟩ [])) else none) else none
      | _ => none) else none
    | _, _ => none)
   | _ => none)
  | _ => none
 | _, _ => none
def ev (Θ : Tab) (hn : Hn) (S : St) (o : Oper) : Res := match o.op with
 | .move x => evMove Θ S o.dst o.type x
 | .assign x => evAssign Θ S o.dst o.type x
 | .pick c a b => evPick Θ S o.dst o.type c a b
 | .alloc T => evAlloc Θ hn S o.dst T
 | .box T x => evBox Θ S o.dst T x
 | .build T ps => evBuild Θ S o.dst T ps.toList
 | .buildSlice T n ps => evBuildSlice Θ hn S o.dst T n ps.toList
 | .load T x => evLoad Θ S o.dst T x
 | .store T x y => match o.dst with
  | none => (match evStore Θ S T x y with
   | some (g, S1) => some (g, shadow Θ S S1 T y)
   | none => none)
  | some _ => none
 | .nilCheck x => evNilCheck Θ S o.dst x
 | .fieldAddr T x f => evFieldAddr Θ S o.dst T x f
 | .field T x f => evField Θ S o.dst T x f
 | .indexAddr T x ix => evIndexAddr Θ S o.dst T x ix
 | .index T x ix => evIndex Θ S o.dst T x ix
 | .extract x j => evExtract S o.dst x j
 | .slice T x lo hi mx => evSlice Θ S o.dst T x lo hi mx
 | .convert T T' x => evConvert Θ S o.dst T T' x
 | .binOp op T x y _ => evBin Θ S o.dst op T x y
 | .unOp op _ x => evUn Θ S o.dst op x
 | .makeSlice T l c => evMakeSlice Θ S o.dst T l c
 | .makeFunc (.func f) first caps => evMakeFunc S o.dst f first.toList caps.toList
 | .call { callee := .builtin .len, args := as, argTypes := ts } => evLen Θ S o.dst ts.toList as.toList
 | .call { callee := .builtin .append, args := as, argTypes := ts } => match evAppend Θ S o.dst ts.toList as.toList with
  | some r => some r
  | none => evAppendC Θ S o.dst ts.toList as.toList
 | _ => none
end Go.Pv
namespace Go.Pv
set_option linter.unusedVariables false
set_option linter.unusedSimpArgs false
variable {w w' : World} {Wr Wr' : Nat → Prop} {H : Nat → Value}
theorem flatten_len {α : Type} (n : Nat) : ∀ {css : List (List α)}, (∀ c ∈ css, c.length = n) → css.flatten.length = css.length * n
 | [], _ => by simp
 | c :: r, h => by
  have h1 := h c (by simp)
  have h2 := flatten_len n (css := r) fun c hc => h c (by simp [hc])
  simp [h1, h2, Nat.add_mul, Nat.add_comm]
theorem K_ok : ∀ (t : Ty) {x : t.I} {cs : List Value}, K w Wr t x cs → cs.length = t.size ∧ ∀ u ∈ cs, u.oneCell' = true
 | .int k, n, cs, h => by simp only [K] at h; subst h; exact ⟨rfl, by simp [Value.oneCell']⟩
 | .bool, n, cs, h => by simp only [K] at h; subst h; exact ⟨rfl, by simp [Value.oneCell']⟩
 | .str, n, cs, h => by simp only [K] at h; subst h; exact ⟨rfl, by simp [Value.oneCell']⟩
 | .unit, n, cs, h => by simp only [K] at h; subst h; exact ⟨rfl, by simp⟩
 | .pair a b, x, cs, h => by
  simp only [K] at h
  obtain ⟨c0, c1, rfl, h0, h1⟩ := h
  obtain ⟨l0, o0⟩ := K_ok a h0
  obtain ⟨l1, o1⟩ := K_ok b h1
  refine ⟨by simp [l0, l1, Ty.size], fun u hu => ?_⟩
  rcases List.mem_append.1 hu with hu | hu
  ·exact o0 u hu
  ·exact o1 u hu
 | .arr n t, xs, cs, h => by
  simp only [K] at h
  obtain ⟨css, rfl, hl, hx, hj⟩ := h
  have hall : ∀ c ∈ css, c.length = t.size ∧ ∀ u ∈ c, u.oneCell' = true := by
   intro c hc
   obtain ⟨j, hj1, rfl⟩ := List.mem_iff_getElem.1 hc
   exact K_ok t (hj j (by omega) hj1)
  refine ⟨by rw [flatten_len t.size fun c hc => (hall c hc).1, hl]; rfl, fun u hu => ?_⟩
  obtain ⟨c, hc, hu⟩ := List.mem_flatten.1 hu
  exact (hall c hc).2 u hu
 | .sl t, xs, cs, h => by
  simp only [K] at h
  obtain ⟨A, c, rfl, _⟩ := h
  exact ⟨rfl, by simp [Value.oneCell']⟩
 | .ptr t, xs, cs, h => by
  simp only [K] at h
  obtain ⟨g, off, cur, T, fr, rfl, _⟩ := h
  exact ⟨rfl, by simp [Value.oneCell']⟩
structure Stays (w w' : World) (Wr Wr' : Nat → Prop) : Prop where
 same : ∀ g, ¬ Wr g → g < w.heap.size → w'.heap[g]? = w.heap[g]?
 wr : ∀ g, g < w.heap.size → Wr' g → Wr g
theorem Stays.refl (w : World) (Wr : Nat → Prop) : Stays w w Wr Wr := ⟨fun _ _ _ => rfl, fun _ _ h => h⟩
theorem lt_of_some {α : Type} {a : Array α} {g : Nat} {o : α} (h : a[g]? = some o) : g < a.size := (Array.getElem?_eq_some_iff.1 h).1
theorem K_stays (hs : Stays w w' Wr Wr') : ∀ (t : Ty) {x : t.I} {cs : List Value}, K w Wr t x cs → K w' Wr' t x cs
 | .int k, n, cs, h => h
 | .bool, n, cs, h => h
 | .str, n, cs, h => h
 | .unit, n, cs, h => h
 | .pair a b, x, cs, h => by
  simp only [K] at h ⊢
  obtain ⟨c0, c1, rfl, h0, h1⟩ := h
  exact ⟨c0, c1, rfl, K_stays hs a h0, K_stays hs b h1⟩
 | .arr n t, xs, cs, h => by
  simp only [K] at h ⊢
  obtain ⟨css, rfl, hl, hx, hj⟩ := h
  exact ⟨css, rfl, hl, hx, fun j h1 h2 => K_stays hs t (hj j h1 h2)⟩
 | .sl t, xs, cs, h => by
  simp only [K] at h ⊢
  obtain ⟨A, c, rfl, hc, h⟩ := h
  refine ⟨A, c, rfl, hc, fun hp => ?_⟩
  obtain ⟨g, off, cur, T, fr, rfl, hg, hw, ho, hj⟩ := h hp
  have hlt := lt_of_some hw
  exact ⟨g, off, cur, T, fr, rfl, fun hg' => hg (hs.wr g hlt hg'), (hs.same g hg hlt).trans hw, ho, fun j hj1 => K_stays hs t (hj j hj1)⟩
 | .ptr t, x, cs, h => by
  simp only [K] at h ⊢
  obtain ⟨g, off, cur, T, fr, rfl, hg, hw, ho, hj⟩ := h
  have hlt := lt_of_some hw
  exact ⟨g, off, cur, T, fr, rfl, fun hg' => hg (hs.wr g hlt hg'), (hs.same g hg hlt).trans hw, ho, K_stays hs t hj⟩
theorem M_ok : ∀ (t : Ty) {m : Md} {x : t.I} {cs : List Value} {ow : Nat → Prop} {hs : List Path}, M w Wr H t m x cs ow hs → cs.length = t.size ∧ ∀ u ∈ cs, u.oneCell' = true
 | .int k, m, n, cs, _, _, h => K_ok (.int k) (by simp only [M] at h; exact h.2)
 | .bool, m, n, cs, _, _, h => K_ok .bool (by simp only [M] at h; exact h.2)
 | .str, m, n, cs, _, _, h => K_ok .str (by simp only [M] at h; exact h.2)
 | .unit, m, n, cs, _, _, h => K_ok .unit (by simp only [M] at h; exact h.2)
 | .arr n t, m, _, cs, _, _, h => K_ok (.arr n t) (by simp only [M] at h; exact h.2)
 | .pair a b, m, x, cs, ow, hs, h => by
  simp only [M] at h
  rcases h with ⟨_, _, h⟩ | ⟨_, h⟩ | ⟨ma, mb, c0, c1, s, _, rfl, h0, h1⟩
  ·exact h
  ·exact K_ok _ h
  ·obtain ⟨l0, o0⟩ := M_ok a h0
   obtain ⟨l1, o1⟩ := M_ok b h1
   refine ⟨by simp [l0, l1, Ty.size], fun u hu => ?_⟩
   rcases List.mem_append.1 hu with hu | hu
   ·exact o0 u hu
   ·exact o1 u hu
 | .sl t, m, xs, cs, ow, hs, h => by
  simp only [M] at h
  rcases h with ⟨_, _, A, c, rfl⟩ | ⟨_, h⟩ | ⟨T, tag, me, A, c, _, rfl, _⟩
  ·exact ⟨rfl, by simp [Value.oneCell']⟩
  ·exact K_ok _ h
  ·exact ⟨rfl, by simp [Value.oneCell']⟩
 | .ptr t, m, xs, cs, ow, hs, h => by
  simp only [M] at h
  rcases h with ⟨_, _, h⟩ | ⟨_, h⟩ | ⟨T, tag, me, g, cur, _, rfl, _⟩
  ·exact h
  ·exact K_ok _ h
  ·exact ⟨rfl, by simp [Value.oneCell']⟩
theorem mem_sub {s : Step} {p : Path} {hs : List Path} : p ∈ sub s hs ↔ (s :: p) ∈ hs := by
 unfold sub
 rw [List.mem_filterMap]
 constructor
 ·rintro ⟨q, hq, h⟩
  cases q with
  | nil => simp at h
  | cons a r => by_cases e : a = s <;> simp [e] at h; subst h e; exact hq
 ·intro h
  exact ⟨_, h, by simp⟩
theorem sub_mono {s : Step} {hs hs' : List Path} (h : ∀ p ∈ hs, p ∈ hs') : ∀ p ∈ sub s hs, p ∈ sub s hs' := fun p hp => mem_sub.2 (h _ (mem_sub.1 hp))
theorem M_move (hst : Stays w w' Wr Wr') : ∀ (t : Ty) {m : Md} {x : t.I} {cs : List Value} {ow ow' : Nat → Prop} {hs hs' : List Path},
  (∀ g, ow g → g < w.heap.size → w'.heap[g]? = w.heap[g]?) → (∀ g, ow g → g < w.heap.size → ow' g) → (∀ p ∈ hs, p ∈ hs') → M w Wr H t m x cs ow hs → M w' Wr' H t m x cs ow' hs'
 | .int k, m, n, cs, _, _, _, _, _, _, _, h => by simp only [M] at h ⊢; exact h
 | .bool, m, n, cs, _, _, _, _, _, _, _, h => by simp only [M] at h ⊢; exact h
 | .str, m, n, cs, _, _, _, _, _, _, _, h => by simp only [M] at h ⊢; exact h
 | .unit, m, n, cs, _, _, _, _, _, _, _, h => by simp only [M] at h ⊢; exact h
 | .arr n t, m, _, cs, _, _, _, _, _, _, _, h => by simp only [M] at h ⊢; exact ⟨h.1, K_stays hst _ h.2⟩
 | .pair a b, m, x, cs, ow, ow', hs, hs', hb, ho, hp, h => by
  simp only [M] at h ⊢
  rcases h with ⟨h1, h⟩ | ⟨h1, h⟩ | ⟨ma, mb, c0, c1, s, e, rfl, h0, h1⟩
  ·exact .inl ⟨hp _ h1, h⟩
  ·exact .inr (.inl ⟨h1, K_stays hst _ h⟩)
  ·exact .inr (.inr ⟨ma, mb, c0, c1, s, e, rfl, M_move hst a (fun g hg => hb g hg.1) (fun g hg hl => ⟨ho g hg.1 hl, hg.2⟩) (sub_mono hp) h0,
    M_move hst b (fun g hg => hb g hg.1) (fun g hg hl => ⟨ho g hg.1 hl, hg.2⟩) (sub_mono hp) h1⟩)
 | .sl t, m, xs, cs, ow, ow', hs, hs', hb, ho, hp, h => by
  simp only [M] at h ⊢
  rcases h with ⟨h1, h⟩ | ⟨h1, h⟩ | ⟨T, tag, me, A, c, e, rfl, hc, ht, h⟩
  ·exact .inl ⟨hp _ h1, h⟩
  ·exact .inr (.inl ⟨h1, K_stays hst _ h⟩)
  ·refine .inr (.inr ⟨T, tag, me, A, c, e, rfl, hc, ht, ?_⟩)
   rcases h with h | ⟨g, cur, τ, rfl, hg, hw, hsz, hm, hj⟩
   ·exact .inl h
   ·have hlt := lt_of_some hw
    exact .inr ⟨g, cur, τ, rfl, ho g hg hlt, (hb g hg hlt).trans hw, hsz, hm, fun j hj1 => M_move hst t (fun g' hg' => hb g' hg'.1) (fun g' hg' hl => ⟨ho g' hg'.1 hl, hg'.2⟩) (sub_mono hp) (hj j hj1)⟩
 | .ptr t, m, x, cs, ow, ow', hs, hs', hb, ho, hp, h => by
  simp only [M] at h ⊢
  rcases h with ⟨h1, h⟩ | ⟨h1, h⟩ | ⟨T, tag, me, g, cur, e, rfl, ht, hg, hw, h⟩
  ·exact .inl ⟨hp _ h1, h⟩
  ·exact .inr (.inl ⟨h1, K_stays hst _ h⟩)
  ·have hlt := lt_of_some hw
   exact .inr (.inr ⟨T, tag, me, g, cur, e, rfl, ht, ho g hg hlt, (hb g hg hlt).trans hw, M_move hst t (fun g' hg' => hb g' hg'.1) (fun g' hg' hl => ⟨ho g' hg'.1 hl, hg'.2⟩) (sub_mono hp) h⟩)
theorem M_K (hw : ∀ g, g < w.heap.size → Wr' g → Wr g) : ∀ (t : Ty) {m : Md} {x : t.I} {cs : List Value} {ow : Nat → Prop} {hs : List Path}, hs = [] → (∀ g, ow g → ¬ Wr' g) → M w Wr H t m x cs ow hs → K w Wr' t x cs
 | .int k, m, n, cs, _, _, _, _, h => by simp only [M] at h; exact h.2
 | .bool, m, n, cs, _, _, _, _, h => by simp only [M] at h; exact h.2
 | .str, m, n, cs, _, _, _, _, h => by simp only [M] at h; exact h.2
 | .unit, m, n, cs, _, _, _, _, h => by simp only [M] at h; exact h.2
 | .arr n t, m, _, cs, _, _, _, _, h => by simp only [M] at h; exact K_stays ⟨fun _ _ _ => rfl, hw⟩ _ h.2
 | .pair a b, m, x, cs, ow, hs, e, hn, h => by
  subst e
  simp only [M] at h
  rcases h with ⟨h1, h⟩ | ⟨h1, h⟩ | ⟨ma, mb, c0, c1, s, e, rfl, h0, h1⟩
  ·simp at h1
  ·exact K_stays ⟨fun _ _ _ => rfl, hw⟩ _ h
  ·simp only [K]
   exact ⟨c0, c1, rfl, M_K hw a rfl (fun g hg => hn g hg.1) h0, M_K hw b rfl (fun g hg => hn g hg.1) h1⟩
 | .sl t, m, xs, cs, ow, hs, e, hn, h => by
  subst e
  simp only [M] at h
  rcases h with ⟨h1, h⟩ | ⟨h1, h⟩ | ⟨T, tag, me, A, c, e, rfl, hc, ht, h⟩
  ·simp at h1
  ·exact K_stays ⟨fun _ _ _ => rfl, hw⟩ _ h
  ·simp only [K]
   refine ⟨A, c, rfl, hc, fun hp => ?_⟩
   rcases h with ⟨rfl, _⟩ | ⟨g, cur, τ, rfl, hg, hh, hsz, hm, hj⟩
   ·simp at hp
   ·exact ⟨g, 0, cur, T, (0, 0), rfl, hn g hg, hh, by rw [hsz]; have := Nat.mul_le_mul_right t.size hc; omega, fun j hj1 => by
     rw [Nat.zero_add]; exact M_K hw t rfl (fun g' hg' => hn g' hg'.1) (hj j hj1)⟩
 | .ptr t, m, x, cs, ow, hs, e, hn, h => by
  subst e
  simp only [M] at h
  rcases h with ⟨h1, h⟩ | ⟨h1, h⟩ | ⟨T, tag, me, g, cur, e, rfl, ht, hg, hh, h⟩
  ·simp at h1
  ·exact K_stays ⟨fun _ _ _ => rfl, hw⟩ _ h
  ·have hl := (M_ok t h).1
   simp only [K]
   refine ⟨g, 0, cur, T, (0, 0), rfl, hn g hg, hh, by rw [← hl]; simp, ?_⟩
   rw [List.drop_zero, List.take_of_length_le (by omega)]
   exact M_K hw t rfl (fun g' hg' => hn g' hg'.1) h
end Go.Pv
namespace Go.Pv
set_option linter.unusedVariables false
set_option linter.unusedSimpArgs false
variable {w w' : World} {Wr Wr' : Nat → Prop} {H : Nat → Value}
theorem M_of_K : ∀ (t : Ty) {x : t.I} {cs : List Value} {ow : Nat → Prop} {hs : List Path}, K w Wr t x cs → M w Wr H t .k x cs ow hs
 | .int _, _, _, _, _, h => by simp only [M]; exact ⟨rfl, h⟩
 | .bool, _, _, _, _, h => by simp only [M]; exact ⟨rfl, h⟩
 | .str, _, _, _, _, h => by simp only [M]; exact ⟨rfl, h⟩
 | .unit, _, _, _, _, h => by simp only [M]; exact ⟨rfl, h⟩
 | .arr _ _, _, _, _, _, h => by simp only [M]; exact ⟨rfl, h⟩
 | .pair _ _, _, _, _, _, h => by simp only [M]; exact .inr (.inl ⟨rfl, h⟩)
 | .sl _, _, _, _, _, h => by simp only [M]; exact .inr (.inl ⟨rfl, h⟩)
 | .ptr _, _, _, _, _, h => by simp only [M]; exact .inr (.inl ⟨rfl, h⟩)
theorem M_isK : ∀ (t : Ty) {m : Md} {x : t.I} {cs : List Value} {ow : Nat → Prop} {hs : List Path}, m.isK = true → M w Wr H t m x cs ow hs → K w Wr t x cs
 | .int _, _, _, _, _, _, _, h => by simp only [M] at h; exact h.2
 | .bool, _, _, _, _, _, _, h => by simp only [M] at h; exact h.2
 | .str, _, _, _, _, _, _, h => by simp only [M] at h; exact h.2
 | .unit, _, _, _, _, _, _, h => by simp only [M] at h; exact h.2
 | .arr _ _, _, _, _, _, _, _, h => by simp only [M] at h; exact h.2
 | .sl _, m, _, _, _, _, hk, h => by
  simp only [M] at h
  rcases h with ⟨_, h, _⟩ | ⟨_, h⟩ | ⟨T, tag, me, A, c, rfl, _⟩
  ·rw [hk] at h; cases h
  ·exact h
  ·simp [Md.isK] at hk
 | .ptr _, m, _, _, _, _, hk, h => by
  simp only [M] at h
  rcases h with ⟨_, h, _⟩ | ⟨_, h⟩ | ⟨T, tag, me, g, cur, rfl, _⟩
  ·rw [hk] at h; cases h
  ·exact h
  ·simp [Md.isK] at hk
 | .pair a b, m, _, _, _, _, hk, h => by
  simp only [M] at h
  rcases h with ⟨_, h, _⟩ | ⟨_, h⟩ | ⟨ma, mb, c0, c1, s, rfl, rfl, h0, h1⟩
  ·rw [hk] at h; cases h
  ·exact h
  ·simp [Md.isK] at hk
   simp only [K]
   exact ⟨c0, c1, rfl, M_isK a hk.1 h0, M_isK b hk.2 h1⟩
theorem K_M {t : Ty} {m : Md} {x : t.I} {cs : List Value} {ow : Nat → Prop} {hs : List Path} (hk : m.isK = true) (h : K w Wr t x cs) : M w Wr H t m x cs ow hs := by
 cases t <;> simp only [M] <;> first | exact ⟨hk, h⟩ | exact .inr (.inl ⟨hk, h⟩)
theorem inn_isK {m : Md} (h : m.isK = true) : m.inn.isK = true := by cases m <;> simp_all [Md.isK, Md.inn]
theorem l_isK {m : Md} (h : m.isK = true) : m.l.isK = true := by cases m <;> simp_all [Md.isK, Md.l]
theorem r_isK {m : Md} (h : m.isK = true) : m.r.isK = true := by cases m <;> simp_all [Md.isK, Md.r]
theorem mkM_pair {a b : Ty} {ma mb : Md} {x : a.I} {y : b.I} {c0 c1 : List Value} {ow s : Nat → Prop} {hs : List Path}
  (h0 : M w Wr H a ma x c0 (fun g => ow g ∧ s g) (sub .fst hs)) (h1 : M w Wr H b mb y c1 (fun g => ow g ∧ ¬ s g) (sub .snd hs)) :
  M w Wr H (.pair a b) (mkM ma mb) (x, y) (c0 ++ c1) ow hs := by
 unfold mkM
 cases h : ma.isK && mb.isK with
 | false => simp only [cond_false, M]; exact .inr (.inr ⟨ma, mb, c0, c1, s, rfl, rfl, h0, h1⟩)
 | true =>
  simp at h
  exact M_of_K _ (by simp only [K]; exact ⟨c0, c1, rfl, M_isK a h.1 h0, M_isK b h.2 h1⟩)
def rowAt (w : World) (g off n : Nat) : Option (List Value) := match w.heap[g]? with
 | some (.cells cur _ _) => if off + n ≤ cur.size then some ((cur.toList.drop off).take n) else none
 | _ => none
def cellsAt (w : World) : Path → (t : Ty) → List Value → Option (List Value)
 | [], _, cs => some cs
 | .deref :: p, .ptr t, [.pointer (some ⟨g, off, none⟩)] => (rowAt w g off t.size).bind (cellsAt w p t)
 | .fst :: p, .pair a _, cs => cellsAt w p a (cs.take a.size)
 | .snd :: p, .pair a b, cs => cellsAt w p b (cs.drop a.size)
 | .idx i :: p, .sl t, [.slice (some ⟨g, off, none⟩) _ _] => (rowAt w g (off + i * t.size) t.size).bind (cellsAt w p t)
 | _ :: _, _, _ => none
def addrAt (w : World) : Path → (t : Ty) → List Value → Option (Nat × Nat) → Option (Nat × Nat)
 | [], _, _, l => l
 | .deref :: p, .ptr t, [.pointer (some ⟨g, off, none⟩)], _ => (rowAt w g off t.size).bind fun cs => addrAt w p t cs (some (g, off))
 | .fst :: p, .pair a _, cs, l => addrAt w p a (cs.take a.size) l
 | .snd :: p, .pair a b, cs, l => addrAt w p b (cs.drop a.size) (l.map fun q => (q.1, q.2 + a.size))
 | .idx i :: p, .sl t, [.slice (some ⟨g, off, none⟩) _ _], _ => (rowAt w g (off + i * t.size) t.size).bind fun cs => addrAt w p t cs (some (g, off + i * t.size))
 | _ :: _, _, _, _ => none
def valid : Path → (t : Ty) → t.I → Prop
 | [], _, _ => True
 | .deref :: p, .ptr t, x => valid p t x
 | .fst :: p, .pair a _, x => valid p a x.1
 | .snd :: p, .pair _ b, x => valid p b x.2
 | .idx i :: p, .sl t, xs => i < xs.length ∧ valid p t (xs.getD i t.z)
 | _ :: _, _, _ => False
def subs : Path → List Path → List Path
 | [], hs => hs
 | s :: p, hs => subs p (sub s hs)
theorem mem_subs {p q : Path} : ∀ {hs : List Path}, q ∈ subs p hs ↔ (p ++ q) ∈ hs := by
 induction p with
 | nil => intro hs; rfl
 | cons s p ih => intro hs; simp only [subs, ih, mem_sub, List.cons_append]
def open_ (p : Path) (hs : List Path) : Prop := ∀ h ∈ hs, ∀ s r, p ≠ h ++ s :: r
theorem open_.sub {s : Step} {p : Path} {hs : List Path} (h : open_ (s :: p) hs) : open_ p (sub s hs) := fun q hq s' r e => h _ (mem_sub.1 hq) s' r (by rw [e]; rfl)
theorem open_.not_nil {s : Step} {p : Path} {hs : List Path} (h : open_ (s :: p) hs) : [] ∉ hs := fun hn => h [] hn s p rfl
theorem rowAt_own {cur : Array Value} {T : TypeId} {fr : Nat × Nat} {g off n : Nat} (h : w.heap[g]? = some (.cells cur T fr)) (hl : off + n ≤ cur.size) : rowAt w g off n = some ((cur.toList.drop off).take n) := by
 simp [rowAt, h, hl]
theorem focus : ∀ (p : Path) {t : Ty} {m : Md} {x : t.I} {cs : List Value} {ow : Nat → Prop} {hs : List Path} {b : TV}, M w Wr H t m x cs ow hs → open_ p hs → valid p t x → getP p t m x = some b →
  ∃ cs' ow', cellsAt w p t cs = some cs' ∧ (∀ g, ow' g → ow g) ∧ M w Wr H b.t b.m b.x cs' ow' (subs p hs)
 | [], t, m, x, cs, ow, hs, b, h, ho, hv, hg => by
  simp only [getP, Option.some.injEq] at hg
  subst hg
  exact ⟨cs, ow, rfl, fun _ h => h, h⟩
 | .deref :: p, .ptr t, m, x, cs, ow, hs, b, h, ho, hv, hg => by
  simp only [getP] at hg
  simp only [valid] at hv
  simp only [M] at h
  rcases h with ⟨hn, _⟩ | ⟨hk, h⟩ | ⟨T, tag, me, g, cur, rfl, rfl, ht, hog, hw, h⟩
  ·exact absurd hn ho.not_nil
  ·simp only [K] at h
   obtain ⟨g, off, cur, T, fr, rfl, hng, hw, hl, h⟩ := h
   obtain ⟨cs', ow', h1, h2, h3⟩ := focus p (ow := fun _ => False) (K_M (inn_isK hk) h) ho.sub hv hg
   exact ⟨cs', ow', by simp only [cellsAt, rowAt_own hw hl, Option.bind_some]; exact h1, fun g hg => (h2 g hg).elim, h3⟩
  ·have hlen := (M_ok t h).1
   obtain ⟨cs', ow', h1, h2, h3⟩ := focus p h ho.sub hv hg
   refine ⟨cs', ow', ?_, fun g hg => (h2 g hg).1, h3⟩
   have hsz : 0 + t.size ≤ cur.size := by rw [← hlen]; simp
   simp only [cellsAt, rowAt_own hw hsz, Option.bind_some, List.drop_zero]
   rw [List.take_of_length_le (by omega)]
   exact h1
 | .fst :: p, .pair a b', m, x, cs, ow, hs, b, h, ho, hv, hg => by
  simp only [getP] at hg
  simp only [valid] at hv
  simp only [M] at h
  rcases h with ⟨hn, _⟩ | ⟨hk, h⟩ | ⟨ma, mb, c0, c1, s, rfl, rfl, h0, h1⟩
  ·exact absurd hn ho.not_nil
  ·simp only [K] at h
   obtain ⟨c0, c1, rfl, h0, h1⟩ := h
   obtain ⟨cs', ow', k1, k2, k3⟩ := focus p (ow := fun _ => False) (K_M (l_isK hk) h0) ho.sub hv hg
   exact ⟨cs', ow', by simp only [cellsAt]; rw [← (K_ok a h0).1, List.take_left]; exact k1, fun g hg => (k2 g hg).elim, k3⟩
  ·obtain ⟨cs', ow', k1, k2, k3⟩ := focus p h0 ho.sub hv hg
   exact ⟨cs', ow', by simp only [cellsAt]; rw [← (M_ok a h0).1, List.take_left]; exact k1, fun g hg => (k2 g hg).1, k3⟩
 | .snd :: p, .pair a b', m, x, cs, ow, hs, b, h, ho, hv, hg => by
  simp only [getP] at hg
  simp only [valid] at hv
  simp only [M] at h
  rcases h with ⟨hn, _⟩ | ⟨hk, h⟩ | ⟨ma, mb, c0, c1, s, rfl, rfl, h0, h1⟩
  ·exact absurd hn ho.not_nil
  ·simp only [K] at h
   obtain ⟨c0, c1, rfl, h0, h1⟩ := h
   obtain ⟨cs', ow', k1, k2, k3⟩ := focus p (ow := fun _ => False) (K_M (r_isK hk) h1) ho.sub hv hg
   exact ⟨cs', ow', by simp only [cellsAt]; rw [← (K_ok a h0).1, List.drop_left]; exact k1, fun g hg => (k2 g hg).elim, k3⟩
  ·obtain ⟨cs', ow', k1, k2, k3⟩ := focus p h1 ho.sub hv hg
   exact ⟨cs', ow', by simp only [cellsAt]; rw [← (M_ok a h0).1, List.drop_left]; exact k1, fun g hg => (k2 g hg).1, k3⟩
 | .idx i :: p, .sl t, m, xs, cs, ow, hs, b, h, ho, hv, hg => by
  simp only [getP] at hg
  simp only [valid] at hv
  obtain ⟨hi, hv⟩ := hv
  have hget : (show List t.I from xs).getD i t.z = (show List t.I from xs)[i] := by simp [List.getD_eq_getElem?_getD, List.getElem?_eq_getElem hi]
  simp only [M] at h
  rcases h with ⟨hn, _⟩ | ⟨hk, h⟩ | ⟨T, tag, me, A, c, rfl, rfl, hc, ht, h⟩
  ·exact absurd hn ho.not_nil
  ·simp only [K] at h
   obtain ⟨A, c, rfl, hc, h⟩ := h
   obtain ⟨g, off, cur, T, fr, rfl, hng, hw, hl, h⟩ := h (by omega)
   have hbound : off + i * t.size + t.size ≤ cur.size := by
    have := Nat.mul_le_mul_right t.size (show i + 1 ≤ xs.length from hi)
    rw [Nat.add_mul, Nat.one_mul] at this
    omega
   have hK := h i hi
   rw [← hget] at hK
   obtain ⟨cs', ow', h1, h2, h3⟩ := focus p (ow := fun _ => False) (K_M (inn_isK hk) hK) ho.sub hv hg
   exact ⟨cs', ow', by simp only [cellsAt, rowAt_own hw hbound, Option.bind_some]; exact h1, fun g hg => (h2 g hg).elim, h3⟩
  ·rcases h with ⟨rfl, _⟩ | ⟨g, cur, τ, rfl, hog, hw, hsz, hm, h⟩
   ·simp at hi
   ·have hbound : i * t.size + t.size ≤ cur.size := by
     have h1 := Nat.mul_le_mul_right t.size (show i + 1 ≤ xs.length from hi)
     have h2 := Nat.mul_le_mul_right t.size hc
     rw [Nat.add_mul, Nat.one_mul] at h1
     omega
    have hM := h i hi
    rw [← hget] at hM
    obtain ⟨cs', ow', h1, h2, h3⟩ := focus p hM ho.sub hv hg
    exact ⟨cs', ow', by simp only [cellsAt, Nat.zero_add, rowAt_own hw hbound, Option.bind_some]; exact h1, fun g hg => (h2 g hg).1, h3⟩
end Go.Pv
namespace Go.Pv
set_option linter.unusedVariables false
set_option linter.unusedSimpArgs false
variable {w w' : World} {Wr Wr' : Nat → Prop} {H : Nat → Value}
def putCells (cur : List Value) (off : Nat) (c : List Value) : List Value := cur.take off ++ c ++ cur.drop (off + c.length)
theorem put_get (cur c : List Value) (off k : Nat) (h : off + c.length ≤ cur.length) :
  (putCells cur off c)[k]? = if k < off then cur[k]? else if k < off + c.length then c[k - off]? else cur[k]? := by
 unfold putCells
 have hl : (cur.take off).length = off := by rw [List.length_take]; omega
 by_cases h1 : k < off
 ·rw [if_pos h1, List.append_assoc, List.getElem?_append_left (by omega), List.getElem?_take, if_pos h1]
 ·rw [if_neg h1]
  by_cases h2 : k < off + c.length
  ·rw [if_pos h2, List.append_assoc, List.getElem?_append_right (by omega), hl, List.getElem?_append_left (by omega)]
  ·rw [if_neg h2, List.getElem?_append_right (by rw [List.length_append]; omega), List.length_append, hl, List.getElem?_drop]
   congr 1
   omega
theorem put_len (cur c : List Value) (off : Nat) (h : off + c.length ≤ cur.length) : (putCells cur off c).length = cur.length := by
 unfold putCells
 simp only [List.length_append, List.length_take, List.length_drop]
 omega
theorem put_in (cur c : List Value) (a off n : Nat) (h1 : off + c.length ≤ n) (h2 : a + n ≤ cur.length) :
  ((putCells cur (a + off) c).drop a).take n = putCells ((cur.drop a).take n) off c := by
 apply List.ext_getElem?
 intro k
 have hl : ((cur.drop a).take n).length = n := by simp; omega
 rw [put_get _ _ _ _ (by omega)]
 by_cases hk : k < n
 ·rw [List.getElem?_take, if_pos hk, List.getElem?_drop, put_get _ _ _ _ (by omega)]
  simp only [List.getElem?_take, if_pos hk, List.getElem?_drop]
  by_cases h3 : k < off
  ·rw [if_pos h3, if_pos (by omega)]
  ·rw [if_neg h3, if_neg (by omega)]
   by_cases h4 : k < off + c.length
   ·rw [if_pos h4, if_pos (by omega)]; congr 1; omega
   ·rw [if_neg h4, if_neg (by omega)]
 ·rw [List.getElem?_take, if_neg hk, if_neg (by omega), if_neg (by omega), List.getElem?_take, if_neg hk]
theorem put_out (cur c : List Value) (o a n : Nat) (h : o + c.length ≤ cur.length) (hd : a + n ≤ o ∨ o + c.length ≤ a) :
  ((putCells cur o c).drop a).take n = (cur.drop a).take n := by
 apply List.ext_getElem?
 intro k
 by_cases hk : k < n
 ·simp only [List.getElem?_take, if_pos hk, List.getElem?_drop]
  rw [put_get _ _ _ _ h]
  by_cases h3 : a + k < o
  ·rw [if_pos h3]
  ·rw [if_neg h3, if_neg (by omega)]
 ·simp only [List.getElem?_take, if_neg hk]
def memless : Path → Bool
 | [] => true
 | .fst :: p => memless p
 | .snd :: p => memless p
 | _ :: _ => false
def fldOff : Path → Ty → Nat
 | .fst :: p, .pair a _ => fldOff p a
 | .snd :: p, .pair a b => a.size + fldOff p b
 | _, _ => 0
def updC : Path → Ty → List Value → List Value → List Value
 | [], _, _, c => c
 | .fst :: p, .pair a _, cs, c => updC p a (cs.take a.size) c ++ cs.drop a.size
 | .snd :: p, .pair a b, cs, c => cs.take a.size ++ updC p b (cs.drop a.size) c
 | _, _, cs, _ => cs
def BlkUpd (w w' : World) (loc : Option (Nat × Nat)) (c : List Value) (g : Nat) : Prop := match loc with
 | some q => if g = q.1 then ∃ cur T, w.heap[g]? = some (.cells cur T (0, 0)) ∧ w'.heap[g]? = some (.cells (putCells cur.toList q.2 c).toArray T (0, 0)) else w'.heap[g]? = w.heap[g]?
 | none => w'.heap[g]? = w.heap[g]?
theorem memless_fit : ∀ (p : Path) {t : Ty} {m : Md} {x : t.I} {b : TV}, memless p = true → getP p t m x = some b → fldOff p t + b.t.size ≤ t.size
 | [], t, m, x, b, _, hg => by simp only [getP, Option.some.injEq] at hg; subst hg; simp [fldOff]
 | .fst :: p, .pair a b', m, x, b, hm, hg => by
  simp only [getP] at hg
  have := memless_fit p (by simpa [memless] using hm) hg
  simp only [fldOff, Ty.size]; omega
 | .snd :: p, .pair a b', m, x, b, hm, hg => by
  simp only [getP] at hg
  have := memless_fit p (by simpa [memless] using hm) hg
  simp only [fldOff, Ty.size]; omega
theorem memless_addr_none : ∀ (p : Path) {t : Ty} {cs : List Value}, memless p = true → addrAt w p t cs none = none
 | [], _, _, _ => rfl
 | .fst :: p, .pair a b, cs, h => by simp only [addrAt]; exact memless_addr_none p (by simpa [memless] using h)
 | .snd :: p, .pair a b, cs, h => by simp only [addrAt, Option.map_none]; exact memless_addr_none p (by simpa [memless] using h)
 | .fst :: p, .int _, _, _ | .fst :: p, .bool, _, _ | .fst :: p, .str, _, _ | .fst :: p, .sl _, _, _ | .fst :: p, .ptr _, _, _ | .fst :: p, .unit, _, _ | .fst :: p, .arr _ _, _, _ => by simp [addrAt]
 | .snd :: p, .int _, _, _ | .snd :: p, .bool, _, _ | .snd :: p, .str, _, _ | .snd :: p, .sl _, _, _ | .snd :: p, .ptr _, _, _ | .snd :: p, .unit, _, _ | .snd :: p, .arr _ _, _, _ => by simp [addrAt]
theorem memless_addr : ∀ (p : Path) {t : Ty} {m : Md} {x : t.I} {cs : List Value} {b : TV} {g o : Nat}, memless p = true → getP p t m x = some b → addrAt w p t cs (some (g, o)) = some (g, o + fldOff p t)
 | [], _, _, _, _, _, _, _, _, _ => by simp [addrAt, fldOff]
 | .fst :: p, .pair a b, m, x, cs, _, _, _, h, hg => by simp only [getP] at hg; simp only [addrAt, fldOff]; exact memless_addr p (by simpa [memless] using h) hg
 | .snd :: p, .pair a b, m, x, cs, _, g, o, h, hg => by
  simp only [getP] at hg; simp only [addrAt, fldOff, Option.map_some]
  rw [memless_addr p (by simpa [memless] using h) hg, Nat.add_assoc]
theorem memful_addr : ∀ (p : Path) {t : Ty} {cs : List Value} (l l' : Option (Nat × Nat)), memless p = false → addrAt w p t cs l = addrAt w p t cs l'
 | [], _, _, _, _, h => by simp [memless] at h
 | .fst :: p, .pair a b, cs, l, l', h => by simp only [addrAt]; exact memful_addr p _ _ (by simpa [memless] using h)
 | .snd :: p, .pair a b, cs, l, l', h => by simp only [addrAt]; exact memful_addr p _ _ (by simpa [memless] using h)
 | .deref :: p, .ptr t, cs, l, l', h => by
  unfold addrAt
  split <;> simp_all
 | .idx i :: p, .sl t, cs, l, l', h => by
  unfold addrAt
  split <;> simp_all
 | .fst :: p, .int _, _, _, _, _ | .fst :: p, .bool, _, _, _, _ | .fst :: p, .str, _, _, _, _ | .fst :: p, .sl _, _, _, _, _ | .fst :: p, .ptr _, _, _, _, _ | .fst :: p, .unit, _, _, _, _ | .fst :: p, .arr _ _, _, _, _, _ => by simp [addrAt]
 | .snd :: p, .int _, _, _, _, _ | .snd :: p, .bool, _, _, _, _ | .snd :: p, .str, _, _, _, _ | .snd :: p, .sl _, _, _, _, _ | .snd :: p, .ptr _, _, _, _, _ | .snd :: p, .unit, _, _, _, _ | .snd :: p, .arr _ _, _, _, _, _ => by simp [addrAt]
 | .deref :: p, .int _, _, _, _, _ | .deref :: p, .bool, _, _, _, _ | .deref :: p, .str, _, _, _, _ | .deref :: p, .sl _, _, _, _, _ | .deref :: p, .pair _ _, _, _, _, _ | .deref :: p, .unit, _, _, _, _ | .deref :: p, .arr _ _, _, _, _, _ => by simp [addrAt]
 | .idx _ :: p, .int _, _, _, _, _ | .idx _ :: p, .bool, _, _, _, _ | .idx _ :: p, .str, _, _, _, _ | .idx _ :: p, .ptr _, _, _, _, _ | .idx _ :: p, .pair _ _, _, _, _, _ | .idx _ :: p, .unit, _, _, _, _ | .idx _ :: p, .arr _ _, _, _, _, _ => by simp [addrAt]
theorem memless_cells : ∀ (p : Path) {t : Ty} {m : Md} {x : t.I} {cs : List Value} {b : TV}, memless p = true → getP p t m x = some b → cs.length = t.size → cellsAt w p t cs = some ((cs.drop (fldOff p t)).take b.t.size)
 | [], t, m, x, cs, b, _, hg, hl => by
  simp only [getP, Option.some.injEq] at hg; subst hg
  simp only [cellsAt, fldOff, List.drop_zero]
  rw [List.take_of_length_le (by show cs.length ≤ t.size; omega)]
 | .fst :: p, .pair a b', m, x, cs, b, h, hg, hl => by
  simp only [getP] at hg; simp only [Ty.size] at hl
  have hf := memless_fit p (by simpa [memless] using h) hg
  simp only [cellsAt, fldOff]
  rw [memless_cells p (by simpa [memless] using h) hg (by rw [List.length_take]; omega), List.drop_take, List.take_take]
  congr 2; omega
 | .snd :: p, .pair a b', m, x, cs, b, h, hg, hl => by
  simp only [getP] at hg; simp only [Ty.size] at hl
  simp only [cellsAt, fldOff]
  rw [memless_cells p (by simpa [memless] using h) hg (by rw [List.length_drop]; omega), List.drop_drop]
theorem memless_upd : ∀ (p : Path) {t : Ty} {m : Md} {x : t.I} {cs c : List Value} {b : TV}, memless p = true → getP p t m x = some b → cs.length = t.size → c.length = b.t.size → updC p t cs c = putCells cs (fldOff p t) c
 | [], t, m, x, cs, c, b, _, hg, hl, hc => by
  simp only [getP, Option.some.injEq] at hg; subst hg
  simp only [updC, fldOff, putCells, List.take_zero, List.nil_append, Nat.zero_add]
  rw [List.drop_of_length_le (by have hc' : c.length = t.size := hc; omega), List.append_nil]
 | .fst :: p, .pair a b', m, x, cs, c, b, h, hg, hl, hc => by
  simp only [getP] at hg; simp only [Ty.size] at hl
  have hf := memless_fit p (by simpa [memless] using h) hg
  simp only [updC, fldOff]
  rw [memless_upd p (by simpa [memless] using h) hg (by rw [List.length_take]; omega) hc]
  unfold putCells
  rw [List.take_take, Nat.min_eq_left (by omega), List.append_assoc, List.append_assoc, List.append_assoc, List.drop_take]
  congr 2
  rw [show cs.drop a.size = (cs.drop (fldOff p a + c.length)).drop (a.size - (fldOff p a + c.length)) from by rw [List.drop_drop]; congr 1; omega, List.take_append_drop]
 | .snd :: p, .pair a b', m, x, cs, c, b, h, hg, hl, hc => by
  simp only [getP] at hg; simp only [Ty.size] at hl
  simp only [updC, fldOff]
  rw [memless_upd p (by simpa [memless] using h) hg (by rw [List.length_drop]; omega) hc]
  unfold putCells
  rw [← List.append_assoc, ← List.append_assoc, ← List.take_add, List.drop_drop]
  congr 2; omega
theorem memful_upd : ∀ (p : Path) {t : Ty} {cs c : List Value}, memless p = false → updC p t cs c = cs
 | [], _, _, _, h => by simp [memless] at h
 | .fst :: p, .pair a b, cs, c, h => by simp only [updC]; rw [memful_upd p (by simpa [memless] using h), List.take_append_drop]
 | .snd :: p, .pair a b, cs, c, h => by simp only [updC]; rw [memful_upd p (by simpa [memless] using h), List.take_append_drop]
 | .deref :: p, t, cs, c, h => by simp [updC]
 | .idx i :: p, t, cs, c, h => by simp [updC]
 | .fst :: p, .int _, _, _, _ | .fst :: p, .bool, _, _, _ | .fst :: p, .str, _, _, _ | .fst :: p, .sl _, _, _, _ | .fst :: p, .ptr _, _, _, _ | .fst :: p, .unit, _, _, _ | .fst :: p, .arr _ _, _, _, _ => by simp [updC]
 | .snd :: p, .int _, _, _, _ | .snd :: p, .bool, _, _, _ | .snd :: p, .str, _, _, _ | .snd :: p, .sl _, _, _, _ | .snd :: p, .ptr _, _, _, _ | .snd :: p, .unit, _, _, _ | .snd :: p, .arr _ _, _, _, _ => by simp [updC]
end Go.Pv
namespace Go.Pv
set_option linter.unusedVariables false
set_option linter.unusedSimpArgs false
variable {w w' : World} {Wr Wr' : Nat → Prop} {H : Nat → Value}
def Back (w : World) (Wr : Nat → Prop) (H : Nat → Value) (p : Path) (t : Ty) (m : Md) (x : t.I) (cs : List Value) (ow ow' : Nat → Prop) (hs : List Path) (b : TV) (cs' : List Value) : Prop :=
 ∀ (b2 : TV) (r : Md × t.I), b2.t = b.t → setP b2 p t m x = some r →
  (∀ g off, addrAt w p t cs none = some (g, off) → ow g ∧ ¬ ow' g ∧ ∃ cur T, w.heap[g]? = some (.cells cur T (0, 0)) ∧ off + b.t.size ≤ cur.size ∧ cs' = (cur.toList.drop off).take b.t.size) ∧
  ∀ (w' : World) (Wr' : Nat → Prop) (c : List Value) (ow'' : Nat → Prop) (hs' : List Path), Stays w w' Wr Wr' → c.length = b.t.size →
   (∀ g, ow g → ¬ ow' g → g < w.heap.size → BlkUpd w w' (addrAt w p t cs none) c g) → M w' Wr' H b2.t b2.m b2.x c ow'' (subs p hs') →
   (∀ g, ow'' g → g < w.heap.size → ow g → ow' g) → (∀ h, (∀ q, h ≠ p ++ q) → h ∈ hs → h ∈ hs') →
   M w' Wr' H t r.1 r.2 (updC p t cs c) (fun g => (ow g ∧ ¬ ow' g) ∨ ow'' g) hs'
theorem holes_sub {s : Step} {p : Path} {hs hs' : List Path} (h : ∀ h, (∀ q, h ≠ s :: p ++ q) → h ∈ hs → h ∈ hs') : ∀ h, (∀ q, h ≠ p ++ q) → h ∈ sub s hs → h ∈ sub s hs' := fun q hq hm =>
 mem_sub.2 (h _ (fun r e => hq r (by rw [List.cons_append] at e; injection e)) (mem_sub.1 hm))
theorem holes_other {s s' : Step} (hne : s' ≠ s) {p : Path} {hs hs' : List Path} (h : ∀ h, (∀ q, h ≠ s :: p ++ q) → h ∈ hs → h ∈ hs') : ∀ q ∈ sub s' hs, q ∈ sub s' hs' := fun q hq =>
 mem_sub.2 (h _ (fun r e => by rw [List.cons_append] at e; injection e with e _; exact hne e) (mem_sub.1 hq))
theorem setP_idx {b2 : TV} {i : Nat} {p : Path} {t : Ty} {T : TypeId} {tag : Option Nat} {me : Md} {xs : List t.I} {r : Md × List t.I} (h : setP b2 (.idx i :: p) (.sl t) (.o T tag me) xs = some r) :
  ∃ r1, setP b2 p t me (List.getD xs i t.z) = some r1 ∧ r1.1 = me ∧ r = (.o T tag me, List.set xs i r1.2) := by
 unfold setP at h
 split at h
 ·rename_i r1 h1
  split at h
  ·rename_i h2
   injection h with h
   exact ⟨r1, h1, h2, h.symm⟩
  ·cases h
 ·cases h
theorem focusW : ∀ (p : Path) {t : Ty} {m : Md} {x : t.I} {cs : List Value} {ow : Nat → Prop} {hs : List Path} {b : TV}, M w Wr H t m x cs ow hs → open_ p hs → valid p t x → getP p t m x = some b →
  ∃ cs' ow', cellsAt w p t cs = some cs' ∧ (∀ g, ow' g → ow g) ∧ M w Wr H b.t b.m b.x cs' ow' (subs p hs) ∧ Back w Wr H p t m x cs ow ow' hs b cs'
 | [], t, m, x, cs, ow, hs, b, h, ho, hv, hg => by
  simp only [getP, Option.some.injEq] at hg
  subst hg
  refine ⟨cs, ow, rfl, fun _ h => h, h, fun b2 r ht hr => ⟨fun g off e => by simp [addrAt] at e, fun w' Wr' c ow'' hs' hst hc hb hm how hh => ?_⟩⟩
  obtain ⟨t2, m2, x2⟩ := b2
  simp only at ht
  subst ht
  simp only [setP, dite_true, Option.some.injEq] at hr
  subst hr
  exact M_move (Stays.refl _ _) t2 (fun _ _ _ => rfl) (fun g hg _ => .inr hg) (fun _ h => h) hm
 | .deref :: p, .ptr t, m, x, cs, ow, hs, b, h, ho, hv, hg => by
  simp only [getP] at hg
  simp only [valid] at hv
  simp only [M] at h
  rcases h with ⟨hn, _⟩ | ⟨hk, h⟩ | ⟨T, tag, me, g, cur, rfl, rfl, ht, hog, hw, h⟩
  ·exact absurd hn ho.not_nil
  ·obtain ⟨cs', ow', h1, h2, h3⟩ := focus (H := H) (ow := ow) (.deref :: p) (K_M (t := .ptr t) hk h) ho hv (by simpa only [getP] using hg)
   exact ⟨cs', ow', h1, h2, h3, fun b2 r _ hr => by cases m <;> simp [setP, Md.isK] at hr hk⟩
  ·have hlen := (M_ok t h).1
   obtain ⟨cs', ow', h1, h2, h3, h4⟩ := focusW p h ho.sub hv hg
   have hsz : 0 + t.size ≤ cur.size := by rw [← hlen]; simp
   have hrow : rowAt w g 0 t.size = some cur.toList := by rw [rowAt_own hw hsz, List.drop_zero, List.take_of_length_le (by omega)]
   refine ⟨cs', ow', ?_, fun g hg => (h2 g hg).1, h3, fun b2 r hbt hr => ?_⟩
   ·simp only [cellsAt, hrow, Option.bind_some]; exact h1
   simp only [setP] at hr
   cases hr1 : setP b2 p t me x with
   | none => simp [hr1] at hr
   | some r1 =>
    simp only [hr1, Option.some.injEq] at hr
    subst hr
    obtain ⟨ha, hback⟩ := h4 b2 r1 hbt hr1
    have haddr : addrAt w (.deref :: p) (.ptr t) [.pointer (some ⟨g, 0, none⟩)] none = addrAt w p t cur.toList (some (g, 0)) := by simp only [addrAt, hrow, Option.bind_some]
    cases hml : memless p with
    | true =>
     have hat := memless_addr (w := w) (cs := cur.toList) (g := g) (o := 0) p hml hg
     have hfit := memless_fit p hml hg
     have hcl := memless_cells (w := w) p hml hg hlen
     rw [h1] at hcl
     injection hcl with hcl
     rw [haddr, hat]
     refine ⟨fun g' off e => ?_, fun w' Wr' c ow'' hs' hst hc hb hm how hh => ?_⟩
     ·injection e with e
      injection e with e1 e2
      subst e1 e2
      exact ⟨hog, fun hx => (h2 g hx).2 rfl, cur, T, hw, by rw [← hlen] at hfit; simp at hfit ⊢; omega, by rw [Nat.zero_add]; exact hcl⟩
     ·have hlt := lt_of_some hw
      have hg' := hb g hog (fun hx => (h2 g hx).2 rfl) hlt
      simp only [BlkUpd, if_true, Nat.zero_add] at hg'
      obtain ⟨cur2, T2, e2, hw2⟩ := hg'
      rw [hw] at e2
      injection e2 with e2
      injection e2 with e2 e3
      subst e2 e3
      have hM := hback w' Wr' c ow'' (sub .deref hs') hst hc (fun g' hg1 hg2 hl => by
       rw [memless_addr_none p hml]
       have := hb g' hg1.1 hg2 hl
       simp only [BlkUpd, hg1.2, if_false] at this
       exact this) hm (fun g' hg1 hl hg2 => how g' hg1 hl hg2.1) (holes_sub hh)
      rw [memless_upd p hml hg hlen hc] at hM
      simp only [updC, M]
      refine .inr (.inr ⟨T, tag, r1.1, g, _, rfl, rfl, ht, .inl ⟨hog, fun hx => (h2 g hx).2 rfl⟩, hw2, ?_⟩)
      refine M_move (Stays.refl _ _) t (fun _ _ _ => rfl) (fun g' hg1 hl => ?_) (fun _ h => h) hM
      rcases hg1 with ⟨⟨a1, a2⟩, a3⟩ | a
      ·exact ⟨.inl ⟨a1, a3⟩, a2⟩
      ·refine ⟨.inr a, fun e => ?_⟩
       subst e
       exact (h2 g' (how g' a hlt hog)).2 rfl
    | false =>
     have hat := memful_addr (w := w) (t := t) (cs := cur.toList) p (some (g, 0)) none hml
     rw [haddr, hat]
     refine ⟨fun g' off e => ?_, fun w' Wr' c ow'' hs' hst hc hb hm how hh => ?_⟩
     ·obtain ⟨a1, a2, a3⟩ := ha g' off e
      exact ⟨a1.1, a2, a3⟩
     ·have hlt := lt_of_some hw
      have hM := hback w' Wr' c ow'' (sub .deref hs') hst hc (fun g' hg1 hg2 hl => hb g' hg1.1 hg2 hl) hm (fun g' hg1 hl hg2 => how g' hg1 hl hg2.1) (holes_sub hh)
      rw [memful_upd p hml] at hM
      have hw2 : w'.heap[g]? = some (.cells cur T (0, 0)) := by
       have hg' := hb g hog (fun hx => (h2 g hx).2 rfl) hlt
       cases hloc : addrAt w p t cur.toList none with
       | none => rw [hloc] at hg'; exact hg'.trans hw
       | some q =>
        rw [hloc] at hg'
        have hne : g ≠ q.1 := fun e => (ha q.1 q.2 hloc).1.2 e.symm
        simp only [BlkUpd, hne, if_false] at hg'
        exact hg'.trans hw
      simp only [updC, M]
      refine .inr (.inr ⟨T, tag, r1.1, g, _, rfl, rfl, ht, .inl ⟨hog, fun hx => (h2 g hx).2 rfl⟩, hw2, ?_⟩)
      refine M_move (Stays.refl _ _) t (fun _ _ _ => rfl) (fun g' hg1 hl => ?_) (fun _ h => h) hM
      rcases hg1 with ⟨⟨a1, a2⟩, a3⟩ | a
      ·exact ⟨.inl ⟨a1, a3⟩, a2⟩
      ·refine ⟨.inr a, fun e => ?_⟩
       subst e
       exact (h2 g' (how g' a hlt hog)).2 rfl
 | .fst :: p, .pair a b', m, x, cs, ow, hs, b, h, ho, hv, hg => by
  simp only [getP] at hg
  simp only [valid] at hv
  have hparts : ∃ c0 c1, ∃ s : Nat → Prop, cs = c0 ++ c1 ∧ M w Wr H a m.l x.1 c0 (fun g => ow g ∧ s g) (sub .fst hs) ∧ M w Wr H b' m.r x.2 c1 (fun g => ow g ∧ ¬ s g) (sub .snd hs) := by
   simp only [M] at h
   rcases h with ⟨hn, _⟩ | ⟨hk, h⟩ | ⟨ma, mb, c0, c1, s, rfl, rfl, h0, h1⟩
   ·exact absurd hn ho.not_nil
   ·simp only [K] at h
    obtain ⟨c0, c1, rfl, h0, h1⟩ := h
    exact ⟨c0, c1, fun _ => True, rfl, K_M (l_isK hk) h0, K_M (r_isK hk) h1⟩
   ·exact ⟨c0, c1, s, rfl, h0, h1⟩
  obtain ⟨c0, c1, s, rfl, h0, h1⟩ := hparts
  obtain ⟨cs', ow', k1, k2, k3, k4⟩ := focusW p h0 ho.sub hv hg
  have l0 := (M_ok a h0).1
  have ht : (c0 ++ c1).take a.size = c0 := by rw [← l0, List.take_left]
  have hd : (c0 ++ c1).drop a.size = c1 := by rw [← l0, List.drop_left]
  refine ⟨cs', ow', by simp only [cellsAt, ht]; exact k1, fun g hg => (k2 g hg).1, k3, fun b2 r hbt hr => ?_⟩
  simp only [setP] at hr
  cases hr1 : setP b2 p a m.l x.1 with
  | none => simp [hr1] at hr
  | some r1 =>
   simp only [hr1, Option.some.injEq] at hr
   subst hr
   obtain ⟨ha, hback⟩ := k4 b2 r1 hbt hr1
   have haddr : addrAt w (.fst :: p) (.pair a b') (c0 ++ c1) none = addrAt w p a c0 none := by simp only [addrAt, ht]
   rw [haddr]
   refine ⟨fun g' off e => ?_, fun w' Wr' c ow'' hs' hst hc hb hm how hh => ?_⟩
   ·obtain ⟨a1, a2, a3⟩ := ha g' off e
    exact ⟨a1.1, a2, a3⟩
   ·have hM := hback w' Wr' c ow'' (sub .fst hs') hst hc (fun g' hg1 hg2 hl => hb g' hg1.1 hg2 hl) hm (fun g' hg1 hl hg2 => how g' hg1 hl hg2.1) (holes_sub hh)
    simp only [updC, ht, hd]
    refine mkM_pair (s := fun g => (s g ∧ ow g) ∨ ow'' g) ?_ ?_
    ·refine M_move (Stays.refl _ _) a (fun _ _ _ => rfl) (fun g' hg1 hl => ?_) (fun _ h => h) hM
     rcases hg1 with ⟨⟨a1, a2⟩, a3⟩ | q
     ·exact ⟨.inl ⟨a1, a3⟩, .inl ⟨a2, a1⟩⟩
     ·exact ⟨.inr q, .inr q⟩
    ·refine M_move hst b' (fun g' hg1 hl => ?_) (fun g' hg1 hl => ⟨.inl ⟨hg1.1, fun hx => hg1.2 (k2 g' hx).2⟩, fun hx => ?_⟩) (holes_other (by decide) hh) h1
     ·have hg' := hb g' hg1.1 (fun hx => hg1.2 (k2 g' hx).2) hl
      cases hloc : addrAt w p a c0 none with
      | none => rw [hloc] at hg'; exact hg'
      | some q =>
       rw [hloc] at hg'
       have hne : g' ≠ q.1 := fun e => hg1.2 (by rw [e]; exact (ha q.1 q.2 hloc).1.2)
       simp only [BlkUpd, hne, if_false] at hg'
       exact hg'
     ·rcases hx with hx | hx
      ·exact hg1.2 hx.1
      ·exact hg1.2 (k2 g' (how g' hx hl hg1.1)).2
 | .snd :: p, .pair a b', m, x, cs, ow, hs, b, h, ho, hv, hg => by
  simp only [getP] at hg
  simp only [valid] at hv
  have hparts : ∃ c0 c1, ∃ s : Nat → Prop, cs = c0 ++ c1 ∧ M w Wr H a m.l x.1 c0 (fun g => ow g ∧ s g) (sub .fst hs) ∧ M w Wr H b' m.r x.2 c1 (fun g => ow g ∧ ¬ s g) (sub .snd hs) := by
   simp only [M] at h
   rcases h with ⟨hn, _⟩ | ⟨hk, h⟩ | ⟨ma, mb, c0, c1, s, rfl, rfl, h0, h1⟩
   ·exact absurd hn ho.not_nil
   ·simp only [K] at h
    obtain ⟨c0, c1, rfl, h0, h1⟩ := h
    exact ⟨c0, c1, fun _ => True, rfl, K_M (l_isK hk) h0, K_M (r_isK hk) h1⟩
   ·exact ⟨c0, c1, s, rfl, h0, h1⟩
  obtain ⟨c0, c1, s, rfl, h0, h1⟩ := hparts
  obtain ⟨cs', ow', k1, k2, k3, k4⟩ := focusW p h1 ho.sub hv hg
  have l0 := (M_ok a h0).1
  have ht : (c0 ++ c1).take a.size = c0 := by rw [← l0, List.take_left]
  have hd : (c0 ++ c1).drop a.size = c1 := by rw [← l0, List.drop_left]
  refine ⟨cs', ow', by simp only [cellsAt, hd]; exact k1, fun g hg => (k2 g hg).1, k3, fun b2 r hbt hr => ?_⟩
  simp only [setP] at hr
  cases hr1 : setP b2 p b' m.r x.2 with
  | none => simp [hr1] at hr
  | some r1 =>
   simp only [hr1, Option.some.injEq] at hr
   subst hr
   obtain ⟨ha, hback⟩ := k4 b2 r1 hbt hr1
   have haddr : addrAt w (.snd :: p) (.pair a b') (c0 ++ c1) none = addrAt w p b' c1 none := by simp only [addrAt, hd, Option.map_none]
   rw [haddr]
   refine ⟨fun g' off e => ?_, fun w' Wr' c ow'' hs' hst hc hb hm how hh => ?_⟩
   ·obtain ⟨a1, a2, a3⟩ := ha g' off e
    exact ⟨a1.1, a2, a3⟩
   ·have hM := hback w' Wr' c ow'' (sub .snd hs') hst hc (fun g' hg1 hg2 hl => hb g' hg1.1 hg2 hl) hm (fun g' hg1 hl hg2 => how g' hg1 hl hg2.1) (holes_sub hh)
    simp only [updC, ht, hd]
    refine mkM_pair (s := fun g => (s g ∧ ow g) ∧ ¬ ow'' g) ?_ ?_
    ·refine M_move hst a (fun g' hg1 hl => ?_) (fun g' hg1 hl => ⟨.inl ⟨hg1.1, fun hx => (k2 g' hx).2 hg1.2⟩, ⟨hg1.2, hg1.1⟩, fun hx => (k2 g' (how g' hx hl hg1.1)).2 hg1.2⟩) (holes_other (by decide) hh) h0
     have hg' := hb g' hg1.1 (fun hx => (k2 g' hx).2 hg1.2) hl
     cases hloc : addrAt w p b' c1 none with
     | none => rw [hloc] at hg'; exact hg'
     | some q =>
      rw [hloc] at hg'
      have hne : g' ≠ q.1 := fun e => (ha q.1 q.2 hloc).1.2 (by rw [← e]; exact hg1.2)
      simp only [BlkUpd, hne, if_false] at hg'
      exact hg'
    ·refine M_move (Stays.refl _ _) b' (fun _ _ _ => rfl) (fun g' hg1 hl => ?_) (fun _ h => h) hM
     rcases hg1 with ⟨⟨a1, a2⟩, a3⟩ | q
     ·exact ⟨.inl ⟨a1, a3⟩, fun hx => a2 hx.1.1⟩
     ·exact ⟨.inr q, fun hx => hx.2 q⟩
 | .idx i :: p, .sl t, m, xs, cs, ow, hs, b, h, ho, hv, hg => by
  simp only [getP] at hg
  have hv0 := hv
  simp only [valid] at hv
  obtain ⟨hi, hv⟩ := hv
  have hget : List.getD xs i t.z = xs[i] := by simp [List.getD_eq_getElem?_getD, List.getElem?_eq_getElem hi]
  simp only [M] at h
  rcases h with ⟨hn, _⟩ | ⟨hk, h⟩ | ⟨T, tag, me, A, c, rfl, rfl, hc, ht, h⟩
  ·exact absurd hn ho.not_nil
  ·obtain ⟨cs', ow', h1, h2, h3⟩ := focus (H := H) (ow := ow) (.idx i :: p) (K_M (t := .sl t) hk h) ho hv0 (by simpa only [getP] using hg)
   exact ⟨cs', ow', h1, h2, h3, fun b2 r _ hr => by cases m <;> simp [setP, Md.isK] at hr hk⟩
  ·rcases h with ⟨rfl, _⟩ | ⟨g, cur, τ, rfl, hog, hw, hsz, hm, h⟩
   ·simp at hi
   ·have hfull : i * t.size + t.size ≤ cur.size := by
     have h1 := Nat.mul_le_mul_right t.size (show i + 1 ≤ xs.length from hi)
     have h2 := Nat.mul_le_mul_right t.size hc
     rw [Nat.add_mul, Nat.one_mul] at h1
     omega
    have hM0 := h i hi
    rw [← hget] at hM0
    have hlen := (M_ok t hM0).1
    obtain ⟨cs', ow', h1, h2, h3, h4⟩ := focusW p hM0 ho.sub hv hg
    have hrow : rowAt w g (0 + i * t.size) t.size = some ((cur.toList.drop (i * t.size)).take t.size) := by rw [Nat.zero_add, rowAt_own hw hfull]
    refine ⟨cs', ow', ?_, fun g hg => (h2 g hg).1, h3, fun b2 r hbt hr => ?_⟩
    ·simp only [cellsAt, hrow, Option.bind_some]; exact h1
    obtain ⟨r1, hr1, hme, rfl⟩ := setP_idx hr
    obtain ⟨ha, hback⟩ := h4 b2 r1 hbt hr1
    have haddr : addrAt w (.idx i :: p) (.sl t) [.slice (some ⟨g, 0, none⟩) xs.length c] none = addrAt w p t ((cur.toList.drop (i * t.size)).take t.size) (some (g, i * t.size)) := by
     simp only [addrAt]; rw [hrow]; simp only [Option.bind_some, Nat.zero_add]
    -- the other elements, and this one, behind the change
    have hlt := lt_of_some hw
    have rest : ∀ (w' : World) (Wr' : Nat → Prop) (c2 : List Value) (ow'' : Nat → Prop) (hs' : List Path) (cur2 : Array Value), Stays w w' Wr Wr' →
      (∀ g', ow g' → g' ≠ g → ¬ ow' g' → (∀ q, addrAt w p t ((cur.toList.drop (i * t.size)).take t.size) none = some q → g' ≠ q.1) → g' < w.heap.size → w'.heap[g']? = w.heap[g']?) →
      w'.heap[g]? = some (.cells cur2 T (0, 0)) → cur2.size = cur.size →
      (∀ j, j < xs.length → j ≠ i → (cur2.toList.drop (j * t.size)).take t.size = (cur.toList.drop (j * t.size)).take t.size) →
      M w' Wr' H t r1.1 r1.2 ((cur2.toList.drop (i * t.size)).take t.size) (fun g' => ((ow g' ∧ g' ≠ g ∧ τ g' = i) ∧ ¬ ow' g') ∨ ow'' g') (sub (.idx i) hs') →
      (∀ g', ow'' g' → g' < w.heap.size → ow g' → ow' g') → (∀ h, (∀ q, h ≠ .idx i :: p ++ q) → h ∈ hs → h ∈ hs') →
      M w' Wr' H (.sl t) (.o T tag me) (List.set xs i r1.2) [.slice (some ⟨g, 0, none⟩) xs.length c] (fun g' => (ow g' ∧ ¬ ow' g') ∨ ow'' g') hs' := by
     intro w' Wr' c2 ow'' hs' cur2 hst hsame hw2 hsz2 hoth hM how hh
     have hng : ¬ ow' g := fun hx => (h2 g hx).2.1 rfl
     simp only [M]
     refine .inr (.inr ⟨T, tag, me, some ⟨g, 0, none⟩, c, rfl, by rw [List.length_set], by rw [List.length_set]; exact hc, fun h hh => by rw [List.length_set]; exact ht h hh, .inr ⟨g, cur2, fun g' => open Classical in if ow'' g' then i else τ g', rfl, .inl ⟨hog, hng⟩, hw2, by rw [hsz2, hsz], hm, fun j hj => ?_⟩⟩)
     rw [List.length_set] at hj
     by_cases hji : j = i
     ·subst hji
      rw [List.getElem_set_self, ← hme]
      refine M_move (Stays.refl _ _) t (fun _ _ _ => rfl) (fun g' hg1 hl => ?_) (fun _ h => h) hM
      rcases hg1 with ⟨⟨a1, a2, a3⟩, a4⟩ | a
      ·exact ⟨.inl ⟨a1, a4⟩, a2, by simp only; split <;> first | rfl | exact a3⟩
      ·refine ⟨.inr a, fun e => ?_, by simp only; rw [if_pos a]⟩
       subst e
       exact hng (how g' a hlt hog)
     ·rw [List.getElem_set_ne (fun e => hji e.symm), hoth j hj hji]
      have hno'' : ∀ g', (ow g' ∧ g' ≠ g ∧ τ g' = j) → g' < w.heap.size → ¬ ow'' g' := fun g' hg1 hl hx => hji (by rw [← hg1.2.2]; exact (h2 g' (how g' hx hl hg1.1)).2.2)
      have hno' : ∀ g', (ow g' ∧ g' ≠ g ∧ τ g' = j) → ¬ ow' g' := fun g' hg1 hx => hji (by rw [← hg1.2.2]; exact (h2 g' hx).2.2)
      refine M_move hst t (fun g' hg1 hl => hsame g' hg1.1 hg1.2.1 (hno' g' hg1) (fun q hq e => ?_) hl) (fun g' hg1 hl => ⟨.inl ⟨hg1.1, hno' g' hg1⟩, hg1.2.1, ?_⟩) (holes_other (by intro e; injection e with e; exact hji e) hh) (h j hj)
      ·have := (ha q.1 q.2 hq).1.2.2
       rw [← e, hg1.2.2] at this
       exact hji this
      ·simp only
       rw [if_neg (hno'' g' hg1 hl)]
       exact hg1.2.2
    cases hml : memless p with
    | true =>
     have hat := memless_addr (w := w) (cs := (cur.toList.drop (i * t.size)).take t.size) (g := g) (o := i * t.size) p hml hg
     have hfit := memless_fit p hml hg
     have hcl := memless_cells (w := w) p hml hg hlen
     rw [h1] at hcl
     injection hcl with hcl
     rw [haddr, hat]
     refine ⟨fun g' off e => ?_, fun w' Wr' c2 ow'' hs' hst hc2 hb hm2 how hh => ?_⟩
     ·injection e with e
      injection e with e1 e2
      subst e1 e2
      refine ⟨hog, fun hx => (h2 g hx).2.1 rfl, cur, T, hw, by omega, ?_⟩
      rw [hcl, List.drop_take, List.drop_drop, List.take_take]
      congr 1
      omega
     ·have hg' := hb g hog (fun hx => (h2 g hx).2.1 rfl) hlt
      simp only [BlkUpd, if_true] at hg'
      obtain ⟨cur2, T2, e2, hw2⟩ := hg'
      rw [hw] at e2
      injection e2 with e2
      injection e2 with e2 e3
      subst e2 e3
      have hcur : i * t.size + fldOff p t + c2.length ≤ cur.toList.length := by rw [hc2, Array.length_toList]; omega
      have hM := hback w' Wr' c2 ow'' (sub (.idx i) hs') hst hc2 (fun g' hg1 hg2 hl => by
       rw [memless_addr_none p hml]
       have := hb g' hg1.1 hg2 hl
       simp only [BlkUpd, hg1.2.1, if_false] at this
       exact this) hm2 (fun g' hg1 hl hg2 => how g' hg1 hl hg2.1) (holes_sub hh)
      rw [memless_upd p hml hg hlen hc2] at hM
      refine rest w' Wr' c2 ow'' hs' _ hst (fun g' hg1 hg2 hg3 _ hl => ?_) hw2 (by rw [List.size_toArray, put_len _ _ _ hcur, Array.length_toList]) (fun j hj hji => ?_) ?_ how hh
      ·have := hb g' hg1 hg3 hl
       simp only [BlkUpd, hg2, if_false] at this
       exact this
      ·rw [List.toList_toArray]
       refine put_out _ _ _ _ _ hcur ?_
       rcases Nat.lt_or_gt_of_ne hji with hlt' | hlt'
       ·left
        have := Nat.mul_le_mul_right t.size (show j + 1 ≤ i from hlt')
        rw [Nat.add_mul, Nat.one_mul] at this
        omega
       ·right
        have := Nat.mul_le_mul_right t.size (show i + 1 ≤ j from hlt')
        rw [Nat.add_mul, Nat.one_mul] at this
        rw [hc2]
        omega
      ·rw [List.toList_toArray, put_in _ _ _ _ _ (by rw [hc2]; omega) (by rw [Array.length_toList]; omega)]
       exact hM
    | false =>
     have hat := memful_addr (w := w) (t := t) (cs := (cur.toList.drop (i * t.size)).take t.size) p (some (g, i * t.size)) none hml
     rw [haddr, hat]
     refine ⟨fun g' off e => ?_, fun w' Wr' c2 ow'' hs' hst hc2 hb hm2 how hh => ?_⟩
     ·obtain ⟨a1, a2, a3⟩ := ha g' off e
      exact ⟨a1.1, a2, a3⟩
     ·have hM := hback w' Wr' c2 ow'' (sub (.idx i) hs') hst hc2 (fun g' hg1 hg2 hl => hb g' hg1.1 hg2 hl) hm2 (fun g' hg1 hl hg2 => how g' hg1 hl hg2.1) (holes_sub hh)
      rw [memful_upd p hml] at hM
      have same : ∀ g', ow g' → ¬ ow' g' → (∀ q, addrAt w p t ((cur.toList.drop (i * t.size)).take t.size) none = some q → g' ≠ q.1) → g' < w.heap.size → w'.heap[g']? = w.heap[g']? := by
       intro g' hg1 hg2 hq hl
       have hg' := hb g' hg1 hg2 hl
       cases hloc : addrAt w p t ((cur.toList.drop (i * t.size)).take t.size) none with
       | none => rw [hloc] at hg'; exact hg'
       | some q =>
        rw [hloc] at hg'
        simp only [BlkUpd, hq q hloc, if_false] at hg'
        exact hg'
      have hw2 : w'.heap[g]? = some (.cells cur T (0, 0)) := (same g hog (fun hx => (h2 g hx).2.1 rfl) (fun q hq e => (ha q.1 q.2 hq).1.2.1 e.symm) hlt).trans hw
      exact rest w' Wr' c2 ow'' hs' cur hst (fun g' hg1 _ hg3 hq hl => same g' hg1 hg3 hq hl) hw2 rfl (fun j hj hji => rfl) hM how hh
end Go.Pv
namespace Go.Pv
set_option linter.unusedVariables false
set_option linter.unusedSimpArgs false
structure Ret where
 res : List TV
 refs : List TV
inductive Arg where
 | tv (a : TV)
 | fn (f : FuncId) (caps : List TV)
inductive Pass where
 | val | take | lend
 deriving DecidableEq
structure Orc where
 sig : FuncId → List Pass
 run : FuncId → List Arg → (Ret → Option Ret) → Option Ret
structure Entry where
 f : FuncId
 sig : List Pass
 run : List Arg → (Ret → Option Ret) → Option Ret
def entry : List Entry → FuncId → Option Entry
 | [], _ => none
 | e :: r, f => bif Nat.beq e.f f then some e else entry r f
def Orc.of (l : List Entry) : Orc where
 sig f := match entry l f with
  | some e => e.sig
  | none => []
 run f := match entry l f with
  | some e => e.run
  | none => fun _ _ => none
inductive Ex where
 | n | x (id : Nat) | r
inductive CK where
 | kv (t : Ty) | pl (t : Ty) (s : Nat) (p : Path)
@[reducible] def CVals : List CK → Type
 | [] => Unit
 | .kv t :: r => t.I × CVals r
 | .pl _ _ _ :: r => CVals r
def cshape : (cs : List CK) → CVals cs → List Cap
 | [], _ => []
 | .kv t :: r, x => .kv ⟨t, .k, x.1⟩ :: cshape r x.2
 | .pl t s p :: r, x => .pl t s p :: cshape r x
def cproj : (cs : List CK) → List Cap → Option (CVals cs)
 | [], [] => some ()
 | .kv t :: r, .kv ⟨t', m', x⟩ :: S => if h : t' = t then (if m' = .k then match cproj r S with
   | some y => some (h ▸ x, y)
   | none => none else none) else none
 | .pl t s p :: r, .pl t' s' p' :: S => if t' = t then (bif Nat.beq s' s then (if p' = p then cproj r S else none) else none) else none
 | _, _ => none
inductive Kd where
 | dead | v (t : Ty) (m : Md) | al (t : Ty) (s : Nat) | clo (f : FuncId) (cs : List CK)
@[reducible] def Vals : List Kd → Type
 | [] => Unit
 | .v t _ :: r => t.I × Vals r
 | .dead :: r => Vals r
 | .al _ _ :: r => Vals r
 | .clo _ cs :: r => CVals cs × Vals r
def shape : (ks : List Kd) → Vals ks → St
 | [], _ => []
 | .v t m :: r, x => .v ⟨t, m, x.1⟩ [] :: shape r x.2
 | .dead :: r, x => .dead :: shape r x
 | .al t s :: r, x => .al t s [] :: shape r x
 | .clo f cs :: r, x => .clo f (cshape cs x.1) :: shape r x.2
def proj : (ks : List Kd) → St → Option (Vals ks)
 | [], [] => some ()
 | .v t m :: r, .v ⟨t', m', x⟩ [] :: S => if h : t' = t then (if m' = m then match proj r S with
   | some y => some (h ▸ x, y)
   | none => none else none) else none
 | .dead :: r, _ :: S => proj r S
 | .al t s :: r, .al t' s' [] :: S => if t' = t then (bif Nat.beq s' s then proj r S else none) else none
 | .clo f cs :: r, .clo f' caps :: S => bif Nat.beq f' f then (match cproj cs caps, proj r S with
   | some y, some z => some (y, z)
   | _, _ => none) else none
 | _, _ => none
def kindsOK (all : List Kd) : List Kd → Bool
 | [] => true
 | .al _ s :: r => (match all[s]? with
  | some (.v _ _) => true
  | _ => false) && kindsOK all r
 | .clo _ cs :: r => (cs.all fun c => match c with
  | .kv _ => true
  | .pl _ s _ => match all[s]? with
   | some (.v _ _) => true
   | _ => false) && kindsOK all r
 | _ :: r => kindsOK all r
inductive OT where
 | done | one (i : Nat) (t : OT) | any (l : List Nat) (t : OT) | par (l : List Nat) (ds : List (List Nat)) (t : OT) | own (d : Nat) (t : OT) | cut (ks : List Kd) (t : OT) | ali (i : Nat) (t : OT)
def OT.seq : List Nat → OT → OT
 | [], t => t
 | i :: r, t => .one i (OT.seq r t)
structure Hint where
 tab : Tab
 hn : Hn := []
 loops : List (Nat × List Kd) := []
 outs : List (Nat × Nat × List Kd) := []
 ords : List (Nat × OT) := []
 lent : Option (Nat × Bool) := none
 frz : List (Nat × List (Nat × Path)) := []
 keep : List Nat := []
def noIdx : Path → Bool
 | [] => true | .idx _ :: _ => false | _ :: p => noIdx p
def St.frz1 (S : St) (q : Nat × Path) : St := match S.at q.1 with
 | .v r [] => match getP q.2 r.t r.m r.x with
  | some b => bif b.m.isK || !noIdx q.2 then S else (match q.2 with
   | [] => S.put (some q.1) (.v (kTV r) [])
   | _ => (match setP (kTV b) q.2 r.t r.m r.x with
    | some (m, z) => St.put (((S.weaken q.1).cover q.1 q.2).set q.1 (.v r [q.2])) (some q.1) (.v ⟨r.t, m, z⟩ [])
    | none => S))
  | none => S
 | _ => S
def frzs : List (Nat × List (Nat × Path)) → Nat → St → St
 | [], _, S => S
 | q :: r, id, S => bif Nat.beq q.1 id then q.2.foldl St.frz1 S else frzs r id S
def heads : List (Nat × List Kd) → Nat → Option (List Kd)
 | [], _ => none
 | q :: r, k => bif Nat.beq q.1 k then some q.2 else heads r k
def own1 (S : St) (i : Nat) : Kd → St
 | .v _ m => bif m.isK then S else match S.at i with
  | .al t s [] => (match S.takeA (.tmp i) (.al t s []) with
   | some (a, S1) => S1.put (some i) (.v a [])
   | none => S)
  | _ => S
 | _ => S
def ownAll : List Kd → Nat → St → St
 | [], _, S => S
 | k :: r, i, S => ownAll r (i + 1) (own1 S i k)
def cleanTo (ks : List Kd) (S : St) : Option St := bif kindsOK ks ks then (match proj ks (ownAll ks 0 S) with
  | some x => some (shape ks x)
  | none => none) else none
def Hint.clean (h : Hint) (key : Nat) (S : St) : Option St := match heads h.loops key with
 | some ks => cleanTo ks S
 | none => none
def Ex.num : Ex → Nat
 | .n => 0 | .r => 1 | .x id => id + 2
def outOf : List (Nat × Nat × List Kd) → Nat → Nat → Option (List Kd)
 | [], _, _ => none
 | q :: r, k, e => bif Nat.beq q.1 k && Nat.beq q.2.1 e then some q.2.2 else outOf r k e
def capTV (S : St) : Cap → Option TV
 | .pl _ s p => match S.place s p with
  | some a => some (kTV a)
  | none => none
 | .kv a => some a
def capTVs (S : St) : List Cap → Option (List TV)
 | [] => some []
 | c :: r => match capTV S c, capTVs S r with
  | some a, some l => some (a :: l)
  | _, _ => none
def takes (Θ : Tab) : St → List Operand → List TypeId → List Pass → Option (List (Option TV) × St)
 | S, [], _, _ => some ([], S)
 | S, x :: xs, T :: Ts, p :: ps => match p with
  | .val => match takes Θ S xs Ts ps with
   | some r => some (none :: r.1, r.2)
   | none => none
  | .take => match S.take Θ T x with
   | some (a, S1) => match takes Θ S1 xs Ts ps with
    | some r => some (some a :: r.1, r.2)
    | none => none
   | none => none
  | .lend => none
 | _, _, _, _ => none
def reads (Θ : Tab) (S : St) : List Operand → List TypeId → List (Option TV) → Option (List Arg)
 | [], _, _ => some []
 | x :: xs, T :: Ts, p :: ps => match p with
  | some a => match reads Θ S xs Ts ps with
   | some r => some (.tv a :: r)
   | none => none
  | none => match S.opv Θ T x with
   | some (.clo f caps) => match capTVs S caps, reads Θ S xs Ts ps with
    | some l, some r => some (.fn f l :: r)
    | _, _ => none
   | some av => match S.rdA av, reads Θ S xs Ts ps with
    | some a, some r => some (.tv (kTV a) :: r)
    | _, _ => none
   | none => none
 | _, _, _ => none
def resAV : List TV → AV
 | [a] => .v a []
 | l => .tup (l.map some)
def ptrTV (a : TV) : Bool := match a.t with
 | .ptr _ => a.m.isK
 | _ => false
def capsIn (S : St) (f : FuncId) : Option Nat → Option (List TV)
 | none => some []
 | some i => match S.at i with
  | .clo f' caps => bif Nat.beq f' f then (match capTVs S caps with
   | some l => bif l.all ptrTV then some l else none
   | none => none) else none
  | _ => none
def bareM : Md → Bool
 | .k => true | .o _ tag m => (match tag with
  | none => true
  | some _ => false) && bareM m
 | .p a b => bareM a && bareM b
def memfree : Ty → Bool
 | .sl _ => false | .ptr _ => false | .pair a b => memfree a && memfree b | .arr _ t => memfree t | _ => true
def solid : Ty → Md → Bool
 | .sl t, .o _ _ m => solid t m
 | .ptr t, .o _ _ m => solid t m
 | .pair a b, .p m n => solid a m && solid b n
 | t, m => m.isK && memfree t
def fineA (S : St) : Operand → Bool
 | .tmp i => (match S.at i with
  | .v b [] => b.m.isK
  | _ => false)
 | .const _ => true
 | _ => false
def fines (S : St) : List Operand → List (Option TV) → List Arg → Bool
 | [], _, _ => true
 | x :: xs, p :: ps, r :: rs => ((match p with
  | some _ => true
  | none => false) || (match r with
  | .tv b => solid b.t b.m || fineA S x
  | .fn _ cs => cs.isEmpty)) && fines S xs ps rs
 | _, _, _ => false
def peCall (h : Hint) (O : Orc) (o : Oper) (f : FuncId) (cal : Option Nat) (args : List Operand) (ts : List TypeId) (S : St) (K : St → Option Ret) : Option Ret :=
 match takes h.tab S args ts (O.sig f) with
 | some (l, S1) => match reads h.tab S1 args ts l, capsIn S1 f cal with
  | some as, some cs => O.run f (as ++ cs.map .tv) fun ret => match ret.refs with
   | [] => bif ret.res.all (fun d => solid d.t d.m) || (cs.isEmpty && fines S1 args l as) then K (S1.put o.dst (resAV ret.res)) else none
   | _ :: _ => none
  | _, _ => none
 | none => none
def lendable : Ty → Md → Bool
 | .sl _, .o _ _ m => bareM m
 | .ptr _, .o _ _ m => bareM m
 | .pair a b, .p m n => lendable a m && lendable b n
 | _, m => m.isK
def lendS : Ty → Md → Bool
 | .sl t, .o _ _ m => solid t m
 | .ptr t, .o _ _ m => solid t m
 | .pair a b, .p m n => lendS a m && lendS b n
 | _, m => m.isK
def tagM : Ty → Md → Nat → Md
 | .sl _, .o T _ m, n => .o T (some n) m
 | .ptr _, .o T _ m, n => .o T (some n) m
 | .pair a b, .p ma mb, n => .p (tagM a ma n) (tagM b mb (n + a.size))
 | _, m, _ => m
def mergeV : (t : Ty) → Md → t.I → t.I → t.I
 | .sl _, .o .., _, y => y
 | .ptr _, .o .., _, y => y
 | .pair a b, .p ma mb, x, y => (mergeV a ma x.1 y.1, mergeV b mb x.2 y.2)
 | _, _, x, _ => x
def lendAt : List Pass → Nat → Option Nat
 | [], _ => none
 | .lend :: _, j => some j
 | _ :: r, j => lendAt r (j + 1)
def lplace (x : Operand) : AV → Option (Nat × Path)
 | .v _ _ => match x with
  | .tmp i => some (i, [])
  | _ => none
 | .al _ s p => some (s, p)
 | _ => none
def St.refill (S : St) (s : Nat) (b : TV) : Path → Option St
 | [] => some (S.put (some s) (.v b []))
 | p => match S.at s with
  | .v r ex => match setP b p r.t r.m r.x with
   | some (m, z) => some (S.put (some s) (.v ⟨r.t, m, z⟩ ex.dropLast))
   | none => none
  | _ => none
def peLend (h : Hint) (O : Orc) (o : Oper) (f : FuncId) (j : Nat) (args : List Operand) (ts : List TypeId) (S : St) (K : St → Option Ret) : Option Ret :=
 match args[j]?, ts[j]? with
 | some x, some T => match S.opv h.tab T x with
  | some av => match lplace x av, S.takeA x av with
   | some (s, p), some (b, S1) => bif !b.m.isK && lendable b.t b.m then
     (match reads h.tab S1 args ts ((List.replicate args.length none).set j (some ⟨b.t, tagM b.t b.m 0, b.x⟩)) with
     | some as => bif lendS b.t b.m || fines S1 args ((List.replicate args.length none).set j (some ⟨b.t, tagM b.t b.m 0, b.x⟩)) as then O.run f as fun ret => match ret.refs with
      | [c] => bif ret.res.all (fun d => bareM d.m && (solid d.t d.m || fines S1 args ((List.replicate args.length none).set j (some ⟨b.t, tagM b.t b.m 0, b.x⟩)) as)) then (if hc : c.t = b.t then (if c.m = tagM b.t b.m 0 then
        (match S1.refill s ⟨b.t, b.m, mergeV b.t b.m b.x (hc ▸ c.x)⟩ p with
        | some S2 => K ((S.again S2 s).put o.dst (resAV ret.res))
        | none => none) else none) else none) else none
      | _ => none else none
     | none => none) else none
   | _, _ => none
  | none => none
 | _, _ => none
noncomputable def both (a b : Option Ret) : Option Ret := open Classical in if a = b then a else none
theorem both_some {a b : Option Ret} {r : Ret} (h : both a b = some r) : a = some r ∧ b = some r := by
 unfold both at h
 split at h
 ·rename_i e; exact ⟨h, by rw [← e]; exact h⟩
 ·cases h
noncomputable def peNil (h : Hint) (dst : Option Nat) (T : TypeId) (eq : Bool) (x : Operand) (S : St) (K : St → Option Ret) : Option Ret := match S.rd h.tab 0 x with
 | some ⟨.sl t, _, xs⟩ => bif h.tab.is T (.sl t) then (bif List.isEmpty xs then both (K (S.put dst (.v ⟨.bool, .k, true⟩ []))) (K (S.put dst (.v ⟨.bool, .k, false⟩ []))) else K (S.put dst (.v ⟨.bool, .k, !eq⟩ []))) else none
 | _ => none
def nilT : Op → Bool
 | .binOp _ _ _ (.const (.slice none _ _)) _ => true
 | _ => false
noncomputable def peOp (h : Hint) (O : Orc) (o : Oper) (S : St) (K : St → Option Ret) : Option Ret := match o.op with
 | .call { callee := .value (.func f), args := as, argTypes := ts } => match lendAt (O.sig f) 0 with
  | some j => peLend h O o f j as.toList ts.toList S K
  | none => peCall h O o f none as.toList ts.toList S K
 | .call { callee := .value (.tmp i), args := as, argTypes := ts } => match S.at i with
  | .clo f _ => peCall h O o f (some i) as.toList ts.toList S K
  | _ => none
 | .binOp .eql T x (.const (.slice none 0 0)) _ => peNil h o.dst T true x S K
 | .binOp .neq T x (.const (.slice none 0 0)) _ => peNil h o.dst T false x S K
 | _ => match ev h.tab h.hn S o with
  | some (g, S1) => bif g then K S1 else none
  | none => none
noncomputable def peStep (h : Hint) (O : Orc) (ops : Array Oper) (i : Nat) (S : St) (K : St → Option Ret) : Option Ret := match ops[i]? with
 | none => none
 | some o => match o.guard with
  | none => peOp h O o S K
  | some (j, want) => match (ops[j]?).bind (·.dst) with
   | some d => match S.at d with
    | .v ⟨.bool, m, q⟩ ex => bif q then
      (bif want then peOp h O o (S.set d (.v ⟨.bool, m, true⟩ ex)) K else K (St.put (S.set d (.v ⟨.bool, m, true⟩ ex)) o.dst .undef))
     else (bif want then K (St.put (S.set d (.v ⟨.bool, m, false⟩ ex)) o.dst .undef) else peOp h O o (S.set d (.v ⟨.bool, m, false⟩ ex)) K)
    | .undef => K (S.put o.dst .undef)
    | _ => none
   | none => none
noncomputable def peIdx (h : Hint) (O : Orc) (ops : Array Oper) : List Nat → St → (St → Option Ret) → Option Ret
 | [], S, K => K S
 | i :: r, S, K => peStep h O ops i S (fun S1 => peIdx h O ops r S1 K)
def opOK (S : St) : Operand → Bool
 | .tmp i => (match S.at i with
  | .v _ [] => true
  | _ => false)
 | .const _ => true
 | _ => false
def opK (S : St) : Operand → Bool
 | .tmp i => (match S.at i with
  | .v ⟨_, .k, _⟩ [] => true
  | _ => false)
 | .const _ => true
 | _ => false
def optOK (S : St) : Option Operand → Bool
 | none => true
 | some x => opOK S x
def allVal (O : Orc) (f : FuncId) : Bool := (O.sig f).all fun p => match p with
 | .val => true
 | _ => false
def baseOf (ops : Array Oper) (x : Nat) : Option Nat := ops.toList.findSome? fun o => match o.dst, o.op with
 | some d, .fieldAddr _ (.tmp s) _ => bif Nat.beq d x then some s else none
 | _, _ => none
def grpOK (O : Orc) (ops : Array Oper) (S : St) (o : Oper) : Bool := (match o.guard with
  | none => true
  | some _ => false) && (match o.dst with
  | some d => !(S.at d).isV && Nat.blt d S.length
  | none => false) && (match o.op with
  | .call { callee := .value (.func f), args := as, .. } => allVal O f && as.toList.all (opOK S)
  | .call { callee := .builtin .append, args := as, .. } => as.toList.all (opOK S)
  | .buildSlice _ _ ps => ps.toList.all fun q => opOK S q.2
  | .load _ (.tmp x) => (match baseOf ops x, S.at x with
   | some s, .ad _ s' p => Nat.beq s' s && (match S.glance s p with
    | some a => a.m.isK
    | none => false)
   | none, .v ⟨.ptr _, .k, _⟩ [] => true
   | none, .v ⟨.ptr _, .o .., _⟩ [] => (match S.glance x [.deref] with
    | some a => a.m.isK
    | none => false)
   | _, _ => false)
  | .slice _ x lo hi none => opK S x && (optOK S lo && optOK S hi)
  | .indexAddr _ x ix => opK S x && opOK S ix
  | _ => false)
noncomputable def peGrp (h : Hint) (O : Orc) (ops : Array Oper) : List Nat → St → (St → Option Ret) → Option Ret
 | [], S, K => K S
 | i :: r, S, K => match ops[i]? with
  | some o => bif grpOK O ops S o then peStep h O ops i S (fun S1 => peGrp h O ops r S1 K) else none
  | none => none
def slotsOf : AV → List Nat
 | .al _ s _ => [s] | .ad _ s _ => [s] | .cut _ s _ _ _ => [s]
 | .clo _ caps => caps.filterMap fun c => match c with
  | .pl _ s _ => some s
  | .kv _ => none
 | _ => []
def closedL (Δ : Nat → Bool) : St → Nat → Bool
 | [], _ => true
 | a :: r, i => ((slotsOf a).all fun s => Δ i == Δ s) && closedL Δ r (i + 1)
def inD (Δ : Nat → Bool) : Operand → Bool
 | .tmp i => Δ i
 | .const _ => true
 | .func _ => true
 | .global _ => false
def dstD (Δ : Nat → Bool) (o : Oper) : Bool := match o.dst, o.op with
 | some d, .store .. => false
 | some d, _ => Δ d
 | none, .store .. => true
 | none, _ => false
def touchIn (Δ : Nat → Bool) (o : Oper) : Bool := (match o.guard with
  | none => true
  | some _ => false) && dstD Δ o && (match o.op with
 | .store _ x y => inD Δ x && inD Δ y
 | .makeSlice _ l c => inD Δ l && inD Δ c
 | .alloc _ => true
 | .buildSlice _ _ ps => ps.toList.all fun q => inD Δ q.2
 | .load _ x => inD Δ x
 | .move x => inD Δ x
 | .extract x _ => inD Δ x
 | .binOp _ _ x y _ => inD Δ x && (inD Δ y && !nilT o.op)
 | .fieldAddr _ x _ => inD Δ x
 | .indexAddr _ x ix => inD Δ x && inD Δ ix
 | .convert _ _ x => inD Δ x
 | .call { callee := .builtin .append, args := as, .. } => as.toList.all (inD Δ)
 | .call { callee := .value (.func _), args := as, .. } => as.toList.all (inD Δ)
 | _ => false)
def inL (l : List Nat) (i : Nat) : Bool := l.any (Nat.beq i)
def outL (l : List Nat) (i : Nat) : Bool := !inL l i
def wholeB (ds : List (List Nat)) (S : St) : Bool := ds.all fun d => closedL (inL d) S 0
def sepB (ds : List (List Nat)) (oi oj : Oper) : Bool := ds.any fun d => (touchIn (inL d) oi && touchIn (outL d) oj) || (touchIn (outL d) oi && touchIn (inL d) oj)
def exB (oi oj : Oper) : Bool := match oi.guard, oj.guard, oi.dst, oj.dst, oi.op, oj.op with
 | none, none, some a, some b, .extract (.tmp x) p, .extract (.tmp y) q => Nat.beq x y && (!Nat.beq p q && (!Nat.beq a b && (!Nat.beq a x && !Nat.beq b x)))
 | _, _, _, _, _, _ => false
def ldB (oi oj : Oper) : Bool := match oi.guard, oj.guard, oi.dst, oj.dst, oi.op, oj.op with
 | none, none, some a, some b, .load _ (.tmp x), .load _ (.tmp y) => !Nat.beq a b && (!Nat.beq a x && (!Nat.beq a y && (!Nat.beq b x && !Nat.beq b y)))
 | _, _, _, _, _, _ => false
def dstL (o : Oper) : List Nat := match o.dst with
 | some d => [d]
 | none => []
def crossB (Θ : Tab) (o : Oper) : Bool := match o.guard, o.dst, o.op with
 | none, some _, .load T (.tmp _) => (match Θ.find T with
  | some i => i.ty.flat
  | none => false)
 | _, _, _ => false
def keepB (Θ : Tab) (d : List Nat) (o : Oper) : Bool := touchIn (inL d) o || (touchIn (outL d) o || crossB Θ o)
def eqN : List Nat → List Nat → Bool
 | [], [] => true
 | a :: r, b :: s => Nat.beq a b && eqN r s
 | _, _ => false
def memLL (us : List (List Nat)) (d : List Nat) : Bool := us.any (eqN d)
def commB (us : List (List Nat)) (oi oj : Oper) : Bool := exB oi oj || ((ldB oi oj && (memLL us (dstL oi) && memLL us (dstL oj))) || sepB us oi oj)
def ownAt (S : St) (d : Nat) : Option (Bool × St) := match S.at d with
 | .al _ s (st :: pp) => (match S.at s with
  | .v r ex => (match getP (st :: pp) r.t r.m r.x with
   | some b => bif b.m.isK then none else some (ex.all (fun h => !clashE h (st :: pp)), St.put (((S.weaken s).cover s (st :: pp)).set s (.v r (ex ++ [st :: pp]))) (some d) (.v b []))
   | none => none)
  | _ => none)
 | _ => none
def flatP : Path → Bool
 | [] => true | .fst :: p => flatP p | .snd :: p => flatP p | _ => false
def boxP : Path → Bool
 | .deref :: p => flatP p
 | _ => false
def St.know (S1 : St) (k : Nat) (t : Ty) (s : Nat) (q : Path) : St := match S1.at k, S1.glance s q with
 | .dead, some c => if c.t = t then S1.set k (.al t s q) else S1
 | _, _ => S1
def St.knowAll (S : St) (s : Nat) (p : Path) : List Nat → St → St
 | [], S1 => S1
 | k :: r, S1 => St.knowAll S s p r (match S.at k with
  | .al t s' q => bif Nat.beq s' s && (boxP q && !clash q p) then S1.know k t s q else S1
  | _ => S1)
def evStoreA (Θ : Tab) (ks : List Nat) (S : St) (T : TypeId) (x y : Operand) : Res := match evStore Θ S T x y, S.opv Θ 0 x with
 | some (g, S1), some a => match S.tgt x a with
  | some (.pl _ s p) => bif boxP p then some (g, S.knowAll s p ks (match y with
    | .tmp i => match S.at i with
     | .al t v [] => S1.know v t s p
     | _ => S1
    | _ => S1)) else none
  | _ => none
 | _, _ => none
noncomputable def peTree (h : Hint) (O : Orc) (ops : Array Oper) : OT → St → (St → Option Ret) → Option Ret
 | .done, S, K => K S
 | .one i t, S, K => peStep h O ops i S (fun S1 => peTree h O ops t S1 K)
 | .any l t, S, K => peGrp h O ops l S (fun S1 => peTree h O ops t S1 K)
 | .own d t, S, K => match ownAt S d with
  | some (g, S1) => bif g then peTree h O ops t S1 K else none
  | none => none
 | .cut ks t, S, K => match cleanTo ks S with
  | some S1 => peTree h O ops t S1 K
  | none => none
 | .ali i t, S, K => match ops[i]? with
  | some o => match o.guard, o.dst, o.op with
   | none, none, .store T x y => (match evStoreA h.tab h.keep S T x y with
    | some (g, S1) => bif g then peTree h O ops t S1 K else none
    | none => none)
   | _, _, _ => none
  | none => none
 | .par l ds t, S, K => bif wholeB ds S then peIdx h O ops l S (fun S1 => peTree h O ops t S1 K) else none
def quiet : Op → Bool
 | .move _ => true | .assign _ => true | .pick .. => true | .build .. => true | .load .. => true | .nilCheck _ => true | .fieldAddr .. => true | .field .. => true | .indexAddr .. => true | .index .. => true
 | .extract .. => true | .slice .. => true | .convert .. => true | .binOp .. => true | .unOp .. => true | .makeFunc .. => true | .call { callee := .builtin .len, .. } => true | _ => false
def adds (O : Orc) : Op → Bool
 | .alloc _ => true | .box .. => true | .buildSlice .. => true | .makeSlice .. => true
 | .call { callee := .value (.func f), .. } => (O.sig f).all fun p => match p with
  | .val => true
  | _ => false
 | o => quiet o
def still : Op → Bool
 | .extract .. => true | .indexAddr .. => true | .binOp .. => true | .slice .. => true | .move _ => true | .convert .. => true | .fieldAddr .. => true | .build .. => true | .call { callee := .builtin .len, .. } => true | _ => false
def stillT (Θ : Tab) (o : Op) : Bool := still o && !nilT o && (match o with
 | .convert _ T' _ => (match Θ.find T' with
  | some i => (match i.ty with
   | .int _ => true
   | _ => false)
  | none => false)
 | _ => true)
def apartOnly (ops : Array Oper) (oi : Oper) (rest : Nat) : List Oper → Nat → Bool
 | [], _ => true
 | oj :: r, j => (bif Nat.testBit rest j then oi.apart ops oj else true) && apartOnly ops oi rest r (j + 1)
def afterM (o : Oper) : Nat := o.after.toList.foldr (fun e m => bif Region.binds .any e then m ||| 2 ^ e.on else m) 0
def waitM (i : Nat) : List Nat → Nat → Nat → Nat
 | [], _, acc => acc
 | m :: r, j, acc => waitM i r (j + 1) (bif Nat.beq j i || !(Nat.beq (m &&& acc) 0) then acc ||| 2 ^ j else acc)
def apartAll (O : Orc) (ops : Array Oper) (oi : Oper) (rest : Nat) : List Oper → Nat → Bool
 | [], _ => true
 | oj :: r, j => (bif Nat.testBit rest j then oi.apart ops oj && adds O oj.op else true) && apartAll O ops oi rest r (j + 1)
def ordOne (Θ : Tab) (O : Orc) (ops : Array Oper) (as : List Nat) (full L i : Nat) : Bool := match as[i]?, ops[i]? with
 | some m, some oi => !Nat.testBit L i && Nat.beq (m &&& L) m && Nat.beq (waitM i as 0 0 &&& L) 0 && (Nat.beq (full ^^^ (waitM i as 0 0 ||| L)) 0 || (quiet oi.op && (!nilT oi.op && apartAll O ops oi (full ^^^ (waitM i as 0 0 ||| L)) ops.toList 0)) || (stillT Θ oi.op && apartOnly ops oi (full ^^^ (waitM i as 0 0 ||| L)) ops.toList 0))
 | _, _ => false
def tmpOf : Operand → List Nat
 | .tmp i => [i]
 | _ => []
def optTmp : Option Operand → List Nat
 | none => []
 | some x => tmpOf x
def looksM (ops : Array Oper) (o : Oper) : List Nat := match o.op with
 | .call c => c.args.toList.flatMap tmpOf
 | .buildSlice _ _ ps => ps.toList.flatMap fun q => tmpOf q.2
 | .load _ (.tmp x) => (match baseOf ops x with
  | some s => [x, s]
  | none => [x])
 | .slice _ x lo hi _ => tmpOf x ++ (optTmp lo ++ optTmp hi)
 | .indexAddr _ x ix => tmpOf x ++ tmpOf ix
 | _ => []
def callB (o : Oper) : Bool := match o.op with
 | .call { callee := .value (.func _), .. } => true
 | .load .. => true
 | .slice .. => true
 | .indexAddr .. => true
 | _ => false
def disjB (ops : Array Oper) (oi oj : Oper) : Bool := (match oi.dst, oj.dst with
  | some a, some b => !Nat.beq a b && !(looksM ops oj).any (Nat.beq a) && !(looksM ops oi).any (Nat.beq b)
  | _, _ => false) && ((callB oi && callB oj) || !(looksM ops oi).any fun r => (looksM ops oj).any (Nat.beq r))
def pairsB (ops : Array Oper) (as : List Nat) : List Nat → Bool
 | [] => true
 | i :: r => (r.all fun j => match as[j]?, ops[i]?, ops[j]? with
   | some m, some oi, some oj => !Nat.beq i j && (Nat.testBit m i || disjB ops oi oj)
   | _, _, _ => false) && pairsB ops as r
def maskOf (l : List Nat) : Nat := l.foldr (fun i m => m ||| 2 ^ i) 0
def depsB (as : List Nat) : Nat → List Nat → Bool
 | _, [] => true
 | L, i :: r => (match as[i]? with
  | some m => Nat.beq (m &&& L) m
  | none => false) && depsB as (L ||| 2 ^ i) r
def anyB (ops : Array Oper) (as : List Nat) (full L : Nat) (l : List Nat) : Bool :=
 !l.isEmpty && (l.all fun i => Nat.blt i ops.size && !Nat.testBit L i && Nat.beq (waitM i as 0 0 &&& L) 0 && Nat.beq (full ^^^ (waitM i as 0 0 ||| L ||| maskOf l)) 0) && pairsB ops as l && depsB as L l
def useB (Θ : Tab) (ops : Array Oper) (as : List Nat) (l : List Nat) (i j : Nat) (d : List Nat) : Bool := l.all fun z => Nat.beq z i || (Nat.beq z j || (Nat.testBit (waitM i as 0 0) z || (Nat.testBit (waitM j as 0 0) z || (match ops[z]? with
 | some oz => keepB Θ d oz
 | none => false))))
def parPairs (Θ : Tab) (ops : Array Oper) (as : List Nat) (ds : List (List Nat)) (l : List Nat) : List Nat → Bool
 | [] => true
 | i :: r => (r.all fun j => match ops[i]?, ops[j]? with
   | some oi, some oj => !Nat.beq i j && (!Nat.testBit (waitM j as 0 0) i && (Nat.testBit (waitM i as 0 0) j || commB (ds.filter (useB Θ ops as l i j)) oi oj))
   | _, _ => false) && parPairs Θ ops as ds l r
def freeB (Θ : Tab) (ops : Array Oper) (as : List Nat) (full L i : Nat) : Bool := match ops[i]? with
 | some oi => stillT Θ oi.op && apartOnly ops oi (full ^^^ (full &&& (waitM i as 0 0 ||| L ||| afterM oi))) ops.toList 0
 | none => false
def parB (Θ : Tab) (ops : Array Oper) (as : List Nat) (full L : Nat) (l : List Nat) (ds : List (List Nat)) : Bool :=
 !l.isEmpty && (l.all fun i => Nat.blt i ops.size && !Nat.testBit L i && Nat.beq (waitM i as 0 0 &&& L) 0 && (Nat.beq (full ^^^ (waitM i as 0 0 ||| L ||| maskOf l)) 0 || freeB Θ ops as full L i)) && parPairs Θ ops as ds l l && depsB as L l && l.all fun i => match ops[i]? with
  | some o => !nilT o.op
  | none => false
def ordGo (Θ : Tab) (O : Orc) (ops : Array Oper) (as : List Nat) (full : Nat) : Nat → OT → Bool
 | L, .done => Nat.beq L full
 | L, .one i t => ordOne Θ O ops as full L i && ordGo Θ O ops as full (L ||| 2 ^ i) t
 | L, .any l t => anyB ops as full L l && ordGo Θ O ops as full (L ||| maskOf l) t
 | L, .own _ t => ordGo Θ O ops as full L t
 | L, .cut _ t => ordGo Θ O ops as full L t
 | _, .ali _ _ => false
 | L, .par l ds t => parB Θ ops as full L l ds && ordGo Θ O ops as full (L ||| maskOf l) t
def OT.len : OT → Nat
 | .done => 0 | .one _ t => t.len + 1 | .any l t => t.len + l.length | .par l _ t => t.len + l.length | .own _ t => t.len | .cut _ t => t.len | .ali _ t => t.len + 1
def ordB (Θ : Tab) (O : Orc) (ops : Array Oper) (l : OT) : Bool := Region.noSelect ops && Nat.ble l.len ops.size && ordGo Θ O ops (ops.toList.map afterM) (2 ^ ops.size - 1) 0 l
def sweep (S : St) : St := S.map fun a => match a with
 | .al t s [] => .al t s []
 | .al .. => .dead
 | .ad .. => .dead
 | .cut .. => .dead
 | a => a
def sweepGo (ks : List Nat) : Nat → St → St
 | _, [] => []
 | i, a :: r => (bif inL ks i then a else match a with
  | .al t s [] => .al t s []
  | .al .. => .dead
  | .ad .. => .dead
  | .cut .. => .dead
  | a => a) :: sweepGo ks (i + 1) r
def sweepK (ks : List Nat) (S : St) : St := match ks with
 | [] => sweep S
 | _ => sweepGo ks 0 S
def OT.line : OT → Option (List Nat)
 | .done => some []
 | .one j t => t.line.map (j :: ·)
 | .cut _ t => t.line
 | .ali j t => t.line.map (j :: ·)
 | _ => none
def lineB (l : OT) (n : Nat) : Bool := match l.line with
 | some q => eqN q (List.range n)
 | none => false
def ordOf : List (Nat × OT) → Nat → Option OT
 | [], _ => none
 | q :: r, k => bif Nat.beq q.1 k then some q.2 else ordOf r k
def ordsOK (h : Hint) (O : Orc) : Code → Bool
 | .region id ops true => (match ordOf h.ords id with
  | some l => ordB h.tab O ops l
  | none => true)
 | .region id ops false => (match ordOf h.ords id with
  | some l => lineB l ops.size
  | none => true)
 | .seq a b => ordsOK h O a && ordsOK h O b
 | .cond _ a b => ordsOK h O a && ordsOK h O b
 | .block _ c => ordsOK h O c
 | .loop c => ordsOK h O c
 | _ => true
def keyOf : Code → Nat
 | .region id _ _ => id
 | .seq a _ => keyOf a
 | .block _ c => keyOf c
 | .loop c => keyOf c
 | _ => 0
def plainOps (ops : Array Oper) : Bool := ops.toList.all fun o => !nilT o.op
def plainC : Code → Bool
 | .region _ ops _ => plainOps ops
 | .seq a b => plainC a && plainC b
 | .cond _ a b => plainC a && plainC b
 | .block _ c => plainC c
 | .loop c => plainC c
 | _ => true
abbrev Ks := Ex → St → Option Ret
def Hint.onOut (h : Hint) (key : Nat) (K : Ks) : Ks := fun e S => match outOf h.outs key e.num with
 | some ks => (match cleanTo ks S with
  | some S1 => K e S1
  | none => none)
 | none => none
noncomputable def pe (h : Hint) (O : Orc) (L : Nat → St → Ks → Option Ret) : Code → St → Ks → Option Ret
 | .skip, S, K => K .n S
 | .region id ops false, S, K => match ordOf h.ords id with
  | some l => peTree h O ops l S (fun S1 => K .n (frzs h.frz id (sweepK h.keep S1)))
  | none => peIdx h O ops (List.range ops.size) S (fun S1 => K .n (frzs h.frz id (sweepK h.keep S1)))
 | .region id ops true, S, K => match ordOf h.ords id with
  | some l => peTree h O ops l S (fun S1 => K .n (frzs h.frz id (sweepK h.keep S1)))
  | none => none
 | .seq a b, S, K => pe h O L a S (fun e S1 => match e with
  | .n => pe h O L b S1 K
  | e => K e S1)
 | .cond c x y, S, K => match S.rd h.tab 0 c with
  | some ⟨.bool, _, q⟩ => bif q then pe h O L x S K else pe h O L y S K
  | _ => none
 | .block id c, S, K => pe h O L c S (fun e S1 => match e with
  | .x id' => bif Nat.beq id' id then K .n S1 else K (.x id') S1
  | e => K e S1)
 | .loop c, S, K => match h.clean (keyOf c) S with
  | some S1 => L (keyOf c) S1 (h.onOut (keyOf c) K)
  | none => none
 | .exit id, S, K => K (.x id) S
 | .ret, S, K => K .r S
 | _, _, _ => none
def mixL (Lf : Nat → Nat → St → Ks → Option Ret) (N n key0 : Nat) : Nat → St → Ks → Option Ret := fun key S K => bif Nat.beq key key0 then Lf n key S K else Lf N key S K
noncomputable def peRound (h : Hint) (O : Orc) (L : Nat → St → Ks → Option Ret) (c : Code) (S : St) (K : Ks) : Option Ret :=
 pe h O L c S (fun e S1 => match e with
  | .n => (match h.clean (keyOf c) S1 with
   | some S2 => L (keyOf c) S2 K
   | none => none)
  | e => K e S1)
def endRes (Θ : Tab) (S : St) : List ResultVar → Option (List TV × St)
 | [] => some ([], S)
 | .tmp t :: r => match S.takeA (.tmp t) (S.at t) with
  | some (a, S1) => match endRes Θ S1 r with
   | some (l, S2) => some (a :: l, S2)
   | none => none
  | none => none
 | .cell t T :: r => match S.at t with
  | .v ⟨.ptr ty, .o _ _ me, x⟩ [] => match endRes Θ (S.put (some t) .dead) r with
   | some (l, S2) => bif Θ.is T ty then some (⟨ty, me, x⟩ :: l, S2) else none
   | none => none
  | _ => none
def argAV : Arg → AV
 | .tv a => .v a []
 | .fn f caps => .clo f (caps.map .kv)
def start (fn : Func) (args : List Arg) : St := args.map argAV ++ List.replicate (fn.ntmps - args.length) .undef
def lentTV : Bool → TV → Option TV
 | false, b => some b
 | true, ⟨.ptr t, .o _ _ me, x⟩ => some ⟨t, me, x⟩
 | true, _ => none
noncomputable def peFunc (h : Hint) (O : Orc) (L : Nat → St → Ks → Option Ret) (fn : Func) (args : List Arg) (K : Ret → Option Ret) : Option Ret :=
 match fn.body with
 | some c => pe h O L c (start fn args) (fun e S => match e with
  | .x _ => none
  | _ => match endRes h.tab S fn.results.toList with
   | some (l, S1) => (match h.lent with
    | none => K ⟨l, []⟩
    | some q => match S1.at q.1 with
     | .v b [] => (match lentTV q.2 b with
      | some c => K ⟨l, [c]⟩
      | none => none)
     | _ => none)
   | none => none)
 | none => none
end Go.Pv
namespace Go.Pv
set_option linter.unusedVariables false
set_option linter.unusedSimpArgs false
def Det {σ : Type} (X : (σ → Option Ret) → Option Ret) : Prop := ∃ o : Option σ, ∀ K, X K = o.bind K
theorem Det.none {σ : Type} : Det (σ := σ) fun _ => none := ⟨.none, fun _ => rfl⟩
theorem Det.pure {σ : Type} (s : σ) : Det fun K => K s := ⟨some s, fun _ => rfl⟩
theorem Det.bind {σ τ : Type} {X : (σ → Option Ret) → Option Ret} {Y : σ → (τ → Option Ret) → Option Ret} (h : Det X) (hy : ∀ s, Det (Y s)) : Det fun K => X fun s => Y s K := by
 obtain ⟨o, ho⟩ := h
 cases o with
 | none => exact ⟨.none, fun K => ho _⟩
 | some s =>
  obtain ⟨o', ho'⟩ := hy s
  exact ⟨o', fun K => (ho _).trans (ho' K)⟩
theorem Det.bif {σ : Type} {X Y : (σ → Option Ret) → Option Ret} (c : Bool) (hx : Det X) (hy : Det Y) : Det fun K => bif c then X K else Y K := by cases c <;> assumption
def ODet (O : Orc) : Prop := ∀ f as, Det (O.run f as)
def KDet (X : Ks → Option Ret) : Prop := ∃ o : Option (Ex × St), ∀ K, X K = o.bind fun q => K q.1 q.2
theorem KDet.none : KDet fun _ => none := ⟨.none, fun _ => rfl⟩
theorem KDet.pure (e : Ex) (S : St) : KDet fun K => K e S := ⟨some (e, S), fun _ => rfl⟩
theorem KDet.bind {X : Ks → Option Ret} {Y : Ex → St → Ks → Option Ret} (h : KDet X) (hy : ∀ e S, KDet (Y e S)) : KDet fun K => X fun e S => Y e S K := by
 obtain ⟨o, ho⟩ := h
 cases o with
 | none => exact ⟨.none, fun K => ho _⟩
 | some s =>
  obtain ⟨o', ho'⟩ := hy s.1 s.2
  exact ⟨o', fun K => (ho _).trans (ho' K)⟩
theorem KDet.of {X : (St → Option Ret) → Option Ret} {Y : St → Ks → Option Ret} (h : Det X) (hy : ∀ S, KDet (Y S)) : KDet fun K => X fun S => Y S K := by
 obtain ⟨o, ho⟩ := h
 cases o with
 | none => exact ⟨.none, fun K => ho _⟩
 | some s =>
  obtain ⟨o', ho'⟩ := hy s
  exact ⟨o', fun K => (ho _).trans (ho' K)⟩
theorem KDet.to {X : Ks → Option Ret} {Y : Ex → St → (Ret → Option Ret) → Option Ret} (h : KDet X) (hy : ∀ e S, Det (Y e S)) : Det fun K => X fun e S => Y e S K := by
 obtain ⟨o, ho⟩ := h
 cases o with
 | none => exact ⟨.none, fun K => ho _⟩
 | some s =>
  obtain ⟨o', ho'⟩ := hy s.1 s.2
  exact ⟨o', fun K => (ho _).trans (ho' K)⟩
variable {h : Hint} {O : Orc} {ops : Array Oper}
theorem peCall_det (hO : ODet O) (o : Oper) (f : FuncId) (cal : Option Nat) (as : List Operand) (ts : List TypeId) (S : St) : Det (peCall h O o f cal as ts S) := by
 unfold peCall
 split
 ·split
  ·refine (hO f _).bind fun ret => ?_
   split
   ·exact Det.bif _ (Det.pure _) Det.none
   ·exact Det.none
  ·exact Det.none
 ·exact Det.none
theorem peLend_det (hO : ODet O) (o : Oper) (f : FuncId) (j : Nat) (as : List Operand) (ts : List TypeId) (S : St) : Det (peLend h O o f j as ts S) := by
 unfold peLend
 split
 ·split
  ·split
   ·refine Det.bif _ ?_ Det.none
    split
    ·refine Det.bif _ ?_ Det.none
     refine (hO f _).bind fun ret => ?_
     split
     ·refine Det.bif _ ?_ Det.none
      split
      ·split
       ·split
        ·exact Det.pure _
        ·exact Det.none
       ·exact Det.none
      ·exact Det.none
     ·exact Det.none
    ·exact Det.none
   ·exact Det.none
  ·exact Det.none
 ·exact Det.none
theorem peOp_det (hO : ODet O) (o : Oper) (hn : nilT o.op = false) (S : St) : Det (peOp h O o S) := by
 unfold peOp
 split
 ·split
  ·exact peLend_det hO ..
  ·exact peCall_det hO ..
 ·split
  ·exact peCall_det hO ..
  ·exact Det.none
 ·rename_i ho; rw [ho] at hn; cases hn
 ·rename_i ho; rw [ho] at hn; cases hn
 ·split
  ·exact Det.bif _ (Det.pure _) Det.none
  ·exact Det.none
theorem peStep_det (hO : ODet O) (i : Nat) (hn : ∀ o, ops[i]? = some o → nilT o.op = false) (S : St) : Det (peStep h O ops i S) := by
 unfold peStep
 split
 ·exact Det.none
 ·rename_i o ho
  have hn := hn o ho
  split
  ·exact peOp_det hO _ hn _
  ·split
   ·split
    ·exact Det.bif _ (Det.bif _ (peOp_det hO _ hn _) (Det.pure _)) (Det.bif _ (Det.pure _) (peOp_det hO _ hn _))
    ·exact Det.pure _
    ·exact Det.none
   ·exact Det.none
theorem plain_at (hp : plainOps ops = true) (i : Nat) (o : Oper) (ho : ops[i]? = some o) : nilT o.op = false := by
 unfold plainOps at hp
 have := List.all_eq_true.1 hp o (by rw [← Array.getElem?_toList] at ho; exact List.mem_of_getElem? ho)
 simpa using this
theorem peIdx_det (hO : ODet O) (hp : plainOps ops = true) : ∀ (l : List Nat) (S : St), Det (peIdx h O ops l S)
 | [], S => Det.pure S
 | i :: r, S => (peStep_det hO i (plain_at hp i) S).bind fun S1 => peIdx_det hO hp r S1
theorem peGrp_det (hO : ODet O) (hp : plainOps ops = true) : ∀ (l : List Nat) (S : St), Det (peGrp h O ops l S)
 | [], S => Det.pure S
 | i :: r, S => by
  simp only [show peGrp h O ops (i :: r) S = fun K => peGrp h O ops (i :: r) S K from rfl, peGrp]
  split
  ·exact Det.bif _ ((peStep_det hO i (plain_at hp i) S).bind fun S1 => peGrp_det hO hp r S1) Det.none
  ·exact Det.none
theorem peTree_det (hO : ODet O) (hp : plainOps ops = true) : ∀ (t : OT) (S : St), Det (peTree h O ops t S)
 | .done, S => Det.pure S
 | .one i t, S => (peStep_det hO i (plain_at hp i) S).bind fun S1 => peTree_det hO hp t S1
 | .any l t, S => (peGrp_det hO hp l S).bind fun S1 => peTree_det hO hp t S1
 | .own d t, S => by
  show Det fun K => peTree h O ops (.own d t) S K
  simp only [peTree]
  cases ownAt S d with
  | none => exact Det.none
  | some q => exact Det.bif _ (peTree_det hO hp t q.2) Det.none
 | .cut ks t, S => by
  show Det fun K => peTree h O ops (.cut ks t) S K
  simp only [peTree]
  cases cleanTo ks S with
  | none => exact Det.none
  | some S1 => exact peTree_det hO hp t S1
 | .ali i t, S => by
  show Det fun K => peTree h O ops (.ali i t) S K
  simp only [peTree]
  split
  ·split
   ·split
    ·exact Det.bif _ (peTree_det hO hp t _) Det.none
    ·exact Det.none
   ·exact Det.none
  ·exact Det.none
 | .par l ds t, S => Det.bif _ ((peIdx_det hO hp l S).bind fun S1 => peTree_det hO hp t S1) Det.none
def LDet (h : Hint) (L : Nat → St → Ks → Option Ret) (key : Nat) : Prop := ∀ (ks : List Kd) (x : Vals ks), heads h.loops key = some ks → KDet fun K => L key (shape ks x) (h.onOut key K)
def keysIn : Code → List Nat
 | .seq a b => keysIn a ++ keysIn b
 | .cond _ a b => keysIn a ++ keysIn b
 | .block _ c => keysIn c
 | .loop c => keyOf c :: keysIn c
 | _ => []
theorem clean_shape' {S S1 : St} {key : Nat} (e : h.clean key S = some S1) : ∃ ks x, heads h.loops key = some ks ∧ S1 = shape ks x := by
 unfold Hint.clean at e
 split at e
 case h_2 => cases e
 rename_i ks hks
 unfold cleanTo at e
 cases hk : kindsOK ks ks with
 | false => rw [hk] at e; cases e
 | true =>
  rw [hk] at e
  simp only [cond_true] at e
  split at e
  case h_2 => cases e
  rename_i x hx
  injection e with e
  exact ⟨ks, x, hks, e.symm⟩
theorem pe_det (hO : ODet O) {L : Nat → St → Ks → Option Ret} : ∀ (c : Code) (S : St), plainC c = true → (∀ k ∈ keysIn c, LDet h L k) → KDet (pe h O L c S)
 | .skip, S, _, _ => KDet.pure _ _
 | .region id ops false, S, hp, _ => by
  show KDet fun K => pe h O L (.region id ops false) S K
  simp only [pe]
  split
  ·exact KDet.of (peTree_det hO hp _ S) fun S1 => KDet.pure _ _
  ·exact KDet.of (peIdx_det hO hp _ S) fun S1 => KDet.pure _ _
 | .region id ops true, S, hp, _ => by
  show KDet fun K => pe h O L (.region id ops true) S K
  simp only [pe]
  split
  ·exact KDet.of (peTree_det hO hp _ S) fun S1 => KDet.pure _ _
  ·exact KDet.none
 | .seq a b, S, hp, hL => by
  simp only [plainC, Bool.and_eq_true] at hp
  show KDet fun K => pe h O L (.seq a b) S K
  simp only [pe]
  refine KDet.bind (pe_det hO a S hp.1 fun k hk => hL k (by simp [keysIn, hk])) fun e S1 => ?_
  cases e with
  | n => exact pe_det hO b S1 hp.2 fun k hk => hL k (by simp [keysIn, hk])
  | x id => exact KDet.pure _ _
  | r => exact KDet.pure _ _
 | .cond c x y, S, hp, hL => by
  simp only [plainC, Bool.and_eq_true] at hp
  show KDet fun K => pe h O L (.cond c x y) S K
  simp only [pe]
  split
  ·rename_i q _
   cases q with
   | true => exact pe_det hO x S hp.1 fun k hk => hL k (by simp [keysIn, hk])
   | false => exact pe_det hO y S hp.2 fun k hk => hL k (by simp [keysIn, hk])
  ·exact KDet.none
 | .block id c, S, hp, hL => by
  simp only [plainC] at hp
  show KDet fun K => pe h O L (.block id c) S K
  simp only [pe]
  refine KDet.bind (pe_det hO c S hp fun k hk => hL k (by simpa [keysIn] using hk)) fun e S1 => ?_
  cases e with
  | n => exact KDet.pure _ _
  | x id' =>
   cases h : Nat.beq id' id with
   | true => exact ⟨some (.n, S1), fun K => by simp [h]⟩
   | false => exact ⟨some (.x id', S1), fun K => by simp [h]⟩
  | r => exact KDet.pure _ _
 | .loop c, S, _, hL => by
  show KDet fun K => pe h O L (.loop c) S K
  simp only [pe]
  split
  ·rename_i S1 hS1
   obtain ⟨ks, x, hk, rfl⟩ := clean_shape' hS1
   exact hL (keyOf c) (by simp [keysIn]) ks x hk
  ·exact KDet.none
 | .exit id, S, _, _ => KDet.pure _ _
 | .ret, S, _, _ => KDet.pure _ _
 | .rangeFunc .., S, _, _ => KDet.none
 | .scope _, S, _, _ => KDet.none
 | .label _, S, _, _ => KDet.none
 | .goto _, S, _, _ => KDet.none
 | .refuse _, S, _, _ => KDet.none
theorem onOut_det (h : Hint) (key : Nat) (e : Ex) (S : St) : KDet fun K => h.onOut key K e S := by
 unfold Hint.onOut
 split
 ·split
  ·exact KDet.pure _ _
  ·exact KDet.none
 ·exact KDet.none
theorem endRes_det (fn : Func) (S : St) : Det fun (K : Ret → Option Ret) => (match endRes h.tab S fn.results.toList with
   | some (l, S1) => (match h.lent with
    | none => K ⟨l, []⟩
    | some q => match S1.at q.1 with
     | .v b [] => (match lentTV q.2 b with
      | some c => K ⟨l, [c]⟩
      | none => none)
     | _ => none)
   | none => none) := by
 split
 ·split
  ·exact Det.pure _
  ·split
   ·split
    ·exact Det.pure _
    ·exact Det.none
   ·exact Det.none
 ·exact Det.none
theorem peFunc_det (hO : ODet O) {L : Nat → St → Ks → Option Ret} {fn : Func} {body : Code} (hb : fn.body = some body) (hp : plainC body = true) (hL : ∀ k ∈ keysIn body, LDet h L k) (args : List Arg) : Det (peFunc h O L fn args) := by
 unfold peFunc
 rw [hb]
 simp only
 refine KDet.to (pe_det hO body _ hp hL) fun e S => ?_
 cases e with
 | n => exact endRes_det fn S
 | x id => exact Det.none
 | r => exact endRes_det fn S
end Go.Pv
namespace Go.Pv
set_option linter.unusedVariables false
set_option linter.unusedSimpArgs false
def isAgg : Ty → Bool
 | .pair _ _ => true | .unit => true | .arr _ _ => true | _ => false
def matchV (t : Ty) (v : Value) (cs : List Value) : Prop := if isAgg t = true then v = .agg cs.toArray else cs = [v]
section
variable (w : World) (Av : Nat → Prop) (H : Nat → Value) (tm : Nat → Value) (S : St)
structure Ref (t : Ty) (s : Nat) (p : Path) (r : TV) (cs0 : List Value) : Prop where
 at_ : ∃ ex, S.at s = .v r ex ∧ open_ p ex
 val : valid p r.t r.x
 get : ∃ b, getP p r.t r.m r.x = some b ∧ b.t = t
 mat : matchV r.t (tm s) cs0
def HoldsCap : Cap → Value → Prop
 | .kv a, u => K w Av a.t a.x [u]
 | .pl t s p, u => ∃ r cs0 cs, Ref tm S (.ptr t) s p r cs0 ∧ cellsAt w p r.t cs0 = some cs ∧ matchV (.ptr t) u cs
def Holds (own : Nat → Prop) : AV → Value → Prop
 | .dead, _ => True
 | .undef, v => v = undef
 | .v a ex, v => ∃ cs, matchV a.t v cs ∧ M w Av H a.t a.m a.x cs own ex
 | .tup l, v => ∃ (vs : List Value) (τ : Nat → Nat), v = .tuple vs.toArray ∧ vs.length = l.length ∧
   ∀ (j : Nat) (a : TV), l[j]? = some (some a) → ∃ u cs, vs[j]? = some u ∧ matchV a.t u cs ∧ M w Av H a.t a.m a.x cs (fun g => own g ∧ τ g = j) []
 | .al t s p, v => ∃ r cs0 cs, Ref tm S t s p r cs0 ∧ cellsAt w p r.t cs0 = some cs ∧ matchV t v cs
 | .ad t s p, v => ∃ r cs0 g off, Ref tm S t s p r cs0 ∧ addrAt w p r.t cs0 none = some (g, off) ∧ v = .pointer (some ⟨g, off, none⟩)
 | .cut t s p lo hi, v => ∃ r cs0 t' A n c, Ref tm S t s p r cs0 ∧ t = .sl t' ∧ cellsAt w p r.t cs0 = some [.slice A n c] ∧ lo ≤ hi ∧ hi ≤ n ∧
   v = .slice (if c = lo then A else A.map (·.add (lo * t'.size))) (hi - lo) (c - lo)
 | .clo f caps, v => ∃ vs : List Value, v = .func (.func f) #[] vs.toArray ∧ vs.length = caps.length ∧ ∀ (j : Nat) (c : Cap), caps[j]? = some c → ∃ u, vs[j]? = some u ∧ HoldsCap w Av tm S c u
end
structure Fr (w0 : World) (W0 : Nat → Prop) (w : World) : Prop where
 os : w.os = w0.os
 tape : w.tape = w0.tape
 output : w.output = w0.output
 size : w0.heap.size ≤ w.heap.size
 block : ∀ g, g < w0.heap.size → ¬ W0 g → w.heap[g]? = w0.heap[g]?
def Av (σ : Nat → Option Nat) (Z : Nat → Prop) (g : Nat) : Prop := (∃ i, σ g = some i) ∨ Z g
def tmOf (a : Act) (i : Nat) : Value := a.tmps.getD i undef
structure RelS (σ : Nat → Option Nat) (w0 : World) (W0 Z : Nat → Prop) (H : Nat → Value) (S : St) (a : Act) (w : World) : Prop where
 len : S.length = a.tmps.size
 defers : a.defers = []
 fr : Fr w0 W0 w
 new : ∀ g i, σ g = some i → w0.heap.size ≤ g ∨ W0 g
 lt : ∀ g i, σ g = some i → g < w.heap.size
 old : ∀ g, Z g → σ g = none ∧ g < w0.heap.size
 holds : ∀ i, Holds w (Av σ Z) H (tmOf a) S (fun g => σ g = some i) (S.at i) (tmOf a i)
def Rel (w0 : World) (W0 Z : Nat → Prop) (H : Nat → Value) (S : St) (a : Act) (w : World) : Prop := ∃ σ, RelS σ w0 W0 Z H S a w
theorem cells_same {w w' : World} {Wr Wr' : Nat → Prop} {H : Nat → Value} (hst : Stays w w' Wr Wr') : ∀ (p : Path) {t : Ty} {m : Md} {x : t.I} {cs : List Value} {ow : Nat → Prop} {hs : List Path} (l : Option (Nat × Nat)),
  M w Wr H t m x cs ow hs → (∀ g, ow g → g < w.heap.size → w'.heap[g]? = w.heap[g]?) → open_ p hs → valid p t x → cellsAt w' p t cs = cellsAt w p t cs ∧ addrAt w' p t cs l = addrAt w p t cs l
 | [], _, _, _, _, _, _, _, _, _, _, _ => ⟨rfl, rfl⟩
 | .deref :: p, .ptr t, m, x, cs, ow, hs, l, h, hb, ho, hv => by
  simp only [valid] at hv
  simp only [M] at h
  rcases h with ⟨hn, _⟩ | ⟨hk, h⟩ | ⟨T, tag, me, g, cur, rfl, rfl, ht, hog, hw, h⟩
  ·exact absurd hn ho.not_nil
  ·simp only [K] at h
   obtain ⟨g, off, cur, T, fr, rfl, hng, hw, hl, h⟩ := h
   have hw' := (hst.same g hng (lt_of_some hw)).trans hw
   have ih := cells_same hst p (H := H) (some (g, off)) (M_of_K (ow := fun _ => False) (hs := sub .deref hs) t h) (fun _ h => h.elim) ho.sub hv
   simp only [cellsAt, addrAt, rowAt_own hw hl, rowAt_own hw' hl, Option.bind_some]
   exact ih
  ·have hw' := (hb g hog (lt_of_some hw)).trans hw
   have hsz : 0 + t.size ≤ cur.size := by rw [← (M_ok t h).1]; simp
   have hrow : (cur.toList.drop 0).take t.size = cur.toList := by rw [List.drop_zero, List.take_of_length_le (by rw [(M_ok t h).1]; exact Nat.le_refl _)]
   have ih := cells_same hst p (some (g, 0)) h (fun g hg => hb g hg.1) ho.sub hv
   simp only [cellsAt, addrAt, rowAt_own hw hsz, rowAt_own hw' hsz, Option.bind_some, hrow]
   exact ih
 | .fst :: p, .pair a b', m, x, cs, ow, hs, l, h, hb, ho, hv => by
  simp only [valid] at hv
  simp only [M] at h
  simp only [cellsAt, addrAt]
  rcases h with ⟨hn, _⟩ | ⟨hk, h⟩ | ⟨ma, mb, c0, c1, s, rfl, rfl, h0, h1⟩
  ·exact absurd hn ho.not_nil
  ·simp only [K] at h
   obtain ⟨c0, c1, rfl, h0, h1⟩ := h
   rw [← (K_ok a h0).1, List.take_left]
   exact cells_same hst p (H := H) l (M_of_K (ow := fun _ => False) (hs := sub .fst hs) a h0) (fun _ h => h.elim) ho.sub hv
  ·rw [← (M_ok a h0).1, List.take_left]
   exact cells_same hst p l h0 (fun g hg => hb g hg.1) ho.sub hv
 | .snd :: p, .pair a b', m, x, cs, ow, hs, l, h, hb, ho, hv => by
  simp only [valid] at hv
  simp only [M] at h
  simp only [cellsAt, addrAt]
  rcases h with ⟨hn, _⟩ | ⟨hk, h⟩ | ⟨ma, mb, c0, c1, s, rfl, rfl, h0, h1⟩
  ·exact absurd hn ho.not_nil
  ·simp only [K] at h
   obtain ⟨c0, c1, rfl, h0, h1⟩ := h
   rw [← (K_ok a h0).1, List.drop_left]
   exact cells_same hst p (H := H) _ (M_of_K (ow := fun _ => False) (hs := sub .snd hs) b' h1) (fun _ h => h.elim) ho.sub hv
  ·rw [← (M_ok a h0).1, List.drop_left]
   exact cells_same hst p _ h1 (fun g hg => hb g hg.1) ho.sub hv
 | .idx i :: p, .sl t, m, xs, cs, ow, hs, l, h, hb, ho, hv => by
  simp only [valid] at hv
  obtain ⟨hi, hv⟩ := hv
  have hget : List.getD xs i t.z = xs[i] := by simp [List.getD_eq_getElem?_getD, List.getElem?_eq_getElem hi]
  simp only [M] at h
  rcases h with ⟨hn, _⟩ | ⟨hk, h⟩ | ⟨T, tag, me, A, c, rfl, rfl, hc, ht, h⟩
  ·exact absurd hn ho.not_nil
  ·simp only [K] at h
   obtain ⟨A, c, rfl, hc, h⟩ := h
   obtain ⟨g, off, cur, T, fr, rfl, hng, hw, hl, h⟩ := h (by omega)
   have hw' := (hst.same g hng (lt_of_some hw)).trans hw
   have hbound : off + i * t.size + t.size ≤ cur.size := by
    have := Nat.mul_le_mul_right t.size (show i + 1 ≤ xs.length from hi)
    rw [Nat.add_mul, Nat.one_mul] at this
    omega
   have hK := h i hi
   rw [← hget] at hK
   have ih := cells_same hst p (H := H) (some (g, off + i * t.size)) (M_of_K (ow := fun _ => False) (hs := sub (.idx i) hs) t hK) (fun _ h => h.elim) ho.sub hv
   simp only [cellsAt, addrAt, rowAt_own hw hbound, rowAt_own hw' hbound, Option.bind_some]
   exact ih
  ·rcases h with ⟨rfl, _⟩ | ⟨g, cur, τ, rfl, hog, hw, hsz, hm, h⟩
   ·simp at hi
   ·have hw' := (hb g hog (lt_of_some hw)).trans hw
    have hbound : i * t.size + t.size ≤ cur.size := by
     have h1 := Nat.mul_le_mul_right t.size (show i + 1 ≤ xs.length from hi)
     have h2 := Nat.mul_le_mul_right t.size hc
     rw [Nat.add_mul, Nat.one_mul] at h1
     omega
    have hM := h i hi
    rw [← hget] at hM
    have ih := cells_same hst p (some (g, i * t.size)) hM (fun g hg => hb g hg.1) ho.sub hv
    simp only [cellsAt, addrAt, Nat.zero_add, rowAt_own hw hbound, rowAt_own hw' hbound, Option.bind_some]
    exact ih
variable {w w' : World} {A A' : Nat → Prop} {H : Nat → Value} {tm tm' : Nat → Value} {S S' : St}
structure Kept (w w' : World) (A : Nat → Prop) (H : Nat → Value) (tm tm' : Nat → Value) (S S' : St) (s : Nat) : Prop where
 at_ : ∀ r ex, S.at s = .v r ex → S'.at s = .v r ex
 tm_ : tm' s = tm s
 hold : ∃ own, Holds w A H tm S own (S.at s) (tm s) ∧ ∀ g, own g → g < w.heap.size → w'.heap[g]? = w.heap[g]?
theorem matchV_inj {t : Ty} {v : Value} {cs cs' : List Value} (h : matchV t v cs) (h' : matchV t v cs') : cs = cs' := by
 unfold matchV at *
 split at h
 ·rename_i ha
  rw [if_pos ha] at h'
  rw [h] at h'
  injection h' with h'
  simpa using h'
 ·rename_i ha
  rw [if_neg ha] at h'
  rw [h, h']
theorem Ref.kept {t : Ty} {s : Nat} {p : Path} {r : TV} {cs0 : List Value} (hst : Stays w w' A A') (hk : Kept w w' A H tm tm' S S' s) (h : Ref tm S t s p r cs0) :
  Ref tm' S' t s p r cs0 ∧ ∀ l, cellsAt w' p r.t cs0 = cellsAt w p r.t cs0 ∧ addrAt w' p r.t cs0 l = addrAt w p r.t cs0 l := by
 obtain ⟨⟨ex, h1, h2⟩, h3, h4, h5⟩ := h
 refine ⟨⟨⟨ex, hk.at_ _ _ h1, h2⟩, h3, h4, by rw [hk.tm_]; exact h5⟩, fun l => ?_⟩
 obtain ⟨own, hh, hb⟩ := hk.hold
 rw [h1] at hh
 obtain ⟨cs, hm, hM⟩ := hh
 obtain rfl := matchV_inj h5 hm
 exact cells_same hst p l hM hb h2 h3
theorem HoldsCap.kept {c : Cap} {u : Value} (hst : Stays w w' A A') (hk : ∀ t s p, c = .pl t s p → Kept w w' A H tm tm' S S' s) (h : HoldsCap w A tm S c u) : HoldsCap w' A' tm' S' c u := by
 cases c with
 | kv a => exact K_stays hst _ h
 | pl t s p =>
  obtain ⟨r, cs0, cs, hr, hc, hm⟩ := h
  obtain ⟨h1, h2⟩ := hr.kept hst (hk t s p rfl)
  exact ⟨r, cs0, cs, h1, by rw [(h2 none).1]; exact hc, hm⟩
theorem Holds.kept {own own' : Nat → Prop} {a : AV} {v : Value} (hst : Stays w w' A A') (ho : ∀ g, own g → g < w.heap.size → w'.heap[g]? = w.heap[g]? ∧ own' g)
  (hk : ∀ s, a.refs s = true → Kept w w' A H tm tm' S S' s) (h : Holds w A H tm S own a v) : Holds w' A' H tm' S' own' a v := by
 cases a with
 | dead => trivial
 | undef => exact h
 | v a ex =>
  obtain ⟨cs, h1, h2⟩ := h
  exact ⟨cs, h1, M_move hst _ (fun g hg hl => (ho g hg hl).1) (fun g hg hl => (ho g hg hl).2) (fun _ h => h) h2⟩
 | tup l =>
  obtain ⟨vs, τ, h1, h2, h3⟩ := h
  refine ⟨vs, τ, h1, h2, fun j a hj => ?_⟩
  obtain ⟨u, cs, k1, k2, k3⟩ := h3 j a hj
  exact ⟨u, cs, k1, k2, M_move hst _ (fun g hg hl => (ho g hg.1 hl).1) (fun g hg hl => ⟨(ho g hg.1 hl).2, hg.2⟩) (fun _ h => h) k3⟩
 | al t s p =>
  obtain ⟨r, cs0, cs, hr, hc, hm⟩ := h
  obtain ⟨h1, h2⟩ := hr.kept hst (hk s (by simp [AV.refs]))
  exact ⟨r, cs0, cs, h1, by rw [(h2 none).1]; exact hc, hm⟩
 | ad t s p =>
  obtain ⟨r, cs0, g, off, hr, hc, hm⟩ := h
  obtain ⟨h1, h2⟩ := hr.kept hst (hk s (by simp [AV.refs]))
  exact ⟨r, cs0, g, off, h1, by rw [(h2 none).2]; exact hc, hm⟩
 | cut t s p lo hi =>
  obtain ⟨r, cs0, t', A1, n, c, hr, ht, hc, hm⟩ := h
  obtain ⟨h1, h2⟩ := hr.kept hst (hk s (by simp [AV.refs]))
  exact ⟨r, cs0, t', A1, n, c, h1, ht, by rw [(h2 none).1]; exact hc, hm⟩
 | clo f caps =>
  obtain ⟨vs, h1, h2, h3⟩ := h
  refine ⟨vs, h1, h2, fun j c hj => ?_⟩
  obtain ⟨u, k1, k2⟩ := h3 j c hj
  refine ⟨u, k1, k2.kept hst (fun t s p e => hk s ?_)⟩
  subst e
  simp only [AV.refs, List.any_eq_true]
  exact ⟨_, List.mem_of_getElem? hj, by simp⟩
theorem at_set (S : St) (d : Nat) (a : AV) (i : Nat) : St.at (S.set d a) i = if i = d ∧ d < S.length then a else S.at i := by
 unfold St.at
 rw [List.getD_eq_getElem?_getD, List.getD_eq_getElem?_getD, List.getElem?_set]
 by_cases h : d = i
 ·subst h
  by_cases hl : d < S.length
  ·simp [hl]
  ·simp [hl]
 ·have h' : ¬ i = d := fun e => h e.symm
  simp [h, h']
theorem at_map (S : St) (f : AV → AV) (hf : f .dead = .dead) (i : Nat) : St.at (S.map f) i = f (S.at i) := by
 unfold St.at
 rw [List.getD_eq_getElem?_getD, List.getD_eq_getElem?_getD, List.getElem?_map]
 cases S[i]? with
 | none => simp [hf]
 | some a => rfl
theorem at_kill (S : St) (d i : Nat) : (S.kill d).at i = bif (S.at i).refs d then .dead else S.at i := at_map S _ (by simp [AV.refs]) i
theorem at_weaken (S : St) (d i : Nat) : (S.weaken d).at i = bif (S.at i).frail d then .dead else S.at i := at_map S _ (by simp [AV.frail]) i
theorem kill_len (S : St) (d : Nat) : (S.kill d).length = S.length := by simp [St.kill]
theorem put_at (S : St) (d : Nat) (a : AV) (i : Nat) : (S.put (some d) a).at i = if i = d ∧ d < S.length then (bif a.refs d then .dead else a) else bif (S.at i).refs d && (S.at d).isV then .dead else S.at i := by
 simp only [St.put]
 cases (S.at d).isV
 ·simp only [cond_false, at_set, Bool.and_false]
 ·simp only [cond_true, at_set, kill_len, at_kill, Bool.and_true]
theorem put_len' (S : St) (dst : Option Nat) (a : AV) : (S.put dst a).length = S.length := by
 cases dst with
 | none => rfl
 | some d => simp only [St.put]; cases (S.at d).isV <;> simp [St.kill]
theorem refs_v {own : Nat → Prop} {w : World} {A : Nat → Prop} {H : Nat → Value} {tm : Nat → Value} {S : St} {av : AV} {v : Value} {d : Nat} (h : Holds w A H tm S own av v) (hr : av.refs d = true) : (S.at d).isV = true := by
 cases av with
 | dead => cases hr
 | undef => cases hr
 | v a ex => cases hr
 | tup l => cases hr
 | al t s p =>
  obtain rfl : s = d := Nat.eq_of_beq_eq_true hr
  obtain ⟨r, cs0, cs, h1, _⟩ := h
  obtain ⟨ex, h2, _⟩ := h1.at_
  rw [h2]; rfl
 | ad t s p =>
  obtain rfl : s = d := Nat.eq_of_beq_eq_true hr
  obtain ⟨r, cs0, g, off, h1, _⟩ := h
  obtain ⟨ex, h2, _⟩ := h1.at_
  rw [h2]; rfl
 | cut t s p lo hi =>
  obtain rfl : s = d := Nat.eq_of_beq_eq_true hr
  obtain ⟨r, cs0, t', A, n, c, h1, _⟩ := h
  obtain ⟨ex, h2, _⟩ := h1.at_
  rw [h2]; rfl
 | clo f caps =>
  simp only [AV.refs, List.any_eq_true] at hr
  obtain ⟨c, hc, hr⟩ := hr
  obtain ⟨vs, _, _, h3⟩ := h
  obtain ⟨j, hj⟩ := List.mem_iff_getElem?.1 hc
  obtain ⟨u, _, h4⟩ := h3 j c hj
  cases c with
  | kv a => cases hr
  | pl t s p =>
   obtain rfl : s = d := Nat.eq_of_beq_eq_true hr
   obtain ⟨r, cs0, cs, h1, _⟩ := h4
   obtain ⟨ex, h2, _⟩ := h1.at_
   rw [h2]; rfl
theorem tm_put (a : Act) (d : Nat) (v : Value) (i : Nat) : tmOf (a.put (some d) v) i = if i = d ∧ d < a.tmps.size then v else tmOf a i := by
 unfold tmOf Act.put
 simp only [Array.getD_eq_getD_getElem?, Array.getElem?_setIfInBounds]
 by_cases h : d = i
 ·subst h
  by_cases hl : d < a.tmps.size
  ·simp [hl]
  ·simp [hl]
 ·have h' : ¬ i = d := fun e => h e.symm
  simp [h, h']
theorem put_size (a : Act) (dst : Option Nat) (v : Value) : (a.put dst v).tmps.size = a.tmps.size := by
 cases dst <;> simp [Act.put]
theorem put_defers (a : Act) (dst : Option Nat) (v : Value) : (a.put dst v).defers = a.defers := by cases dst <;> rfl
theorem RelS.put {σ σ' : Nat → Option Nat} {w0 : World} {W0 Z : Nat → Prop} {a : Act} {dst : Option Nat} {av : AV} {v : Value} (h : RelS σ w0 W0 Z H S a w)
  (hst : Stays w w' (Av σ Z) (Av σ' Z)) (hfr : Fr w0 W0 w') (hnew : ∀ g i, σ' g = some i → (w0.heap.size ≤ g ∨ W0 g) ∧ g < w'.heap.size) (hold : ∀ g, Z g → σ' g = none)
  (hoth : ∀ i g, i < S.length → dst ≠ some i → σ g = some i → w'.heap[g]? = w.heap[g]? ∧ σ' g = some i)
  (hdst : ∀ d, dst = some d → d < S.length → av.refs d = false → Holds w' (Av σ' Z) H (tmOf (a.put dst v)) (S.put dst av) (fun g => σ' g = some d) av v) :
  RelS σ' w0 W0 Z H (S.put dst av) (a.put dst v) w' := by
 have hdead : ∀ i, ¬ i < S.length → S.at i = .dead := fun i hl => by
  unfold St.at
  rw [List.getD_eq_getElem?_getD, List.getElem?_eq_none (by omega)]
  rfl
 refine ⟨by rw [put_len', put_size]; exact h.len, by rw [put_defers]; exact h.defers, hfr, fun g i hg => (hnew g i hg).1, fun g i hg => (hnew g i hg).2, fun g hg => ⟨hold g hg, (h.old g hg).2⟩, fun i => ?_⟩
 by_cases hil : i < S.length
 rotate_left
 ·have : (S.put dst av).at i = .dead := by
   unfold St.at
   rw [List.getD_eq_getElem?_getD, List.getElem?_eq_none (by rw [put_len']; omega)]
   rfl
  rw [this]
  trivial
 cases dst with
 | none =>
  have hk : ∀ s, Kept w w' (Av σ Z) H (tmOf a) (tmOf a) S S s := fun s => by
   by_cases hs : s < S.length
   ·exact ⟨fun _ _ h => h, rfl, _, h.holds s, fun g hg _ => (hoth s g hs (by simp) hg).1⟩
   ·exact ⟨fun _ _ h => h, rfl, fun _ => False, by rw [hdead s hs]; trivial, fun _ h => h.elim⟩
  exact (h.holds i).kept hst (fun g hg _ => hoth i g hil (by simp) hg) (fun s _ => hk s)
 | some d =>
  by_cases hi : i = d ∧ d < S.length
  ·obtain ⟨rfl, hl⟩ := hi
   rw [put_at, if_pos ⟨rfl, hl⟩, tm_put, if_pos ⟨rfl, by rw [← h.len]; exact hl⟩]
   cases hr : av.refs i with
   | true => simp [Holds]
   | false => exact hdst i rfl hl hr
  ·have hi' : ¬ (i = d ∧ d < a.tmps.size) := by rw [← h.len]; exact hi
   rw [put_at, if_neg hi, tm_put, if_neg hi']
   cases hr : (S.at i).refs d with
   | true => rw [refs_v (h.holds i) hr]; simp [Holds]
   | false =>
    simp only [Bool.false_and, cond_false]
    by_cases hd : i = d
    ·subst hd
     rw [hdead i (fun hl => hi ⟨rfl, hl⟩)]
     trivial
    ·refine (h.holds i).kept hst (fun g hg _ => hoth i g hil (by simpa using fun e => hd e.symm) hg) (fun s hs => ?_)
     have hsd : s ≠ d := fun e => by subst e; rw [hr] at hs; cases hs
     refine ⟨?_, ?_, ?_⟩
     ·intro r ex hv
      rw [put_at, if_neg (fun e => hsd e.1), hv]
      rfl
     ·rw [tm_put, if_neg (fun e => hsd e.1)]
     ·by_cases hs : s < S.length
      ·exact ⟨_, h.holds s, fun g hg _ => (hoth s g hs (by simpa using fun e => hsd e.symm) hg).1⟩
      ·exact ⟨fun _ => False, by rw [hdead s hs]; trivial, fun _ h => h.elim⟩
def release (σ : Nat → Option Nat) (dst : Option Nat) (g : Nat) : Option Nat := if dst.isSome = true ∧ σ g = dst then none else σ g
theorem release_some {σ : Nat → Option Nat} {dst : Option Nat} {g i : Nat} (h : release σ dst g = some i) : σ g = some i ∧ dst ≠ some i := by
 unfold release at h
 split at h
 ·cases h
 ·rename_i hn
  refine ⟨h, fun e => hn ⟨by rw [e]; rfl, by rw [h, e]⟩⟩
theorem release_keep {σ : Nat → Option Nat} {dst : Option Nat} {g i : Nat} (hd : dst ≠ some i) (h : σ g = some i) : release σ dst g = some i := by
 unfold release
 rw [if_neg (fun e => hd (by rw [← e.2, h])), h]
theorem Av_release {σ : Nat → Option Nat} {dst : Option Nat} {Z : Nat → Prop} {g : Nat} (h : Av (release σ dst) Z g) : Av σ Z g := by
 rcases h with ⟨i, h⟩ | h
 ·exact .inl ⟨i, (release_some h).1⟩
 ·exact .inr h
theorem RelS.pure {σ : Nat → Option Nat} {w0 : World} {W0 Z : Nat → Prop} {a : Act} {dst : Option Nat} {av : AV} {v : Value} (h : RelS σ w0 W0 Z H S a w)
  (hv : Holds w (Av σ Z) H (tmOf a) S (fun _ => False) av v) : RelS (release σ dst) w0 W0 Z H (S.put dst av) (a.put dst v) w := by
 have hst : Stays w w (Av σ Z) (Av (release σ dst) Z) := ⟨fun _ _ _ => rfl, fun g _ hg => Av_release hg⟩
 refine h.put hst h.fr (fun g i hg => ⟨h.new g i (release_some hg).1, h.lt g i (release_some hg).1⟩) (fun g hg => by unfold release; split <;> first | rfl | exact (h.old g hg).1) (fun i g _ hd hg => ⟨rfl, release_keep hd hg⟩) (fun d hd hl hr => ?_)
 subst hd
 refine hv.kept hst (fun _ h _ => h.elim) (fun s hs => ?_)
 have hsd : s ≠ d := fun e => by subst e; rw [hr] at hs; cases hs
 refine ⟨fun r ex hv => ?_, by rw [tm_put, if_neg (fun e => hsd e.1)], _, h.holds s, fun _ _ _ => rfl⟩
 rw [put_at, if_neg (fun e => hsd e.1), hv]
 rfl
def ownOf (σ : Nat → Option Nat) (x : Operand) (g : Nat) : Prop := ∃ i, x = .tmp i ∧ σ g = some i
theorem opv_holds {σ : Nat → Option Nat} {w0 : World} {W0 Z : Nat → Prop} {a : Act} {Θ : Tab} {T : TypeId} {x : Operand} {av : AV} (h : RelS σ w0 W0 Z H S a w) (he : S.opv Θ T x = some av) :
  Holds w (Av σ Z) H (tmOf a) S (ownOf σ x) av (a.eval x) := by
 cases x with
 | tmp i =>
  simp only [St.opv, Option.some.injEq] at he
  subst he
  refine (h.holds i).kept (Stays.refl _ _) (fun g hg _ => ⟨rfl, i, rfl, hg⟩) (fun s _ => ⟨fun _ _ h => h, rfl, _, h.holds s, fun _ _ _ => rfl⟩)
 | const c =>
  simp only [St.opv] at he
  split at he
  ·rename_i b hb
   injection he with he
   subst he
   unfold constTV at hb
   split at hb
   ·injection hb with hb; subst hb
    exact ⟨[a.eval (.const _)], by simp only [matchV, isAgg]; rfl, by simp [M, K, Act.eval, Md.isK]⟩
   ·injection hb with hb; subst hb
    exact ⟨[a.eval (.const _)], by simp only [matchV, isAgg]; rfl, by simp [M, K, Act.eval, Md.isK]⟩
   ·injection hb with hb; subst hb
    exact ⟨[a.eval (.const _)], by simp only [matchV, isAgg]; rfl, by simp [M, K, Act.eval, Md.isK]⟩
   ·split at hb
    ·rename_i i hi
     split at hb
     ·rename_i t ht
      injection hb with hb
      subst hb
      refine ⟨[.slice none 0 0], by simp [matchV, isAgg, Act.eval], ?_⟩
      simp only [M]
      exact .inr (.inr ⟨_, _, _, none, 0, rfl, rfl, Nat.le_refl _, fun h hh => (by cases hh), .inl (by simp)⟩)
     ·cases hb
    ·cases hb
   ·cases hb
  ·cases he
 | func f =>
  simp only [St.opv, Option.some.injEq] at he
  subst he
  exact ⟨[], by simp [Act.eval], rfl, fun j c hj => by simp at hj⟩
 | global g => simp [St.opv] at he
theorem M_read {own : Nat → Prop} {t : Ty} {m : Md} {x : t.I} {cs : List Value} (h : M w A H t m x cs own []) : K w (fun _ => False) t x cs := M_K (fun _ _ h => h.elim) t rfl (fun _ _ h => h) h
theorem matchV_cells {t : Ty} {v : Value} {cs : List Value} (h : matchV t v cs) (h1 : ∀ u ∈ cs, u.oneCell' = true) : v.cells.toList = cs := by
 unfold matchV at h
 split at h
 ·subst h; rfl
 ·subst h
  have := h1 v (by simp)
  cases v <;> first | rfl | (simp [Value.oneCell'] at this)
theorem clash_pre : ∀ (q r : Path), clash q (q ++ r) = true
 | [], _ => by simp [clash]
 | .idx i :: q, r => by simp [clash]; exact clash_pre q r
 | .deref :: q, r => by simp [clash]; exact clash_pre q r
 | .fst :: q, r => by simp [clash]; exact clash_pre q r
 | .snd :: q, r => by simp [clash]; exact clash_pre q r
theorem clash_ext : ∀ (q r : Path), clash (q ++ r) q = true
 | [], [] => by simp [clash]
 | [], _ :: _ => by simp [clash]
 | .idx i :: q, r => by simp [clash]; exact clash_ext q r
 | .deref :: q, r => by simp [clash]; exact clash_ext q r
 | .fst :: q, r => by simp [clash]; exact clash_ext q r
 | .snd :: q, r => by simp [clash]; exact clash_ext q r
theorem open_of_clash {p : Path} {ex : List Path} (h : ∀ q ∈ ex, clash q p = false) : open_ p ex := fun q hq s r e => by
 have := h q hq
 rw [e, clash_pre] at this
 cases this
theorem subs_of_clash {p : Path} {ex : List Path} (h : ∀ q ∈ ex, clash q p = false) : subs p ex = [] := by
 cases hs : subs p ex with
 | nil => rfl
 | cons q r =>
  have : q ∈ subs p ex := by rw [hs]; simp
  have := h _ (mem_subs.1 this)
  rw [clash_ext] at this
  cases this
theorem at_ge0 {S : St} {i : Nat} (h : S.length ≤ i) : S.at i = .dead := by
 unfold St.at
 rw [List.getD_eq_getElem?_getD, List.getElem?_eq_none h]
 rfl
theorem again_at {S S2 : St} {s : Nat} (hl : S2.length = S.length) (i : Nat) : (S.again S2 s).at i = S2.at i ∨ ∃ t r ex, S.at i = .al t s [] ∧ S2.at s = .v r ex ∧ t = r.t ∧ S2.at i = .dead ∧ (S.again S2 s).at i = .al t s [] := by
 unfold St.again
 split
 case h_2 => exact .inl rfl
 rename_i r ex hs
 have hz : St.at (List.zipWith (againA s r.t) S S2) i = againA s r.t (S.at i) (S2.at i) := by
  by_cases hi : i < S.length
  ·unfold St.at
   rw [List.getD_eq_getElem?_getD, List.getD_eq_getElem?_getD, List.getD_eq_getElem?_getD, List.getElem?_zipWith, List.getElem?_eq_getElem hi, List.getElem?_eq_getElem (by omega : i < S2.length)]
   rfl
  ·rw [at_ge0 (S := S) (by omega), at_ge0 (S := S2) (by omega), at_ge0 (by rw [List.length_zipWith]; omega)]
   rfl
 rw [hz]
 unfold againA
 split
 case h_2 => exact .inl rfl
 rename_i t q ha hb
 cases hq : Nat.beq q s && decide (t = r.t) with
 | false => rw [hb]; exact .inl rfl
 | true =>
  simp only [Bool.and_eq_true, decide_eq_true_eq] at hq
  obtain rfl := Nat.eq_of_beq_eq_true hq.1
  exact .inr ⟨t, r, ex, ha, hs, hq.2, hb, rfl⟩
end Go.Pv
