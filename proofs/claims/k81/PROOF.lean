import PyProof.Rows.All
import HandS.Comp
import HandS.Conv
import HandS.Deep
import HandS.Defaults
import HandS.Dict
import HandS.DictComp
import HandS.Ends
import HandS.Exc
import HandS.ExcField
import HandS.ExcInit
import HandS.ExcOwn
import HandS.ForMost
import HandS.Head0
import HandS.Head1
import HandS.Head2
import HandS.HeadEnd
import HandS.HeadHook2
import HandS.HeadHook4
import HandS.HeadWalk
import HandS.IsInst
import HandS.Iter
import HandS.Lambda
import HandS.More
import HandS.NestedK
import HandS.RevTup
import HandS.Style
import HandS.SuiteRaise
import HandS.Text
import HandS.TryMany
import HandS.TupAny
import HandS.TupLe
import HandS.TupMul
import HandS.Words
import HandS.WordsExc
import HandS.Zip
import KE.KDictCopyH
import KE.KDictPairs
import KE.KDictWalk
import KE.KExcSuper
import KE.KStateDown
import KE.KeyNested
import OpenK.AllK
import PySem.Syntax
import Wide.All
import Wide.FinOn
import PySem.Challenge.RW_countalike_k81_shapes_and_writings_and_t
set_option linter.all false
/-! The middle level: data by value, lists and dicts that one name owns, a small language and what it does. -/
namespace Mid

inductive D where
  | non | bl (b : Bool) | int (i : Int) | str (s : List Nat)
  | tup (xs : List D) | lst (xs : List D) | dic (kvs : List (D × D))
  | fn (f : Nat)
  deriving Inhabited, Repr

mutual
def D.beq : D → D → Bool
  | .non, .non => true
  | .bl a, .bl b => a == b
  | .int a, .int b => a == b
  | .str a, .str b => a == b
  | .tup a, .tup b => D.beqs a b
  | .lst a, .lst b => D.beqs a b
  | .dic a, .dic b => D.beqk a b
  | .fn a, .fn b => a == b
  | _, _ => false
def D.beqs : List D → List D → Bool
  | [], [] => true
  | a :: r, b :: q => D.beq a b && D.beqs r q
  | _, _ => false
def D.beqk : List (D × D) → List (D × D) → Bool
  | [], [] => true
  | (a, x) :: r, (b, y) :: q => D.beq a b && D.beq x y && D.beqk r q
  | _, _ => false
end
mutual
theorem D.beq_iff : ∀ a b : D, D.beq a b = true ↔ a = b
  | .non, b => by cases b <;> simp [D.beq]
  | .bl _, b => by cases b <;> simp [D.beq]
  | .int _, b => by cases b <;> simp [D.beq]
  | .str _, b => by cases b <;> simp [D.beq]
  | .fn _, b => by cases b <;> simp [D.beq]
  | .tup xs, b => by
    cases b with
    | tup ys => simp [D.beq, D.beqs_iff xs ys]
    | _ => simp [D.beq]
  | .lst xs, b => by
    cases b with
    | lst ys => simp [D.beq, D.beqs_iff xs ys]
    | _ => simp [D.beq]
  | .dic xs, b => by
    cases b with
    | dic ys => simp [D.beq, D.beqk_iff xs ys]
    | _ => simp [D.beq]
theorem D.beqs_iff : ∀ a b : List D, D.beqs a b = true ↔ a = b
  | [], b => by cases b <;> simp [D.beqs]
  | x :: r, b => by
    cases b with
    | nil => simp [D.beqs]
    | cons y q => simp [D.beqs, D.beq_iff x y, D.beqs_iff r q]
theorem D.beqk_iff : ∀ a b : List (D × D), D.beqk a b = true ↔ a = b
  | [], b => by cases b <;> simp [D.beqk]
  | (x, u) :: r, b => by
    cases b with
    | nil => simp [D.beqk]
    | cons y q =>
      obtain ⟨y, v⟩ := y
      simp [D.beqk, D.beq_iff x y, D.beq_iff u v, D.beqk_iff r q, and_assoc]
end
instance : DecidableEq D := fun a b => decidable_of_iff _ (D.beq_iff a b)

/-! ### what kinds of data there are -/
mutual
/-- no lists, dicts, functions within -/
def D.flat : D → Bool
  | .tup xs => D.flats xs
  | .lst _ => false
  | .dic _ => false
  | .fn _ => false
  | _ => true
def D.flats : List D → Bool
  | [] => true
  | d :: r => D.flat d && D.flats r
end
mutual
/-- a key of a dict: intsD, texts and tuples of such -/
def D.key : D → Bool
  | .int _ => true
  | .str _ => true
  | .tup xs => D.keys xs
  | _ => false
def D.keys : List D → Bool
  | [] => true
  | d :: r => D.key d && D.keys r
end
mutual
def D.depth : D → Nat
  | .tup xs => D.depths xs + 1
  | .lst xs => D.depths xs + 1
  | _ => 0
def D.depths : List D → Nat
  | [] => 0
  | d :: r => max (D.depth d) (D.depths r)
end
mutual
/-- data that == speaks of: no functions, no dicts -/
def D.pure : D → Bool
  | .tup xs => D.pures xs
  | .lst xs => D.pures xs
  | .dic _ => false
  | .fn _ => false
  | .str s => s.all fun c => decide (c < 1114112)
  | _ => true
def D.pures : List D → Bool
  | [] => true
  | d :: r => D.pure d && D.pures r
end
def keyOk (k : D) : Bool := k.key && decide (k.depth ≤ 7)
def b2i (b : Bool) : Int := if b then 1 else 0
/-! ### dicts -/
def look (k : D) : List (D × D) → Option D
  | [] => none
  | (a, v) :: r => if a = k then some v else look k r
def put (k v : D) : List (D × D) → List (D × D)
  | [] => [(k, v)]
  | (a, w) :: r => if a = k then (a, v) :: r else (a, w) :: put k v r
def puts (kvs : List (D × D)) (es : List (D × D)) : List (D × D) := es.foldl (fun m e => put e.1 e.2 m) kvs

mutual
/-- == -/
def D.eqv : D → D → Bool
  | .non, .non => true
  | .bl a, .bl b => a == b
  | .bl a, .int b => b2i a == b
  | .int a, .bl b => a == b2i b
  | .int a, .int b => a == b
  | .str a, .str b => a == b
  | .tup a, .tup b => D.eqvs a b
  | .lst a, .lst b => D.eqvs a b
  | _, _ => false
def D.eqvs : List D → List D → Bool
  | [], [] => true
  | a :: r, b :: q => D.eqv a b && D.eqvs r q
  | _, _ => false
end
def ltS : List Nat → List Nat → Bool
  | [], [] => false
  | [], _ :: _ => true
  | _ :: _, [] => false
  | a :: r, b :: q => if a < b then true else if b < a then false else ltS r q
mutual
/-- <, where it is told: intsD, texts, tuples of such -/
def D.lt : D → D → Option Bool
  | .int a, .int b => some (decide (a < b))
  | .str a, .str b => some (ltS a b)
  | .tup a, .tup b => D.lts a b
  | _, _ => none
def D.lts : List D → List D → Option Bool
  | [], [] => some false
  | [], _ :: _ => some true
  | _ :: _, [] => some false
  | a :: r, b :: q => if D.key a && D.key b then (if a = b then D.lts r q else D.lt a b) else none
end

/-! ### the language -/
inductive Bop where | add | sub | mul | fdiv | mod | pow | shl | shr
  deriving DecidableEq, Repr
inductive Cop where | eq | ne | lt | le | gt | ge | isin | notin
  deriving DecidableEq, Repr
inductive Ty where | int | bool | str | tuple | list
  deriving DecidableEq, Repr
/-- functions of the language itself, of one value (a source, where it is walked) -/
inductive Blt where | len | tuple | list | dict | all | any | sum | int | abs | str | sorted | sset | min
  deriving DecidableEq, Repr
inductive Mth where | min2 | get2 | get1 | index | join | split | startswith
  deriving DecidableEq, Repr
/-- where something is stored -/
inductive T where
  | nm (i : Nat)
  | pr (ts : List T)
  deriving Repr

mutual
def T.nms : T → List Nat
  | .nm i => [i]
  | .pr ts => T.nmss ts
def T.nmss : List T → List Nat
  | [] => []
  | t :: r => T.nms t ++ T.nmss r
end
inductive E where
  | cst (d : D)
  | var (i : Nat)
  | glo (g : Nat)
  | fnv (f : Nat)
  | tup (es : List E)
  | lst (es : List E)
  | dict0
  | bin (o : Bop) (a b : E)
  | neg (a : E)
  | not (a : E)
  | cmp (o : Cop) (a b : E)
  | chain (o p : Cop) (a b c : E)
  | req (a b : E)
  | isn (a : E)
  | nisn (a : E)
  | ist (a : E)
  | nist (a : E)
  | and (a b : E)
  | or (a b : E)
  | ite (c a b : E)
  | isi (a : E) (t : Ty)
  | ix (a b : E)
  | slc (a lo hi st : E)
  | call (f : Nat) (es : List E)
  | callv (i : Nat) (es : List E)
  | clo (ps : List Nat) (b : E)
  | blt (b : Blt) (a : E)
  | srtf (a : E) (f : Nat)
  | srtl (a : E) (i : Nat) (b : E)
  | mth (m : Mth) (a : E) (es : List E)
  | lc (elt : E) (t : T) (src : E) (c : E) (own : List Nat)
  | lc2 (elt : E) (t : T) (src : E) (t1 : T) (src1 : E) (c : E) (own : List Nat)
  | dc (k v : E) (t : T) (src : E) (c : E) (own : List Nat)
  | dc2 (k v : E) (t : T) (src : E) (t1 : T) (src1 : E) (c : E) (own : List Nat)
  | xat (i : Nat) (k : Nat)
  | pop (i : Nat)
  | setd (i : Nat) (k v : E)
  -- what is walked
  | rng (a : E)
  | rng2 (a b : E)
  | enu (a : E)
  | zip (a b : E)
  | itm (a : E)
  | vals (a : E)
  | dmerge (a b : E)
  deriving Repr

inductive S where
  | asg (t : T) (e : E)
  | par (ts : List Nat) (es : List E)
  | seti (i : Nat) (k v : E)
  | aug (i : Nat) (o : Bop) (e : E)
  | augi (i : Nat) (k : E) (o : Bop) (e : E)
  | expr (e : E)
  | app (i : Nat) (e : E)
  | ext (i : Nat) (e : E)
  | upd (i : Nat) (e : E)
  | ins (i : Nat) (k e : E)
  | setdapp (i : Nat) (k e : E)
  | ret (e : E)
  | ite (c : E) (a b : List S)
  | for_ (t : T) (src : E) (b : List S)
  | while_ (c : E) (b : List S)
  | raise (c : Nat) (es : List E)
  | try_ (b : List S) (cs : List Nat) (i : Nat) (h : List S)
  | try2 (b : List S) (cs : List Nat) (i : Nat) (h : List S) (cs2 : List Nat) (i2 : Nat) (h2 : List S)
  | pass
  | cont
  | brk
  deriving Repr

/-- a raised error: its class, its arguments -/
structure X where
  c : Nat
  as : List D
  deriving Repr, DecidableEq
inductive Slot where
  | un
  | val (d : D)
  | own (d : D)
  | exn (x : X)
  | clo (ps : List Nat) (b : E)
  deriving Repr
instance : Inhabited Slot := ⟨.un⟩
abbrev Fr := List Slot
/-- the frame, and the frame of who handed a function in -/
structure St where
  c : Fr
  p : Fr
  deriving Repr
inductive W where
  | val (d : D)
  | own (d : D)
  | pl (i : Nat)
  deriving Repr
inductive Out (α : Type) where
  | ok (a : α) (s : St)
  | exc (x : X) (s : St)
  | stk (m : String)
  deriving Repr
def Out.bind {α β : Type} (m : Out α) (f : α → St → Out β) : Out β :=
  match m with
  | .ok a s => f a s
  | .exc x s => .exc x s
  | .stk m => .stk m
/-- a call's end: what it hands back, its own frame, the handing frame -/
inductive Ret where
  | ret (w : W) (c p : Fr)
  | exc (x : X) (c p : Fr)
  | stk (m : String)
  deriving Repr
inductive Fl where
  | nx | bk | ct
  | rt (w : W)
  deriving Repr
structure Fd where
  np : Nat
  ns : Nat
  io : List Nat
  body : List S
  deriving Repr, Inhabited
structure Pg where
  fs : List Fd
  gs : List D
  fuel : Nat

section
def slotAt (s : St) (i : Nat) : Slot := (s.c[i]?).getD .un
def St.set (s : St) (i : Nat) (v : Slot) : St := ⟨s.c.set i v, s.p⟩
/-- the value of a thing, where it stands -/
def peek (s : St) : W → Option D
  | .val d => some d
  | .own d => some d
  | .pl i => match slotAt s i with
    | .own d => some d
    | .val d => some d
    | _ => none
/-- .. taken into something else: nobody owns it from now on -/
def take (s : St) : W → Out D
  | .val d => .ok d s
  | .own d => .ok d s
  | .pl i => match slotAt s i with
    | .own d => .ok d (s.set i (.val d))
    | .val d => .ok d s
    | _ => .stk "take"
def asBool (s : St) (w : W) : Option Bool := match peek s w with
  | some (.bl b) => some b
  | _ => none
def mulOk (i j : Int) : Bool := (decide (-(2 ^ 64) < i) && decide (i < 2 ^ 64)) || (decide (-(2 ^ 64) < j) && decide (j < 2 ^ 64))
def line : Nat := 16777216
def rep (xs : List D) (n : Nat) : List D := (List.replicate n xs).flatten
def binD (o : Bop) (a b : D) : Option W := match o, a, b with
  | .add, .int i, .int j => some (.val (.int (i + j)))
  | .add, .str i, .str j => if i.length + j.length ≤ line then some (.val (.str (i ++ j))) else none
  | .add, .tup i, .tup j => if i.length + j.length ≤ line then some (.val (.tup (i ++ j))) else none
  | .add, .lst i, .lst j => if i.length + j.length ≤ line then some (.own (.lst (i ++ j))) else none
  | .sub, .int i, .int j => some (.val (.int (i - j)))
  | .mul, .int i, .int j => if mulOk i j then some (.val (.int (i * j))) else none
  | .mul, .tup i, .int j => if i ≠ [] ∧ 2 ≤ j ∧ j ≤ 1000 ∧ i.length ≤ 1000 then some (.val (.tup (rep i j.toNat))) else none
  | .mul, .lst i, .int j => if 0 ≤ j ∧ i.length * j.toNat ≤ line ∧ j ≤ line then some (.own (.lst (rep i j.toNat))) else none
  | .fdiv, .int i, .int j => if 0 < j ∧ j < 1073741824 then some (.val (.int (i / j))) else none
  | .mod, .int i, .int j => if 0 < j then some (.val (.int (i % j))) else none
  | .shl, .int i, .int j => if 0 ≤ j ∧ j ≤ 1000000 ∧ i.natAbs < 2 ^ 64 then some (.val (.int (i * 2 ^ j.toNat))) else none
  | .shr, .int i, .int j => if 0 ≤ j then some (.val (.int (i / 2 ^ j.toNat))) else none
  | .pow, .int i, .int j => if 0 ≤ j ∧ j ≤ 1000000 ∧ i.natAbs < 2 ^ 64 then some (.val (.int (i ^ j.toNat))) else none
  | _, _, _ => none
/-- x op= y of numbers -/
def augD (o : Bop) (a b : D) : Option D := match o, a, b with
  | .add, .int i, .int j => some (.int (i + j))
  | .sub, .int i, .int j => some (.int (i - j))
  | .mul, .int i, .int j => if mulOk i j then some (.int (i * j)) else none
  | .fdiv, .int i, .int j => if 0 < j ∧ j < 1073741824 then some (.int (i / j)) else none
  | .mod, .int i, .int j => if 0 < j then some (.int (i % j)) else none
  | _, _, _ => none
def eqD (a b : D) : Option Bool := match a, b with
  | .lst xs, .lst [] => some xs.isEmpty
  | .lst [], .lst ys => some ys.isEmpty
  | a, b => if a.pure && b.pure && decide (a.depth ≤ 60) && decide (b.depth ≤ 60) then some (a.eqv b) else none
def cmpD (o : Cop) (a b : D) : Option Bool := match o with
  | .eq => eqD a b
  | .ne => (eqD a b).map (!·)
  | .lt => if a.depth ≤ 60 then D.lt a b else none
  | .gt => match a, b with
    | .int i, .int j => some (decide (j < i))
    | _, _ => none
  | .le => match a, b with
    | .int i, .int j => some (decide (i ≤ j))
    | _, _ => none
  | .ge => match a, b with
    | .int i, .int j => some (decide (j ≤ i))
    | _, _ => none
  | .isin => isIn a b
  | .notin => (isIn a b).map (!·)
where
  isIn (a b : D) : Option Bool := match b with
    | .lst xs => if a.pure && D.pures xs && decide (a.depth ≤ 60) && decide (D.depths xs ≤ 60) then some (xs.any fun x => x.eqv a) else none
    | .tup xs => if a.pure && D.pures xs && decide (a.depth ≤ 60) && decide (D.depths xs ≤ 60) then some (xs.any fun x => x.eqv a) else none
    | .dic kvs => if a.key && decide (a.depth ≤ 7) then some (look a kvs).isSome else none
    | .str t => match a with
      | .str [c] => some (decide (c ∈ t))
      | _ => none
    | _ => none
def isTy (t : Ty) : D → Bool
  | .int _ => t == .int
  | .bl _ => t == .int || t == .bool
  | .str _ => t == .str
  | .tup _ => t == .tuple
  | .lst _ => t == .list
  | _ => false
def isTyO (t : Ty) (d : D) : Option Bool := match d with
  | .dic _ => none
  | .fn _ => none
  | d => some (isTy t d)
/-- the place that an index of any sign means -/
def ixN (n : Nat) (i : Int) : Option Nat := if 0 ≤ i then (if i < n then some i.toNat else none) else if -(n : Int) ≤ i then some (i + n).toNat else none
def atI (xs : List α) (i : Int) : Option α := (ixN xs.length i).bind fun j => xs[j]?
def ixD (a b : D) : Option D := match a, b with
  | .lst xs, .int i => atI xs i
  | .tup xs, .int i => atI xs i
  | .str xs, .int i => if xs.length ≤ line then (atI xs i).map fun c => .str [c] else none
  | .dic kvs, k => if k.key && decide (k.depth ≤ 7) then look k kvs else none
  | _, _ => none
/-- where a slice begins or ends -/
def sIx (n : Nat) (d : Nat) : D → Option Nat
  | .non => some d
  | .int i => some (if i < 0 then (i + n).toNat else min i.toNat n)
  | _ => none
def cutL (xs : List α) (lo hi st : D) : Option (List α) :=
  match st with
  | .non => do
    let a ← sIx xs.length 0 lo
    let b ← sIx xs.length xs.length hi
    some ((xs.drop a).take (b - a))
  | .int (-1) => match lo, hi with
    | .non, .non => some xs.reverse
    | _, _ => none
  | .int 1 => match lo, hi with
    | .non, .non => some xs
    | _, _ => none
  | _ => none
def slcD (a lo hi st : D) : Option W := match a with
  | .lst xs => (cutL xs lo hi st).map fun ys => .own (.lst ys)
  | .tup xs => (cutL xs lo hi st).map fun ys => .val (.tup ys)
  | .str xs => match st with
    | .non => if xs.length ≤ line then (cutL xs lo hi .non).map fun ys => .val (.str ys) else none
    | _ => none
  | _ => none
/-- the items of what is walked -/
def items : D → Option (List D)
  | .lst xs => some xs
  | .tup xs => some xs
  | .dic kvs => some (kvs.map (·.1))
  | .str s => some (s.map fun c => .str [c])
  | _ => none
def bools : List D → Option (List Bool)
  | [] => some []
  | .bl b :: r => (bools r).map (b :: ·)
  | _ :: _ => none
def intsD : List D → Option (List Int)
  | [] => some []
  | .int b :: r => (intsD r).map (b :: ·)
  | _ :: _ => none
def couples : List D → Option (List (D × D))
  | [] => some []
  | .tup [a, b] :: r => if keyOk a then (couples r).map ((a, b) :: ·) else none
  | _ :: _ => none
def intS (i : Int) : List Nat := (toString i).toList.map Char.toNat
/-- the ascending arrangement, by keys; equal ones keep their turns -/
def insB (x : D × D) : List (D × D) → List (D × D)
  | [] => [x]
  | y :: r => if D.lt x.1 y.1 = some true then x :: y :: r else y :: insB x r
def sortB (xs : List (D × D)) : List (D × D) := xs.foldl (fun m x => insB x m) []
def comparable (ks : List D) : Bool := ks.all fun a => decide (a.depth ≤ 60) && ks.all fun b => (D.lt a b).isSome
def sortD (kxs : List (D × D)) : Option (List D) := if comparable (kxs.map (·.1)) then some ((sortB kxs).map (·.2)) else none
def once (xs : List D) : List D := xs.foldl (fun m x => if m.contains x then m else m ++ [x]) []
def minD : List D → Option D
  | [] => none
  | a :: r => if comparable (a :: r) then some (r.foldl (fun m x => if D.lt x m = some true then x else m) a) else none
def bltD (b : Blt) (a : D) : Option W := match b with
  | .len => match a with
    | .lst xs => some (.val (.int xs.length))
    | .tup xs => some (.val (.int xs.length))
    | .dic xs => some (.val (.int xs.length))
    | .str xs => if xs.length ≤ line then some (.val (.int xs.length)) else none
    | _ => none
  | .tuple => match a with
    | .lst xs => some (.val (.tup xs))
    | .tup xs => some (.val (.tup xs))
    | _ => none
  | .list => match a with
    | .lst xs => some (.own (.lst xs))
    | .tup xs => some (.own (.lst xs))
    | _ => none
  | .dict => match a with
    | .lst xs => if xs.length ≤ line then (couples xs).map fun kvs => .own (.dic (puts [] kvs)) else none
    | .tup xs => if xs.length ≤ line then (couples xs).map fun kvs => .own (.dic (puts [] kvs)) else none
    | _ => none
  | .all => match a with
    | .lst xs => (bools xs).map fun bs => .val (.bl (bs.all id))
    | _ => none
  | .any => match a with
    | .lst xs => (bools xs).map fun bs => .val (.bl (bs.any id))
    | _ => none
  | .sum => match a with
    | .lst xs => (intsD xs).map fun bs => .val (.int bs.sum)
    | _ => none
  | .int => match a with
    | .int i => some (.val (.int i))
    | .bl b => some (.val (.int (b2i b)))
    | _ => none
  | .abs => match a with
    | .int i => some (.val (.int (if i < 0 then -i else i)))
    | _ => none
  | .str => match a with
    | .int i => if i.natAbs.log2 < 1920 then some (.val (.str (intS i))) else none
    | _ => none
  | .sorted => do
    let xs ← items a
    let ys ← sortD (xs.map fun x => (x, x))
    some (.own (.lst ys))
  | .sset => do
    let xs ← items a
    let ys ← sortD ((once xs).map fun x => (x, x))
    if xs.all (·.key) || xs.all (isTy .bool) then some (.own (.lst ys)) else none
  | .min => do
    let xs ← items a
    let m ← minD xs
    some (.val m)
def splitS (c : Nat) : List Nat → List (List Nat)
  | [] => [[]]
  | x :: r => if x = c then [] :: splitS c r else match splitS c r with
    | a :: q => (x :: a) :: q
    | [] => [[x]]
def strsD : List D → Option (List (List Nat))
  | [] => some []
  | .str b :: r => (strsD r).map (b :: ·)
  | _ :: _ => none
def joinS (s : List Nat) : List (List Nat) → List Nat
  | [] => []
  | [a] => a
  | a :: r => a ++ s ++ joinS s r
def findIx (x : D) : List D → Nat → Option Nat
  | [], _ => none
  | y :: r, n => if y.eqv x then some n else findIx x r (n + 1)
def mthD (m : Mth) (a : D) (es : List D) : Option W := match m, a, es with
  | .min2, .int i, [.int j] => some (.val (.int (if j < i then j else i)))
  | .get2, .dic kvs, [k, v] => if k.key && decide (k.depth ≤ 7) then some (.val ((look k kvs).getD v)) else none
  | .get1, .dic kvs, [k] => if k.key && decide (k.depth ≤ 7) then some (.val ((look k kvs).getD .non)) else none
  | .index, .lst xs, [x] => (findIx x xs 0).map fun i => .val (.int i)
  | .index, .tup xs, [x] => (findIx x xs 0).map fun i => .val (.int i)
  | .join, .str s, [.lst xs] => (strsD xs).map fun ys => .val (.str (joinS s ys))
  | .split, .str s, [.str [c]] => some (.own (.lst ((splitS c s).map .str)))
  | .startswith, .str s, [.str t] => some (.val (.bl (t.isPrefixOf s)))
  | _, _, _ => none
def rngL (lo : Int) (n : Nat) : List D := (List.range n).map fun k : Nat => .int (lo + (k : Int))
mutual
/-- storing -/
def stT : T → D → St → Option St
  | .nm i, d, s => some (s.set i (.val d))
  | .pr ts, .tup xs, s => stTs ts xs s
  | .pr _, _, _ => none
def stTs : List T → List D → St → Option St
  | [], [], s => some s
  | t :: ts, d :: ds, s => match stT t d s with
    | some s => stTs ts ds s
    | none => none
  | _, _, _ => none
end
def wipe (c : Fr) : List Nat → Fr
  | [] => c
  | i :: r => (wipe c r).set i .un
/-- the slots in own as they stood in c0 -/
def back (c0 c : Fr) : List Nat → Fr
  | [] => c
  | i :: r => (back c0 c r).set i ((c0[i]?).getD .un)
/-- an argument -/
inductive A where
  | w (w : W)
  | clo (ps : List Nat) (b : E)
  deriving Repr
/-- the callee's slots: its parameters as they are handed over -/
def argSlots (io : List Nat) (s : St) : Nat → List A → Option (List Slot)
  | _, [] => some []
  | j, .clo ps b :: r => (argSlots io s (j + 1) r).map (.clo ps b :: ·)
  | j, .w w :: r =>
    if io.contains j then
      match w with
      | .pl i => match slotAt s i with
        | .own d => (argSlots io s (j + 1) r).map (.own d :: ·)
        | _ => none
      | _ => none
    else match peek s w with
      | some d => (argSlots io s (j + 1) r).map (.val d :: ·)
      | none => none
/-- behind the call: what was handed over to be changed is as the callee left it; what was lent is nobody's where the answer may hold it -/
def argBack (io : List Nat) (flat : Bool) (c : Fr) : Nat → List A → Fr → Option Fr
  | _, [], s => some s
  | j, .clo _ _ :: r, s => argBack io flat c (j + 1) r s
  | j, .w w :: r, s =>
    match w with
    | .pl i =>
      if io.contains j then
        match (c[j]?).getD .un with
        | .own d => argBack io flat c (j + 1) r (s.set i (.own d))
        | _ => none
      else if flat then argBack io flat c (j + 1) r s
      else match (s[i]?).getD .un with
        | .own d => argBack io flat c (j + 1) r (s.set i (.val d))
        | _ => argBack io flat c (j + 1) r s
    | _ => argBack io flat c (j + 1) r s
def wFlat : W → Bool
  | .val d => d.flat
  | .own (.lst xs) => D.flats xs
  | .own (.dic kvs) => kvs.all fun p => p.1.flat && p.2.flat
  | .own _ => false
  | .pl _ => false

inductive Task where
  | call (f : Nat) (as : List Slot) (p : Fr)
  | clo (ps : List Nat) (b : E) (as : List D) (p : Fr)
abbrev Run := Task → Ret

def A.isClo : A → Bool
  | .clo _ _ => true
  | .w _ => false
/-- every value handed over is nobody's from now on -/
def frzAs : List A → St → Out (List A)
  | [], s => .ok [] s
  | .clo ps b :: r, s => (frzAs r s).bind fun as s => .ok (.clo ps b :: as) s
  | .w w :: r, s => (take s w).bind fun d s => (frzAs r s).bind fun as s => .ok (.w (.val d) :: as) s
/-- the slots that are handed over to be changed; .. that are lent -/
def ioPls (io : List Nat) : Nat → List A → List Nat
  | _, [] => []
  | j, .w (.pl i) :: r => if io.contains j then i :: ioPls io (j + 1) r else ioPls io (j + 1) r
  | j, _ :: r => ioPls io (j + 1) r
def lentPls (io : List Nat) : Nat → List A → List Nat
  | _, [] => []
  | j, .w (.pl i) :: r => if io.contains j then lentPls io (j + 1) r else i :: lentPls io (j + 1) r
  | j, _ :: r => lentPls io (j + 1) r
def apartOk (io : List Nat) (as : List A) : Bool := decide (ioPls io 0 as).Nodup && (ioPls io 0 as).all fun i => !(lentPls io 0 as).contains i
/-- a call of f from s, no function handed over -/
def callA (P : Pg) (R : Run) (f : Nat) (fd : Fd) (as : List A) (s : St) : Out W :=
  match argSlots fd.io s 0 as with
  | none => .stk "args"
  | some sl =>
    if sl.length = fd.np ∧ apartOk fd.io as = true then
      match R (.call f sl []) with
      | .stk m => .stk m
      | .ret (.pl _) _ _ => .stk "call"
      | .ret w c _ => match argBack fd.io (wFlat w && fd.io.isEmpty) c 0 as s.c with
        | some c' => .ok w ⟨c', s.p⟩
        | none => .stk "back"
      | .exc x c _ => if D.flats x.as then match argBack fd.io fd.io.isEmpty c 0 as s.c with
        | some c' => .exc x ⟨c', s.p⟩
        | none => .stk "back" else .stk "exc"
    else .stk "arity"
/-- .. functions handed over: the frame goes with them -/
def plainSl : Slot → Bool
  | .exn _ => false
  | .clo _ _ => false
  | _ => true
def heldSl : Slot → Bool
  | .own _ => true
  | .val _ => true
  | _ => false
/-- what held a thing holds one -/
def keepsP : Fr → Fr → Bool
  | [], [] => true
  | x :: r, y :: q => plainSl y && (!heldSl x || heldSl y) && keepsP r q
  | _, _ => false
def callB (P : Pg) (R : Run) (f : Nat) (fd : Fd) (as : List A) (s : St) : Out W :=
  match argSlots [] s 0 as with
  | none => .stk "args"
  | some sl =>
    if sl.length = fd.np ∧ fd.io = [] ∧ s.c.all plainSl = true then
      match R (.call f sl s.c) with
      | .stk m => .stk m
      | .ret (.pl _) _ _ => .stk "call"
      | .ret w _ p => if keepsP s.c p then .ok w ⟨p, s.p⟩ else .stk "keeps"
      | .exc x _ p => if keepsP s.c p then .exc x ⟨p, s.p⟩ else .stk "keeps"
    else .stk "arity"
/-- a call of f from s -/
def callOf (P : Pg) (R : Run) (f : Nat) (as : List A) (s : St) : Out W :=
  match P.fs[f]? with
  | none => .stk "no def"
  | some fd => if as.any A.isClo then (frzAs as s).bind fun as s => callB P R f fd as s else callA P R f fd as s
def slotVal (s : St) (i : Nat) : Option D := match slotAt s i with
  | .val d => some d
  | .own d => some d
  | _ => none
def argDs (s : St) : List A → Option (List D)
  | [] => some []
  | .w w :: r => match peek s w, argDs s r with
    | some d, some ds => if d.flat then some (d :: ds) else none
    | _, _ => none
  | _ :: _ => none
/-- a call of a function that was handed in -/
def callClo (R : Run) (ps : List Nat) (b : E) (as : List A) (s : St) : Out W := match argDs s as with
  | some ds => match R (.clo ps b ds s.p) with
    | .stk m => .stk m
    | .ret (.val d) p _ => .ok (.val d) ⟨s.c, p⟩
    | .ret _ _ _ => .stk "callv"
    | .exc x p _ => .exc x ⟨s.c, p⟩
  | none => .stk "callv args"
def Out.opt {α : Type} (s : St) (m : String) : Option α → Out α
  | some a => .ok a s
  | none => .stk m
/-- a comprehension's turns: what it makes, in turn -/
def St.wipe (vs : List Nat) (s : St) : St := ⟨Mid.wipe s.c vs, s.p⟩
def lcGo (vs : List Nat) (g : St → Bool) (t : T) (test : St → Out Bool) (elt : St → Out D) : List D → List D → St → Out (List D)
  | [], acc, s => if g s then .ok acc s else .stk "still"
  | d :: r, acc, s => if g s then match stT t d (s.wipe vs) with
    | none => .stk "target"
    | some s1 => (test s1).bind fun b s2 => if b then (elt s2).bind fun x s3 => if acc.length < line then lcGo vs g t test elt r (acc ++ [x]) s3 else .stk "lc line" else lcGo vs g t test elt r acc s2
    else .stk "still"
def lcGo2 (vs : List Nat) (g : St → Bool) (t : T) (inner : List D → St → Out (List D)) : List D → List D → St → Out (List D)
  | [], acc, s => if g s then .ok acc s else .stk "still"
  | d :: r, acc, s => if g s then match stT t d (s.wipe vs) with
    | none => .stk "target"
    | some s1 => (inner acc s1).bind fun acc2 s2 => lcGo2 vs g t inner r acc2 s2
    else .stk "still"
def dcGo (vs : List Nat) (g : St → Bool) (t : T) (test : St → Out Bool) (elt : St → Out (D × D)) : List D → List (D × D) → St → Out (List (D × D))
  | [], acc, s => if g s then .ok acc s else .stk "still"
  | d :: r, acc, s => if g s then match stT t d (s.wipe vs) with
    | none => .stk "target"
    | some s1 => (test s1).bind fun b s2 => if b then (elt s2).bind fun x s3 => if keyOk x.1 && decide (acc.length < line) then dcGo vs g t test elt r (put x.1 x.2 acc) s3 else .stk "key" else dcGo vs g t test elt r acc s2
    else .stk "still"
def dcGo2 (vs : List Nat) (g : St → Bool) (t : T) (inner : List (D × D) → St → Out (List (D × D))) : List D → List (D × D) → St → Out (List (D × D))
  | [], acc, s => if g s then .ok acc s else .stk "still"
  | d :: r, acc, s => if g s then match stT t d (s.wipe vs) with
    | none => .stk "target"
    | some s1 => (inner acc s1).bind fun acc2 s2 => dcGo2 vs g t inner r acc2 s2
    else .stk "still"
def boolOf (w : W) (s : St) : Out Bool := match peek s w with
  | some (.bl b) => .ok b s
  | _ => .stk "bool"
/-- a block of its own: its names are wiped ahead of it, and stand again behind it. No error leaves it -/
def blk {α : Type} (own : List Nat) (s : St) (m : St → Out α) : Out α :=
  match m ⟨wipe s.c own, s.p⟩ with
  | .ok a s1 => .ok a ⟨back s.c s1.c own, s1.p⟩
  | .exc _ _ => .stk "exc in comp"
  | .stk m => .stk m
/-- what is walked: a list that a name owns stays its own, if nothing turns it while it is walked; else it is nobody's from now on -/
def evSrc (src : E) (own : List Nat) (w : W) (s : St) : Out (D × Option Nat) := match src, w with
  | .var k, .pl i => match slotAt s i with
    | .own (.lst xs) => if own.contains i || k != i then (take s w).bind fun d s => .ok (d, none) s else .ok (.lst xs, some i) s
    | _ => (take s w).bind fun d s => .ok (d, none) s
  | _, w => (take s w).bind fun d s => .ok (d, none) s
/-- the list stands as it stood -/
def still (g : Option Nat) (d : D) (s : St) : Bool := match g with
  | none => true
  | some i => match slotAt s i with
    | .own e => decide (e = d)
    | .val e => decide (e = d)
    | _ => false
def evFz (w : W) (s : St) : Out D := take s w
/-- the keys of a sort -/
def keysGo (f : D → St → Out W) : List D → List (D × D) → St → Out (List (D × D))
  | [], acc, s => .ok acc s
  | d :: r, acc, s => match f d s with
    | .ok (.val k) s => keysGo f r (acc ++ [(k, d)]) s
    | .ok _ _ => .stk "key"
    | .exc _ _ => .stk "key"
    | .stk m => .stk m
/-- a slice's part: left out, or a number -/
def partV (t : E) (m : Out W) : Out D := match t with
  | .cst .non => m.bind fun _ s => .ok .non s
  | _ => m.bind fun w s => match w with
    | .val (.int i) => .ok (.int i) s
    | _ => .stk "part"
def rngOk (i : Int) : Bool := decide (-(2 ^ 62) ≤ i) && decide (i < 2 ^ 62)
mutual
def evE (P : Pg) (R : Run) : E → St → Out W
  | .cst d, s => .ok (.val d) s
  | .var i, s => match slotAt s i with
    | .val d => .ok (.val d) s
    | .own _ => .ok (.pl i) s
    | _ => .stk "var"
  | .glo g, s => match P.gs[g]? with
    | some d => .ok (.val d) s
    | none => .stk "glo"
  | .fnv f, s => .ok (.val (.fn f)) s
  | .tup es, s => (evTs P R es s).bind fun ds s => .ok (.val (.tup ds)) s
  | .lst es, s => (evTs P R es s).bind fun ds s => .ok (.own (.lst ds)) s
  | .dict0, s => .ok (.own (.dic [])) s
  | .bin o a b, s => (evE P R a s).bind fun x s => (evE P R b s).bind fun y s => match peek s x, peek s y with
    | some d, some e => Out.opt s "bin" (binD o d e)
    | _, _ => .stk "bin"
  | .neg a, s => (evE P R a s).bind fun x s => match peek s x with
    | some (.int i) => .ok (.val (.int (-i))) s
    | _ => .stk "neg"
  | .not a, s => (evE P R a s).bind fun x s => (boolOf x s).bind fun b s => .ok (.val (.bl (!b))) s
  | .cmp o a b, s => (evE P R a s).bind fun x s => (evE P R b s).bind fun y s => match peek s x, peek s y with
    | some d, some e => match cmpD o d e with
      | some b => .ok (.val (.bl b)) s
      | none => .stk "cmp"
    | _, _ => .stk "cmp"
  | .chain o p a b c, s => (evE P R a s).bind fun x s => (evE P R b s).bind fun y s => match peek s x, peek s y with
    | some d, some e => match cmpD o d e with
      | some true => (evE P R c s).bind fun z s => match peek s y, peek s z with
        | some e', some f => match cmpD p e' f with
          | some b => .ok (.val (.bl b)) s
          | none => .stk "chain"
        | _, _ => .stk "chain"
      | some false => .ok (.val (.bl false)) s
      | none => .stk "chain"
    | _, _ => .stk "chain"
  | .req a b, s => (evE P R a s).bind fun x s => (evE P R b s).bind fun y s => match peek s x, peek s y with
    | some d, some e => if d = e ∧ d.pure = true ∧ d.depth ≤ 50 then .ok (.val (.bl true)) s else .stk "req"
    | _, _ => .stk "req"
  | .isn a, s => (evE P R a s).bind fun x s => match peek s x with
    | some d => .ok (.val (.bl (decide (d = .non)))) s
    | none => .stk "isn"
  | .nisn a, s => (evE P R a s).bind fun x s => match peek s x with
    | some d => .ok (.val (.bl (!decide (d = .non)))) s
    | none => .stk "isn"
  | .ist a, s => (evE P R a s).bind fun x s => match peek s x with
    | some (.bl b) => .ok (.val (.bl b)) s
    | _ => .stk "ist"
  | .nist a, s => (evE P R a s).bind fun x s => match peek s x with
    | some (.bl b) => .ok (.val (.bl (!b))) s
    | _ => .stk "ist"
  | .and a b, s => (evE P R a s).bind fun x s => (boolOf x s).bind fun k s => if k then evE P R b s else .ok (.val (.bl false)) s
  | .or a b, s => (evE P R a s).bind fun x s => (boolOf x s).bind fun k s => if k then .ok (.val (.bl true)) s else evE P R b s
  | .ite c a b, s => (evE P R c s).bind fun x s => (boolOf x s).bind fun k s => if k then evE P R a s else evE P R b s
  | .isi a t, s => (evE P R a s).bind fun x s => match peek s x with
    | some d => match isTyO t d with
      | some b => .ok (.val (.bl b)) s
      | none => .stk "isi"
    | none => .stk "isi"
  | .ix a b, s => (evE P R a s).bind fun x s => (evE P R b s).bind fun y s => match peek s x, peek s y with
    | some d, some e => match ixD d e with
      | some v => .ok (.val v) s
      | none => .stk "ix"
    | _, _ => .stk "ix"
  | .slc a lo hi st, s => (evE P R a s).bind fun x s => (partV lo (evE P R lo s)).bind fun e s => (partV hi (evE P R hi s)).bind fun f s => (partV st (evE P R st s)).bind fun g s => match peek s x with
    | some d => Out.opt s "slc" (slcD d e f g)
    | none => .stk "slc"
  | .call f es, s => (evAs P R es s).bind fun as s => callOf P R f as s
  | .callv i es, s => match slotAt s i with
    | .val (.fn f) => if (P.fs[f]?).isSome then (evAs P R es s).bind fun as s => callOf P R f as s else .stk "callv fn"
    | .clo ps b => (evAs P R es s).bind fun as s => callClo R ps b as s
    | _ => .stk "callv slot"
  | .clo _ _, _ => .stk "clo"
  | .blt b a, s => (evE P R a s).bind fun x s => match peek s x with
    | some d => Out.opt s "blt" (bltD b d)
    | none => .stk "blt"
  | .srtf a f, s => (evE P R a s).bind fun x s => match (peek s x).bind items with
    | some xs => (keysGo (fun d s => callOf P R f [.w (.val d)] s) xs [] s).bind fun kxs s => match sortD kxs with
      | some ys => .ok (.own (.lst ys)) s
      | none => .stk "sort"
    | none => .stk "sort items"
  | .srtl a i b, s => (evE P R a s).bind fun x s => match (peek s x).bind items with
    | some xs => (keysGo (fun d s => match R (.clo [i] b [d] s.c) with
        | .ret (.val k) c _ => .ok (.val k) ⟨c, s.p⟩
        | _ => .stk "key") xs [] s).bind fun kxs s => match sortD kxs with
      | some ys => .ok (.own (.lst ys)) s
      | none => .stk "sort"
    | none => .stk "sort items"
  | .mth m a es, s => (evE P R a s).bind fun x s => (evTs P R es s).bind fun ds s => match peek s x with
    | some d => Out.opt s "mth" (mthD m d ds)
    | none => .stk "mth"
  | .lc elt t src c own, s => (evE P R src s).bind fun x s => (evSrc src own x s).bind fun d s => match items d.1 with
    | some xs => blk own s fun s => (lcGo own (still d.2 d.1) t (fun s => (evE P R c s).bind boolOf) (fun s => (evE P R elt s).bind fun w s => take s w) xs [] s).bind fun ys s => .ok (.own (.lst ys)) s
    | none => .stk "lc items"
  | .lc2 elt t src t1 src1 c own, s => (evE P R src s).bind fun x s => (evSrc src own x s).bind fun d s => match items d.1 with
    | some xs => blk own s fun s => (lcGo2 own (still d.2 d.1) t (fun acc s => (evE P R src1 s).bind fun x s => (evSrc src1 own x s).bind fun d s => match items d.1 with
        | some ys => lcGo t1.nms (still d.2 d.1) t1 (fun s => (evE P R c s).bind boolOf) (fun s => (evE P R elt s).bind fun w s => take s w) ys acc s
        | none => .stk "lc items") xs [] s).bind fun ys s => if ys.length ≤ line then .ok (.own (.lst ys)) s else .stk "lc2"
    | none => .stk "lc items"
  | .dc k v t src c own, s => (evE P R src s).bind fun x s => (evSrc src own x s).bind fun d s => match items d.1 with
    | some xs => blk own s fun s => (dcGo own (still d.2 d.1) t (fun s => (evE P R c s).bind boolOf) (fun s => (evE P R k s).bind fun w s => (take s w).bind fun a s => (evE P R v s).bind fun w s => (take s w).bind fun b s => .ok (a, b) s) xs [] s).bind fun ys s => .ok (.own (.dic ys)) s
    | none => .stk "dc items"
  | .dc2 k v t src t1 src1 c own, s => (evE P R src s).bind fun x s => (evSrc src own x s).bind fun d s => match items d.1 with
    | some xs => blk own s fun s => (dcGo2 own (still d.2 d.1) t (fun acc s => (evE P R src1 s).bind fun x s => (evSrc src1 own x s).bind fun d s => match items d.1 with
        | some ys => dcGo t1.nms (still d.2 d.1) t1 (fun s => (evE P R c s).bind boolOf) (fun s => (evE P R k s).bind fun w s => (take s w).bind fun a s => (evE P R v s).bind fun w s => (take s w).bind fun b s => .ok (a, b) s) ys acc s
        | none => .stk "dc items") xs [] s).bind fun ys s => .ok (.own (.dic ys)) s
    | none => .stk "dc items"
  | .xat i k, s => match slotAt s i with
    | .exn x => match x.as[k]? with
      | some d => .ok (.val d) s
      | none => .stk "xat"
    | _ => .stk "xat"
  | .pop i, s => match slotAt s i with
    | .own (.lst xs) => match xs.getLast? with
      | some d => .ok (.val d) (s.set i (.own (.lst xs.dropLast)))
      | none => .stk "pop"
    | _ => .stk "pop"
  | .setd i k v, s => (evE P R k s).bind fun w s => (take s w).bind fun k s => (evE P R v s).bind fun w s => (take s w).bind fun v s => match slotAt s i with
    | .own (.dic kvs) => if k.key && decide (k.depth ≤ 7) then match look k kvs with
        | some d => .ok (.val d) s
        | none => .ok (.val v) (s.set i (.own (.dic (put k v kvs))))
      else .stk "setd"
    | _ => .stk "setd"
  | .dmerge a b, s => (evE P R a s).bind fun x s => (evE P R b s).bind fun y s => match peek s x, peek s y with
    | some (.dic d), some (.dic e) => .ok (.own (.dic (puts d e))) s
    | _, _ => .stk "dmerge"
  | .rng a, s => (evE P R a s).bind fun x s => match peek s x with
    | some (.int i) => if rngOk i then .ok (.val (.lst (rngL 0 i.toNat))) s else .stk "rng"
    | _ => .stk "rng"
  | .rng2 a b, s => (evE P R a s).bind fun x s => (evE P R b s).bind fun y s => match peek s x, peek s y with
    | some (.int i), some (.int j) => if rngOk i && rngOk j then .ok (.val (.lst (rngL i (j - i).toNat))) s else .stk "rng"
    | _, _ => .stk "rng"
  | .enu a, s => (evE P R a s).bind fun x s => (evFz x s).bind fun d s => match d with
    | .lst xs => .ok (.val (.lst (xs.zipIdx.map fun p => .tup [.int p.2, p.1]))) s
    | _ => .stk "enu"
  | .zip a b, s => (evE P R a s).bind fun x s => (evFz x s).bind fun d s => (evE P R b s).bind fun y s => (evFz y s).bind fun e s => match d, e with
    | .lst xs, .lst ys => .ok (.val (.lst ((xs.zip ys).map fun p => .tup [p.1, p.2]))) s
    | .tup xs, .tup ys => .ok (.val (.lst ((xs.zip ys).map fun p => .tup [p.1, p.2]))) s
    | _, _ => .stk "zip"
  | .itm a, s => (evE P R a s).bind fun x s => (evFz x s).bind fun d s => match d with
    | .dic kvs => .ok (.val (.lst (kvs.map fun p => .tup [p.1, p.2]))) s
    | _ => .stk "itm"
  | .vals a, s => (evE P R a s).bind fun x s => (evFz x s).bind fun d s => match d with
    | .dic kvs => .ok (.val (.lst (kvs.map (·.2)))) s
    | _ => .stk "vals"
/-- several, each taken -/
def evTs (P : Pg) (R : Run) : List E → St → Out (List D)
  | [], s => .ok [] s
  | e :: r, s => (evE P R e s).bind fun w s => (take s w).bind fun d s => (evTs P R r s).bind fun ds s => .ok (d :: ds) s
/-- arguments -/
def evAs (P : Pg) (R : Run) : List E → St → Out (List A)
  | [], s => .ok [] s
  | .clo ps b :: r, s => (evAs P R r s).bind fun as s => .ok (.clo ps b :: as) s
  | e :: r, s => (evE P R e s).bind fun w s => (evAs P R r s).bind fun as s => .ok (.w w :: as) s
end

/-- a thing is stored under a name: what it owned it owns -/
def setW (i : Nat) (w : W) (s : St) : Out Unit := match w with
  | .val d => .ok () (s.set i (.val d))
  | .own d => .ok () (s.set i (.own d))
  | .pl j => if i = j then .ok () s else (take s (.pl j)).bind fun d s => .ok () (s.set i (.val d))
def evPs (P : Pg) (R : Run) : List E → St → Out (List Slot)
  | [], s => .ok [] s
  | e :: r, s => (evE P R e s).bind fun w s => match w with
    | .own d => (evPs P R r s).bind fun l s => .ok (.own d :: l) s
    | w => (take s w).bind fun d s => (evPs P R r s).bind fun l s => .ok (.val d :: l) s
def setAll : List Nat → List Slot → St → St
  | i :: r, v :: q, s => setAll r q (s.set i v)
  | _, _, s => s
def insL (xs : List D) (k : Int) (d : D) : List D :=
  let n := if k < 0 then (k + xs.length).toNat else min k.toNat xs.length
  xs.take n ++ d :: xs.drop n
def setL (xs : List D) (i : Int) (d : D) : Option (List D) := (ixN xs.length i).map fun j => xs.set j d
def forGo (g : St → Bool) (t : T) (body : St → Out Fl) : List D → St → Out Fl
  | [], s => if g s then .ok .nx s else .stk "still"
  | d :: r, s => if g s then match stT t d s with
    | none => .stk "for target"
    | some s1 => (body s1).bind fun f s => match f with
      | .nx => forGo g t body r s
      | .ct => forGo g t body r s
      | .bk => .ok .nx s
      | .rt w => .ok (.rt w) s
    else .stk "still"
def whileGo (c : St → Out Bool) (body : St → Out Fl) : Nat → St → Out Fl
  | 0, _ => .stk "fuel"
  | n + 1, s => (c s).bind fun b s => if b then (body s).bind fun f s => match f with
      | .nx => whileGo c body n s
      | .ct => whileGo c body n s
      | .bk => .ok .nx s
      | .rt w => .ok (.rt w) s
    else .ok .nx s
def noExn : Slot → Bool
  | .exn _ => false
  | _ => true
/-- a caught error's name goes -/
def goneX (i : Nat) (f : Fl) (s : St) : Out Fl := if (s.set i .un).c.all noExn then .ok f (s.set i .un) else .stk "exn"
mutual
def evS (P : Pg) (R : Run) : S → St → Out Fl
  | .asg t e, s => (evE P R e s).bind fun w s => match t with
    | .nm i => (setW i w s).bind fun _ s => .ok .nx s
    | t => (take s w).bind fun d s => match stT t d s with
      | some s => .ok .nx s
      | none => .stk "unpack"
  | .par ts es, s => (evPs P R es s).bind fun l s => .ok .nx (setAll ts l s)
  | .seti i k v, s => match slotAt s i with
    | .own _ => (evE P R v s).bind fun w s => (take s w).bind fun d s => (evE P R k s).bind fun u s => (take s u).bind fun k s => match slotAt s i with
      | .own (.lst xs) => match k with
        | .int j => match setL xs j d with
          | some ys => .ok .nx (s.set i (.own (.lst ys)))
          | none => .stk "seti"
        | _ => .stk "seti"
      | .own (.dic kvs) => if keyOk k && decide (kvs.length < line) then .ok .nx (s.set i (.own (.dic (put k d kvs)))) else .stk "seti key"
      | _ => .stk "seti"
    | _ => .stk "seti"
  | .aug i o e, s => match slotAt s i with
    | .val d => (evE P R e s).bind fun w s => match peek s w with
      | some y => match augD o d y with
        | some z => .ok .nx (s.set i (.val z))
        | none => .stk "aug"
      | none => .stk "aug"
    | _ => .stk "aug"
  | .augi i k o e, s => match slotAt s i with
    | .own (.lst _) => (evE P R k s).bind fun u s => match peek s u, slotAt s i with
      | some (.int j), .own (.lst xs) => match atI xs j with
        | some d => (evE P R e s).bind fun w s => match peek s w, slotAt s i with
          | some y, .own (.lst xs) => match augD o d y with
            | some z => match setL xs j z with
              | some ys => .ok .nx (s.set i (.own (.lst ys)))
              | none => .stk "augi"
            | none => .stk "augi"
          | _, _ => .stk "augi"
        | none => .stk "augi"
      | _, _ => .stk "augi"
    | _ => .stk "augi"
  | .expr e, s => (evE P R e s).bind fun _ s => .ok .nx s
  | .app i e, s => match slotAt s i with
    | .own (.lst _) => (evE P R e s).bind fun w s => (take s w).bind fun d s => match slotAt s i with
      | .own (.lst xs) => if xs.length < line then .ok .nx (s.set i (.own (.lst (xs ++ [d])))) else .stk "app line"
      | _ => .stk "app"
    | _ => .stk "app"
  | .ext i e, s => match slotAt s i with
    | .own (.lst _) => (evE P R e s).bind fun w s => match peek s w, slotAt s i with
      | some (.lst ys), .own (.lst xs) => if xs.length + ys.length ≤ line then .ok .nx (s.set i (.own (.lst (xs ++ ys)))) else .stk "ext line"
      | some (.tup ys), .own (.lst xs) => if xs.length + ys.length ≤ line then .ok .nx (s.set i (.own (.lst (xs ++ ys)))) else .stk "ext line"
      | _, _ => .stk "ext"
    | _ => .stk "ext"
  | .upd i e, s => (evE P R e s).bind fun w s => match peek s w, slotAt s i with
    | some (.dic ys), .own (.dic xs) => .ok .nx (s.set i (.own (.dic (puts xs ys))))
    | _, _ => .stk "upd"
  | .ins i k e, s => (evE P R k s).bind fun u s => (take s u).bind fun k s => (evE P R e s).bind fun w s => (take s w).bind fun d s => match slotAt s i, k with
    | .own (.lst xs), .int j => if xs.length < line then .ok .nx (s.set i (.own (.lst (insL xs j d)))) else .stk "ins"
    | _, _ => .stk "ins"
  | .setdapp i k e, s => (evE P R k s).bind fun u s => (take s u).bind fun k s => (evE P R e s).bind fun w s => (take s w).bind fun d s => match slotAt s i with
    | .own (.dic kvs) => if keyOk k then match look k kvs with
        | some (.lst xs) => if xs.length < line then .ok .nx (s.set i (.own (.dic (put k (.lst (xs ++ [d])) kvs)))) else .stk "setdapp"
        | none => .ok .nx (s.set i (.own (.dic (put k (.lst [d]) kvs))))
        | _ => .stk "setdapp"
      else .stk "setdapp"
    | _ => .stk "setdapp"
  | .ret e, s => (evE P R e s).bind fun w s => match w with
    | .pl i => match slotAt s i with
      | .own d => .ok (.rt (.own d)) (s.set i .un)
      | .val d => .ok (.rt (.val d)) s
      | _ => .stk "ret"
    | w => .ok (.rt w) s
  | .ite c a b, s => (evE P R c s).bind fun w s => (boolOf w s).bind fun k s => if k then evSs P R a s else evSs P R b s
  | .for_ t src b, s => (evE P R src s).bind fun x s => (evSrc src [] x s).bind fun d s => match items d.1 with
    | some xs => forGo (still d.2 d.1) t (fun s => evSs P R b s) xs s
    | none => .stk "for"
  | .while_ c b, s => whileGo (fun s => (evE P R c s).bind boolOf) (fun s => evSs P R b s) P.fuel s
  | .raise c es, s => (evTs P R es s).bind fun ds s => .exc ⟨c, ds⟩ s
  | .try_ b cs i h, s => match evSs P R b s with
    | .exc x s => if cs.contains x.c then (evSs P R h (s.set i (.exn x))).bind (goneX i) else .exc x s
    | r => r
  | .try2 b cs i h cs2 i2 h2, s => match evSs P R b s with
    | .exc x s => if cs.contains x.c then (evSs P R h (s.set i (.exn x))).bind (goneX i)
      else if cs2.contains x.c then (evSs P R h2 (s.set i2 (.exn x))).bind (goneX i2) else .exc x s
    | r => r
  | .pass, s => .ok .nx s
  | .cont, s => .ok .ct s
  | .brk, s => .ok .bk s
def evSs (P : Pg) (R : Run) : List S → St → Out Fl
  | [], s => .ok .nx s
  | a :: r, s => (evS P R a s).bind fun f s => match f with
    | .nx => evSs P R r s
    | f => .ok f s
end
def run (P : Pg) : Nat → Task → Ret
  | 0, _ => .stk "deep"
  | n + 1, .call f sl p => match P.fs[f]? with
    | none => .stk "no def"
    | some fd => match evSs P (run P n) fd.body ⟨sl ++ List.replicate (fd.ns - fd.np) .un, p⟩ with
      | .ok (.rt w) s => .ret w s.c s.p
      | .ok .nx s => .ret (.val .non) s.c s.p
      | .ok _ _ => .stk "flow"
      | .exc x s => .exc x s.c s.p
      | .stk m => .stk (m ++ " <f" ++ toString f)
  | n + 1, .clo ps b as p => match (evE P (run P n) b (setAll ps (as.map .val) ⟨p, []⟩)).bind fun w s => take s w with
      | .ok d s => .ret (.val d) (back p s.c ps) []
      | .exc x s => .exc x (back p s.c ps) []
      | .stk m => .stk m
end
end Mid
set_option Elab.async false
set_option linter.all false
set_option maxRecDepth 100000
set_option maxHeartbeats 4000000
/-! How the middle level's states stand over the hand layer's. -/
namespace Mid
open PySem PySem.Spec PyProof.Rows
open L2 (Hp HO V RelV Vals SqL SqT Rd upd upd_same upd_ne)

/-- the dict at a, by its entries -/
abbrev dctO (a : Addr) (es : Array DictEntry) (ep : Nat) : HO := .ext fun h => h.DictRaw a es ep
/-- a key, as the library's -/
def txt (s : List Nat) : Str := ⟨s.toArray⟩
theorem txt_inj {s t : List Nat} : txt s = txt t ↔ s = t := by
  constructor
  · intro h
    have : s.toArray = t.toArray := congrArg Str.cps h
    simpa using congrArg Array.toList this
  · rintro rfl; rfl
theorem txt_cps (x : Str) : txt x.cps.toList = x := by cases x; simp [txt]
mutual
def nk : D → NestedKey
  | .int i => .num i
  | .str s => .text (txt s)
  | .tup xs => .tup (nks xs)
  | _ => .none
def nks : List D → List NestedKey
  | [] => []
  | d :: r => nk d :: nks r
end
mutual
theorem nk_inj : ∀ a b : D, a.key = true → b.key = true → nk a = nk b → a = b
  | .int i, b, _, hb, h => by cases b <;> simp_all [nk, D.key]
  | .str s, b, _, hb, h => by cases b <;> simp_all [nk, D.key, txt_inj]
  | .tup xs, b, ha, hb, h => by
    cases b with
    | tup ys =>
      simp only [nk, NestedKey.tup.injEq] at h
      simp only [D.key] at ha hb
      rw [nks_inj xs ys ha hb h]
    | _ => simp_all [nk, D.key]
  | .non, _, ha, _, _ => by simp [D.key] at ha
  | .bl _, _, ha, _, _ => by simp [D.key] at ha
  | .lst _, _, ha, _, _ => by simp [D.key] at ha
  | .dic _, _, ha, _, _ => by simp [D.key] at ha
  | .fn _, _, ha, _, _ => by simp [D.key] at ha
theorem nks_inj : ∀ a b : List D, D.keys a = true → D.keys b = true → nks a = nks b → a = b
  | [], b, _, _, h => by cases b <;> simp_all [nks]
  | x :: r, b, ha, hb, h => by
    cases b with
    | nil => simp [nks] at h
    | cons y q =>
      simp only [nks, List.cons.injEq] at h
      simp only [D.keys, Bool.and_eq_true] at ha hb
      rw [nk_inj x y ha.1 hb.1 h.1, nks_inj r q ha.2 hb.2 h.2]
end
mutual
theorem nk_depth : ∀ a : D, a.key = true → (nk a).depth = a.depth
  | .int i, _ => by simp [nk, D.depth, NestedKey.depth]
  | .str s, _ => by simp [nk, D.depth, NestedKey.depth]
  | .tup xs, h => by
    simp only [D.key] at h
    simp only [nk, D.depth, NestedKey.depth, nks_depth xs h]
  | .non, ha => by simp [D.key] at ha
  | .bl _, ha => by simp [D.key] at ha
  | .lst _, ha => by simp [D.key] at ha
  | .dic _, ha => by simp [D.key] at ha
  | .fn _, ha => by simp [D.key] at ha
theorem nks_depth : ∀ a : List D, D.keys a = true → NestedKey.depthAll (nks a) = D.depths a
  | [], _ => by simp [nks, D.depths, NestedKey.depthAll]
  | x :: r, h => by
    simp only [D.keys, Bool.and_eq_true] at h
    simp only [nks, D.depths, NestedKey.depthAll, nk_depth x h.1, nks_depth r h.2]
end

/-- what is fixed in a proof: the written part, where the defs stand -/
structure Bk where
  K : PySem.W.Frag
  w : World
  fa : Nat → Addr
  /-- the tables of code objects of the defs that make lambdas, their lambdas' names -/
  T : List (Addr × Str)

def hashK (w : World) (d : D) : Int := (nk d).hash w

/-- a plain tuple's object -/
abbrev TupOb (its : List Value) : Obj := { cls := .type "tuple", data := .seq its.toArray }
/-- a plain tuple: frozen, or of the written part -/
def PlT (K : PySem.W.Frag) (F : Hp) (a : Addr) (xs : List V) : Prop := (∃ its, F a = some (.frz (TupOb its) (.tup xs))) ∨ ∃ o its n, K.lookup a = some o ∧ o.cls = .type "tuple" ∧ (o.dict = none ∧ o.slots = #[]) ∧ o.data = .seq its n ∧ its.size ≤ sizeLine ∧ Vals xs its.toList
theorem PlT.sq {K : PySem.W.Frag} {F : Hp} {a : Addr} {xs : List V} (h : PlT K F a xs) : SqT K F a xs := by
  rcases h with ⟨its, h⟩ | ⟨o, its, n, h1, h2, _, h3, h4, h5⟩
  · exact .inl (.inr ⟨_, h⟩)
  · exact .inr ⟨o, its, n, h1, h2, h3, h4, h5⟩
mutual
/-- the value v is the data d, over the frozen heap F -/
inductive DV (B : Bk) (F : Hp) : V → D → Prop
  | non : DV B F .non .non
  | bl (b : Bool) : DV B F (.bl b) (.bl b)
  | int (i : Int) : DV B F (.int i) (.int i)
  | str (s : List Nat) : DV B F (.str (txt s)) (.str s)
  | tup {a : Addr} {xs : List V} {ds : List D} : PlT B.K F a xs → DVs B F xs ds → DV B F (.ref a) (.tup ds)
  | lst {a : Addr} {xs : List V} {ds : List D} : Rd F a (.lst xs) → DVs B F xs ds → DV B F (.ref a) (.lst ds)
  | dic {a : Addr} {es : Array DictEntry} {ep : Nat} {kvs : List (D × D)} : F a = some (dctO a es ep) → (a == sysModules) = false → es.size ≤ sizeLine → DKs B F es.toList kvs → (kvs.map (·.1)).Nodup → DV B F (.ref a) (.dic kvs)
  | fn (f : Nat) : DV B F (.ref (B.fa f)) (.fn f)
inductive DVs (B : Bk) (F : Hp) : List V → List D → Prop
  | nil : DVs B F [] []
  | cons {v : V} {vs : List V} {d : D} {ds : List D} : DV B F v d → DVs B F vs ds → DVs B F (v :: vs) (d :: ds)
/-- the entries of a dict -/
inductive DKs (B : Bk) (F : Hp) : List DictEntry → List (D × D) → Prop
  | nil : DKs B F [] []
  | cons {e : DictEntry} {es : List DictEntry} {k v : V} {dk dv : D} {kvs : List (D × D)} : RelV k e.key → RelV v e.val → DV B F k dk → DV B F v dv → keyOk dk = true → e.hash = hashK B.w dk → DKs B F es kvs → DKs B F (e :: es) ((dk, dv) :: kvs)
end

/-- all that is frozen stands -/
def Le (F H : Hp) : Prop := ∀ a o, F a = some o → H a = some o
theorem Le.refl (F : Hp) : Le F F := fun _ _ h => h
theorem Le.trans {F G H : Hp} (a : Le F G) (b : Le G H) : Le F H := fun x o h => b x o (a x o h)
theorem Le.rd {F G : Hp} (l : Le F G) {a : Addr} {o : HO} (h : Rd F a o) : Rd G a o := h.elim (fun h => .inl (l _ _ h)) fun ⟨o, h⟩ => .inr ⟨o, l _ _ h⟩
theorem Le.pT {K : PySem.W.Frag} {F G : Hp} (l : Le F G) {a : Addr} {xs : List V} (h : PlT K F a xs) : PlT K G a xs := h.imp (fun ⟨its, h⟩ => ⟨its, l _ _ h⟩) id
theorem Le.sqT {K : PySem.W.Frag} {F G : Hp} (l : Le F G) {a : Addr} {xs : List V} (h : SqT K F a xs) : SqT K G a xs := h.elim (fun h => .inl (l.rd h)) .inr
theorem Le.sqL {K : PySem.W.Frag} {F G : Hp} (l : Le F G) {a : Addr} {xs : List V} (h : SqL K F a xs) : SqL K G a xs := h.elim (fun h => .inl (l.rd h)) .inr
mutual
theorem DV.mono {B : Bk} {F G : Hp} (l : Le F G) : ∀ {v : V} {d : D}, DV B F v d → DV B G v d
  | _, _, .non => .non
  | _, _, .bl b => .bl b
  | _, _, .int i => .int i
  | _, _, .str s => .str s
  | _, _, .tup h q => .tup (h.imp (fun ⟨its, h⟩ => ⟨its, l _ _ h⟩) id) (DVs.mono l q)
  | _, _, .lst h q => .lst (l.rd h) (DVs.mono l q)
  | _, _, .dic h m z q n => .dic (l _ _ h) m z (DKs.mono l q) n
  | _, _, .fn f => .fn f
theorem DVs.mono {B : Bk} {F G : Hp} (l : Le F G) : ∀ {v : List V} {d : List D}, DVs B F v d → DVs B G v d
  | _, _, .nil => .nil
  | _, _, .cons h q => .cons (DV.mono l h) (DVs.mono l q)
theorem DKs.mono {B : Bk} {F G : Hp} (l : Le F G) : ∀ {v : List DictEntry} {d : List (D × D)}, DKs B F v d → DKs B G v d
  | _, _, .nil => .nil
  | _, _, .cons a b c d e f q => .cons a b (DV.mono l c) (DV.mono l d) e f (DKs.mono l q)
end
section
variable {B : Bk} {F : Hp}
theorem DVs.length : ∀ {v : List V} {d : List D}, DVs B F v d → v.length = d.length
  | _, _, .nil => rfl
  | _, _, .cons _ q => by rw [List.length_cons, List.length_cons, q.length]
theorem DVs.get : ∀ {vs : List V} {ds : List D} {i : Nat} {d : D}, DVs B F vs ds → ds[i]? = some d → ∃ v, vs[i]? = some v ∧ DV B F v d
  | _, _, _, _, .nil, e => by simp at e
  | _, _, 0, _, .cons h _, e => by simp at e; subst e; exact ⟨_, rfl, h⟩
  | _, _, i + 1, d, .cons _ q, e => by
    obtain ⟨v, h1, h2⟩ := DVs.get (i := i) (d := d) q (by simpa using e)
    exact ⟨v, by simpa using h1, h2⟩
theorem DVs.get' : ∀ {vs : List V} {ds : List D} {i : Nat} {v : V}, DVs B F vs ds → vs[i]? = some v → ∃ d, ds[i]? = some d ∧ DV B F v d
  | _, _, _, _, .nil, e => by simp at e
  | _, _, 0, _, .cons h _, e => by simp at e; subst e; exact ⟨_, rfl, h⟩
  | _, _, i + 1, d, .cons _ q, e => by
    obtain ⟨v, h1, h2⟩ := DVs.get' (i := i) (v := d) q (by simpa using e)
    exact ⟨v, by simpa using h1, h2⟩
theorem DVs.append : ∀ {vs ws : List V} {ds es : List D}, DVs B F vs ds → DVs B F ws es → DVs B F (vs ++ ws) (ds ++ es)
  | _, _, _, _, .nil, q => q
  | _, _, _, _, .cons h p, q => .cons h (p.append q)
theorem DVs.snoc {vs : List V} {ds : List D} {v : V} {d : D} (p : DVs B F vs ds) (h : DV B F v d) : DVs B F (vs ++ [v]) (ds ++ [d]) := p.append (.cons h .nil)
theorem DVs.take : ∀ (n : Nat) {vs : List V} {ds : List D}, DVs B F vs ds → DVs B F (vs.take n) (ds.take n)
  | 0, _, _, _ => .nil
  | _ + 1, _, _, .nil => .nil
  | n + 1, _, _, .cons h q => .cons h (q.take n)
theorem DVs.drop : ∀ (n : Nat) {vs : List V} {ds : List D}, DVs B F vs ds → DVs B F (vs.drop n) (ds.drop n)
  | 0, _, _, h => h
  | _ + 1, _, _, .nil => .nil
  | n + 1, _, _, .cons _ q => q.drop n
theorem DVs.dropLast : ∀ {vs : List V} {ds : List D}, DVs B F vs ds → DVs B F vs.dropLast ds.dropLast
  | _, _, .nil => .nil
  | _, _, .cons _ .nil => .nil
  | _, _, .cons h (.cons h' q) => .cons h (DVs.dropLast (.cons h' q))
theorem DVs.reverse {vs : List V} {ds : List D} (h : DVs B F vs ds) : DVs B F vs.reverse ds.reverse := by
  induction ds generalizing vs with
  | nil => cases h; exact .nil
  | cons d r ih =>
    cases h with
    | cons h q => rw [List.reverse_cons, List.reverse_cons]; exact (ih q).snoc h
theorem DVs.set : ∀ (i : Nat) {vs : List V} {ds : List D} {v : V} {d : D}, DVs B F vs ds → DV B F v d → DVs B F (vs.set i v) (ds.set i d)
  | _, _, _, _, _, .nil, _ => .nil
  | 0, _, _, _, _, .cons _ q, h => .cons h q
  | i + 1, _, _, _, _, .cons p q, h => .cons p (q.set i h)
theorem DVs.rep {vs : List V} {ds : List D} (h : DVs B F vs ds) : ∀ n : Nat, DVs B F (List.replicate n vs).flatten (List.replicate n ds).flatten
  | 0 => .nil
  | n + 1 => by simp only [List.replicate_succ, List.flatten_cons]; exact h.append (h.rep n)
theorem DKs.length : ∀ {v : List DictEntry} {d : List (D × D)}, DKs B F v d → v.length = d.length
  | _, _, .nil => rfl
  | _, _, .cons _ _ _ _ _ _ q => by rw [List.length_cons, List.length_cons, q.length]
/-- the entry at a place -/
structure DKe (B : Bk) (F : Hp) (e : DictEntry) (p : D × D) : Prop where
  ex : ∃ k v : V, RelV k e.key ∧ RelV v e.val ∧ DV B F k p.1 ∧ DV B F v p.2
  ok : keyOk p.1 = true
  hash : e.hash = hashK B.w p.1
theorem DKs.get : ∀ {es : List DictEntry} {kvs : List (D × D)} {i : Nat} {p : D × D}, DKs B F es kvs → kvs[i]? = some p → ∃ e, es[i]? = some e ∧ DKe B F e p
  | _, _, _, _, .nil, e => by simp at e
  | _, _, 0, _, .cons a b c d e f _, q => by simp at q; subst q; exact ⟨_, rfl, ⟨_, _, a, b, c, d⟩, e, f⟩
  | _, _, i + 1, p, .cons _ _ _ _ _ _ q, e => by
    obtain ⟨v, h1, h2⟩ := DKs.get (i := i) (p := p) q (by simpa using e)
    exact ⟨v, by simpa using h1, h2⟩
theorem DKs.get' : ∀ {es : List DictEntry} {kvs : List (D × D)} {i : Nat} {e : DictEntry}, DKs B F es kvs → es[i]? = some e → ∃ p, kvs[i]? = some p ∧ DKe B F e p
  | _, _, _, _, .nil, e => by simp at e
  | _, _, 0, _, .cons a b c d e f _, q => by simp at q; subst q; exact ⟨_, rfl, ⟨_, _, a, b, c, d⟩, e, f⟩
  | _, _, i + 1, p, .cons _ _ _ _ _ _ q, e => by
    obtain ⟨v, h1, h2⟩ := DKs.get' (i := i) (e := p) q (by simpa using e)
    exact ⟨v, by simpa using h1, h2⟩
theorem DKs.snoc : ∀ {es : List DictEntry} {kvs : List (D × D)} {e : DictEntry} {p : D × D}, DKs B F es kvs → DKe B F e p → DKs B F (es ++ [e]) (kvs ++ [p])
  | _, _, _, (_, _), .nil, ⟨⟨_, _, a, b, c, d⟩, e, f⟩ => .cons a b c d e f .nil
  | _, _, _, _, .cons a b c d e f q, h => .cons a b c d e f (q.snoc h)
theorem DKs.setVal : ∀ {es : List DictEntry} {kvs : List (D × D)} (i : Nat) {v : V} {u : Value} {d : D}, DKs B F es kvs → RelV v u → DV B F v d →
    DKs B F (es.modify i fun e => { e with val := u }) (kvs.modify i fun p => (p.1, d))
  | _, _, 0, _, _, _, .nil, _, _ => .nil
  | _, _, i + 1, _, _, _, .nil, _, _ => .nil
  | _, _, 0, _, _, _, .cons a b c d e f q, r, h => .cons a r c h e f q
  | _, _, i + 1, _, _, _, .cons a b c d e f q, r, h => .cons a b c d e f (q.setVal i r h)
end

/-! ### frames -/
/-- what is fixed while a def runs: the addresses that its names may own; the frame that handed functions in -/
structure Kx extends Bk where
  Z : Addr → Prop
  σp : L2.St
  Zp : Addr → Prop
  cs : List Nat → E → V → Prop
  xs : X → V → Hp → Prop
  xr : X → Value → Option Addr → Hp → Prop
  /-- the slots that are never stored anew -/
  fx : List Nat
  /-- code objects that are known -/
  cd : List (Addr × Str)

/-- a table of code objects, its codes frozen -/
def TbF (F H : Hp) (p : Addr × Str) : Prop := F p.1 = none ∧ ∃ ps : Array Value, H p.1 = some (.tbl ps) ∧ TriplesOk ps.toList ∧ ∀ (pos : Pos) (cv : Value), codeAmong pos ps.toList = some cv → ∃ c, cv = .ref c ∧ F c = some (LamX.CodeO c p.2)
def TbOk (B : Bk) (F H : Hp) : Prop := ∀ p ∈ B.T, TbF F H p
theorem TbF.mono {F H F' H' : Hp} {p : Addr × Str} (h : TbF F H p) (l : ∀ c q, F c = some (LamX.CodeO c q) → F' c = some (LamX.CodeO c q)) (n : F' p.1 = none) (e : ∀ ps, H p.1 = some (.tbl ps) → H' p.1 = H p.1) : TbF F' H' p := by
  obtain ⟨_, ps, h1, h2, h3⟩ := h
  exact ⟨n, ps, (e _ h1).trans h1, h2, fun pos cv q => let ⟨c, e1, e2⟩ := h3 pos cv q; ⟨c, e1, l _ _ e2⟩⟩
theorem TbF.tbl {F H : Hp} {p : Addr × Str} (h : TbF F H p) : ∃ ps, H p.1 = some (.tbl ps) := let ⟨_, ps, h1, _⟩ := h; ⟨ps, h1⟩
/-- no table -/
def NTb (o : HO) : Prop := ∀ ps, o ≠ .tbl ps
theorem TbOk.ne {B : Bk} {F H : Hp} (h : TbOk B F H) {a : Addr} {o : HO} (e : H a = some o) (n : NTb o) : ∀ p ∈ B.T, p.1 ≠ a := fun p hp z => by
  obtain ⟨ps, q⟩ := (h p hp).tbl
  rw [z, e] at q
  exact n ps (Option.some.inj q)
theorem TbOk.neN {B : Bk} {F H : Hp} (h : TbOk B F H) {a : Addr} (e : H a = none) : ∀ p ∈ B.T, p.1 ≠ a := fun p hp z => by
  obtain ⟨ps, q⟩ := (h p hp).tbl
  rw [z, e] at q
  cases q
/-- what a name owns -/
def OD (B : Bk) (F H : Hp) (a : Addr) : D → Prop
  | .lst ds => ∃ xs, H a = some (.lst xs) ∧ DVs B F xs ds
  | .dic kvs => ∃ es ep, H a = some (dctO a es ep) ∧ (a == sysModules) = false ∧ es.size ≤ sizeLine ∧ DKs B F es.toList kvs ∧ (kvs.map (·.1)).Nodup
  | _ => False
theorem OD.some {B : Bk} {F H : Hp} {a : Addr} {d : D} (h : OD B F H a d) : ∃ o, H a = some o := by
  cases d <;> simp only [OD] at h
  · obtain ⟨xs, h, _⟩ := h; exact ⟨_, h⟩
  · obtain ⟨es, ep, h, _⟩ := h; exact ⟨_, h⟩
theorem OD.ntb {B : Bk} {F H : Hp} {a : Addr} {d : D} (h : OD B F H a d) {o : HO} (e : H a = Option.some o) : NTb o := by
  cases d <;> simp only [OD] at h
  · obtain ⟨xs, h, _⟩ := h; rw [h] at e; cases e; exact fun ps z => by cases z
  · obtain ⟨es, ep, h, _⟩ := h; rw [h] at e; cases e; exact fun ps z => by cases z
theorem OD.mono {B : Bk} {F G H H' : Hp} {a : Addr} {d : D} (l : Le F G) (e : H' a = H a) (h : OD B F H a d) : OD B G H' a d := by
  cases d <;> simp only [OD] at h ⊢
  · obtain ⟨xs, h, q⟩ := h; exact ⟨xs, e.trans h, q.mono l⟩
  · obtain ⟨es, ep, h, m, z, q, n⟩ := h; exact ⟨es, ep, e.trans h, m, z, q.mono l, n⟩
/-- given up: it is frozen -/
theorem OD.dv {B : Bk} {F G H : Hp} {a : Addr} {d : D} (l : Le F G) (e : G a = H a) (h : OD B F H a d) : DV B G (.ref a) d := by
  cases d <;> simp only [OD] at h
  · obtain ⟨xs, h, q⟩ := h; exact .lst (.inl (e.trans h)) (q.mono l)
  · obtain ⟨es, ep, h, m, z, q, n⟩ := h; exact .dic (e.trans h) m z (q.mono l) n

/-- one slot -/
def SlR (C : Kx) (F H : Hp) (o : Option V) : Slot → Prop
  | .un => True
  | .val d => ∃ v, o = some v ∧ DV C.toBk F v d
  | .own d => ∃ a, o = some (.ref a) ∧ F a = none ∧ C.Z a ∧ OD C.toBk F H a d
  | .exn x => ∃ v, o = some v ∧ C.xs x v F
  | .clo ps b => ∃ v, o = some v ∧ C.cs ps b v
/-- the address is owned by a slot -/
def Own (c : Fr) (σ : L2.St) (a : Addr) : Prop := ∃ (i : Nat) (d : D), c[i]? = some (Slot.own d) ∧ σ[i]? = some (some (.ref a))
structure Fm (C : Kx) (c : Fr) (σ : L2.St) (F H : Hp) : Prop where
  len : σ.length = c.length
  sl : ∀ (i : Nat) (s : Slot), c[i]? = some s → SlR C F H (σ[i]?.join) s
  ne : ∀ (i j : Nat) (d e : D) (a : Addr), c[i]? = some (.own d) → c[j]? = some (.own e) → σ[i]? = some (some (.ref a)) → σ[j]? = some (some (.ref a)) → i = j
/-- the frame that handed functions in, as a context of its own -/
abbrev Kx.par (C : Kx) : Kx := { C with Z := C.Zp, σp := [], Zp := fun _ => False, cs := fun _ _ _ => False, xs := fun _ _ _ => False, fx := [], cd := [] }
structure SR (C : Kx) (s : St) (σ : L2.St) (F H : Hp) : Prop where
  le : Le F H
  c : Fm C s.c σ F H
  p : Fm C.par s.p C.σp F H
  dj : ∀ a, Own s.c σ a → ¬ Own s.p C.σp a
  zz : ∀ a, H a = none → C.Z a
  zp : ∀ a, H a = none → C.Zp a
  tb : TbOk C.toBk F H
  cd : ∀ p ∈ C.cd, F p.1 = some (LamX.CodeO p.1 p.2)
/-- what may be turned -/
def Ow (C : Kx) (s : St) (σ : L2.St) (a : Addr) : Prop := Own s.c σ a ∨ Own s.p C.σp a
/-- a step: what is frozen stays so, what nobody owns stands -/
structure Stp (O : Addr → Prop) (F H F' H' : Hp) : Prop where
  le : Le F F'
  keep : ∀ a o, H a = some o → NTb o → ¬ O a → H' a = some o
  new : ∀ a, F a = none → F' a ≠ none → H a = none ∨ O a
  there : ∀ a, H' a = none → H a = none
theorem Stp.refl (O : Addr → Prop) (F H : Hp) : Stp O F H F H := ⟨.refl F, fun _ _ h _ _ => h, fun a h q => absurd h q, fun _ h => h⟩
theorem Stp.trans {O O' : Addr → Prop} {F H F1 H1 F2 H2 : Hp} (a : Stp O F H F1 H1) (b : Stp O' F1 H1 F2 H2) (h : ∀ x, O' x → O x ∨ H x = none) : Stp O F H F2 H2 :=
  ⟨a.le.trans b.le, fun x o e t n => b.keep x o (a.keep x o e t n) t fun z => (h x z).elim n fun z => (by rw [z] at e; cases e),
   fun x e q => by
     cases e1 : F1 x with
     | none =>
       rcases b.new x e1 q with z | z
       · exact .inl (a.there x z)
       · exact (h x z).symm
     | some o => exact a.new x e (by rw [e1]; simp),
   fun x e => a.there x (b.there x e)⟩
theorem Stp.weak {O O' : Addr → Prop} {F H F' H' : Hp} (a : Stp O F H F' H') (h : ∀ x, O x → O' x) : Stp O' F H F' H' :=
  ⟨a.le, fun x o e t n => a.keep x o e t fun z => n (h x z), fun x e q => (a.new x e q).imp id (h x), a.there⟩
/-- what a statement or an expression does to the state -/
structure Post (C : Kx) (s : St) (σ : L2.St) (F H : Hp) (s' : St) (F' H' : Hp) : Prop where
  sr : SR C s' σ F' H'
  st : Stp (Ow C s σ) F H F' H'
  oc : ∀ a, Own s'.c σ a → Own s.c σ a
  op : ∀ a, Own s'.p C.σp a → Own s.p C.σp a
theorem Post.refl {C : Kx} {s : St} {σ : L2.St} {F H : Hp} (h : SR C s σ F H) : Post C s σ F H s F H := ⟨h, .refl _ _ _, fun _ h => h, fun _ h => h⟩
theorem Post.trans {C : Kx} {s s1 s2 : St} {σ : L2.St} {F H F1 H1 F2 H2 : Hp} (a : Post C s σ F H s1 F1 H1) (b : Post C s1 σ F1 H1 s2 F2 H2) : Post C s σ F H s2 F2 H2 :=
  ⟨b.sr, a.st.trans b.st fun x z => .inl (z.imp (a.oc x) (a.op x)), fun x z => a.oc x (b.oc x z), fun x z => a.op x (b.op x z)⟩
/-- a value's end -/
def RW (C : Kx) (s : St) (σ : L2.St) (F H : Hp) (v : V) : W → Prop
  | .val d => DV C.toBk F v d
  | .own d => ∃ a, v = .ref a ∧ F a = none ∧ ¬ Ow C s σ a ∧ C.Z a ∧ C.Zp a ∧ OD C.toBk F H a d
  | .pl i => σ[i]? = some (some v) ∧ ((∃ d, s.c[i]? = some (Slot.own d)) ∨ ∃ d, s.c[i]? = some (Slot.val d))
/-- it stays through further steps -/
theorem RW.step {C : Kx} {s s' : St} {σ : L2.St} {F H F' H' : Hp} {v : V} {w : W} (h : RW C s σ F H v w) (p : Post C s σ F H s' F' H') (hc : ∀ (i : Nat) (d : D), s.c[i]? = some (.own d) ∨ s.c[i]? = some (.val d) → ∃ e, s'.c[i]? = some (.own e) ∨ s'.c[i]? = some (.val e)) : RW C s' σ F' H' v w := by
  cases w with
  | val d => exact DV.mono p.st.le h
  | own d =>
    obtain ⟨a, rfl, e, n, z, zp, o⟩ := h
    obtain ⟨ob, ho⟩ := o.some
    have n' : ¬ Ow C s' σ a := fun q => n (q.imp (p.oc a) (p.op a))
    have e' : F' a = none := by
      cases q : F' a with
      | none => rfl
      | some x =>
        rcases p.st.new a e (by rw [q]; simp) with q | q
        · rw [ho] at q; cases q
        · exact absurd q n
    exact ⟨a, rfl, e', n', z, zp, o.mono p.st.le (by rw [p.st.keep a ob ho (o.ntb ho) n, ho])⟩
  | pl i =>
    obtain ⟨e, q⟩ := h
    refine ⟨e, ?_⟩
    rcases q with ⟨d, q⟩ | ⟨d, q⟩
    · obtain ⟨e, r⟩ := hc i d (.inl q)
      exact r.imp (fun r => ⟨e, r⟩) fun r => ⟨e, r⟩
    · obtain ⟨e, r⟩ := hc i d (.inr q)
      exact r.imp (fun r => ⟨e, r⟩) fun r => ⟨e, r⟩
end Mid
set_option Elab.async false
set_option linter.all false
set_option maxRecDepth 100000
set_option maxHeartbeats 4000000
/-! Steps that lay new objects alone; what a thing is where it stands; the outcome of the evaluator. -/
namespace Mid
open PySem PySem.Spec PyProof.Rows
open L2 (Hp HO V RelV Vals SqL SqT Rd upd upd_same upd_ne)

/-- new objects alone -/
structure Al (F H F' H' : Hp) : Prop where
  le : Le F F'
  keep : Le H H'
  new : ∀ a, F a = none → F' a ≠ none → H a = none
  le2 : Le F' H'
theorem Al.refl {F H : Hp} (l : Le F H) : Al F H F H := ⟨.refl F, .refl H, fun a h q => absurd h q, l⟩
theorem Al.trans {F H F1 H1 F2 H2 : Hp} (a : Al F H F1 H1) (b : Al F1 H1 F2 H2) : Al F H F2 H2 :=
  ⟨a.le.trans b.le, a.keep.trans b.keep, fun x e q => by
    cases e1 : F1 x with
    | none =>
      have z := b.new x e1 q
      cases e2 : H x with
      | none => rfl
      | some o => rw [a.keep x o e2] at z; cases z
    | some o => exact a.new x e (by rw [e1]; simp), b.le2⟩
theorem upd_le {H : Hp} {p : Addr} {o : HO} (n : H p = none) : Le H (upd H p o) := fun a u h => by
  rw [upd_ne (L2.ne_of_none h n)]; exact h
theorem Al.own {F H : Hp} {p : Addr} {o : HO} (l : Le F H) (n : H p = none) : Al F H F (upd H p o) := ⟨.refl F, upd_le n, fun a h q => absurd h q, l.trans (upd_le n)⟩
theorem Le.none {F H : Hp} (l : Le F H) {p : Addr} (n : H p = none) : F p = none := by
  cases e : F p with
  | none => rfl
  | some o => rw [l p o e] at n; cases n
theorem Al.frz {F H : Hp} {p : Addr} {o : HO} (l : Le F H) (n : H p = none) : Al F H (upd F p o) (upd H p o) :=
  ⟨upd_le (l.none n), upd_le n, fun a h q => by
    by_cases e : a = p
    · subst e; exact n
    · rw [upd_ne e] at q; exact absurd h q, fun a u h => by
    by_cases e : a = p
    · subst e; rw [upd_same] at h ⊢; exact h
    · rw [upd_ne e] at h ⊢; exact l a u h⟩
/-- .. and what comes of it -/
def RN (B : Bk) (H F' H' : Hp) (v : V) : W → Prop
  | .val d => DV B F' v d
  | .own d => ∃ a, v = .ref a ∧ H a = none ∧ F' a = none ∧ OD B F' H' a d
  | .pl _ => False
/-- what a thing is, where it stands -/
def PK (B : Bk) (F H : Hp) (v : V) (d : D) : Prop := DV B F v d ∨ ∃ a, v = .ref a ∧ OD B F H a d
section
variable {B : Bk} {F H : Hp} {v : V}
theorem PK.lst {ds : List D} (l : Le F H) (h : PK B F H v (.lst ds)) : ∃ a xs, v = .ref a ∧ Rd H a (.lst xs) ∧ DVs B F xs ds := by
  rcases h with h | ⟨a, rfl, xs, h, q⟩
  · cases h with
    | lst h q => exact ⟨_, _, rfl, l.rd h, q⟩
  · exact ⟨_, _, rfl, .inl h, q⟩
theorem PK.tup {ds : List D} (l : Le F H) (h : PK B F H v (.tup ds)) : ∃ a xs, v = .ref a ∧ SqT B.K H a xs ∧ PlT B.K F a xs ∧ DVs B F xs ds := by
  rcases h with h | ⟨a, rfl, h⟩
  · cases h with
    | tup h q => exact ⟨_, _, rfl, (l.pT h).sq, h, q⟩
  · exact h.elim
theorem PK.dic {kvs : List (D × D)} (l : Le F H) (h : PK B F H v (.dic kvs)) : ∃ a es ep, v = .ref a ∧ H a = some (dctO a es ep) ∧ (a == sysModules) = false ∧ es.size ≤ sizeLine ∧ DKs B F es.toList kvs ∧ (kvs.map (·.1)).Nodup := by
  rcases h with h | ⟨a, rfl, es, ep, h⟩
  · cases h with
    | dic h m z q n => exact ⟨_, _, _, rfl, l _ _ h, m, z, q, n⟩
  · exact ⟨_, _, _, rfl, h⟩
theorem PK.int {i : Int} (h : PK B F H v (.int i)) : v = .int i := by
  rcases h with h | ⟨a, rfl, h⟩
  · cases h; rfl
  · exact h.elim
theorem PK.bl {i : Bool} (h : PK B F H v (.bl i)) : v = .bl i := by
  rcases h with h | ⟨a, rfl, h⟩
  · cases h; rfl
  · exact h.elim
theorem PK.non (h : PK B F H v .non) : v = .non := by
  rcases h with h | ⟨a, rfl, h⟩
  · cases h; rfl
  · exact h.elim
theorem PK.str {i : List Nat} (h : PK B F H v (.str i)) : v = .str (txt i) := by
  rcases h with h | ⟨a, rfl, h⟩
  · cases h; rfl
  · exact h.elim
theorem PK.fn {i : Nat} (h : PK B F H v (.fn i)) : v = .ref (B.fa i) := by
  rcases h with h | ⟨a, rfl, h⟩
  · cases h; rfl
  · exact h.elim
/-- it may be read as data over a greater frozen heap -/
theorem PK.dv {d : D} (l : Le F H) (h : PK B F H v d) : DV B H v d := by
  rcases h with h | ⟨a, rfl, h⟩
  · exact h.mono l
  · exact OD.dv l rfl h
end
theorem Own.od {C : Kx} {c : Fr} {σ : L2.St} {F H : Hp} (f : Fm C c σ F H) {a : Addr} (h : Own c σ a) : F a = none ∧ C.Z a ∧ ∃ d, OD C.toBk F H a d := by
  obtain ⟨i, d, h1, h2⟩ := h
  obtain ⟨b, e, h3, h4, h5⟩ := f.sl i _ h1
  rw [h2] at e
  cases e
  exact ⟨h3, h4, d, h5⟩
theorem Own.some {C : Kx} {c : Fr} {σ : L2.St} {F H : Hp} (f : Fm C c σ F H) {a : Addr} (h : Own c σ a) : ∃ o, H a = some o := let ⟨_, _, _, o⟩ := Own.od f h; o.some
theorem SR.ow {C : Kx} {s : St} {σ : L2.St} {F H : Hp} (h : SR C s σ F H) {a : Addr} (o : Ow C s σ a) : F a = none ∧ ∃ o, H a = some o := by
  rcases o with o | o
  · exact ⟨(Own.od h.c o).1, Own.some h.c o⟩
  · exact ⟨(Own.od h.p o).1, Own.some h.p o⟩
theorem SlR.al {C : Kx} {F H F' H' : Hp} (hx : ∀ x v, C.xs x v F → C.xs x v F') (a : Al F H F' H') {o : Option V} : ∀ {s : Slot}, SlR C F H o s → SlR C F' H' o s
  | .un, _ => trivial
  | .val d, ⟨v, e, h⟩ => ⟨v, e, h.mono a.le⟩
  | .own d, ⟨p, e, h1, h2, h3⟩ => by
    obtain ⟨o, ho⟩ := h3.some
    refine ⟨p, e, ?_, h2, h3.mono a.le (by rw [a.keep p o ho, ho])⟩
    cases q : F' p with
    | none => rfl
    | some u =>
      have z := a.new p h1 (by rw [q]; simp)
      rw [z] at ho
      cases ho
  | .exn x, ⟨v, e, h⟩ => ⟨v, e, hx x v h⟩
  | .clo ps b, h => h
/-- the errors that names hold stay known -/
def Kx.mono (C : Kx) : Prop := ∀ x v F F', Le F F' → C.xs x v F → C.xs x v F'
def Kx.monoX (C : Kx) : Prop := ∀ x v d F F', Le F F' → C.xr x v d F → C.xr x v d F'
theorem Fm.al {C : Kx} (hm : C.mono) {c : Fr} {σ : L2.St} {F H F' H' : Hp} (f : Fm C c σ F H) (a : Al F H F' H') : Fm C c σ F' H' := ⟨f.len, fun i s h => (f.sl i s h).al (fun x v q => hm x v _ _ a.le q) a, f.ne⟩
theorem Kx.par_mono (C : Kx) : C.par.mono := fun _ _ _ _ _ h => h
theorem SR.al {C : Kx} (hm : C.mono) {s : St} {σ : L2.St} {F H F' H' : Hp} (h : SR C s σ F H) (a : Al F H F' H') : SR C s σ F' H' :=
  ⟨a.le2, h.c.al hm a, h.p.al C.par_mono a, h.dj, fun x e => h.zz x (by
    cases q : H x with
    | none => rfl
    | some o => rw [a.keep x o q] at e; cases e), fun x e => h.zp x (by
    cases q : H x with
    | none => rfl
    | some o => rw [a.keep x o q] at e; cases e), fun p hp => (h.tb p hp).mono (fun c q z => a.le _ _ z) (by
      obtain ⟨ps, e⟩ := (h.tb p hp).tbl
      cases q : F' p.1 with
      | none => rfl
      | some o =>
        have z := a.new p.1 (h.tb p hp).1 (by rw [q]; simp)
        rw [e] at z; cases z) fun ps e => (a.keep _ _ e).trans e.symm, fun p hp => a.le _ _ (h.cd p hp)⟩
theorem Al.stp {O : Addr → Prop} {F H F' H' : Hp} (a : Al F H F' H') : Stp O F H F' H' := ⟨a.le, fun x o e _ _ => a.keep x o e, fun x e q => .inl (a.new x e q), fun x e => by
    cases q : H x with
    | none => rfl
    | some o => rw [a.keep x o q] at e; cases e⟩

/-- what an expression does to the state -/
structure PE' (C : Kx) (s : St) (σ : L2.St) (F H : Hp) (s' : St) (F' H' : Hp) : Prop extends Post C s σ F H s' F' H' where
  ks : ∀ (i : Nat) (d : D), s.c[i]? = some (.own d) ∨ s.c[i]? = some (.val d) → ∃ e, s'.c[i]? = some (.own e) ∨ s'.c[i]? = some (.val e)
theorem PE'.refl {C : Kx} {s : St} {σ : L2.St} {F H : Hp} (h : SR C s σ F H) : PE' C s σ F H s F H := ⟨.refl h, fun _ d h => ⟨d, h⟩⟩
theorem PE'.trans {C : Kx} {s s1 s2 : St} {σ : L2.St} {F H F1 H1 F2 H2 : Hp} (a : PE' C s σ F H s1 F1 H1) (b : PE' C s1 σ F1 H1 s2 F2 H2) : PE' C s σ F H s2 F2 H2 :=
  ⟨a.toPost.trans b.toPost, fun i d h => let ⟨_, h⟩ := a.ks i d h; b.ks i _ h⟩
theorem RW.post {C : Kx} {s s' : St} {σ : L2.St} {F H F' H' : Hp} {v : V} {w : W} (h : RW C s σ F H v w) (p : PE' C s σ F H s' F' H') : RW C s' σ F' H' v w := h.step p.toPost p.ks
theorem SR.alP {C : Kx} (hm : C.mono) {s : St} {σ : L2.St} {F H F' H' : Hp} (h : SR C s σ F H) (a : Al F H F' H') : PE' C s σ F H s F' H' :=
  ⟨⟨h.al hm a, a.stp, fun _ h => h, fun _ h => h⟩, fun _ d h => ⟨d, h⟩⟩
theorem RN.rw {C : Kx} {s : St} {σ : L2.St} {F H F' H' : Hp} (h : SR C s σ F H) {v : V} {w : W} (r : RN C.toBk H F' H' v w) : RW C s σ F' H' v w := by
  cases w with
  | val d => exact r
  | own d =>
    obtain ⟨a, rfl, n, e, o⟩ := r
    refine ⟨a, rfl, e, fun q => ?_, h.zz a n, h.zp a n, o⟩
    obtain ⟨_, o, ho⟩ := h.ow q
    rw [n] at ho; cases ho
  | pl i => exact r.elim
/-- what a thing is now -/
theorem RW.pk {C : Kx} {s : St} {σ : L2.St} {F H : Hp} (h : SR C s σ F H) {v : V} {w : W} {d : D} (r : RW C s σ F H v w) (e : peek s w = some d) : PK C.toBk F H v d := by
  cases w with
  | val x => simp only [peek, Option.some.injEq] at e; subst e; exact .inl r
  | own x =>
    simp only [peek, Option.some.injEq] at e; subst e
    obtain ⟨a, rfl, _, _, _, _, o⟩ := r
    exact .inr ⟨a, rfl, o⟩
  | pl i =>
    obtain ⟨hv, q⟩ := r
    rcases q with ⟨x, q⟩ | ⟨x, q⟩
    · simp only [peek, slotAt, q, Option.getD_some, Option.some.injEq] at e
      subst e
      obtain ⟨a, e, _, _, o⟩ := h.c.sl i _ q
      rw [hv] at e
      cases e
      exact .inr ⟨a, rfl, o⟩
    · simp only [peek, slotAt, q, Option.getD_some, Option.some.injEq] at e
      subst e
      obtain ⟨v', e, o⟩ := h.c.sl i _ q
      rw [hv] at e
      cases e
      exact .inl o

/-! ### outcomes -/
def Wp {α : Type} (m : Out α) (Q : α → St → Prop) (N : X → St → Prop) : Prop := match m with
  | .ok a s => Q a s
  | .exc x s => N x s
  | .stk _ => False
theorem Wp_bind {α β : Type} {m : Out α} {f : α → St → Out β} {Q : β → St → Prop} {N : X → St → Prop} : Wp (m.bind f) Q N ↔ Wp m (fun a s => Wp (f a s) Q N) N := by
  cases m <;> rfl
theorem Wp.mono {α : Type} {m : Out α} {Q Q' : α → St → Prop} {N N' : X → St → Prop} (h : Wp m Q N) (hQ : ∀ a s, Q a s → Q' a s) (hN : ∀ x s, N x s → N' x s) : Wp m Q' N' := by
  cases m with
  | ok a s => exact hQ _ _ h
  | exc x s => exact hN _ _ h
  | stk _ => exact h
theorem Wp_opt {α : Type} {o : Option α} {s : St} {m : String} {Q : α → St → Prop} {N : X → St → Prop} (h : Wp (Out.opt s m o) Q N) : ∃ a, o = some a ∧ Q a s := by
  cases o with
  | none => exact h.elim
  | some a => exact ⟨a, rfl, h⟩
end Mid
set_option Elab.async false
set_option linter.all false
set_option maxRecDepth 100000
set_option maxHeartbeats 4000000
/-! Operators, by values. -/
namespace Mid
open PySem PySem.Spec PyProof.Rows
open L2 (Hp HO V RelV Vals SqL SqT Rd upd upd_same upd_ne OpR R2 Inv Cx)

def Bop.py : Bop → Operator
  | .add => .Add | .sub => .Sub | .mul => .Mult | .fdiv => .FloorDiv | .mod => .Mod | .pow => .Pow | .shl => .LShift | .shr => .RShift
def rBin (B : Bk) (o : Bop) : R2 := fun x y H Q => ∃ F d e w, Le F H ∧ PK B F H x d ∧ PK B F H y e ∧ binD o d e = some w ∧ ∀ v F' H', Al F H F' H' → RN B H F' H' v w → Q v H'
theorem line_eq : line = sizeLine := by rw [sizeLine_eq]; rfl
theorem txt_append (i j : List Nat) : txt i ++ txt j = txt (i ++ j) := by
  show (⟨i.toArray ++ j.toArray⟩ : Str) = ⟨(i ++ j).toArray⟩
  simp
theorem txt_length (i : List Nat) : (txt i).length = i.length := by
  show (i.toArray).size = i.length
  simp
section
variable {X : Cx} {pins : List (Addr × Obj)} {σ : L2.St} {H : Hp} {s : Shared} {a : Addr} {xs : List V}
theorem rdL (I : Inv X pins σ H s) (h : Rd H a (.lst xs)) : xs.length ≤ sizeLine ∧ ∃ (its : List Value) (n : Nat), Vals xs its ∧ xs.length = its.length ∧ s.heap.get? a = some { cls := .type "list", data := .seq its.toArray n } := by
  obtain ⟨z, its, n, r, e⟩ := h.ok I.hok
  exact ⟨z, its, n, r, r.length, e⟩
end
section
variable {X : Cx}
def rCatR : R2 := fun x y H Q => ∃ l b xs zs, x = .ref l ∧ y = .ref b ∧ Rd H l (.lst xs) ∧ Rd H b (.lst zs) ∧ xs.length + zs.length ≤ sizeLine ∧ ∀ p, H p = none → Q (.ref p) (upd H p (.lst (xs ++ zs)))
theorem op_catR : OpR X (binaryOp .Add) rCatR := by
  intro pins s σ H x y v u Q I rx ry h
  obtain ⟨l, b, xs, zs, rfl, rfl, hH, hB, hz, q⟩ := h
  cases rx
  cases ry
  obtain ⟨z, its, n, r, hl, e⟩ := rdL I hH
  obtain ⟨z2, its2, n2, r2, hl2, e2⟩ := rdL I hB
  refine PySem.P.add_list e e2 ?_ (by rw [List.size_toArray, List.size_toArray]; omega)
  have ea : its.toArray ++ its2.toArray = (its ++ its2).toArray := by simp
  rw [ea]
  exact ⟨.ref _, _, I.lnew (t' := s.toks) (r.append r2) (by rw [List.length_append]; omega), rfl, q _ I.fresh⟩
/-- a plain tuple is laid -/
theorem laid_tup {pins : List (Addr × Obj)} {σ : L2.St} {H : Hp} {s : Shared} {xs : List V} {its : List Value} {t : Nat} (I : Inv X pins σ H s) (r : Vals xs its) (hz : xs.length ≤ sizeLine) :
    Inv X pins σ (upd H s.heap.objs.size (.frz (TupOb its) (.tup xs))) { s with heap := s.heap.push (TupOb its), toks := t } :=
  I.laid (fun b u e => Heap.get?_push_of_some _ e) (Nat.le_refl _) ⟨Heap.get?_push_size _ rfl, hz, its, r, IsTup.new _ _⟩
theorem nil_vals {xs : List V} {its : List Value} (r : Vals xs its) : its = [] ↔ xs = [] := by cases r <;> simp
/-- t + u, both kept plain -/
def rCatF (K : PySem.W.Frag) : R2 := fun x y H Q => ∃ a b xs ys, x = .ref a ∧ y = .ref b ∧ SqT K H a xs ∧ SqT K H b ys ∧ xs.length + ys.length ≤ sizeLine ∧
  (xs = [] → Q (.ref b) H) ∧ (xs ≠ [] → ys = [] → Q (.ref a) H) ∧ (∀ p its, H p = none → Q (.ref p) (upd H p (.frz (TupOb its) (.tup (xs ++ ys)))))
theorem op_catF : OpR X (binaryOp .Add) (rCatF X.K) := by
  intro pins s σ H x y v u Q I rx ry ⟨a, b, xs, ys, ex, ey, ta, tb, hz, k0, k1, k2⟩
  subst ex ey
  by_cases hx : xs = []
  · exact L2.op_catA pins s σ H _ _ v u Q I rx ry ⟨a, b, xs, ys, rfl, rfl, ta, tb, hz, k0, fun z => absurd hx z, fun z => absurd hx z⟩
  · cases rx
    cases ry
    obtain ⟨i1, r1, p1, _⟩ := I.tuple ta
    obtain ⟨i2, r2, p2, _⟩ := I.tuple tb
    refine HT.cat_tup p1 p2 (mt (nil_vals r1).mp hx) (fun z => ⟨.ref a, H, I, rfl, k1 hx ((nil_vals r2).mp z)⟩) (fun z => ?_) (by rw [← r1.length, ← r2.length]; exact hz)
    exact ⟨.ref _, _, laid_tup (t := s.toks) I (r1.append r2) (by rw [List.length_append]; exact hz), rfl, k2 _ _ I.fresh⟩
/-- t * n, kept plain -/
def rRepF (K : PySem.W.Frag) : R2 := fun x y H Q => ∃ l k xs, x = .ref l ∧ y = .int k ∧ SqT K H l xs ∧ xs ≠ [] ∧ 2 ≤ k ∧ k ≤ 1000 ∧ xs.length ≤ 1000 ∧ ∀ p its, H p = none → Q (.ref p) (upd H p (.frz (TupOb its) (.tup (List.replicate k.toNat xs).flatten)))
theorem op_repF : OpR X (binaryOp .Mult) (rRepF X.K) := by
  intro pins s σ H x y v u Q I rx ry ⟨l, k, xs, ex, ey, tq, ne, klo, khi, hz, q⟩
  subst ex ey
  obtain ⟨t, rfl⟩ := ry
  cases rx
  obtain ⟨its, r, ⟨⟨_, dd, _, sl⟩, ob, ec, n, ed⟩, _⟩ := I.tuple tq
  dsimp only at ec ed
  subst ec ed
  have el : xs.length = its.length := r.length
  have full : its.toArray.isEmpty = false := by
    cases its with
    | nil => cases r; exact absurd rfl ne
    | cons _ _ => rfl
  have e0 : its.toArray.size = xs.length := by simp [el]
  have knn : (0 : Int) ≤ k := by omega
  have total : ((xs.length : Nat) : Int) * k ≤ 1000000 := by
    have : ((xs.length : Nat) : Int) * k ≤ 1000 * k := Int.mul_le_mul_of_nonneg_right (by omega) knn
    omega
  have flat : (List.replicate k.toNat its).flatten.length ≤ sizeLine := by
    rw [PyProof.Rows.lm_len_rep_flat, ← el, sizeLine_eq]
    have : k.toNat * xs.length ≤ 1000 * 1000 := Nat.mul_le_mul (by omega) hz
    omega
  have flat' : (List.replicate k.toNat xs).flatten.length ≤ sizeLine := by
    rw [PyProof.Rows.lm_len_rep_flat]
    rw [PyProof.Rows.lm_len_rep_flat, ← el] at flat
    exact flat
  have a0 : (decide (k < -(2 ^ 63)) || decide (k ≥ 2 ^ 63)) = false := by simp; omega
  have a1 : (its.toArray.isEmpty || k == 1) = false := by rw [full]; simp; omega
  have a2 : (decide (k ≤ 0) || its.toArray.isEmpty) = false := by rw [full]; simp; omega
  have a4 : Builtin.Tuple.tupleTooMany (((its.toArray.size : Nat) : Int) * k) = false := by
    unfold Builtin.Tuple.tupleTooMany
    rw [sizeLine_eq, e0]
    exact decide_eq_false (by omega)
  have inner := @L2.tuple_mulW l its.toArray n dd sl k t a0 a1 a2 (by rw [e0]; omega) a4 (by rw [L2.size_rep, List.size_toArray]; exact flat)
  refine wpAny_binaryOp_repeat_ref (T := "tuple") (U := "int") (by decide) ⟨_, ob, rfl⟩ (fun z => typeIs_int z k t) L2.noFill_tuple_mul F.fills_int_mul F.slot_int_rmul L2.repeat_tuple F.slot_int_index.lookup ?_
  refine call_meets F.slot_int_rmul (typeIs_int s k t) F.entry_int_rmul (F.args_int_rmul_2 _ _) (L2.int_rmul_tuple k t l its.toArray n dd sl) ⟨ob, rfl, ⟨_, ob, rfl⟩, ?_⟩
  refine call_meets F.slot_tuple_mul ⟨_, ob, rfl⟩ F.entry_tuple_mul (F.args_tuple_mul_2 _ _) @inner ⟨ob, ?_⟩
  rw [L2.size_rep]
  exact ⟨.ref _, _, laid_tup (t := s.toks) I (r.rep k.toNat) flat', rfl, q _ _ I.fresh⟩
def rRepR : R2 := fun x y H Q => ∃ l k xs, x = .ref l ∧ y = .int k ∧ Rd H l (.lst xs) ∧ -(2 ^ 63) ≤ k ∧ k < 2 ^ 63 ∧ xs.length * k.toNat ≤ sizeLine ∧
  ∀ p, H p = none → Q (.ref p) (upd H p (.lst (List.replicate k.toNat xs).flatten))
theorem op_repR : OpR X (binaryOp .Mult) rRepR := by
  intro pins s σ H x y v u Q I rx ry h
  obtain ⟨l, k, xs, rfl, rfl, hH, h1, h2, hz, q⟩ := h
  cases rx
  obtain ⟨t, rfl⟩ := ry
  obtain ⟨z, its, n, r, hl, e⟩ := rdL I hH
  have hlen : its.toArray.size * k.toNat ≤ sizeLine := by rw [List.size_toArray, ← hl]; exact hz
  have hcap : ¬ its.toArray.size * k.toNat > (2 ^ 63 - 1) / 8 := by
    have : (sizeLine : Nat) ≤ (2 ^ 63 - 1) / 8 := by decide
    omega
  have hfit : ¬ (!Builtin.List.listFitsIndex k) = true := by
    rw [fitsIndex_both h1 h2]
    exact Bool.false_ne_true
  have hlong : ¬ Builtin.List.listTooLong (its.toArray.size * k.toNat) = true := by
    rw [L2.notLongL hlen]
    exact Bool.false_ne_true
  have hnew : List.foldl (fun x1 x2 => x1 ++ x2) #[] (List.replicate (if its.toArray.isEmpty = true then 0 else k.toNat) its.toArray) = (List.replicate k.toNat its).flatten.toArray := by
    have f0 : ∀ m : Nat, List.foldl (fun x1 x2 => x1 ++ x2) #[] (List.replicate m its.toArray) = (List.replicate m its).flatten.toArray := fun m => by
      have := L2.foldl_rep its m []
      rw [List.nil_append] at this
      exact this
    rw [f0]
    cases its with
    | nil => simp
    | cons a r' => rw [if_neg (by simp)]
  refine wpAny_binaryOp_repeat_ref (T := "list") (U := "int") (by decide) ⟨_, e, rfl⟩ (fun s' => typeIs_int s' k t) noFill_list_mul F.fills_int_mul F.slot_int_rmul repeat_list F.slot_int_index.lookup
    (call_meets F.slot_int_rmul (typeIs_int s k t) F.entry_int_rmul (F.args_int_rmul_2 _ _) (int___rmul___int_list k t l its.toArray n)
      ⟨e, rfl, ⟨_, e, rfl⟩, call_meets F.slot_list_mul ⟨_, e, rfl⟩ F.entry_list_mul (F.args_list_mul_2 _ _) (AutoListH.list___mul___list_int_3 l its.toArray n k t hfit hcap hlong) ⟨e, ?_⟩⟩)
  rw [hnew]
  exact ⟨.ref _, _, I.lnew (t' := s.toks) (r.rep k.toNat) (by rw [PyProof.Rows.lm_len_rep_flat, Nat.mul_comm]; exact hz), rfl, q _ I.fresh⟩
theorem op_bin {B : Bk} (hK : X.K = B.K) (o : Bop) : OpR X (binaryOp o.py) (rBin B o) := by
  intro pins s σ H x y v u Q I rx ry h
  obtain ⟨F, d, e, w, l, px, py, hb, q⟩ := h
  unfold binD at hb
  split at hb
  · obtain rfl := px.int
    obtain rfl := py.int
    cases hb
    exact L2.op_add pins s σ H _ _ v u Q I rx ry ⟨_, _, rfl, rfl, q _ F H (.refl l) (.int _)⟩
  · obtain rfl := px.str
    obtain rfl := py.str
    split at hb
    · cases hb
      rename_i i j hl
      refine L2.op_add_str pins s σ H _ _ v u Q I rx ry ⟨_, _, rfl, rfl, by rw [txt_length, txt_length, ← line_eq]; exact hl, ?_⟩
      rw [txt_append]
      exact q _ F H (.refl l) (.str _)
    · cases hb
  · obtain ⟨a, xs, rfl, ha, fa, dx⟩ := px.tup l
    obtain ⟨b, ys, rfl, hb', fb, dy⟩ := py.tup l
    split at hb
    · cases hb
      rename_i i j hl
      refine op_catF pins s σ H _ _ v u Q I rx ry ⟨a, b, xs, ys, rfl, rfl, by rw [hK]; exact ha, by rw [hK]; exact hb', by rw [dx.length, dy.length, ← line_eq]; exact hl, fun e => ?_, fun _ e => ?_, fun p its hp => ?_⟩
      · subst e
        have := dx.length
        cases dx
        exact q _ F H (.refl l) (.tup fb dy)
      · subst e
        cases dy
        rw [List.append_nil] at q
        exact q _ F H (.refl l) (.tup fa dx)
      · exact q _ _ _ (.frz l hp) (.tup (.inl ⟨its, upd_same⟩) ((dx.append dy).mono (upd_le (l.none hp))))
    · cases hb
  · obtain ⟨a, xs, rfl, ha, dx⟩ := px.lst l
    obtain ⟨b, ys, rfl, hb', dy⟩ := py.lst l
    split at hb
    · cases hb
      rename_i i j hl
      refine op_catR pins s σ H _ _ v u Q I rx ry ⟨a, b, xs, ys, rfl, rfl, ha, hb', by rw [dx.length, dy.length, ← line_eq]; exact hl, fun p hp => ?_⟩
      exact q _ F _ (.own l hp) ⟨p, rfl, hp, l.none hp, _, upd_same, dx.append dy⟩
    · cases hb
  · obtain rfl := px.int
    obtain rfl := py.int
    cases hb
    exact L2.op_sub pins s σ H _ _ v u Q I rx ry ⟨_, _, rfl, rfl, q _ F H (.refl l) (.int _)⟩
  · obtain rfl := px.int
    obtain rfl := py.int
    split at hb
    · cases hb
      rename_i hm
      refine L2.op_mul pins s σ H _ _ v u Q I rx ry ⟨_, _, rfl, rfl, ?_, q _ F H (.refl l) (.int _)⟩
      simp only [mulOk, Bool.or_eq_true, Bool.and_eq_true, decide_eq_true_eq] at hm
      exact hm
    · cases hb
  · obtain ⟨a, xs, rfl, ha, fa, dx⟩ := px.tup l
    obtain rfl := py.int
    split at hb
    · cases hb
      rename_i hm
      obtain ⟨h1, h2, h3, h4⟩ := hm
      refine op_repF pins s σ H _ _ v u Q I rx ry ⟨a, _, xs, rfl, rfl, by rw [hK]; exact ha, fun e => h1 ?_, h2, h3, by rw [dx.length]; exact h4, fun p its hp => ?_⟩
      · subst e
        cases dx
        rfl
      · exact q _ _ _ (.frz l hp) (.tup (.inl ⟨its, upd_same⟩) ((dx.rep _).mono (upd_le (l.none hp))))
    · cases hb
  · obtain ⟨a, xs, rfl, ha, dx⟩ := px.lst l
    obtain rfl := py.int
    split at hb
    · cases hb
      rename_i hm
      obtain ⟨h1, h2, h3⟩ := hm
      have hl : (line : Int) < 2 ^ 63 := by decide
      refine op_repR pins s σ H _ _ v u Q I rx ry ⟨a, _, xs, rfl, rfl, ha, by omega, by omega, by rw [dx.length, ← line_eq]; exact h2, fun p hp => ?_⟩
      exact q _ F _ (.own l hp) ⟨p, rfl, hp, l.none hp, _, upd_same, dx.rep _⟩
    · cases hb
  · obtain rfl := px.int
    obtain rfl := py.int
    split at hb
    · cases hb
      rename_i hm
      exact L2.op_fdiv pins s σ H _ _ v u Q I rx ry ⟨_, _, rfl, rfl, hm, q _ F H (.refl l) (.int _)⟩
    · cases hb
  · obtain rfl := px.int
    obtain rfl := py.int
    split at hb
    · cases hb
      rename_i hm
      exact L2.op_mod pins s σ H _ _ v u Q I rx ry ⟨_, _, rfl, rfl, hm, q _ F H (.refl l) (.int _)⟩
    · cases hb
  · obtain rfl := px.int
    obtain rfl := py.int
    split at hb
    · cases hb
      rename_i hm
      exact L2.op_shl pins s σ H _ _ v u Q I rx ry ⟨_, _, rfl, rfl, hm, q _ F H (.refl l) (.int _)⟩
    · cases hb
  · obtain rfl := px.int
    obtain rfl := py.int
    split at hb
    · cases hb
      rename_i hm
      exact L2.op_shr pins s σ H _ _ v u Q I rx ry ⟨_, _, rfl, rfl, hm, q _ F H (.refl l) (.int _)⟩
    · cases hb
  · obtain rfl := px.int
    obtain rfl := py.int
    split at hb
    · cases hb
      rename_i hm
      exact L2.op_pow pins s σ H _ _ v u Q I rx ry ⟨_, _, rfl, rfl, hm, q _ F H (.refl l) (.int _)⟩
    · cases hb
  · cases hb
end
end Mid
set_option Elab.async false
set_option linter.all false
set_option maxRecDepth 100000
set_option maxHeartbeats 4000000
/-! Comparisons, by values. -/
namespace Mid
open PySem PySem.Spec PyProof.Rows
open L2 (Hp HO V RelV Vals SqL SqT Rd upd upd_same upd_ne OpR R2 Inv Cx Dp DpAll EP VK)
mutual
/-- as the library's data -/
def py : D → PyData
  | .non => .none
  | .bl b => .bool b
  | .int i => .int i
  | .str s => .str (txt s)
  | .tup xs => .tuple (pys xs)
  | .lst xs => .list (pys xs)
  | .dic _ => .none
  | .fn _ => .none
def pys : List D → List PyData
  | [] => []
  | d :: r => py d :: pys r
end
theorem pys_map : ∀ ds : List D, pys ds = ds.map py
  | [] => rfl
  | d :: r => by rw [pys, pys_map r]; rfl
mutual
theorem dp_of {B : Bk} {F H : Hp} (l : Le F H) : ∀ {d : D} {v : V}, d.pure = true → DV B F v d → Dp B.K H v (py d)
  | .non, _, _, .non => .non
  | .bl b, _, _, .bl _ => .bl b
  | .int i, _, _, .int _ => .int i
  | .str s, _, _, .str _ => .str _
  | .tup xs, _, p, .tup h q => .tup (l.sqT h.sq) (dps_of l (by simpa [D.pure] using p) q)
  | .lst xs, _, p, .lst h q => .lst (.inl (l.rd h)) (dps_of l (by simpa [D.pure] using p) q)
  | .dic _, _, p, _ => by simp [D.pure] at p
  | .fn _, _, p, _ => by simp [D.pure] at p
theorem dps_of {B : Bk} {F H : Hp} (l : Le F H) : ∀ {ds : List D} {vs : List V}, D.pures ds = true → DVs B F vs ds → DpAll B.K H vs (pys ds)
  | [], _, _, .nil => .nil
  | d :: r, _, p, .cons h q => by
    simp only [D.pures, Bool.and_eq_true] at p
    exact .cons (dp_of l p.1 h) (dps_of l p.2 q)
end
mutual
theorem lay_py : ∀ d : D, d.pure = true → (py d).canLay0 = true
  | .non, _ => by simp [py, PyData.canLay0]
  | .bl _, _ => by simp [py, PyData.canLay0]
  | .int _, _ => by simp [py, PyData.canLay0]
  | .str s, p => by
    simp only [D.pure, List.all_eq_true, decide_eq_true_eq] at p
    simpa [py, PyData.canLay0, PyData.strOk, txt] using p
  | .tup xs, p => by simp only [D.pure] at p; simp only [py, PyData.canLay0]; exact lays_py xs p
  | .lst xs, p => by simp only [D.pure] at p; simp only [py, PyData.canLay0]; exact lays_py xs p
  | .dic _, p => by simp [D.pure] at p
  | .fn _, p => by simp [D.pure] at p
theorem lays_py : ∀ ds : List D, D.pures ds = true → PyData.canLayAll0 (pys ds) = true
  | [], _ => by simp [pys, PyData.canLayAll0]
  | d :: r, p => by
    simp only [D.pures, Bool.and_eq_true] at p
    simp only [pys, PyData.canLayAll0, lay_py d p.1, lays_py r p.2, Bool.and_self]
end
mutual
theorem depth_py : ∀ d : D, (py d).depth ≤ d.depth
  | .non => by simp [py, PyData.depth]
  | .bl _ => by simp [py, PyData.depth]
  | .int _ => by simp [py, PyData.depth]
  | .str s => by simp [py, PyData.depth]
  | .tup xs => by have := depths_py xs; simp only [py, PyData.depth, D.depth]; omega
  | .lst xs => by have := depths_py xs; simp only [py, PyData.depth, D.depth]; omega
  | .dic _ => by simp [py, PyData.depth]
  | .fn _ => by simp [py, PyData.depth]
theorem depths_py : ∀ ds : List D, PyData.depthAll (pys ds) ≤ D.depths ds
  | [] => by simp [pys, PyData.depthAll]
  | d :: r => by
    have h1 := depth_py d
    have h2 := depths_py r
    simp only [pys, PyData.depthAll, D.depths]
    omega
end
theorem shaped_py {d : D} (p : d.pure = true) (h : d.depth ≤ 63) : SeqAt.shaped (py d) = true := by
  have := depth_py d
  show ((py d).canLay0 && decide ((py d).depth ≤ 64)) = true
  rw [lay_py d p, Bool.true_and]
  exact decide_eq_true (by omega)
mutual
theorem eqv_py : ∀ a b : D, a.pure = true → b.pure = true → PyData.eqv (py a) (py b) = a.eqv b
  | .non, b, _, hb => by cases b <;> simp_all [py, PyData.eqv, D.eqv, D.pure]
  | .bl x, b, _, hb => by cases b <;> simp_all [py, PyData.eqv, D.eqv, D.pure, b2i]
  | .int i, b, _, hb => by cases b <;> simp_all [py, PyData.eqv, D.eqv, D.pure, b2i]
  | .str s, b, _, hb => by
    cases b with
    | str t =>
      simp only [py, PyData.eqv, D.eqv]
      by_cases h : s = t
      · subst h; simp
      · have : ¬ txt s = txt t := fun e => h (txt_inj.mp e)
        rw [beq_eq_false_iff_ne.mpr this, beq_eq_false_iff_ne.mpr h]
    | _ => simp_all [py, PyData.eqv, D.eqv, D.pure]
  | .tup xs, b, ha, hb => by
    cases b with
    | tup ys => simp only [D.pure] at ha hb; simp only [py, PyData.eqv, D.eqv]; exact eqvs_py xs ys ha hb
    | _ => simp_all [py, PyData.eqv, D.eqv, D.pure]
  | .lst xs, b, ha, hb => by
    cases b with
    | lst ys => simp only [D.pure] at ha hb; simp only [py, PyData.eqv, D.eqv]; exact eqvs_py xs ys ha hb
    | _ => simp_all [py, PyData.eqv, D.eqv, D.pure]
  | .dic _, _, ha, _ => by simp [D.pure] at ha
  | .fn _, _, ha, _ => by simp [D.pure] at ha
theorem eqvs_py : ∀ a b : List D, D.pures a = true → D.pures b = true → PyData.eqvAll (pys a) (pys b) = D.eqvs a b
  | [], b, _, _ => by cases b <;> simp [pys, PyData.eqvAll, D.eqvs]
  | x :: r, b, ha, hb => by
    cases b with
    | nil => simp [pys, PyData.eqvAll, D.eqvs]
    | cons y q =>
      simp only [D.pures, Bool.and_eq_true] at ha hb
      simp only [pys, PyData.eqvAll, D.eqvs, eqv_py x y ha.1 hb.1, eqvs_py r q ha.2 hb.2]
end
theorem any_py : ∀ (xs : List D) (a : D), D.pures xs = true → a.pure = true → ((pys xs).any fun y => PyData.eqv y (py a)) = xs.any fun x => x.eqv a
  | [], _, _, _ => rfl
  | x :: r, a, h, p => by
    simp only [D.pures, Bool.and_eq_true] at h
    simp only [pys, List.any_cons, eqv_py x a h.1 p, any_py r a h.2 p]
/-- t < u, item by item, up to the first unlike pair -/
inductive Lex (A : Around) (s : Shared) : List Value → List Value → Bool → Prop
  | nn : Lex A s [] [] false
  | nc {v : Value} {vs : List Value} : Lex A s [] (v :: vs) true
  | cn {v : Value} {vs : List Value} : Lex A s (v :: vs) [] false
  | eq {u v : Value} {us vs : List Value} {b : Bool} : SeqAt.EqAt A s u v true → Lex A s us vs b → Lex A s (u :: us) (v :: vs) b
  | lt {u v : Value} {us vs : List Value} {b : Bool} : SeqAt.EqAt A s u v false → Ob.RcOp .Lt A s u v b → Lex A s (u :: us) (v :: vs) b
section
open PySem.SeqAt
open PySem.AutoSeq1 (wpAny_loadPart')
open PySem.MeetsSeq PySem.MeetsSeq2 PySem.MeetsSeq3
theorem tuple_lt_lex (l b : Addr) (items items2 : Array Value) (n n2 : Nat) (dd dd2 : Option Addr) (sl sl2 : Array (Option Value)) (k : Bool) :
    Meets (Builtin.«tuple.__lt__» ⟨[.ref l, .ref b], []⟩)
      (fun A R s => s.heap.get? l = some { cls := .type "tuple", dict := dd, data := .seq items n, slots := sl } ∧ s.heap.get? b = some { cls := .type "tuple", dict := dd2, data := .seq items2 n2, slots := sl2 } ∧
        Lex A.in1 s items.toList items2.toList k ∧ R (.ok (.ret (.bool k))) s) :=
  .of_wp fun prog w A R s h => by
    obtain ⟨hp, g, d, tk, os⟩ := s; obtain ⟨hl, hb, he, h⟩ := h
    have f2 := AutoSeq1.sub_tuple_tuple
    wp_walk using wpAny_loadPart' hl, wpAny_loadPart' hb, wpAny_forIn_list _ (fun rest b s' => b.1 = none ∧ s' = ⟨hp, g, d, tk, os⟩ ∧ ∃ (vs ws : List Value), rest = vs.zip ws ∧
      vs.length + items2.size = ws.length + items.size ∧ Lex A.in1 ⟨hp, g, d, tk, os⟩ vs ws k) _
    case turn =>
      rintro ⟨y, x⟩ rest b s' ⟨hb', rfl, vs, ws, hz, hlen, hR⟩
      cases hR with
      | nn => rw [List.zip_nil_left] at hz; cases hz
      | nc => rw [List.zip_nil_left] at hz; cases hz
      | cn => rw [List.zip_nil_right] at hz; cases hz
      | eq he hR' =>
        rw [List.zip_cons_cons] at hz
        injection hz with hyx hrest
        injection hyx with hy hx
        subst hy hx
        simp only [List.length_cons] at hlen
        refine wpAny_bind (he prog w _ _ ?_)
        wp_walk
        exact ⟨rfl, rfl, _, _, hrest, by omega, hR'⟩
      | lt he hr =>
        rw [List.zip_cons_cons] at hz
        injection hz with hyx hrest
        injection hyx with hy hx
        subst hy hx
        refine wpAny_bind (he prog w _ _ ?_)
        have hri := hr prog w
        wp_walk using hri
        exact ⟨_, rfl, by simpa using h⟩
    case fin =>
      rintro ⟨b1, b2⟩ s' ⟨hb', rfl, vs, ws, hz, hlen, hR⟩
      simp only at hb'
      subst hb'
      have hv : k = decide (items.size < items2.size) := by
        cases hR with
        | nn => simp only [List.length_nil] at hlen; exact (decide_eq_false (by omega)).symm
        | nc => simp only [List.length_nil, List.length_cons] at hlen; exact (decide_eq_true (by omega)).symm
        | cn => simp only [List.length_nil, List.length_cons] at hlen; exact (decide_eq_false (by omega)).symm
        | eq _ _ => rw [List.zip_cons_cons] at hz; cases hz
        | lt _ _ => rw [List.zip_cons_cons] at hz; cases hz
      rw [hv] at h
      wp_walk
      exact ⟨_, rfl, by simpa [Builtin.Tuple.tupleCompareSizes] using h⟩
    case h =>
      exact ⟨rfl, rfl, items.toList, items2.toList, rfl, by simp only [Array.length_toList]; omega, he⟩
theorem lt_tuples {A : Around} {s : Shared} {l b : Addr} {items items2 : Array Value} {k : Bool} (hl : s.heap.IsTuple l items) (hb : s.heap.IsTuple b items2) (hu : A.units < cLine)
    (he : Lex A.in1 s items.toList items2.toList k) : Ob.RcOp .Lt A s (.ref l) (.ref b) k := fun prog w E Q h => by
  obtain ⟨⟨cls, dd, data, sl⟩, ho, hc, n, hd⟩ := id hl
  obtain ⟨⟨cls2, dd2, data2, sl2⟩, ho2, hc2, n2, hd2⟩ := id hb
  simp only at hc hd hc2 hd2
  subst hc hd hc2 hd2
  exact richCompare_meets_room (op := .Lt) ⟨_, ho, rfl⟩ ⟨_, ho2, rfl⟩ F.slot_tuple_lt F.entry_tuple_lt (F.args_tuple_lt_2 _ _) (tuple_lt_lex l b items items2 n n2 dd dd2 sl sl2 k)
    ⟨ho, ho2, he, ⟨(fun x => nomatch x), h⟩⟩ hu
end
theorem ltS_eq : ∀ i j : List Nat, decide (i < j) = ltS i j
  | [], [] => by simp [ltS]
  | [], _ :: _ => by simp [ltS]
  | _ :: _, [] => by simp [ltS]
  | a :: r, b :: q => by
    have ih := ltS_eq r q
    simp only [ltS]
    by_cases h1 : a < b
    · simp [h1, List.cons_lt_cons_iff]
    · by_cases h2 : b < a
      · have : ¬ a = b := by omega
        simp [h1, h2, List.cons_lt_cons_iff, this]
      · have : a = b := by omega
        subst this
        simp [List.cons_lt_cons_iff, ← ih]
/-- a comparison by values: its answer, nothing else -/
def rCmp (B : Bk) (o : Cop) : R2 := fun x y H Q => ∃ F d e b, Le F H ∧ PK B F H x d ∧ PK B F H y e ∧ cmpD o d e = some b ∧ Q (.bl b) H
def Cop.py : Cop → CmpOp
  | .eq => .Eq | .ne => .NotEq | .lt => .Lt | .le => .LtE | .gt => .Gt | .ge => .GtE | .isin => .In | .notin => .NotIn
/-- the value u, over the abstract heap, is d -/
def VD (B : Bk) (H : Hp) (u : Value) (d : D) : Prop := ∃ v, RelV v u ∧ DV B H v d
section
variable {X : Cx} {pins : List (Addr × Obj)} {σ : L2.St} {H : Hp} {s : Shared} {B : Bk}
theorem reads_of (I : Inv X pins σ H s) (hK : X.K = B.K) {d : D} {v : V} {u : Value} (p : d.pure = true) (h : DV B H v d) (r : RelV v u) : ∃ as, Reads s.heap u (py d) as :=
  Dp.reads I (py d) v u (by rw [hK]; exact dp_of (.refl H) p h) r
theorem eqAt_of (I : Inv X pins σ H s) (hK : X.K = B.K) {d e : D} {u v : Value} (hd : VD B H u d) (he : VD B H v e) (pd : d.pure = true) (pe : e.pure = true) {A : Around} (hu : A.units + min d.depth e.depth < cLine) : SeqAt.EqAt A s u v (d.eqv e) := by
  obtain ⟨x, rx, hx⟩ := hd
  obtain ⟨y, ry, hy⟩ := he
  obtain ⟨as, r1⟩ := reads_of I hK pd hx rx
  obtain ⟨bs, r2⟩ := reads_of I hK pe hy ry
  have h1 := depth_py d
  have h2 := depth_py e
  rw [← eqv_py d e pd pe]
  exact SeqAt.eqAt_reads _ _ A s u v as bs r1 r2 (lay_py d pd) (lay_py e pe) (by omega)
/-- what is held of a heap alone -/
structure Hi (X : Cx) (H : Hp) (h : Heap) : Prop where
  hok : L2.HOk X.prog X.w H h
  kin : X.K.In h
theorem Inv.hi' {X : Cx} {pins : List (Addr × Obj)} {σ : L2.St} {H : Hp} {s : Shared} (I : Inv X pins σ H s) : Hi X H s.heap := ⟨I.hok, I.kIn⟩
theorem Hi.tuple {X : Cx} {H : Hp} {h : Heap} (I : Hi X H h) {a : Addr} {xs : List V} (q : SqT X.K H a xs) : ∃ its : List Value, Vals xs its ∧ IsTup h a its.toArray ∧ xs.length ≤ sizeLine := by
  rcases q with q | ⟨o, its, n, hk, hc, hs, hz, r⟩
  · obtain ⟨z, its, r, p⟩ := q.ok I.hok
    exact ⟨its, r, p, z⟩
  · have e : xs.length = its.toList.length := r.length
    refine ⟨its.toList, r, ⟨o, I.kin a o hk, hc, n, by simpa using hs⟩, ?_⟩
    simp only [Array.length_toList] at e
    omega
mutual
/-- a key, as the library's -/
theorem nested_of (I : Hi X H s.heap) (hK : X.K = B.K) : ∀ (d : D) (u : Value), d.key = true → VD B H u d → NestedIs s.heap (nk d) u
  | .int i, u, _, ⟨_, r, .int _⟩ => by obtain ⟨t, rfl⟩ := r; exact .int i t
  | .str x, u, _, ⟨_, r, .str _⟩ => by obtain ⟨t, rfl⟩ := r; exact .text _ t
  | .tup xs, u, h, ⟨_, r, .tup h1 q1⟩ => by
    cases r
    obtain ⟨its, r1, ⟨o, ho, hc, n, hd⟩, _⟩ := I.tuple (by rw [hK]; exact h1.sq)
    simp only [D.key] at h
    exact .tup ho hc hd (nesteds_of I hK xs _ its h q1 r1)
  | .non, _, h, _ => by simp [D.key] at h
  | .bl _, _, h, _ => by simp [D.key] at h
  | .lst _, _, h, _ => by simp [D.key] at h
  | .dic _, _, h, _ => by simp [D.key] at h
  | .fn _, _, h, _ => by simp [D.key] at h
theorem nesteds_of (I : Hi X H s.heap) (hK : X.K = B.K) : ∀ (ds : List D) (vs : List V) (us : List Value), D.keys ds = true → DVs B H vs ds → Vals vs us → NestedAll s.heap (nks ds) us
  | [], _, _, _, .nil, .nil => .nil
  | d :: r, _, _, h, .cons h1 q1, .cons r1 rr => by
    simp only [D.keys, Bool.and_eq_true] at h
    exact .cons (nested_of I hK d _ h.1 ⟨_, r1, h1⟩) (nesteds_of I hK r _ _ h.2 q1 rr)
end
theorem eqKey_of (I : Hi X H s.heap) (hK : X.K = B.K) {d e : D} {u v : Value} (hd : VD B H u d) (he : VD B H v e) (pd : d.key = true) (pe : e.key = true) {A : Around} (hu : A.units + d.depth < cLine) : SeqAt.EqAt A s u v (decide (d = e)) := by
  have h := eqAt_key (nk d) (nk e) A s u v (nested_of I hK d u pd hd) (nested_of I hK e v pe he) (by rw [nk_depth d pd, nk_depth e pe]; omega)
  rw [← NestedKey.decide_eq] at h
  by_cases q : d = e
  · subst q
    rw [decide_eq_true rfl] at h ⊢
    exact h
  · rw [decide_eq_false (fun z => q (nk_inj d e pd pe z))] at h
    rw [decide_eq_false q]
    exact h
/-- < of keys -/
theorem lt_of (I : Inv X pins σ H s) (hK : X.K = B.K) : ∀ (n : Nat) (d e : D) (u v : Value) (b : Bool) (A : Around), d.depth ≤ n → VD B H u d → VD B H v e → D.lt d e = some b → A.units + n < cLine → Ob.RcOp .Lt A s u v b := by
  intro n
  induction n with
  | zero =>
    intro d e u v b A hn hd he hb hu
    obtain ⟨x, rx, hx⟩ := hd
    obtain ⟨y, ry, hy⟩ := he
    cases hx <;> cases hy <;> simp only [D.lt, Option.some.injEq, reduceCtorEq] at hb
    · subst hb
      obtain ⟨t, rfl⟩ := rx
      obtain ⟨t', rfl⟩ := ry
      exact Ob.RcOp.lt_int _ _ t t'
    · subst hb
      obtain ⟨t, rfl⟩ := rx
      obtain ⟨t', rfl⟩ := ry
      intro prog w E Q h
      refine PyProof.Rows.lt_str ?_
      rw [ltS_eq]
      exact h
    · simp [D.depth] at hn
  | succ n ih =>
    intro d e u v b A hn hd he hb hu
    obtain ⟨x, rx, hx⟩ := hd
    obtain ⟨y, ry, hy⟩ := he
    cases hx <;> cases hy <;> simp only [D.lt, Option.some.injEq, reduceCtorEq] at hb
    · subst hb
      obtain ⟨t, rfl⟩ := rx
      obtain ⟨t', rfl⟩ := ry
      exact Ob.RcOp.lt_int _ _ t t'
    · subst hb
      obtain ⟨t, rfl⟩ := rx
      obtain ⟨t', rfl⟩ := ry
      intro prog w E Q h
      refine PyProof.Rows.lt_str ?_
      rw [ltS_eq]
      exact h
    · rename_i a xs ds h1 q1 a2 ys es h2 q2
      cases rx; cases ry
      obtain ⟨its, r1, p1, _⟩ := I.tuple (by rw [hK]; exact h1.sq)
      obtain ⟨its2, r2, p2, _⟩ := I.tuple (by rw [hK]; exact h2.sq)
      refine lt_tuples p1 p2 (by omega) ?_
      have hdep : D.depths ds ≤ n := by simp only [D.depth] at hn; omega
      have key : ∀ (ds es : List D) (xs ys : List V) (us vs : List Value), D.depths ds ≤ n → DVs B H xs ds → DVs B H ys es → Vals xs us → Vals ys vs → D.lts ds es = some b → Lex A.in1 s us vs b := by
        intro ds
        induction ds with
        | nil =>
          intro es xs ys us vs _ q1 q2 r1 r2 hb
          cases q1
          cases r1
          cases q2 with
          | nil => cases r2; simp only [D.lts, Option.some.injEq] at hb; subst hb; exact .nn
          | cons _ _ => cases r2; simp only [D.lts, Option.some.injEq] at hb; subst hb; exact .nc
        | cons d r ih2 =>
          intro es xs ys us vs hdp q1 q2 r1 r2 hb
          cases q1 with
          | cons hv1 q1 =>
            cases r1 with
            | cons rv1 r1 =>
              cases q2 with
              | nil => cases r2; simp only [D.lts, Option.some.injEq] at hb; subst hb; exact .cn
              | cons hv2 q2 =>
                cases r2 with
                | cons rv2 r2 =>
                  simp only [D.depths] at hdp
                  simp only [D.lts] at hb
                  split at hb
                  · rename_i hk
                    simp only [Bool.and_eq_true] at hk
                    have he := eqKey_of (Inv.hi' I) hK ⟨_, rv1, hv1⟩ ⟨_, rv2, hv2⟩ hk.1 hk.2 (A := A.in1) (by rw [Around.in1_units]; omega)
                    split at hb
                    · rename_i hde
                      rw [decide_eq_true hde] at he
                      exact .eq he (ih2 _ _ _ _ _ (by omega) q1 q2 r1 r2 hb)
                    · rename_i hde
                      rw [decide_eq_false hde] at he
                      exact .lt he (ih _ _ _ _ _ _ (by omega) ⟨_, rv1, hv1⟩ ⟨_, rv2, hv2⟩ hb (by rw [Around.in1_units]; omega))
                  · cases hb
      have := key ds es xs ys its its2 hdep q1 q2 r1 r2 hb
      simpa using this
end
end Mid
set_option Elab.async false
set_option linter.all false
set_option maxRecDepth 100000
set_option maxHeartbeats 4000000
/-! Dicts with keys of any kind, over their entries. -/
namespace Mid
open PySem PySem.Spec PyProof.Rows
open L2 (Hp HO V RelV Vals SqL SqT Rd upd upd_same upd_ne OpR R2 Inv Cx EP VK)

/-- how the entries es stand to the pairs kvs -/
def EntOk (B : Bk) (H : Hp) (es : Array DictEntry) (kvs : List (D × D)) : Prop := es.size = kvs.length ∧ ∀ j (hj : j < es.size), ∃ p, kvs[j]? = some p ∧ DKe B H es[j] p
theorem DKs.ent {B : Bk} {H : Hp} {es : Array DictEntry} {kvs : List (D × D)} (h : DKs B H es.toList kvs) : EntOk B H es kvs := by
  refine ⟨by rw [← h.length, Array.length_toList], fun j hj => ?_⟩
  exact h.get' (e := es[j]) (by simp [hj])
theorem DKe.vd {B : Bk} {H : Hp} {e : DictEntry} {p : D × D} (h : DKe B H e p) : VD B H e.key p.1 ∧ VD B H e.val p.2 := by
  obtain ⟨k, v, a, b, c, d⟩ := h.ex
  exact ⟨⟨k, a, c⟩, ⟨v, b, d⟩⟩
theorem keyOk_key {k : D} (h : keyOk k = true) : k.key = true ∧ k.depth ≤ 7 := by
  simp only [keyOk, Bool.and_eq_true, decide_eq_true_eq] at h
  exact h
section
variable {prog : Program} {w : World} {A : Around} {E : Value → Shared → Prop} {s : Shared}
/-- the table's answer about order: all is quiet -/
theorem mayTell_quiet {u : Value} {stored : List Value} {Q : Bool → Shared → Prop} (hk : QuietAt prog w 8 s u) (hst : ∀ v ∈ stored, QuietAt prog w 8 s v) (h : Q false s) : wpAny (model prog w) A (tableMayTell u stored) Q E s := by
  unfold tableMayTell
  split
  · exact wpAny_pure h
  · refine wpAny_bind (hk _ _ _ ?_)
    simp only [Bool.not_true, Bool.false_eq_true, if_false]
    refine wpAny_bind ?_
    refine wpAny_forIn_list _ (fun rest r s' => s' = s ∧ r = (none, ()) ∧ ∀ v ∈ rest, QuietAt prog w 8 s v) _ ?_ ?_ _ _ ⟨rfl, rfl, hst⟩
    · rintro x rest r s' ⟨rfl, rfl, hr⟩
      refine wpAny_bind (hr x List.mem_cons_self _ _ _ ?_)
      simp only [Bool.not_true, Bool.false_eq_true, if_false]
      exact wpAny_pure ⟨rfl, rfl, fun v hv => hr v (List.mem_cons_of_mem _ hv)⟩
    · rintro r s' ⟨rfl, rfl, _⟩
      exact wpAny_pure h
/-- the search, by what equality and hashes say -/
theorem dictFind_by {d : Addr} {o : Obj} {es : Array DictEntry} {ep : Nat} {kvs : List (D × D)} {k : D} {u : Value} {hs : Int} {hash : D → Int} {Q : Option Nat → Shared → Prop}
    (ho : s.heap.get? d = some o) (hd : o.data = .dict es ep) (hsz : es.size = kvs.length) (hk0 : hs = hash k)
    (heq : ∀ j (hj : j < es.size) p, kvs[j]? = some p → SeqAt.EqAt A s es[j].key u (decide (p.1 = k)))
    (hhash : ∀ j (hj : j < es.size) p, kvs[j]? = some p → es[j].hash = hash p.1)
    (hq : QuietAt prog w 8 s u) (hqs : ∀ j (hj : j < es.size), QuietAt prog w 8 s es[j].key)
    (hstr : ∀ x t, u = .str x t → ∀ j (hj : j < es.size) p, kvs[j]? = some p → isExactStrKey es[j].key = true → (es[j].key.isStr x = decide (p.1 = k)))
    (hself : ∀ j (hj : j < es.size) p, kvs[j]? = some p → es[j].key = u → p.1 = k)
    (hkind : (∃ i t, u = .int i t) ∨ (∃ x t, u = .str x t) ∨ ∃ a, u = .ref a)
    (hn : (kvs.map (·.1)).Nodup)
    (hnone : (∀ (j : Nat) (p : D × D), kvs[j]? = some p → p.1 ≠ k) → Q none s) (hsome : ∀ (j : Nat) (p : D × D), kvs[j]? = some p → p.1 = k → Q (some j) s) :
    wpAny (model prog w) A (dictFind d u hs) Q E s := by
  subst hk0
  have at_ : ∀ j (hj : j < es.size), ∃ p, kvs[j]? = some p := fun j hj => ⟨kvs[j]'(by omega), List.getElem?_eq_getElem _⟩
  have uniq : ∀ {i j : Nat} {p q : D × D}, kvs[i]? = some p → kvs[j]? = some q → p.1 = q.1 → i = j := by
    intro i j p q hi hj e
    have hi' : (kvs.map (·.1))[i]? = some p.1 := by rw [List.getElem?_map, hi]; rfl
    have hj' : (kvs.map (·.1))[j]? = some p.1 := by rw [List.getElem?_map, hj, e]; rfl
    obtain ⟨a1, a2⟩ := List.getElem?_eq_some_iff.mp hi'
    obtain ⟨b1, b2⟩ := List.getElem?_eq_some_iff.mp hj'
    exact (List.getElem_inj hn).mp (a2.trans b2.symm)
  have haskey : ∀ (j : Nat) (p : D × D), kvs[j]? = some p → p.1 = k → ((es[j]?.map (·.hash)) == some (hash k)) = true := by
    intro j p hj e
    have hlt : j < es.size := by rw [hsz]; exact (List.getElem?_eq_some_iff.mp hj).1
    rw [Array.getElem?_eq_getElem hlt, Option.map_some, hhash j hlt p hj, e]
    simp
  -- the plain walk, and the general one, by one invariant
  have plain : wpAny (model prog w) A (dictWalkPlain d u (hash k) es (placesWithHash es.size (fun i => es[i]?.map (·.hash)) (hash k))) Q E s := by
    unfold dictWalkPlain
    refine wpAny_bind ?_
    refine wpAny_forIn_list _
      (fun rest b s' => s' = s ∧ b = (none, ()) ∧ ∃ i, rest = (List.range' i (es.size - i)).filter (fun i => (es[i]?.map (·.hash)) == some (hash k)) ∧ i ≤ es.size ∧
        ∀ j p, j < i → kvs[j]? = some p → p.1 ≠ k) _ ?_ ?_ _ _
      ⟨rfl, rfl, 0, by rw [placesWithHash, List.range_eq_range', Nat.sub_zero], Nat.zero_le _, fun _ _ h => absurd h (Nat.not_lt_zero _)⟩
    · rintro x rest b s' ⟨rfl, rfl, i, hr, hi, hno⟩
      obtain ⟨hix, hxn, hpx, hskip, hrest⟩ := filter_range'_cons _ _ _ _ _ hr.symm
      have hlt : x < es.size := by omega
      obtain ⟨p, hp⟩ := at_ x hlt
      have hrest' : rest = (List.range' (x + 1) (es.size - (x + 1))).filter (fun i => (es[i]?.map (·.hash)) == some (hash k)) := by rw [hrest]; congr 2; omega
      have hnext : p.1 ≠ k → ∀ j q, j < x + 1 → kvs[j]? = some q → q.1 ≠ k := fun hne j q hj hq' => by
        rcases Nat.lt_or_ge j i with h | h
        · exact hno j q h hq'
        · rcases Nat.lt_or_ge j x with h' | h'
          · intro e
            have := hskip j h h'
            rw [haskey j q hq' e] at this
            cases this
          · have : j = x := by omega
            subst this
            rw [hp] at hq'
            cases hq'
            exact hne
      simp only [Array.getElem?_eq_getElem hlt]
      by_cases hh : (es[x].hash == hash k) = true
      · rw [if_pos hh]
        refine wpAny_bind (wpAny_dictEpoch ho hd (wpAny_bind (heq x hlt p hp prog w _ _ (wpAny_bind (wpAny_dictEpoch ho hd ?_)))))
        show wpAny _ _ (if (ep != ep) = true then _ else _) _ E _
        rw [if_neg (by simp)]
        by_cases hkk : p.1 = k
        · rw [decide_eq_true hkk]
          exact wpAny_bind (wpAny_rule (wpAny_pure (wpAny_pure (hsome x p hp hkk))))
        · rw [decide_eq_false hkk]
          exact wpAny_bind (wpAny_rule (wpAny_pure ⟨rfl, rfl, x + 1, hrest', hlt, hnext hkk⟩))
      · rw [if_neg hh]
        refine wpAny_pure ⟨rfl, rfl, x + 1, hrest', hlt, hnext fun hkk => hh ?_⟩
        rw [hhash x hlt p hp, hkk]
        simp
    · rintro b s' ⟨rfl, rfl, i, hr, hi, hno⟩
      refine wpAny_pure (hnone fun j p hj e => ?_)
      rcases Nat.lt_or_ge j i with h | h
      · exact hno j p h hj e
      · have hjl : j < es.size := by rw [hsz]; exact (List.getElem?_eq_some_iff.mp hj).1
        have := List.filter_eq_nil_iff.mp hr.symm j (List.mem_range'_1.mpr ⟨h, by omega⟩)
        exact this (haskey j p hj e)
  have hany : ∀ a, u = .ref a → ¬ (es.any fun e => e.key == Value.ref a && e.hash != hash k) = true := by
    rintro a rfl
    rw [← Array.any_toList, List.any_eq_true]
    rintro ⟨e, hin, hc⟩
    obtain ⟨j, hj, rfl⟩ := Array.mem_iff_getElem.mp (Array.mem_toList_iff.mp hin)
    simp only [Bool.and_eq_true, beq_iff_eq, bne_iff_ne, ne_eq] at hc
    obtain ⟨p, hp⟩ := at_ j hj
    exact hc.2 (by rw [hhash j hj p hp, hself j hj p hp hc.1])
  have hst : ∀ v ∈ (placesWithHash es.size (fun i => es[i]?.map (·.hash)) (hash k)).filterMap (fun i => es[i]?.map (·.key)), QuietAt prog w 8 s v := by
    intro v hv
    obtain ⟨i, _, hi⟩ := List.mem_filterMap.mp hv
    cases hei : es[i]? with
    | none => rw [hei] at hi; cases hi
    | some e =>
      rw [hei] at hi
      obtain rfl : e.key = v := by simpa using hi
      obtain ⟨hj, rfl⟩ := Array.getElem?_eq_some_iff.mp hei
      exact hqs i hj
  unfold dictFind
  try with_reducible refine wpAny_holding ?_
  refine wpAny_bind (wpAny_dictEntries ho hd ?_)
  have found : ∀ x t, u = .str x t → (es.all fun e => isExactStrKey e.key) = true → wpAny (model prog w) A (foundByValue d u es x) Q E s := by
    rintro x t rfl hall
    have hall' : ∀ j (hj : j < es.size), isExactStrKey es[j].key = true := fun j hj => (Array.all_eq_true.mp hall) j hj
    unfold foundByValue
    cases hf : es.findIdx? (fun e => e.key.isStr x) with
    | none =>
      refine wpAny_pure (hnone fun j p hj e => ?_)
      have hjl : j < es.size := by rw [hsz]; exact (List.getElem?_eq_some_iff.mp hj).1
      have := Array.findIdx?_eq_none_iff.mp hf es[j] (Array.getElem_mem hjl)
      rw [hstr x t rfl j hjl p hj (hall' j hjl), decide_eq_true e] at this
      cases this
    | some i =>
      obtain ⟨hlt, hi, _⟩ := Array.findIdx?_eq_some_iff_getElem.mp hf
      obtain ⟨p, hp⟩ := at_ i hlt
      rw [hstr x t rfl i hlt p hp (hall' i hlt)] at hi
      have hkk : p.1 = k := of_decide_eq_true hi
      simp only [Array.getElem?_eq_getElem hlt]
      refine wpAny_bind (wpAny_dictEpoch ho hd (wpAny_bind (heq i hlt p hp prog w _ _ (wpAny_bind (wpAny_dictEpoch ho hd ?_)))))
      show wpAny _ _ (if (ep != ep) = true then _ else _) _ E _
      rw [if_neg (by simp), decide_eq_true hkk]
      exact wpAny_bind (wpAny_rule (wpAny_pure (hsome i p hp hkk)))
  have part : ∀ (i0 : Nat) (hit0 : Option Nat) (x : Nat) (rest : List Nat) (p : D × D), kvs[x]? = some p → i0 ≤ x → (∀ j, i0 ≤ j → j < x → ((es[j]?.map (·.hash)) == some (hash k)) = false) →
      ((hit0 = none ∧ ∀ j q, j < i0 → kvs[j]? = some q → q.1 ≠ k) ∨ ∃ j q, hit0 = some j ∧ j < i0 ∧ kvs[j]? = some q ∧ q.1 = k) →
      ((hit0 = none ∧ ∀ j q, j < x → kvs[j]? = some q → q.1 ≠ k) ∨ ∃ j q, hit0 = some j ∧ j < x ∧ kvs[j]? = some q ∧ q.1 = k) := by
    intro i0 hit0 x rest p hp hix hskip hH
    rcases hH with ⟨h0, hno⟩ | ⟨j, q, h1, hji, hj, e⟩
    · refine .inl ⟨h0, fun j q hjx hj e => ?_⟩
      rcases Nat.lt_or_ge j i0 with h | h
      · exact hno j q h hj e
      · have := hskip j h hjx
        rw [haskey j q hj e] at this
        cases this
    · exact .inr ⟨j, q, h1, by omega, hj, e⟩
  have step : ∀ (hit0 : Option Nat) (x : Nat) (p : D × D), kvs[x]? = some p → p.1 ≠ k →
      ((hit0 = none ∧ ∀ j q, j < x → kvs[j]? = some q → q.1 ≠ k) ∨ ∃ j q, hit0 = some j ∧ j < x ∧ kvs[j]? = some q ∧ q.1 = k) →
      ((hit0 = none ∧ ∀ j q, j < x + 1 → kvs[j]? = some q → q.1 ≠ k) ∨ ∃ j q, hit0 = some j ∧ j < x + 1 ∧ kvs[j]? = some q ∧ q.1 = k) := by
    intro hit0 x p hp hne hH
    rcases hH with ⟨h0, hno⟩ | ⟨j, q, h1, hji, hj, e⟩
    · refine .inl ⟨h0, fun j q hjx hj e => ?_⟩
      rcases Nat.lt_or_ge j x with h | h
      · exact hno j q h hj e
      · have : j = x := by omega
        subst this
        rw [hp] at hj
        cases hj
        exact hne e
    · exact .inr ⟨j, q, h1, by omega, hj, e⟩
  by_cases hall : ((u :: (placesWithHash es.size (fun i => es[i]?.map (·.hash)) (hash k)).filterMap (fun i => es[i]?.map (·.key))).all carriedByValue) = true
  · cases u with
    | str x t =>
      dsimp only
      by_cases hs : (es.all fun e => isExactStrKey e.key) = true
      · rw [if_pos hs]
        exact found x t rfl hs
      · rw [if_neg hs, if_pos hall]
        exact plain
    | int i t =>
      dsimp only
      rw [if_pos hall]
      exact plain
    | ref a =>
      dsimp only
      rw [if_pos hall]
      exact plain
    | _ => rcases hkind with ⟨_, _, h⟩ | ⟨_, _, h⟩ | ⟨_, h⟩ <;> cases h
  · cases u with
    | str x t =>
      dsimp only
      by_cases hs : (es.all fun e => isExactStrKey e.key) = true
      · rw [if_pos hs]
        exact found x t rfl hs
      rw [if_neg hs, if_neg hall]
      by_cases hone : (((placesWithHash es.size (fun i => es[i]?.map (·.hash)) (hash k)).filterMap (fun i => es[i]?.map (·.key))) == [Value.str x t]) = true <;>
      (first | rw [if_pos hone] | rw [if_neg hone]) <;> (first | refine wpAny_bind (wpAny_pure ?_) | refine wpAny_bind (mayTell_quiet hq hst ?_)) <;> (
        rw [if_neg (by simp)]
        refine wpAny_bind ?_
        refine wpAny_forIn_list _
          (fun rest b s' => s' = s ∧ ∃ i hit, b = (none, hit) ∧ rest = (List.range' i (es.size - i)).filter (fun i => (es[i]?.map (·.hash)) == some (hash k)) ∧ i ≤ es.size ∧
            ((hit = none ∧ ∀ j q, j < i → kvs[j]? = some q → q.1 ≠ k) ∨ ∃ j q, hit = some j ∧ j < i ∧ kvs[j]? = some q ∧ q.1 = k)) _ ?_ ?_ _ _
          ⟨rfl, 0, none, rfl, by rw [placesWithHash, List.range_eq_range', Nat.sub_zero], Nat.zero_le _, .inl ⟨rfl, fun _ _ h => absurd h (Nat.not_lt_zero _)⟩⟩
        · rintro x rest b s' ⟨rfl, i, hit, rfl, hr, hi, hH⟩
          obtain ⟨hix, hxn, hpx, hskip, hrest⟩ := filter_range'_cons _ _ _ _ _ hr.symm
          have hlt : x < es.size := by omega
          have hrest' : rest = (List.range' (x + 1) (es.size - (x + 1))).filter (fun i => (es[i]?.map (·.hash)) == some (hash k)) := by rw [hrest]; congr 2; omega
          obtain ⟨p, hp⟩ := at_ x hlt
          have hHx := part i hit x rest p hp hix hskip hH
          simp only [Array.getElem?_eq_getElem hlt]
          by_cases hh : (es[x].hash == hash k) = true
          · rw [if_pos hh]
            refine wpAny_bind (wpAny_dictEpoch ho hd (wpAny_bind (heq x hlt p hp prog w _ _ (wpAny_bind (wpAny_dictEpoch ho hd ?_)))))
            show wpAny _ _ (if (ep != ep) = true then _ else _) _ E _
            rw [if_neg (by simp)]
            by_cases hkk : p.1 = k
            · rw [decide_eq_true hkk]
              rcases hHx with ⟨rfl, _⟩ | ⟨j, q, _, hjx, hj, ej⟩
              · first | rw [if_pos rfl] | skip
                simp only [Option.isSome_none, Bool.false_eq_true, if_false]
                first | refine wpAny_bind (wpAny_pure ?_) | skip
                refine wpAny_bind (wpAny_rule ?_)
                split
                · exact wpAny_pure (wpAny_pure (hsome x p hp hkk))
                · exact wpAny_pure ⟨rfl, x + 1, some x, rfl, hrest', hlt, .inr ⟨x, p, rfl, Nat.lt_succ_self x, hp, hkk⟩⟩
              · exact absurd (uniq hj hp (ej.trans hkk.symm)) (by omega)
            · rw [decide_eq_false hkk]
              simp only [Bool.false_eq_true, if_false]
              refine wpAny_bind (wpAny_rule ?_)
              first | rw [if_neg (by simp)] | skip
              first
                | exact wpAny_pure ⟨rfl, x + 1, hit, rfl, hrest', hlt, step hit x p hp hkk hHx⟩
                | exact wpAny_bind (wpAny_pure (wpAny_pure ⟨rfl, x + 1, hit, rfl, hrest', hlt, step hit x p hp hkk hHx⟩))
          · rw [if_neg hh]
            refine wpAny_pure ⟨rfl, x + 1, hit, rfl, hrest', hlt, step hit x p hp (fun hkk => hh ?_) hHx⟩
            rw [hhash x hlt p hp, hkk]
            simp
        · rintro b s' ⟨rfl, i, hit, rfl, hr, hi, hH⟩
          rcases hH with ⟨rfl, hno⟩ | ⟨j, q, rfl, _, hj, ej⟩
          · refine wpAny_pure (hnone fun j p hj e => ?_)
            rcases Nat.lt_or_ge j i with h | h
            · exact hno j p h hj e
            · have hjl : j < es.size := by rw [hsz]; exact (List.getElem?_eq_some_iff.mp hj).1
              have := List.filter_eq_nil_iff.mp hr.symm j (List.mem_range'_1.mpr ⟨h, by omega⟩)
              exact this (haskey j p hj e)
          · exact wpAny_pure (hsome j q hj ej))
    | ref a =>
      dsimp only
      rw [if_neg hall, if_neg (hany a rfl)]
      by_cases hone : (((placesWithHash es.size (fun i => es[i]?.map (·.hash)) (hash k)).filterMap (fun i => es[i]?.map (·.key))) == [Value.ref a]) = true <;>
      (first | rw [if_pos hone] | rw [if_neg hone]) <;> (first | refine wpAny_bind (wpAny_pure ?_) | refine wpAny_bind (mayTell_quiet hq hst ?_)) <;> (
        rw [if_neg (by simp)]
        refine wpAny_bind ?_
        refine wpAny_forIn_list _
          (fun rest b s' => s' = s ∧ ∃ i hit, b = (none, hit) ∧ rest = (List.range' i (es.size - i)).filter (fun i => (es[i]?.map (·.hash)) == some (hash k)) ∧ i ≤ es.size ∧
            ((hit = none ∧ ∀ j q, j < i → kvs[j]? = some q → q.1 ≠ k) ∨ ∃ j q, hit = some j ∧ j < i ∧ kvs[j]? = some q ∧ q.1 = k)) _ ?_ ?_ _ _
          ⟨rfl, 0, none, rfl, by rw [placesWithHash, List.range_eq_range', Nat.sub_zero], Nat.zero_le _, .inl ⟨rfl, fun _ _ h => absurd h (Nat.not_lt_zero _)⟩⟩
        · rintro x rest b s' ⟨rfl, i, hit, rfl, hr, hi, hH⟩
          obtain ⟨hix, hxn, hpx, hskip, hrest⟩ := filter_range'_cons _ _ _ _ _ hr.symm
          have hlt : x < es.size := by omega
          have hrest' : rest = (List.range' (x + 1) (es.size - (x + 1))).filter (fun i => (es[i]?.map (·.hash)) == some (hash k)) := by rw [hrest]; congr 2; omega
          obtain ⟨p, hp⟩ := at_ x hlt
          have hHx := part i hit x rest p hp hix hskip hH
          simp only [Array.getElem?_eq_getElem hlt]
          by_cases hh : (es[x].hash == hash k) = true
          · rw [if_pos hh]
            refine wpAny_bind (wpAny_dictEpoch ho hd (wpAny_bind (heq x hlt p hp prog w _ _ (wpAny_bind (wpAny_dictEpoch ho hd ?_)))))
            show wpAny _ _ (if (ep != ep) = true then _ else _) _ E _
            rw [if_neg (by simp)]
            by_cases hkk : p.1 = k
            · rw [decide_eq_true hkk]
              rcases hHx with ⟨rfl, _⟩ | ⟨j, q, _, hjx, hj, ej⟩
              · first | rw [if_pos rfl] | skip
                simp only [Option.isSome_none, Bool.false_eq_true, if_false]
                first | refine wpAny_bind (wpAny_pure ?_) | skip
                refine wpAny_bind (wpAny_rule ?_)
                split
                · exact wpAny_pure (wpAny_pure (hsome x p hp hkk))
                · exact wpAny_pure ⟨rfl, x + 1, some x, rfl, hrest', hlt, .inr ⟨x, p, rfl, Nat.lt_succ_self x, hp, hkk⟩⟩
              · exact absurd (uniq hj hp (ej.trans hkk.symm)) (by omega)
            · rw [decide_eq_false hkk]
              simp only [Bool.false_eq_true, if_false]
              refine wpAny_bind (wpAny_rule ?_)
              first | rw [if_neg (by simp)] | skip
              first
                | exact wpAny_pure ⟨rfl, x + 1, hit, rfl, hrest', hlt, step hit x p hp hkk hHx⟩
                | exact wpAny_bind (wpAny_pure (wpAny_pure ⟨rfl, x + 1, hit, rfl, hrest', hlt, step hit x p hp hkk hHx⟩))
          · rw [if_neg hh]
            refine wpAny_pure ⟨rfl, x + 1, hit, rfl, hrest', hlt, step hit x p hp (fun hkk => hh ?_) hHx⟩
            rw [hhash x hlt p hp, hkk]
            simp
        · rintro b s' ⟨rfl, i, hit, rfl, hr, hi, hH⟩
          rcases hH with ⟨rfl, hno⟩ | ⟨j, q, rfl, _, hj, ej⟩
          · refine wpAny_pure (hnone fun j p hj e => ?_)
            rcases Nat.lt_or_ge j i with h | h
            · exact hno j p h hj e
            · have hjl : j < es.size := by rw [hsz]; exact (List.getElem?_eq_some_iff.mp hj).1
              have := List.filter_eq_nil_iff.mp hr.symm j (List.mem_range'_1.mpr ⟨h, by omega⟩)
              exact this (haskey j p hj e)
          · exact wpAny_pure (hsome j q hj ej))
    | int i0 t0 =>
      dsimp only
      rw [if_neg hall]
      by_cases hone : (((placesWithHash es.size (fun i => es[i]?.map (·.hash)) (hash k)).filterMap (fun i => es[i]?.map (·.key))) == [Value.int i0 t0]) = true <;>
      (first | rw [if_pos hone] | rw [if_neg hone]) <;> (first | refine wpAny_bind (wpAny_pure ?_) | refine wpAny_bind (mayTell_quiet hq hst ?_)) <;> (
        rw [if_neg (by simp)]
        refine wpAny_bind ?_
        refine wpAny_forIn_list _
          (fun rest b s' => s' = s ∧ ∃ i hit, b = (none, hit) ∧ rest = (List.range' i (es.size - i)).filter (fun i => (es[i]?.map (·.hash)) == some (hash k)) ∧ i ≤ es.size ∧
            ((hit = none ∧ ∀ j q, j < i → kvs[j]? = some q → q.1 ≠ k) ∨ ∃ j q, hit = some j ∧ j < i ∧ kvs[j]? = some q ∧ q.1 = k)) _ ?_ ?_ _ _
          ⟨rfl, 0, none, rfl, by rw [placesWithHash, List.range_eq_range', Nat.sub_zero], Nat.zero_le _, .inl ⟨rfl, fun _ _ h => absurd h (Nat.not_lt_zero _)⟩⟩
        · rintro x rest b s' ⟨rfl, i, hit, rfl, hr, hi, hH⟩
          obtain ⟨hix, hxn, hpx, hskip, hrest⟩ := filter_range'_cons _ _ _ _ _ hr.symm
          have hlt : x < es.size := by omega
          have hrest' : rest = (List.range' (x + 1) (es.size - (x + 1))).filter (fun i => (es[i]?.map (·.hash)) == some (hash k)) := by rw [hrest]; congr 2; omega
          obtain ⟨p, hp⟩ := at_ x hlt
          have hHx := part i hit x rest p hp hix hskip hH
          simp only [Array.getElem?_eq_getElem hlt]
          by_cases hh : (es[x].hash == hash k) = true
          · rw [if_pos hh]
            refine wpAny_bind (wpAny_dictEpoch ho hd (wpAny_bind (heq x hlt p hp prog w _ _ (wpAny_bind (wpAny_dictEpoch ho hd ?_)))))
            show wpAny _ _ (if (ep != ep) = true then _ else _) _ E _
            rw [if_neg (by simp)]
            by_cases hkk : p.1 = k
            · rw [decide_eq_true hkk]
              rcases hHx with ⟨rfl, _⟩ | ⟨j, q, _, hjx, hj, ej⟩
              · first | rw [if_pos rfl] | skip
                simp only [Option.isSome_none, Bool.false_eq_true, if_false]
                first | refine wpAny_bind (wpAny_pure ?_) | skip
                refine wpAny_bind (wpAny_rule ?_)
                split
                · exact wpAny_pure (wpAny_pure (hsome x p hp hkk))
                · exact wpAny_pure ⟨rfl, x + 1, some x, rfl, hrest', hlt, .inr ⟨x, p, rfl, Nat.lt_succ_self x, hp, hkk⟩⟩
              · exact absurd (uniq hj hp (ej.trans hkk.symm)) (by omega)
            · rw [decide_eq_false hkk]
              simp only [Bool.false_eq_true, if_false]
              refine wpAny_bind (wpAny_rule ?_)
              first | rw [if_neg (by simp)] | skip
              first
                | exact wpAny_pure ⟨rfl, x + 1, hit, rfl, hrest', hlt, step hit x p hp hkk hHx⟩
                | exact wpAny_bind (wpAny_pure (wpAny_pure ⟨rfl, x + 1, hit, rfl, hrest', hlt, step hit x p hp hkk hHx⟩))
          · rw [if_neg hh]
            refine wpAny_pure ⟨rfl, x + 1, hit, rfl, hrest', hlt, step hit x p hp (fun hkk => hh ?_) hHx⟩
            rw [hhash x hlt p hp, hkk]
            simp
        · rintro b s' ⟨rfl, i, hit, rfl, hr, hi, hH⟩
          rcases hH with ⟨rfl, hno⟩ | ⟨j, q, rfl, _, hj, ej⟩
          · refine wpAny_pure (hnone fun j p hj e => ?_)
            rcases Nat.lt_or_ge j i with h | h
            · exact hno j p h hj e
            · have hjl : j < es.size := by rw [hsz]; exact (List.getElem?_eq_some_iff.mp hj).1
              have := List.filter_eq_nil_iff.mp hr.symm j (List.mem_range'_1.mpr ⟨h, by omega⟩)
              exact this (haskey j p hj e)
          · exact wpAny_pure (hsome j q hj ej))
    | _ => rcases hkind with ⟨_, _, h⟩ | ⟨_, _, h⟩ | ⟨_, h⟩ <;> cases h
end
/-- looking u up in the dict at d gives r and draws n tokens -/
def Gets (prog : Program) (w : World) (A : Around) (s : Shared) (d : Addr) (u : Value) (r : Option Value) (n : Nat) : Prop :=
  ∀ (E : Value → Shared → Prop) (Q : Option Value → Shared → Prop), Q r { s with toks := s.toks + n } → wpAny (model prog w) A (dictGet d u) Q E s
/-- storing under u in the dict at d makes the entries es -/
def Sets (prog : Program) (w : World) (A : Around) (s : Shared) (d : Addr) (u v : Value) (es : Array DictEntry) (n : Nat) : Prop :=
  ∀ (E : Value → Shared → Prop) (Q : Unit → Shared → Prop), (∀ h' ep, h'.DictRaw d es ep → Heap.SameBut d s.heap h' → Q () { s with heap := h', toks := s.toks + n }) → wpAny (model prog w) A (dictSet d u v) Q E s
def place (k : D) (kvs : List (D × D)) : Option Nat := kvs.findIdx? fun p => decide (p.1 = k)
theorem look_place {k : D} : ∀ {kvs : List (D × D)}, look k kvs = (place k kvs).bind fun j => (kvs[j]?).map (·.2)
  | [] => rfl
  | (a, v) :: r => by
    have ih := look_place (k := k) (kvs := r)
    unfold look place
    rw [List.findIdx?_cons]
    by_cases h : a = k
    · simp [h]
    · simp only [h, if_false, decide_false, Bool.false_eq_true]
      rw [ih]
      unfold place
      cases List.findIdx? (fun p : D × D => decide (p.1 = k)) r <;> simp
theorem put_none {k v : D} : ∀ {kvs : List (D × D)}, place k kvs = none → put k v kvs = kvs ++ [(k, v)]
  | [], _ => rfl
  | (a, x) :: r, h => by
    unfold place at h
    rw [List.findIdx?_cons] at h
    by_cases e : a = k
    · simp [e] at h
    · simp only [e, decide_false, Bool.false_eq_true, if_false, Option.map_eq_none_iff] at h
      simp only [put, e, if_false, List.cons_append]
      rw [put_none (kvs := r) h]
theorem put_some {k v : D} : ∀ {kvs : List (D × D)} {j : Nat}, place k kvs = some j → put k v kvs = kvs.modify j fun p => (p.1, v)
  | [], _, h => by simp [place] at h
  | (a, x) :: r, j, h => by
    unfold place at h
    rw [List.findIdx?_cons] at h
    by_cases e : a = k
    · simp only [e, decide_true, if_true, Option.some.injEq] at h
      subst h
      simp [put, e]
    · simp only [e, decide_false, Bool.false_eq_true, if_false] at h
      cases q : List.findIdx? (fun p : D × D => decide (p.1 = k)) r with
      | none => rw [q] at h; simp at h
      | some i =>
        rw [q] at h
        simp only [Option.map_some, Option.some.injEq] at h
        subst h
        simp only [put, e, if_false]
        rw [put_some (kvs := r) (j := i) q]
        simp
theorem put_keys {k v : D} (kvs : List (D × D)) : (put k v kvs).map (·.1) = if k ∈ kvs.map (·.1) then kvs.map (·.1) else kvs.map (·.1) ++ [k] := by
  induction kvs with
  | nil => simp [put]
  | cons p r ih =>
    obtain ⟨a, x⟩ := p
    unfold put
    by_cases e : a = k
    · subst e; simp
    · rw [if_neg e]
      simp only [List.map_cons, ih, List.mem_cons]
      have : ¬ k = a := fun z => e z.symm
      by_cases h : k ∈ r.map (·.1)
      · simp [h]
      · simp [h, this]
theorem put_nodup {k v : D} {kvs : List (D × D)} (h : (kvs.map (·.1)).Nodup) : ((put k v kvs).map (·.1)).Nodup := by
  rw [put_keys]
  split
  · exact h
  · rename_i hn
    rw [List.nodup_append]
    refine ⟨h, by simp, ?_⟩
    intro a ha b hb
    simp only [List.mem_singleton] at hb
    subst hb
    exact fun e => hn (e ▸ ha)
theorem put_length {k v : D} (kvs : List (D × D)) : (put k v kvs).length ≤ kvs.length + 1 := by
  induction kvs with
  | nil => simp [put]
  | cons p r ih =>
    obtain ⟨a, x⟩ := p
    unfold put
    split
    · simp
    · simp only [List.length_cons]; omega
section
variable {X : Cx} {pins : List (Addr × Obj)} {σ : L2.St} {H : Hp} {s : Shared} {B : Bk} {a : Addr} {es : Array DictEntry} {ep : Nat} {kvs : List (D × D)} {k : D} {u : Value}
theorem raw_of (I : Hi X H s.heap) (h : H a = some (dctO a es ep)) : s.heap.DictRaw a es ep := (I.hok a _ h).1
theorem vd_kind {d : D} (h : VD B H u d) (hk : d.key = true) : (∃ i t, u = .int i t) ∨ (∃ x t, u = .str x t) ∨ ∃ a, u = .ref a := by
  obtain ⟨v, r, h⟩ := h
  cases h <;> simp_all [D.key]
  · obtain ⟨t, rfl⟩ := r; exact .inl ⟨_, t, rfl⟩
  · obtain ⟨t, rfl⟩ := r; exact .inr (.inl ⟨_, t, rfl⟩)
  · cases r; exact .inr (.inr ⟨_, rfl⟩)
theorem find_D (I : Hi X H s.heap) (hK : X.K = B.K) (hw : X.w = B.w) (h : H a = some (dctO a es ep)) (hes : DKs B H es.toList kvs) (hn : (kvs.map (·.1)).Nodup) (hu : VD B H u k) (hk : keyOk k = true) {A : Around} (hr : A.units + 9 < cLine)
    {E : Value → Shared → Prop} {Q : Option Nat → Shared → Prop} (q : Q (place k kvs) s) : wpAny (model X.prog X.w) A (dictFind a u (hashK B.w k)) Q E s := by
  obtain ⟨o, ho, hx, hd⟩ := raw_of I h
  obtain ⟨hsz, hent⟩ := hes.ent
  obtain ⟨kk, kd⟩ := keyOk_key hk
  have ent : ∀ j (hj : j < es.size) p, kvs[j]? = some p → DKe B H es[j] p := fun j hj p hp => by
    obtain ⟨p', hp', e⟩ := hent j hj
    rw [hp] at hp'; cases hp'; exact e
  have quiet : ∀ (v : Value) (d : D), VD B H v d → keyOk d = true → QuietAt X.prog X.w 8 s v := fun v d hv hd' => by
    obtain ⟨k1, k2⟩ := keyOk_key hd'
    exact quiet_key (nk d) v 8 s (nested_of I hK d v k1 hv) (by rw [nk_depth d k1]; omega)
  refine dictFind_by (hash := hashK B.w) (k := k) ho hd hsz rfl (fun j hj p hp => ?_) (fun j hj p hp => (ent j hj p hp).hash) (quiet u k hu hk) (fun j hj => ?_) (fun x t e j hj p hp hx => ?_) (fun j hj p hp e => ?_) (vd_kind hu kk) hn (fun hno => ?_) (fun j p hj e => ?_)
  · have := (ent j hj p hp)
    obtain ⟨p1, p2⟩ := keyOk_key this.ok
    exact eqKey_of I hK this.vd.1 hu p1 kk (by omega)
  · obtain ⟨p, hp, e⟩ := hent j hj
    exact quiet _ _ e.vd.1 e.ok
  · subst e
    obtain ⟨v, r, hv⟩ := (ent j hj p hp).vd.1
    obtain ⟨v', r', hv'⟩ := hu
    have hkj : k = .str x.cps.toList := by
      have e1 : v' = .str x := by
        have := r'.abs
        exact (Option.some.inj this).symm
      subst e1
      cases hv'
      simp [txt]
    cases hkey : es[j].key with
    | str y t' =>
      rw [hkey] at r
      have e1 : v = .str y := by
        have := r.abs
        exact (Option.some.inj this).symm
      subst e1
      have hpj : p.1 = .str y.cps.toList := by
        generalize hpp : p.1 = pp at hv
        cases hv
        simp [txt]
      rw [hpj, hkj]
      show (y == x) = _
      by_cases z : y = x
      · subst z; simp
      · have : ¬ (D.str y.cps.toList = D.str x.cps.toList) := fun q => z (by
          injection q with q
          cases y; cases x
          congr 1
          exact Array.toList_inj.mp q)
        rw [beq_eq_false_iff_ne.mpr z, decide_eq_false this]
    | _ => rw [hkey] at hx; simp [isExactStrKey] at hx
  · obtain ⟨p1, p2⟩ := keyOk_key (ent j hj p hp).ok
    have h1 := nested_of I hK p.1 _ p1 (ent j hj p hp).vd.1
    rw [e] at h1
    exact nk_inj _ _ p1 kk (NestedIs.inj _ _ _ h1 (nested_of I hK k u kk hu))
  · have : place k kvs = none := by
      unfold place
      rw [List.findIdx?_eq_none_iff]
      intro p hp
      obtain ⟨j, hj⟩ := List.mem_iff_getElem?.mp hp
      exact decide_eq_false (hno j p hj)
    rw [this] at q
    exact q
  · have : place k kvs = some j := by
      unfold place
      obtain ⟨hj1, hj2⟩ := List.getElem?_eq_some_iff.mp hj
      rw [List.findIdx?_eq_some_iff_getElem]
      refine ⟨hj1, by rw [hj2]; exact decide_eq_true e, fun i hi => ?_⟩
      rw [Bool.not_eq_true]
      refine decide_eq_false fun z => ?_
      have hi1 : i < kvs.length := by omega
      have e1 : (kvs.map (·.1))[i]'(by simpa using hi1) = (kvs.map (·.1))[j]'(by simpa using hj1) := by
        simp only [List.getElem_map]
        rw [z, hj2, e]
      exact absurd ((List.getElem_inj hn).mp e1) (by omega)
    rw [this] at q
    exact q
end
end Mid
set_option Elab.async false
set_option linter.all false
set_option maxRecDepth 100000
set_option maxHeartbeats 4000000
/-! What one does with dicts. -/
namespace Mid
open PySem PySem.Spec PyProof.Rows
open L2 (Hp HO V RelV Vals SqL SqT Rd upd upd_same upd_ne OpR R2 Inv Cx EP VK)
/-! ### the library's roads, over what a look-up gives -/
section
variable {prog : Program} {w : World} {A : Around} {E : Value → Shared → Prop} {s : Shared} {d : Addr} {u : Value} {r : Option Value} {n : Nat}
theorem contains_by {Q : Bool → Shared → Prop} (hT : s.TypeIs (.ref d) "dict") (hd : (d == sysModules) = false) (g : Gets prog w A.in1 s d u r n) (h : Q r.isSome { s with toks := s.toks + n }) : wpAny (model prog w) A (contains (.ref d) u) Q E s := by
  unfold contains
  try with_reducible refine wpAny_holding ?_
  refine wpAny_bind (wpAny_specialOf hT slot_dict_contains.lookup ?_)
  show wpAny _ _ (if (some (Value.builtin "dict.__contains__") == some Value.none) = true then _ else _) _ E s
  rw [if_neg (by rw [beq_builtin_none]; exact Bool.false_ne_true)]
  refine wpAny_bind (wpAny_callSpecialUnlessNone?_slot (name := Str.ofString "__contains__") hT slot_dict_contains
    (wpAny_call_entry slot_dict_contains hT entry_dict_contains ?_ (args_dict_contains _ _)))
  show wpAny _ _ (dictGet d u >>= _) _ _ s
  refine wpAny_bind (g _ _ ?_)
  cases r with
  | some p =>
    show wpAny _ _ (ret (.bool true)) _ _ _
    exact wpAny_pure ⟨_, rfl, wpAny_truthy_bool h⟩
  | none =>
    show wpAny _ _ (Builtin.Dict.pendingKey? d u >>= _) _ _ _
    exact wpAny_bind (wpAny_pendingKey_other hd (wpAny_pure ⟨_, rfl, wpAny_truthy_bool h⟩))
theorem in_by {Q : Value → Shared → Prop} (hT : s.TypeIs (.ref d) "dict") (hd : (d == sysModules) = false) (g : Gets prog w A.in1 s d u r n) (h : Q (.bool r.isSome) { s with toks := s.toks + n }) : wpAny (model prog w) A (compareOp .In u (.ref d)) Q E s := by
  show wpAny _ _ (do return .bool (← contains (.ref d) u)) Q E s
  exact wpAny_bind (contains_by hT hd g (wpAny_pure h))
theorem notIn_by {Q : Value → Shared → Prop} (hT : s.TypeIs (.ref d) "dict") (hd : (d == sysModules) = false) (g : Gets prog w A.in1 s d u r n) (h : Q (.bool (!r.isSome)) { s with toks := s.toks + n }) : wpAny (model prog w) A (compareOp .NotIn u (.ref d)) Q E s := by
  show wpAny _ _ (do return .bool (!(← contains (.ref d) u))) Q E s
  exact wpAny_bind (contains_by hT hd g (wpAny_pure h))
theorem getItem_by {v : Value} {Q : Value → Shared → Prop} (hT : s.TypeIs (.ref d) "dict") (g : Gets prog w A.in1 s d u (some v) n) (h : Q v { s with toks := s.toks + n }) : wpAny (model prog w) A (getItem (.ref d) u) Q E s := by
  unfold getItem
  try with_reducible refine wpAny_holding ?_
  refine wpAny_bind (wpAny_sequenceKey hT (by decide) ?_)
  refine wpAny_bind (wpAny_callSpecial?_slot (name := Str.ofString "__getitem__") hT slot_dict_getitem
    (wpAny_call_entry slot_dict_getitem hT entry_dict_getitem ?_ (args_dict_getitem _ _)))
  show wpAny _ _ (dictGet d u >>= _) _ _ s
  refine wpAny_bind (g _ _ ?_)
  exact wpAny_pure ⟨v, rfl, wpAny_pure h⟩
theorem setItem_by {v : Value} {es : Array DictEntry} {Q : Unit → Shared → Prop} (hT : s.TypeIs (.ref d) "dict") (g : Sets prog w A.in1 s d u v es n)
    (hQ : ∀ h' ep, h'.DictRaw d es ep → Heap.SameBut d s.heap h' → Q () { s with heap := h', toks := s.toks + n }) : wpAny (model prog w) A (setItem (.ref d) u v) Q E s := by
  unfold setItem
  try with_reducible refine wpAny_holding ?_
  refine wpAny_bind (wpAny_sequenceKey hT (by decide) ?_)
  refine wpAny_bind (wpAny_callSpecial?_slot (name := Str.ofString "__setitem__") hT slot_dict_setitem
    (wpAny_call_entry slot_dict_setitem hT entry_dict_setitem ?_ (args_dict_setitem _ _ _)))
  show wpAny _ _ (Builtin.Dict.notOrdered "__setitem__" ⟨[.ref d, u, v], []⟩ >>= _) _ _ s
  refine wpAny_bind (wpAny_notOrdered_dict hT ?_)
  show wpAny _ _ (dictSet d u v >>= _) _ _ s
  exact wpAny_bind (g _ _ fun h' ep hm' hs' => wpAny_pure ⟨.none, rfl, wpAny_pure (hQ h' ep hm' hs')⟩)
theorem meets_get1 (hd : (d == sysModules) = false) :
    MeetsIn prog w (Builtin.«dict.get» ⟨[.ref d, u], []⟩) (fun A R s => ∃ r n, Gets prog w A.in1 s d u r n ∧ R (.ok (.ret (r.getD .none))) { s with toks := s.toks + n }) :=
  .of_wp fun A R s ⟨r, n, g, h⟩ => by
    show wpAny _ _ (dictGet d u >>= _) _ _ s
    refine wpAny_bind (g _ _ ?_)
    cases r with
    | some v => exact wpAny_pure ⟨v, rfl, h⟩
    | none =>
      show wpAny _ _ (Builtin.Dict.missed d u >>= _) _ _ _
      exact wpAny_bind (wpAny_missed_other hd (wpAny_pure ⟨.none, rfl, h⟩))
theorem meets_get2 (hd : (d == sysModules) = false) (dflt : Value) :
    MeetsIn prog w (Builtin.«dict.get» ⟨[.ref d, u, dflt], []⟩) (fun A R s => ∃ r n, Gets prog w A.in1 s d u r n ∧ R (.ok (.ret (r.getD dflt))) { s with toks := s.toks + n }) :=
  .of_wp fun A R s ⟨r, n, g, h⟩ => by
    show wpAny _ _ (dictGet d u >>= _) _ _ s
    refine wpAny_bind (g _ _ ?_)
    cases r with
    | some v => exact wpAny_pure ⟨v, rfl, h⟩
    | none =>
      show wpAny _ _ (Builtin.Dict.missed d u >>= _) _ _ _
      exact wpAny_bind (wpAny_missed_other hd (wpAny_pure ⟨dflt, rfl, h⟩))
end

/-! ### over the abstract heap -/
section
variable {X : Cx} {pins : List (Addr × Obj)} {σ : L2.St} {H : Hp} {s : Shared} {B : Bk} {a : Addr} {es : Array DictEntry} {ep : Nat} {kvs : List (D × D)} {k : D} {u : Value}
/-- a dict, a key: what the look-up gives -/
theorem gets_D (I : Hi X H s.heap) (hK : X.K = B.K) (hw : X.w = B.w) (h : H a = some (dctO a es ep)) (hes : DKs B H es.toList kvs) (hn : (kvs.map (·.1)).Nodup) (hu : VD B H u k) (hk : keyOk k = true) {A : Around} (hr : A.units + 9 < cLine) :
    Gets X.prog X.w A s a u ((place k kvs).bind fun j => (es[j]?).map (·.val)) (nk k).draws := by
  intro E Q q
  obtain ⟨kk, kd⟩ := keyOk_key hk
  unfold dictGet
  try with_reducible refine wpAny_holding ?_
  refine wpAny_bind (pyHash_key (w := X.w) (nk k) u A s _ (nested_of I hK k u kk hu) (by rw [nk_depth k kk]; omega) ?_)
  have I1 : Hi X H ({ s with toks := s.toks + (nk k).draws } : Shared).heap := I
  have e0 : (nk k).hash X.w = hashK B.w k := by rw [hw]; rfl
  rw [e0]
  refine wpAny_bind (find_D I1 hK hw h hes hn hu hk hr ?_)
  obtain ⟨o, ho, hx, hd⟩ := raw_of I1 h
  cases hp : place k kvs with
  | none => rw [hp] at q; exact wpAny_pure q
  | some j =>
    rw [hp] at q
    exact wpAny_bind (wpAny_dictEntries ho hd (wpAny_pure q))
theorem typeD (I : Hi X H s.heap) (h : H a = some (dctO a es ep)) : s.TypeIs (.ref a) "dict" := (raw_of I h).typeIs
/-- the value found -/
theorem found_D {B : Bk} {F : Hp} (hes : DKs B F es.toList kvs) : (∀ v, look k kvs = some v → ∃ x, ((place k kvs).bind fun j => (es[j]?).map (·.val)) = some x ∧ VD B F x v) ∧ (look k kvs = none → ((place k kvs).bind fun j => (es[j]?).map (·.val)) = none) := by
  rw [look_place]
  obtain ⟨hsz, hent⟩ := hes.ent
  cases hp : place k kvs with
  | none => simp
  | some j =>
    have hj : j < kvs.length := by
      unfold place at hp
      exact (List.findIdx?_eq_some_iff_getElem.mp hp).1
    obtain ⟨p, hp', e⟩ := hent j (by omega)
    simp only [Option.bind_some, hp', Option.map_some, Array.getElem?_eq_getElem (show j < es.size by omega)]
    refine ⟨fun v hv => ⟨_, rfl, ?_⟩, fun h => by cases h⟩
    cases hv
    exact e.vd.2
/-- the entries behind a store -/
def entPut (w : World) (k : D) (kvs : List (D × D)) (es : Array DictEntry) (u v : Value) : Array DictEntry := match place k kvs with
  | some j => es.modify j fun e => { e with val := v }
  | none => es.push ⟨hashK w k, u, v⟩
theorem entPut_ok {B : Bk} {F : Hp} {v : Value} {d : D} (hes : DKs B F es.toList kvs) (hu : VD B F u k) (hv : VD B F v d) (hk : keyOk k = true) : DKs B F (entPut B.w k kvs es u v).toList (put k d kvs) := by
  obtain ⟨x, rx, hx⟩ := hu
  obtain ⟨y, ry, hy⟩ := hv
  unfold entPut
  cases hp : place k kvs with
  | some j =>
    rw [put_some hp]
    show DKs B F (es.modify j fun e => { e with val := v }).toList _
    rw [Array.toList_modify]
    exact hes.setVal j ry hy
  | none =>
    rw [put_none hp]
    show DKs B F (es.push ⟨hashK B.w k, u, v⟩).toList _
    rw [Array.toList_push]
    exact hes.snoc ⟨⟨x, y, rx, ry, hx, hy⟩, hk, rfl⟩
theorem entPut_size {w : World} {v : Value} : (entPut w k kvs es u v).size ≤ es.size + 1 := by
  unfold entPut
  split <;> simp
theorem sets_D (I : Hi X H s.heap) (hK : X.K = B.K) (hw : X.w = B.w) (h : H a = some (dctO a es ep)) (hes : DKs B H es.toList kvs) (hn : (kvs.map (·.1)).Nodup) (hu : VD B H u k) (hk : keyOk k = true) {v : Value} (hz : es.size ≤ sizeLine) {A : Around} (hr : A.units + 9 < cLine) :
    Sets X.prog X.w A s a u v (entPut B.w k kvs es u v) (nk k).draws := by
  intro E Q q
  obtain ⟨kk, kd⟩ := keyOk_key hk
  unfold dictSet
  try with_reducible refine wpAny_holding ?_
  refine wpAny_bind (pyHash_key (w := X.w) (nk k) u A s _ (nested_of I hK k u kk hu) (by rw [nk_depth k kk]; omega) ?_)
  have I1 : Hi X H ({ s with toks := s.toks + (nk k).draws } : Shared).heap := I
  unfold dictSetHashed
  try with_reducible refine wpAny_holding ?_
  obtain ⟨o, ho, hx, hd⟩ := raw_of I1 h
  have e0 : (nk k).hash X.w = hashK B.w k := by rw [hw]; rfl
  rw [e0]
  refine wpAny_bind (find_D I1 hK hw h hes hn hu hk hr ?_)
  unfold entPut at q
  cases hp : place k kvs with
  | none =>
    rw [hp] at q
    refine wpAny_bind (wpAny_rule (wpAny_updateDictKeys (hz := hz) (s := { s with toks := s.toks + (nk k).draws }) ho hd (q _ (ep + 1) ⟨_, Heap.get?_update_self _ ho (Obj.isFreed_of_dict (Obj.data_mapDictKeys hd _)), hx.mapDictKeys _, Obj.data_mapDictKeys hd _⟩ (Heap.SameBut.update ..))))
  | some j =>
    rw [hp] at q
    exact wpAny_bind (wpAny_rule (wpAny_bind (wpAny_updateDict (s := { s with toks := s.toks + (nk k).draws }) ho hd (wpAny_point (q _ ep ⟨_, Heap.get?_update_self _ ho (Obj.isFreed_of_dict (Obj.data_mapDict hd _)), hx.mapDict _, Obj.data_mapDict hd _⟩ (Heap.SameBut.update ..))))))
/-- behind a store: the abstract heap -/
theorem set_inv (I : Inv X pins σ H s) (h : H a = some (dctO a es ep)) {h' : Heap} {es' : Array DictEntry} {ep' : Nat} {t' : Nat} (hr : h'.DictRaw a es' ep') (hs : Heap.SameBut a s.heap h') : Inv X pins σ (upd H a (dctO a es' ep')) { s with heap := h', toks := t' } := by
  obtain ⟨o, ho, hx, hd⟩ := id hr
  refine I.write (x := a) (e := a) (o := dctO a es' ep') (t' := t') (by rw [h]; trivial) (.inl rfl) (fun b ob hb e => (hs.2 b hb).trans e) ⟨o, ho⟩ ⟨hr, ⟨o, ho⟩, fun h1 h2 hr1 st => ?_⟩
  exact hr1.at st
end
end Mid
set_option Elab.async false
set_option linter.all false
set_option maxRecDepth 100000
set_option maxHeartbeats 4000000
/-! Comparisons, items, slices, by values. -/
namespace Mid
open PySem PySem.Spec PyProof.Rows
open L2 (Hp HO V RelV Vals SqL SqT Rd upd upd_same upd_ne OpR R2 Inv Cx EP VK Dp DpAll)
section
variable {X : Cx} {B : Bk}
theorem dps_pure {F H : Hp} (l : Le F H) {ds : List D} {vs : List V} (h : D.pures ds = true) (q : DVs B F vs ds) : DpAll B.K H vs (pys ds) := dps_of l h q
theorem pk_dp {F H : Hp} (l : Le F H) {v : V} {d : D} (p : d.pure = true) (h : PK B F H v d) : Dp B.K H v (py d) := dp_of (.refl H) p (h.dv l)
theorem list_dp {F H : Hp} (l : Le F H) {v : V} {ds : List D} (p : D.pures ds = true) (h : PK B F H v (.lst ds)) : Dp B.K H v (.list (pys ds)) := pk_dp l (d := .lst ds) (by simpa [D.pure] using p) h
/-- == of lists one of which is empty -/
theorem eq_empty (hK : X.K = B.K) (hu : X.A.units + 64 < cLine) {pins : List (Addr × Obj)} {s : Shared} {σ : L2.St} {F H : Hp} {x y : V} {v u : Value} {ds es : List D} {Q : VK} (I : Inv X pins σ H s) (l : Le F H) (rx : RelV x v) (ry : RelV y u)
    (px : PK B F H x (.lst ds)) (py : PK B F H y (.lst es)) (hz : ds = [] ∨ es = []) (q : Q (.bl (decide (ds = [] ∧ es = []))) H) : wpAny (model X.prog X.w) X.A (compareOp .Eq v u) (EP X pins σ Q) X.xe s := by
  obtain ⟨a, xs, rfl, ha, qa⟩ := px.lst l
  obtain ⟨b, ys, rfl, hb, qb⟩ := py.lst l
  cases rx
  cases ry
  obtain ⟨_, its, n, r, el, e⟩ := rdL I ha
  obtain ⟨_, its2, n2, r2, el2, e2⟩ := rdL I hb
  have l1 : its.length = ds.length := by rw [← el, qa.length]
  have l2 : its2.length = es.length := by rw [← el2, qb.length]
  have h1 : s.heap.IsList a its.toArray := ⟨_, e, rfl, n, rfl⟩
  have h2 : s.heap.IsList b its2.toArray := ⟨_, e2, rfl, n2, rfl⟩
  by_cases hl : ds.length = es.length
  · have hd : ds = [] := by
      rcases hz with h | h
      · exact h
      · subst h; simpa using hl
    have he : es = [] := by
      rcases hz with h | h
      · subst h; simpa using hl.symm
      · exact h
    subst hd he
    have i0 : its = [] := by simpa using l1
    have i1 : its2 = [] := by simpa using l2
    subst i0 i1
    refine SeqAt.eq_listAt (e := fun _ => true) h1 h2 rfl (by omega) (fun j j1 _ => absurd j1 (by simp)) ⟨.bl true, H, I, ?_, q⟩
    show Value.bool _ = Value.bool true
    simp
  · refine SeqAt.eq_list_lengthsAt h1 h2 (by simp; omega) (by omega) ⟨.bl false, H, I, rfl, ?_⟩
    rw [decide_eq_false (by rintro ⟨rfl, rfl⟩; exact hl rfl)] at q
    exact q
theorem ne_empty (hK : X.K = B.K) (hu : X.A.units + 64 < cLine) {pins : List (Addr × Obj)} {s : Shared} {σ : L2.St} {F H : Hp} {x y : V} {v u : Value} {ds es : List D} {Q : VK} (I : Inv X pins σ H s) (l : Le F H) (rx : RelV x v) (ry : RelV y u)
    (px : PK B F H x (.lst ds)) (py : PK B F H y (.lst es)) (hz : ds = [] ∨ es = []) (q : Q (.bl (!decide (ds = [] ∧ es = []))) H) : wpAny (model X.prog X.w) X.A (compareOp .NotEq v u) (EP X pins σ Q) X.xe s := by
  obtain ⟨a, xs, rfl, ha, qa⟩ := px.lst l
  obtain ⟨b, ys, rfl, hb, qb⟩ := py.lst l
  cases rx
  cases ry
  obtain ⟨_, its, n, r, el, e⟩ := rdL I ha
  obtain ⟨_, its2, n2, r2, el2, e2⟩ := rdL I hb
  have l1 : its.length = ds.length := by rw [← el, qa.length]
  have l2 : its2.length = es.length := by rw [← el2, qb.length]
  have h1 : s.heap.IsList a its.toArray := ⟨_, e, rfl, n, rfl⟩
  have h2 : s.heap.IsList b its2.toArray := ⟨_, e2, rfl, n2, rfl⟩
  by_cases hl : ds.length = es.length
  · have hd : ds = [] := by
      rcases hz with h | h
      · exact h
      · subst h; simpa using hl
    have he : es = [] := by
      rcases hz with h | h
      · subst h; simpa using hl.symm
      · exact h
    subst hd he
    have i0 : its = [] := by simpa using l1
    have i1 : its2 = [] := by simpa using l2
    subst i0 i1
    refine SeqAt.RcNeAt.lists (e := fun _ => true) h1 h2 rfl (by omega) (fun j j1 _ => absurd j1 (by simp)) X.prog X.w _ _ ⟨.bl false, H, I, ?_, q⟩
    show Value.bool _ = Value.bool false
    simp
  · refine SeqAt.RcNeAt.lists_lengths h1 h2 (by simp; omega) (by omega) X.prog X.w _ _ ⟨.bl true, H, I, rfl, ?_⟩
    rw [decide_eq_false (by rintro ⟨rfl, rfl⟩; exact hl rfl)] at q
    exact q
theorem eqD_cases {a b : D} {r : Bool} (h : eqD a b = some r) : (∃ ds es, a = .lst ds ∧ b = .lst es ∧ (ds = [] ∨ es = []) ∧ r = decide (ds = [] ∧ es = [])) ∨ (a.pure = true ∧ b.pure = true ∧ a.depth ≤ 60 ∧ b.depth ≤ 60 ∧ r = a.eqv b) := by
  unfold eqD at h
  split at h
  · rename_i xs
    cases h
    refine .inl ⟨xs, [], rfl, rfl, .inr rfl, ?_⟩
    cases xs <;> simp
  · rename_i ys _
    cases h
    refine .inl ⟨[], ys, rfl, rfl, .inl rfl, ?_⟩
    cases ys <;> simp
  · split at h
    · rename_i hc
      simp only [Bool.and_eq_true, decide_eq_true_eq] at hc
      cases h
      exact .inr ⟨hc.1.1.1, hc.1.1.2, hc.1.2, hc.2, rfl⟩
    · cases h
theorem op_eqm (hK : X.K = B.K) (hu : X.A.units + 100 < cLine) : OpR X (compareOp .Eq) (rCmp B .eq) := by
  intro pins s σ H x y v u Q I rx ry h
  obtain ⟨F, d, e, b, l, px, py_, hb, q⟩ := h
  rcases eqD_cases (show eqD d e = some b from hb) with ⟨ds, es, rfl, rfl, hz, rfl⟩ | ⟨p1, p2, d1, d2, rfl⟩
  · exact eq_empty hK (by omega) I l rx ry px py_ hz q
  · refine L2.op_eqD (by omega) pins s σ H x y v u Q I rx ry ⟨py d, py e, by rw [hK]; exact pk_dp l p1 px, by rw [hK]; exact pk_dp l p2 py_, shaped_py p1 (by omega), shaped_py p2 (by omega), ?_⟩
    rw [eqv_py d e p1 p2]
    exact q
theorem op_nem (hK : X.K = B.K) (hu : X.A.units + 100 < cLine) : OpR X (compareOp .NotEq) (rCmp B .ne) := by
  intro pins s σ H x y v u Q I rx ry h
  obtain ⟨F, d, e, b, l, px, py_, hb, q⟩ := h
  have hb : (eqD d e).map (!·) = some b := hb
  obtain ⟨r, hr, rfl⟩ := Option.map_eq_some_iff.mp hb
  rcases eqD_cases hr with ⟨ds, es, rfl, rfl, hz, rfl⟩ | ⟨p1, p2, d1, d2, rfl⟩
  · exact ne_empty hK (by omega) I l rx ry px py_ hz q
  · refine L2.op_neD (by omega) pins s σ H x y v u Q I rx ry ⟨py d, py e, by rw [hK]; exact pk_dp l p1 px, by rw [hK]; exact pk_dp l p2 py_, shaped_py p1 (by omega), shaped_py p2 (by omega), ?_⟩
    rw [eqv_py d e p1 p2]
    exact q
theorem int_of {F H : Hp} {x : V} {i : Int} {v : Value} (h : PK B F H x (.int i)) (r : RelV x v) : ∃ t, v = .int i t := by
  cases h.int
  exact r
theorem op_ltm (hK : X.K = B.K) (hu : X.A.units + 100 < cLine) : OpR X (compareOp .Lt) (rCmp B .lt) := by
  intro pins s σ H x y v u Q I rx ry h
  obtain ⟨F, d, e, b, l, px, py_, hb, q⟩ := h
  have hb : (if d.depth ≤ 60 then D.lt d e else none) = some b := hb
  split at hb
  · rename_i hd
    exact lt_of I hK 60 d e v u b X.A hd ⟨x, rx, px.dv l⟩ ⟨y, ry, py_.dv l⟩ hb (by omega) X.prog X.w _ _ ⟨.bl b, H, I, rfl, q⟩
  · cases hb
theorem op_intm {op : CmpOp} {f : Int → Int → Bool} (hf : ∀ (i j : Int) (t t' : Tok) (s : Shared) (Q : Value → Shared → Prop), Q (.bool (f i j)) s → wpAny (model X.prog X.w) X.A (compareOp op (.int i t) (.int j t')) Q X.xe s)
    {pins : List (Addr × Obj)} {s : Shared} {σ : L2.St} {F H : Hp} {x y : V} {v u : Value} {i j : Int} {Q : VK} (I : Inv X pins σ H s) (rx : RelV x v) (ry : RelV y u) (px : PK B F H x (.int i)) (py : PK B F H y (.int j)) (q : Q (.bl (f i j)) H) :
    wpAny (model X.prog X.w) X.A (compareOp op v u) (EP X pins σ Q) X.xe s := by
  obtain ⟨t, rfl⟩ := int_of px rx
  obtain ⟨t', rfl⟩ := int_of py ry
  exact hf i j t t' s _ ⟨.bl _, H, I, rfl, q⟩
theorem op_gtm : OpR X (compareOp .Gt) (rCmp B .gt) := by
  intro pins s σ H x y v u Q I rx ry h
  obtain ⟨F, d, e, b, l, px, py_, hb, q⟩ := h
  simp only [cmpD] at hb
  split at hb
  · cases hb
    exact op_intm (f := fun i j => decide (j < i)) (fun _ _ _ _ _ _ h => gt_int h) I rx ry px py_ q
  · cases hb
theorem op_lem : OpR X (compareOp .LtE) (rCmp B .le) := by
  intro pins s σ H x y v u Q I rx ry h
  obtain ⟨F, d, e, b, l, px, py_, hb, q⟩ := h
  simp only [cmpD] at hb
  split at hb
  · cases hb
    exact op_intm (f := fun i j => decide (i ≤ j)) (fun _ _ _ _ _ _ h => le_int h) I rx ry px py_ q
  · cases hb
theorem op_gem : OpR X (compareOp .GtE) (rCmp B .ge) := by
  intro pins s σ H x y v u Q I rx ry h
  obtain ⟨F, d, e, b, l, px, py_, hb, q⟩ := h
  simp only [cmpD] at hb
  split at hb
  · cases hb
    exact op_intm (f := fun i j => decide (j ≤ i)) (fun _ _ _ _ _ _ h => ge_int h) I rx ry px py_ q
  · cases hb
theorem room_dep {A : Around} {d : D} (p : D.pure d = true) (h : d.depth ≤ 60) (hu : A.units + 100 < cLine) (n : Nat) : A.units + 1 + min n (py d).depth < cLine := by
  have h1 := depth_py d
  have h3 : min n (py d).depth ≤ 60 := Nat.le_trans (Nat.min_le_right n (py d).depth) (Nat.le_trans h1 h)
  omega
/-- x in y, x not in y -/
theorem isIn_run (hK : X.K = B.K) (hw : X.w = B.w) (hu : X.A.units + 100 < cLine) (ng : Bool) {pins : List (Addr × Obj)} {s : Shared} {σ : L2.St} {F H : Hp} {x y : V} {v u : Value} {d e : D} {b : Bool} {Q : VK} (I : Inv X pins σ H s) (l : Le F H) (rx : RelV x v) (ry : RelV y u)
    (px : PK B F H x d) (py_ : PK B F H y e) (hb : cmpD.isIn d e = some b) (q : Q (.bl (if ng then !b else b)) H) : wpAny (model X.prog X.w) X.A (compareOp (if ng then .NotIn else .In) v u) (EP X pins σ Q) X.xe s := by
  unfold cmpD.isIn at hb
  split at hb
  · rename_i xs
    split at hb
    · rename_i hc
      simp only [Bool.and_eq_true, decide_eq_true_eq] at hc
      obtain ⟨⟨⟨c1, c2⟩, c3⟩, c4⟩ := hc
      cases hb
      rw [← any_py xs d c2 c1] at q
      have hdl : Dp B.K H y (.list (pys xs)) := list_dp l c2 py_
      have sl : SeqAt.shaped (.list (pys xs)) = true := shaped_py (d := .lst xs) (by simpa [D.pure] using c2) (by
        have : D.depth (.lst xs) = D.depths xs + 1 := rfl
        omega)
      cases ng with
      | false => exact L2.op_inD (by omega) pins s σ H x y v u Q I rx ry ⟨py d, pys xs, by rw [hK]; exact pk_dp l c1 px, by rw [hK]; exact hdl, shaped_py c1 (by omega), sl, q⟩
      | true => exact L2.op_notInD (by omega) pins s σ H x y v u Q I rx ry ⟨py d, pys xs, by rw [hK]; exact pk_dp l c1 px, by rw [hK]; exact hdl, shaped_py c1 (by omega), sl, q⟩
    · cases hb
  · rename_i xs
    split at hb
    · rename_i hc
      simp only [Bool.and_eq_true, decide_eq_true_eq] at hc
      obtain ⟨⟨⟨c1, c2⟩, c3⟩, c4⟩ := hc
      cases hb
      rw [← any_py xs d c2 c1] at q
      have pt : D.pure (.tup xs) = true := by simpa [D.pure] using c2
      obtain ⟨as, r1⟩ := Dp.reads I (py d) x v (by rw [hK]; exact pk_dp l c1 px) rx
      obtain ⟨bs, r2⟩ := Dp.reads I (py (.tup xs)) y u (by rw [hK]; exact pk_dp l pt py_) ry
      have r2 : Reads s.heap u (.tuple (pys xs)) bs := r2
      cases ng with
      | false => exact SeqAt.in_tuple_reads r2 r1 (lays_py xs c2) (lay_py d c1) (room_dep c1 c3 hu _) ⟨.bl _, H, I, rfl, q⟩
      | true => exact SeqAt.notIn_tuple_reads r2 r1 (lays_py xs c2) (lay_py d c1) (room_dep c1 c3 hu _) ⟨.bl _, H, I, rfl, q⟩
    · cases hb
  · rename_i kvs
    split at hb
    · rename_i hc
      simp only [Bool.and_eq_true, decide_eq_true_eq] at hc
      cases hb
      obtain ⟨a, es, ep, rfl, hH, hm, hz, hes, hn⟩ := py_.dic l
      cases ry
      have hes' : DKs B H es.toList kvs := hes.mono l
      have hk : keyOk d = true := by simp only [keyOk, Bool.and_eq_true, decide_eq_true_eq]; exact hc
      have g := gets_D (Inv.hi' I) hK hw hH hes' hn ⟨x, rx, px.dv l⟩ hk (A := X.A.in1) (by rw [Around.in1_units]; omega)
      have e0 : ((place d kvs).bind fun j => (es[j]?).map (·.val)).isSome = (look d kvs).isSome := by
        obtain ⟨f1, f2⟩ := found_D hes' (k := d)
        cases hl : look d kvs with
        | none => rw [f2 hl]; rfl
        | some v =>
          obtain ⟨x, hx, _⟩ := f1 v hl
          rw [hx]; rfl
      cases ng with
      | false => exact in_by (typeD (Inv.hi' I) hH) hm g ⟨.bl _, H, I.tok _, by rw [e0]; rfl, q⟩
      | true => exact notIn_by (typeD (Inv.hi' I) hH) hm g ⟨.bl _, H, I.tok _, by rw [e0]; rfl, q⟩
    · cases hb
  · split at hb
    · cases hb
      rename_i t _ c
      obtain rfl := px.str
      obtain rfl := py_.str
      have e0 : (txt t).cps.toList = t := by simp [txt]
      cases ng with
      | false =>
        refine L2.op_in_sign pins s σ H _ _ v u Q I rx ry ⟨c, txt t, rfl, rfl, ?_⟩
        rw [e0]
        exact q
      | true =>
        refine L2.op_notIn_sign pins s σ H _ _ v u Q I rx ry ⟨c, txt t, rfl, rfl, ?_⟩
        rw [e0]
        exact q
    · cases hb
  · cases hb
theorem op_cmp (hK : X.K = B.K) (hw : X.w = B.w) (hu : X.A.units + 100 < cLine) (o : Cop) : OpR X (compareOp o.py) (rCmp B o) := by
  cases o with
  | eq => exact op_eqm hK hu
  | ne => exact op_nem hK hu
  | lt => exact op_ltm hK hu
  | le => exact op_lem
  | gt => exact op_gtm
  | ge => exact op_gem
  | isin =>
    intro pins s σ H x y v u Q I rx ry h
    obtain ⟨F, d, e, b, l, px, py_, hb, q⟩ := h
    exact isIn_run hK hw hu false I l rx ry px py_ hb q
  | notin =>
    intro pins s σ H x y v u Q I rx ry h
    obtain ⟨F, d, e, b, l, px, py_, hb, q⟩ := h
    have hb : (cmpD.isIn d e).map (!·) = some b := hb
    obtain ⟨r, hr, rfl⟩ := Option.map_eq_some_iff.mp hb
    exact isIn_run hK hw hu true I l rx ry px py_ hr q
/-! ### items -/
def rIxm (B : Bk) : R2 := fun x y H Q => ∃ F d e r, Le F H ∧ PK B F H x d ∧ PK B F H y e ∧ ixD d e = some r ∧ ∀ v, DV B F v r → Q v H
theorem DVs.atI {F : Hp} {vs : List V} {ds : List D} {i : Int} {d : D} (q : DVs B F vs ds) (h : atI ds i = some d) : ∃ v, L2.atI vs i = some v ∧ DV B F v d := by
  unfold Mid.atI at h
  obtain ⟨j, h1, h2⟩ := Option.bind_eq_some_iff.mp h
  obtain ⟨v, h3, h4⟩ := q.get h2
  refine ⟨v, ?_, h4⟩
  unfold L2.atI
  rw [q.length, show L2.ixN ds.length i = some j from h1]
  exact h3
theorem ix_m (hK : X.K = B.K) (hw : X.w = B.w) (hu : X.A.units + 100 < cLine) : L2.IxR X (rIxm B) := by
  intro value slice pins s σ H x y v u Q I rx ry h hs
  obtain ⟨F, d, e, r, l, px, py_, hr, q⟩ := h
  unfold ixD at hr
  split at hr
  · obtain ⟨a, xs, rfl, ha, qa⟩ := px.lst l
    obtain rfl := py_.int
    obtain ⟨w, hw', dw⟩ := qa.atI hr
    exact L2.ix_list value slice pins s σ H _ _ v u Q I rx ry ⟨a, xs, _, w, rfl, rfl, .inl ha, hw', q w dw⟩ hs
  · obtain ⟨a, xs, rfl, ha, _, qa⟩ := px.tup l
    obtain rfl := py_.int
    obtain ⟨w, hw', dw⟩ := qa.atI hr
    exact L2.ix_tup value slice pins s σ H _ _ v u Q I rx ry ⟨a, xs, _, w, rfl, rfl, by rw [hK]; exact ha, hw', q w dw⟩ hs
  · rename_i t i
    obtain rfl := px.str
    obtain rfl := py_.int
    split at hr
    · rename_i hz
      obtain ⟨c, hc, rfl⟩ := Option.map_eq_some_iff.mp hr
      refine L2.ix_str value slice pins s σ H _ _ v u Q I rx ry ⟨txt t, i, c, rfl, rfl, by rw [txt_length, ← line_eq]; exact hz, ?_, q _ (.str _)⟩ hs
      have e0 : (txt t).cps.toList = t := by simp [txt]
      rw [e0]
      exact hc
    · cases hr
  · rename_i kvs
    split at hr
    · rename_i hc
      simp only [Bool.and_eq_true, decide_eq_true_eq] at hc
      obtain ⟨a, es, ep, rfl, hH, hm, hz, hes, hn⟩ := px.dic l
      cases rx
      have hes' : DKs B H es.toList kvs := hes.mono l
      have hk : keyOk e = true := by simp only [keyOk, Bool.and_eq_true, decide_eq_true_eq]; exact hc
      have g := gets_D (Inv.hi' I) hK hw hH hes' hn ⟨y, ry, py_.dv l⟩ hk (A := X.A.in1) (by rw [Around.in1_units]; omega)
      obtain ⟨x, hx, w, rw', dw⟩ := (found_D hes (k := e)).1 r hr
      rw [hx] at g
      exact tail_any (typeD (Inv.hi' I) hH) PySem.F.slot_dict_getitem.lookup (getItem_by (typeD (Inv.hi' I) hH) g ⟨w, H, I.tok _, rw', q w dw⟩) hs
    · cases hr
  · cases hr
/-! ### slices -/
theorem sIx_eq (n d : Nat) : ∀ {p : D} {k : Nat}, sIx n d p = some k → ∃ o : Option Int, (p = .non ∧ o = none ∨ ∃ i, p = .int i ∧ o = some i) ∧ HT.sIx n d o = k
  | .non, k, h => by simp only [sIx, Option.some.injEq] at h; exact ⟨none, .inl ⟨rfl, rfl⟩, h⟩
  | .int i, k, h => by
    simp only [sIx, Option.some.injEq] at h
    exact ⟨some i, .inr ⟨i, rfl, rfl⟩, h⟩
  | .bl _, _, h => by simp [sIx] at h
  | .str _, _, h => by simp [sIx] at h
  | .tup _, _, h => by simp [sIx] at h
  | .lst _, _, h => by simp [sIx] at h
  | .dic _, _, h => by simp [sIx] at h
  | .fn _, _, h => by simp [sIx] at h
/-- a part of a slice: absent, or an int -/
def PartOf (lo : Option Int) (d : D) : Prop := (d = .non ∧ lo = none) ∨ ∃ i, d = .int i ∧ lo = some i
def rSlm (B : Bk) : V → Option Int → Option Int → Hp → VK → Prop := fun x lo hi H Q => ∃ F d e f w, Le F H ∧ PK B F H x d ∧ PartOf lo e ∧ PartOf hi f ∧ slcD d e f .non = some w ∧ ∀ v F' H', Al F H F' H' → RN B H F' H' v w → Q v H'
theorem cut_part {α : Type} {xs : List α} {lo hi : Option Int} {e f : D} {ys : List α} (h1 : PartOf lo e) (h2 : PartOf hi f) (h : cutL xs e f .non = some ys) : ys = (xs.drop (HT.sIx xs.length 0 lo)).take (HT.sIx xs.length xs.length hi - HT.sIx xs.length 0 lo) := by
  have s1 : ∀ n d, sIx n d e = some (HT.sIx n d lo) := fun n d => by rcases h1 with ⟨rfl, rfl⟩ | ⟨i, rfl, rfl⟩ <;> rfl
  have s2 : ∀ n d, sIx n d f = some (HT.sIx n d hi) := fun n d => by rcases h2 with ⟨rfl, rfl⟩ | ⟨i, rfl, rfl⟩ <;> rfl
  simp only [cutL, s1, s2, Option.bind_eq_bind, Option.bind_some, Option.some.injEq] at h
  exact h.symm
/-- t[lo:hi], kept plain -/
def rSlF (K : PySem.W.Frag) : V → Option Int → Option Int → Hp → VK → Prop := fun x lo hi H Q => ∃ a xs, x = .ref a ∧ SqT K H a xs ∧ (HT.sIx xs.length 0 lo = 0 ∧ HT.sIx xs.length xs.length hi = xs.length → Q (.ref a) H) ∧
  (¬ (HT.sIx xs.length 0 lo = 0 ∧ HT.sIx xs.length xs.length hi = xs.length) → ∀ p its, H p = none → Q (.ref p) (upd H p (.frz (TupOb its) (.tup (L2.cutV xs lo hi)))))
theorem sl_tupF : L2.SlR X (rSlF X.K) := by
  intro pins s σ H x v vl vu lo hi sl Q I rx hs pl pu ⟨a, xs, ex, hx, q1, q2⟩
  subst ex
  by_cases hw : HT.sIx xs.length 0 lo = 0 ∧ HT.sIx xs.length xs.length hi = xs.length
  · exact L2.sl_tupA pins s σ H _ v vl vu lo hi sl Q I rx hs pl pu ⟨a, xs, rfl, hx, q1, fun z => absurd hw z⟩
  · cases rx
    obtain ⟨its, r, ht, hz⟩ := I.tuple hx
    have el : its.toArray.size = xs.length := by rw [List.size_toArray, r.length]
    refine ⟨"tuple", _, slot_tuple_getitem.lookup, ht.typeIs, HT.getItem_tuple_cut ht hs pl pu (by rw [el]; exact hw) ?_ (by rw [el]; exact hz)⟩
    rw [el]
    exact ⟨.ref _, _, laid_tup (t := s.toks) I ((r.drop (HT.sIx xs.length 0 lo)).take (HT.sIx xs.length xs.length hi - HT.sIx xs.length 0 lo)) (Nat.le_trans (L2.cutV_length xs lo hi) hz), rfl, q2 hw _ _ I.fresh⟩
theorem sl_m (hK : X.K = B.K) : L2.SlR X (rSlm B) := by
  intro pins s σ H x v vl vu lo hi sl Q I rx hs pl pu h
  obtain ⟨F, d, e, f, w, l, px, p1, p2, hw, q⟩ := h
  unfold slcD at hw
  split at hw
  · obtain ⟨a, xs, rfl, ha, qa⟩ := px.lst l
    obtain ⟨ys, hy, rfl⟩ := Option.map_eq_some_iff.mp hw
    have hy := cut_part p1 p2 hy
    refine L2.sl_list pins s σ H _ v vl vu lo hi sl Q I rx hs pl pu ⟨a, xs, rfl, .inl ha, fun p hp => ?_⟩
    refine q _ F _ (.own l hp) ⟨p, rfl, hp, l.none hp, _, upd_same, ?_⟩
    rw [hy, ← qa.length]
    exact (qa.drop _).take _
  · obtain ⟨a, xs, rfl, ha, fa, qa⟩ := px.tup l
    obtain ⟨ys, hy, rfl⟩ := Option.map_eq_some_iff.mp hw
    have hy := cut_part p1 p2 hy
    refine sl_tupF pins s σ H _ v vl vu lo hi sl Q I rx hs pl pu ⟨a, xs, rfl, by rw [hK]; exact ha, fun hz => ?_, fun hz p its hp => ?_⟩
    · refine q _ F H (.refl l) (.tup fa ?_)
      rw [hy, ← qa.length, hz.1, hz.2]
      have := (qa.drop 0).take (xs.length - 0)
      have e1 : xs.take xs.length = xs := List.take_length
      simp only [List.drop_zero, Nat.sub_zero] at this ⊢
      rw [e1] at this
      exact this
    · refine q _ _ _ (.frz l hp) (.tup (.inl ⟨its, upd_same⟩) (DVs.mono (upd_le (l.none hp)) ?_))
      rw [hy, ← qa.length]
      exact (qa.drop _).take _
  · rename_i t
    obtain rfl := px.str
    have hw : (if t.length ≤ line then (cutL t e f .non).map fun ys => Mid.W.val (.str ys) else none) = some w := hw
    split at hw
    · rename_i hz
      obtain ⟨ys, hy, rfl⟩ := Option.map_eq_some_iff.mp hw
      have hy := cut_part p1 p2 hy
      refine L2.sl_str pins s σ H _ v vl vu lo hi sl Q I rx hs pl pu ⟨txt t, rfl, by rw [txt_length, ← line_eq]; exact hz, ?_⟩
      have e0 : L2.cutS (txt t) lo hi = txt ys := by
        unfold L2.cutS
        rw [txt_length, hy]
        have e1 : (txt t).cps.toList = t := by simp [txt]
        rw [e1]
        rfl
      rw [e0]
      exact q _ F H (.refl l) (.str _)
    · cases hw
  · cases hw
end
end Mid
set_option Elab.async false
set_option linter.all false
set_option maxRecDepth 100000
set_option maxHeartbeats 4000000
/-! Readings of expressions. -/
namespace Mid
open PySem PySem.Spec PyProof.Rows
open L2 (Hp HO V RelV Vals SqL SqT Rd upd upd_same upd_ne OpR R2 Inv Cx EP VK TE TT TA WX PE PT PA)

/-- what is wanted of an error -/
def NX (C : Kx) (W : WX) (s : St) (σ : L2.St) (F H : Hp) : X → St → Prop := fun x s' => ∀ cls dO F' H', Post C s σ F H s' F' H' → C.xr x cls dO F' → W cls dO σ H'
theorem NX.step {C : Kx} {W : WX} {s s1 : St} {σ : L2.St} {F H F1 H1 : Hp} (p : Post C s σ F H s1 F1 H1) {x : X} {s' : St} (h : NX C W s σ F H x s') : NX C W s1 σ F1 H1 x s' := fun cls dO F' H' q r => h cls dO F' H' (p.trans q) r
/-- an own thing is new -/
def NW (H : Hp) (v : V) (w : W) : Prop := ∀ d, w = .own d → ∀ a, v = .ref a → H a = none
theorem NW.val {H : Hp} {v : V} {d : D} : NW H v (.val d) := fun _ h => nomatch h
theorem NW.pl {H : Hp} {v : V} {d : Nat} : NW H v (.pl d) := fun _ h => nomatch h
theorem NW.back {H H' : Hp} {v : V} {w : W} (n : NW H' v w) (h : ∀ a, H' a = none → H a = none) : NW H v w := fun d e a q => h a (n d e a q)
theorem RN.nw {B : Bk} {H F' H' : Hp} {v : V} {w : W} (r : RN B H F' H' v w) : NW H v w := fun d e a q => by
  subst e
  obtain ⟨b, e, n, _⟩ := r
  rw [e] at q
  cases q
  exact n
/-- what is wanted of a value -/
def QX (C : Kx) (s : St) (σ : L2.St) (F H : Hp) (Q : VK) : W → St → Prop := fun w s' => ∀ v F' H', PE' C s σ F H s' F' H' → RW C s' σ F' H' v w → NW H v w → Q v H'
section
variable (P : Pg) (R : Run) (C : Kx) (W : WX)
/-- an expression's reading -/
def tE (t : E) : TE := fun σ H Q => ∃ F s, SR C s σ F H ∧ Wp (evE P R t s) (QX C s σ F H Q) (NX C W s σ F H)
/-- .. a test's -/
def tT (t : E) : TT := fun σ H Q => ∃ F s, SR C s σ F H ∧ Wp (evE P R t s) (fun w s' => ∃ b, peek s' w = some (.bl b) ∧ ∀ F' H', PE' C s σ F H s' F' H' → Q b H') (NX C W s σ F H)
/-- .. several, each taken -/
def tTs (ts : List E) : TA := fun σ H Q => ∃ F s, SR C s σ F H ∧ Wp (evTs P R ts s) (fun ds s' => ∀ vs F' H', PE' C s σ F H s' F' H' → DVs C.toBk F' vs ds → Q vs H') (NX C W s σ F H)
end
section
variable {P : Pg} {R : Run} {C : Kx} {W : WX} {X : Cx}
theorem PE.imp {e : Expr} {t t' : TE} (h : PE X e t) (i : ∀ σ H Q, t' σ H Q → t σ H Q) : PE X e t' := ⟨fun pins s σ H Q I q => h.run pins s σ H Q I (i _ _ _ q)⟩
theorem PT.imp {e : Expr} {t t' : TT} (h : PT X e t) (i : ∀ σ H Q, t' σ H Q → t σ H Q) : PT X e t' := ⟨fun pins s σ H Q I q => h.run pins s σ H Q I (i _ _ _ q)⟩
theorem PA.imp {e : List Expr} {t t' : TA} (h : PA X e t) (i : ∀ σ H Q, t' σ H Q → t σ H Q) : PA X e t' := ⟨fun pos pins s σ H Q I q => h.run pos pins s σ H Q I (i _ _ _ q)⟩
/-- one part, then the rest -/
theorem tE_bind {β : Type} {a : E} {f : Mid.W → St → Out β} {σ : L2.St} {F H : Hp} {s : St} {Q' : β → St → Prop} {Q : VK} (h : SR C s σ F H) (hw : Wp ((evE P R a s).bind f) Q' (NX C W s σ F H))
    (k : ∀ w s1 v F1 H1, PE' C s σ F H s1 F1 H1 → RW C s1 σ F1 H1 v w → NW H v w → Wp (f w s1) Q' (NX C W s1 σ F1 H1) → Q v H1) : tE P R C W a σ H Q := by
  refine ⟨F, s, h, Wp.mono (Wp_bind.mp hw) (fun w s1 hq v F1 H1 p r n => ?_) fun _ _ z => z⟩
  exact k w s1 v F1 H1 p r n (Wp.mono hq (fun _ _ z => z) fun x s' z => z.step p.toPost)
theorem boolOf_ok {w : Mid.W} {s : St} {β : Type} {f : Bool → St → Out β} {Q : β → St → Prop} {N : Mid.X → St → Prop} (h : Wp ((boolOf w s).bind f) Q N) : ∃ b, peek s w = some (.bl b) ∧ Wp (f b s) Q N := by
  unfold boolOf at h
  split at h
  · rename_i b e
    exact ⟨b, e, h⟩
  · exact h.elim
theorem tT_bind {β : Type} {a : E} {f : Bool → St → Out β} {σ : L2.St} {F H : Hp} {s : St} {Q' : β → St → Prop} {Q : Bool → Hp → Prop} (h : SR C s σ F H) (hw : Wp ((evE P R a s).bind fun w s => (boolOf w s).bind f) Q' (NX C W s σ F H))
    (k : ∀ b s1 F1 H1, PE' C s σ F H s1 F1 H1 → Wp (f b s1) Q' (NX C W s1 σ F1 H1) → Q b H1) : tT P R C W a σ H Q := by
  refine ⟨F, s, h, Wp.mono (Wp_bind.mp hw) (fun w s1 hq => ?_) fun _ _ z => z⟩
  obtain ⟨b, e, hb⟩ := boolOf_ok hq
  exact ⟨b, e, fun F1 H1 p => k b s1 F1 H1 p (Wp.mono hb (fun _ _ z => z) fun x s' z => z.step p.toPost)⟩
/-- an expression as a test, by its value -/
theorem pt_of {e : Expr} {t : E} (h : PE X e (tE P R C W t)) (he : ∀ whole, isTrue e X.env whole = (do let v ← whole; standAt e.pos; holding [v] (truthy v))) : PT X e (tT P R C W t) := by
  refine PT.imp (L2.pt_val h he) fun σ H Q ⟨F, s, hs, hw⟩ => ?_
  refine ⟨F, s, hs, Wp.mono hw (fun w s' ⟨b, e, q⟩ v F' H' p r _ => ?_) fun _ _ z => z⟩
  exact ⟨b, (r.pk p.sr e).bl, q F' H' p⟩
/-- .. a comparison as a test -/
theorem pt_testOf {e : Expr} {t : TE} {ir : E} (h : PT X e (L2.tTest t)) (i : ∀ σ H Q, tE P R C W ir σ H Q → t σ H Q) : PT X e (tT P R C W ir) := by
  refine PT.imp h fun σ H Q ⟨F, s, hs, hw⟩ => i _ _ _ ?_
  refine ⟨F, s, hs, Wp.mono hw (fun w s' ⟨b, e, q⟩ v F' H' p r _ => ?_) fun _ _ z => z⟩
  exact ⟨b, (r.pk p.sr e).bl, q F' H' p⟩
/-- the head of an expression whose truth is its value's -/
def plainT : Expr → Bool
  | .UnaryOp .Not _ _ => false
  | .BoolOp _ _ _ => false
  | .IfExp _ _ _ _ => false
  | .Compare _ _ _ _ => false
  | _ => true
theorem plainT_ok {e : Expr} (h : plainT e = true) (env : Env) (whole : Sem Value) : isTrue e env whole = (do let v ← whole; standAt e.pos; holding [v] (truthy v)) := by
  cases e with
  | UnaryOp o a p => cases o <;> first | rfl | (simp [plainT] at h)
  | BoolOp => exact absurd h (by simp [plainT])
  | IfExp => exact absurd h (by simp [plainT])
  | Compare => exact absurd h (by simp [plainT])
  | _ => rfl
/-- soundness of an expression -/
structure BE (P : Pg) (R : Run) (C : Kx) (W : WX) (X : Cx) (e : Expr) (t : E) : Prop where
  pe : PE X e (tE P R C W t)
  pt : PT X e (tT P R C W t)
theorem BE.of {e : Expr} {t : E} (h : PE X e (tE P R C W t)) (hp : plainT e = true) : BE P R C W X e t := ⟨h, pt_of h (plainT_ok hp _)⟩

/-! ### the simple ones -/
theorem QX.now {s : St} {σ : L2.St} {F H : Hp} {Q : VK} (hs : SR C s σ F H) {w : Mid.W} {v : V} (q : QX C s σ F H Q w s) (r : RW C s σ F H v w) (n : NW H v w) : Q v H := q v F H (.refl hs) r n
theorem tE_c {v : V} {d : D} (hv : ∀ F, DV C.toBk F v d) {t : E} (ht : ∀ s, evE P R t s = .ok (.val d) s ∨ ∃ m, evE P R t s = .stk m) (σ : L2.St) (H : Hp) (Q : VK) (h : tE P R C W t σ H Q) : L2.tC v σ H Q := by
  obtain ⟨F, s, hs, hw⟩ := h
  rcases ht s with e | ⟨m, e⟩
  · rw [e] at hw
    exact QX.now (w := .val d) hs hw (hv F) .val
  · rw [e] at hw
    exact hw.elim
theorem tE_var {i : Nat} (σ : L2.St) (H : Hp) (Q : VK) (h : tE P R C W (.var i) σ H Q) : L2.tVar i σ H Q := by
  obtain ⟨F, s, hs, hw⟩ := h
  unfold evE at hw
  unfold slotAt at hw
  cases e : s.c[i]? with
  | none => rw [e] at hw; exact hw.elim
  | some sl =>
    rw [e] at hw
    cases sl with
    | val d =>
      obtain ⟨v, e1, r⟩ := hs.c.sl i _ e
      refine ⟨v, ?_, QX.now (w := .val d) hs hw r .val⟩
      cases q : σ[i]? with
      | none => rw [q] at e1; cases e1
      | some o => rw [q] at e1; cases o with
        | none => cases e1
        | some u => cases e1; rfl
    | own d =>
      obtain ⟨a, e1, r⟩ := hs.c.sl i _ e
      have e2 : σ[i]? = some (some (.ref a)) := by
        cases q : σ[i]? with
        | none => rw [q] at e1; cases e1
        | some o => rw [q] at e1; cases o with
          | none => cases e1
          | some u => cases e1; rfl
      exact ⟨.ref a, e2, QX.now (w := .pl i) hs hw ⟨e2, .inl ⟨d, e⟩⟩ .pl⟩
    | _ => exact hw.elim
/-- two parts and what is made of them: new objects alone -/
theorem tE_op2 (hm : C.mono) {a b t : E} {r : R2} {m : String} {K : D → D → St → Out Mid.W} {g : D → D → Option Mid.W} (he : ∀ s, evE P R t s = (evE P R a s).bind fun x s => (evE P R b s).bind fun y s => match peek s x, peek s y with
      | some d, some e => K d e s
      | _, _ => .stk m) (hK : ∀ d e s Q N, Wp (K d e s) Q N → ∃ w, g d e = some w ∧ Q w s)
    (hr : ∀ x y d e w F H (Q : VK), Le F H → PK C.toBk F H x d → PK C.toBk F H y e → g d e = some w → (∀ v F' H', Al F H F' H' → RN C.toBk H F' H' v w → Q v H') → r x y H Q)
    (σ : L2.St) (H : Hp) (Q : VK) (h : tE P R C W t σ H Q) : L2.tOp r (tE P R C W a) (tE P R C W b) σ H Q := by
  obtain ⟨F, s, hs, hw⟩ := h
  rw [he] at hw
  refine tE_bind hs hw fun w1 s1 v1 F1 H1 p1 r1 n1 hw1 => tE_bind p1.sr hw1 fun w2 s2 v2 F2 H2 p2 r2 n2 hw2 => ?_
  have r1' := r1.post p2
  cases e1 : peek s2 w1 with
  | none => rw [e1] at hw2; exact hw2.elim
  | some d =>
    cases e2 : peek s2 w2 with
    | none => rw [e1, e2] at hw2; exact hw2.elim
    | some e =>
      rw [e1, e2] at hw2
      obtain ⟨w, eg, q⟩ := hK _ _ _ _ _ hw2
      exact hr v1 v2 d e w F2 H2 Q p2.sr.le (r1'.pk p2.sr e1) (r2.pk p2.sr e2) eg fun v F' H' al rn => q v F' H' ((p1.trans p2).trans (p2.sr.alP hm al)) (rn.rw p2.sr) (rn.nw.back fun a h => p1.st.there a (p2.st.there a h))
/-- one part -/
theorem tE_op1 (hm : C.mono) {a t : E} {r : V → Hp → VK → Prop} {m : String} {K : D → St → Out Mid.W} {g : D → Option Mid.W} (he : ∀ s, evE P R t s = (evE P R a s).bind fun x s => match peek s x with
      | some d => K d s
      | none => .stk m) (hK : ∀ d s Q N, Wp (K d s) Q N → ∃ w, g d = some w ∧ Q w s)
    (hr : ∀ x d w F H (Q : VK), Le F H → PK C.toBk F H x d → g d = some w → (∀ v F' H', Al F H F' H' → RN C.toBk H F' H' v w → Q v H') → r x H Q)
    (σ : L2.St) (H : Hp) (Q : VK) (h : tE P R C W t σ H Q) : L2.tUn r (tE P R C W a) σ H Q := by
  obtain ⟨F, s, hs, hw⟩ := h
  rw [he] at hw
  refine tE_bind hs hw fun w1 s1 v1 F1 H1 p1 r1 n1 hw1 => ?_
  cases e1 : peek s1 w1 with
  | none => rw [e1] at hw1; exact hw1.elim
  | some d =>
    rw [e1] at hw1
    obtain ⟨w, eg, q⟩ := hK _ _ _ _ hw1
    exact hr v1 d w F1 H1 Q p1.sr.le (r1.pk p1.sr e1) eg fun v F' H' al rn => q v F' H' (p1.trans (p1.sr.alP hm al)) (rn.rw p1.sr) (rn.nw.back fun a h => p1.st.there a h)
/-- what the units of a call leave -/
theorem be_bin (hm : C.mono) (hK : X.K = C.K) {ea eb : Expr} {pos : Pos} {o : Bop} {a b : E} (ha : BE P R C W X ea a) (hb : BE P R C W X eb b) : BE P R C W X (.BinOp ea o.py eb pos) (.bin o a b) :=
  .of (PE.imp (L2.pe_op (op_bin hK o) ha.pe hb.pe) (tE_op2 hm (g := binD o) (fun s => by rw [evE] <;> rfl) (fun d e s Q N h => Wp_opt h) fun x y d e w F H Q l px py eg q => ⟨F, d, e, w, l, px, py, eg, q⟩)) rfl
theorem cmp_r (hm : C.mono) {o : Cop} {a b : E} (σ : L2.St) (H : Hp) (Q : VK) (h : tE P R C W (.cmp o a b) σ H Q) : L2.tOp (rCmp C.toBk o) (tE P R C W a) (tE P R C W b) σ H Q :=
  tE_op2 hm (g := fun d e => (cmpD o d e).map fun b => .val (.bl b)) (fun s => by rw [evE] <;> rfl) (fun d e s Q N h => by
      cases ec : cmpD o d e with
      | none => simp only [ec] at h; exact h.elim
      | some b => simp only [ec] at h; exact ⟨_, rfl, h⟩) (fun x y d e w F H Q l px py eg q => by
      cases ec : cmpD o d e with
      | none => rw [ec] at eg; cases eg
      | some b =>
        rw [ec] at eg
        cases eg
        exact ⟨F, d, e, b, l, px, py, ec, q (.bl b) F H (.refl l) (.bl b)⟩) σ H Q h
theorem be_cmp (hm : C.mono) (hK : X.K = C.K) (hw : X.w = C.w) (hu : X.A.units + 100 < cLine) {ea eb : Expr} {pos : Pos} {o : Cop} {a b : E} (ha : BE P R C W X ea a) (hb : BE P R C W X eb b) (hmk : behindInMarks o.py eb = false) : BE P R C W X (.Compare ea [o.py] [eb] pos) (.cmp o a b) :=
  ⟨PE.imp (L2.pe_cmpR (op_cmp hK hw hu o) ha.pe hb.pe hmk) (cmp_r hm), pt_testOf (L2.pt_cmpR (op_cmp hK hw hu o) ha.pe hb.pe hmk) (cmp_r hm)⟩
theorem be_ix (hm : C.mono) (hK : X.K = C.K) (hw : X.w = C.w) (hu : X.A.units + 100 < cLine) {ea eb : Expr} {pos : Pos} {a b : E} (ha : BE P R C W X ea a) (hb : BE P R C W X eb b) (hp : L2.PlainIx eb) : BE P R C W X (.Subscript ea eb pos) (.ix a b) :=
  .of (PE.imp (L2.pe_ix (ix_m hK hw hu) ha.pe hb.pe hp) (tE_op2 hm (g := fun d e => (ixD d e).map .val) (fun s => by rw [evE] <;> rfl) (fun d e s Q N h => by
      cases ec : ixD d e with
      | none => simp only [ec] at h; exact h.elim
      | some b => simp only [ec] at h; exact ⟨_, rfl, h⟩) fun x y d e w F H Q l px py eg q => by
      cases ec : ixD d e with
      | none => rw [ec] at eg; cases eg
      | some b =>
        rw [ec] at eg
        cases eg
        exact ⟨F, d, e, b, l, px, py, ec, fun v hv => q v F H (.refl l) hv⟩)) rfl
theorem be_neg (hm : C.mono) {ea : Expr} {pos : Pos} {a : E} (ha : BE P R C W X ea a) : BE P R C W X (.UnaryOp .USub ea pos) (.neg a) :=
  .of (PE.imp (L2.pe_un L2.un_neg ha.pe) fun σ H Q ⟨F, s, hs, hw⟩ => by
    rw [evE] at hw
    refine tE_bind hs hw fun w1 s1 v1 F1 H1 p1 r1 n1 hw1 => ?_
    split at hw1
    · rename_i i e
      exact ⟨i, (r1.pk p1.sr e).int, hw1 _ F1 H1 p1 (.int _) .val⟩
    · exact hw1.elim) rfl
theorem be_not {ea : Expr} {pos : Pos} {a : E} (ha : BE P R C W X ea a) : BE P R C W X (.UnaryOp .Not ea pos) (.not a) := by
  refine ⟨PE.imp (L2.pe_not ha.pe) fun σ H Q ⟨F, s, hs, hw⟩ => ?_, PT.imp (L2.pt_not ha.pt) fun σ H Q ⟨F, s, hs, hw⟩ => ?_⟩
  · rw [evE] at hw
    refine tE_bind hs hw fun w1 s1 v1 F1 H1 p1 r1 n1 hw1 => ?_
    obtain ⟨b, e, q⟩ := boolOf_ok hw1
    exact ⟨b, (r1.pk p1.sr e).bl, q (.bl (!b)) F1 H1 p1 (.bl _) .val⟩
  · rw [evE] at hw
    refine tT_bind hs hw fun b s1 F1 H1 p1 hb => ?_
    obtain ⟨b', e, q⟩ := hb
    cases e
    exact q F1 H1 p1
/-- the rest of a test or a value -/
theorem tE_rest {t : E} {s : St} {σ : L2.St} {F H : Hp} {Q : VK} {s0 : St} {F0 H0 : Hp} (p : PE' C s0 σ F0 H0 s F H) (hw : Wp (evE P R t s) (QX C s0 σ F0 H0 Q) (NX C W s σ F H)) : tE P R C W t σ H Q :=
  ⟨F, s, p.sr, Wp.mono hw (fun w s' q v F' H' p' r n => q v F' H' (p.trans p') r (n.back fun a h => p.st.there a h)) fun _ _ z => z⟩
theorem tT_rest {t : E} {s : St} {σ : L2.St} {F H : Hp} {Q : Bool → Hp → Prop} {s0 : St} {F0 H0 : Hp} (p : PE' C s0 σ F0 H0 s F H) (hw : Wp (evE P R t s) (fun w s' => ∃ b, peek s' w = some (.bl b) ∧ ∀ F' H', PE' C s0 σ F0 H0 s' F' H' → Q b H') (NX C W s σ F H)) : tT P R C W t σ H Q :=
  ⟨F, s, p.sr, Wp.mono hw (fun w s' ⟨b, e, q⟩ => ⟨b, e, fun F' H' p' => q F' H' (p.trans p')⟩) fun _ _ z => z⟩
theorem pe_and_r {a b : E} (σ : L2.St) (H : Hp) (Q : VK) (h : tE P R C W (.and a b) σ H Q) : L2.tAndV (tE P R C W a) (tE P R C W b) σ H Q := by
  obtain ⟨F, s, hs, hw⟩ := h
  rw [evE] at hw
  refine tE_bind hs hw fun w1 s1 v1 F1 H1 p1 r1 n1 hw1 => ?_
  obtain ⟨c, e, q⟩ := boolOf_ok hw1
  refine ⟨c, (r1.pk p1.sr e).bl, ?_⟩
  cases c with
  | true =>
    rw [if_pos rfl] at q ⊢
    exact tE_rest p1 q
  | false =>
    rw [if_neg Bool.false_ne_true] at q ⊢
    exact q (.bl false) F1 H1 p1 (.bl _) .val
theorem pe_or_r {a b : E} (σ : L2.St) (H : Hp) (Q : VK) (h : tE P R C W (.or a b) σ H Q) : L2.tOrV (tE P R C W a) (tE P R C W b) σ H Q := by
  obtain ⟨F, s, hs, hw⟩ := h
  rw [evE] at hw
  refine tE_bind hs hw fun w1 s1 v1 F1 H1 p1 r1 n1 hw1 => ?_
  obtain ⟨c, e, q⟩ := boolOf_ok hw1
  refine ⟨c, (r1.pk p1.sr e).bl, ?_⟩
  cases c with
  | false =>
    rw [if_neg Bool.false_ne_true] at q ⊢
    exact tE_rest p1 q
  | true =>
    rw [if_pos rfl] at q ⊢
    exact q (.bl true) F1 H1 p1 (.bl _) .val
theorem pt_and_r {a b : E} (σ : L2.St) (H : Hp) (Q : Bool → Hp → Prop) (h : tT P R C W (.and a b) σ H Q) : L2.tAnd (tT P R C W a) (tT P R C W b) σ H Q := by
  obtain ⟨F, s, hs, hw⟩ := h
  rw [evE] at hw
  refine tT_bind hs hw fun c s1 F1 H1 p1 q => ?_
  cases c with
  | true =>
    rw [if_pos rfl] at q ⊢
    exact tT_rest p1 q
  | false =>
    rw [if_neg Bool.false_ne_true] at q ⊢
    obtain ⟨b', e, q⟩ := q
    cases e
    exact q F1 H1 p1
theorem pt_or_r {a b : E} (σ : L2.St) (H : Hp) (Q : Bool → Hp → Prop) (h : tT P R C W (.or a b) σ H Q) : L2.tOr (tT P R C W a) (tT P R C W b) σ H Q := by
  obtain ⟨F, s, hs, hw⟩ := h
  rw [evE] at hw
  refine tT_bind hs hw fun c s1 F1 H1 p1 q => ?_
  cases c with
  | false =>
    rw [if_neg Bool.false_ne_true] at q ⊢
    exact tT_rest p1 q
  | true =>
    rw [if_pos rfl] at q ⊢
    obtain ⟨b', e, q⟩ := q
    cases e
    exact q F1 H1 p1
/-- several tests, as one: a written list of values -/
structure BW (P : Pg) (R : Run) (C : Kx) (W : WX) (X : Cx) (e : Expr) (t : E) : Prop where
  pe : PE X e (tE P R C W t)
  pw : L2.PW X e (tT P R C W t)
theorem PW.imp {e : Expr} {t t' : TT} (h : L2.PW X e t) (i : ∀ σ H Q, t' σ H Q → t σ H Q) : L2.PW X e t' := ⟨fun wh pins s σ H Q I q => h.run wh pins s σ H Q I (i _ _ _ q)⟩
theorem BW.be {e : Expr} {t : E} (h : BW P R C W X e t) : BE P R C W X e t := ⟨h.pe, h.pw.pt⟩
theorem bw_and1 {ea : Expr} {pos : Pos} {a : E} (ha : BE P R C W X ea a) : BW P R C W X (.BoolOp .And [ea] pos) a := ⟨L2.pe_one ha.pe, L2.pw_and1 ha.pt⟩
theorem bw_or1 {ea : Expr} {pos : Pos} {a : E} (ha : BE P R C W X ea a) : BW P R C W X (.BoolOp .Or [ea] pos) a := ⟨L2.pe_one ha.pe, L2.pw_or1 ha.pt⟩
theorem bw_and {ea eb : Expr} {es : List Expr} {pos : Pos} {a b : E} (ha : BE P R C W X ea a) (hb : BW P R C W X (.BoolOp .And (eb :: es) pos) b) : BW P R C W X (.BoolOp .And (ea :: eb :: es) pos) (.and a b) :=
  ⟨PE.imp (L2.pe_and ha.pe hb.pe) pe_and_r, PW.imp (L2.pw_and ha.pt hb.pw) pt_and_r⟩
theorem bw_or {ea eb : Expr} {es : List Expr} {pos : Pos} {a b : E} (ha : BE P R C W X ea a) (hb : BW P R C W X (.BoolOp .Or (eb :: es) pos) b) : BW P R C W X (.BoolOp .Or (ea :: eb :: es) pos) (.or a b) :=
  ⟨PE.imp (L2.pe_or ha.pe hb.pe) pe_or_r, PW.imp (L2.pw_or ha.pt hb.pw) pt_or_r⟩
theorem be_ite {ec ea eb : Expr} {pos : Pos} {c a b : E} (hc : BE P R C W X ec c) (ha : BE P R C W X ea a) (hb : BE P R C W X eb b) : PE X (.IfExp ec ea eb pos) (tE P R C W (.ite c a b)) :=
  PE.imp (L2.pe_ifExp hc.pt ha.pe hb.pe) fun σ H Q ⟨F, s, hs, hw⟩ => by
    rw [evE] at hw
    refine tT_bind hs hw fun b s1 F1 H1 p1 q => ?_
    cases b with
    | true =>
      rw [if_pos rfl] at q ⊢
      exact tE_rest p1 q
    | false =>
      rw [if_neg Bool.false_ne_true] at q ⊢
      exact tE_rest p1 q
theorem be_isn (ng : Bool) {ea : Expr} {j : Nat} {pos p2 : Pos} {a : E} (ha : BE P R C W X ea a) : BE P R C W X (.Compare ea [if ng then .IsNot else .Is] [.Constant .none j p2] pos) (if ng then .nisn a else .isn a) := by
  have key : ∀ σ H Q, tE P R C W (if ng then .nisn a else .isn a) σ H Q → tE P R C W a σ H fun x H1 => Q (.bl (if ng then !decide (x = .non) else decide (x = .non))) H1 := fun σ H Q ⟨F, s, hs, hw⟩ => by
    have nn : ∀ {F H : Hp} {v : V} {d : D}, PK C.toBk F H v d → decide (d = .non) = decide (v = .non) := fun {F H v d} h => by
      rcases h with h | ⟨a, rfl, h⟩
      · cases h <;> rfl
      · cases d <;> simp only [OD] at h <;> first | exact h.elim | rfl
    cases ng with
    | true =>
      rw [if_pos rfl, evE] at hw
      refine tE_bind hs hw fun w1 s1 v1 F1 H1 p1 r1 n1 hw1 => ?_
      split at hw1
      · rename_i d e
        have q := hw1 (.bl (!decide (d = .non))) F1 H1 p1 (.bl _) .val
        rw [nn (r1.pk p1.sr e)] at q
        exact q
      · exact hw1.elim
    | false =>
      rw [if_neg Bool.false_ne_true, evE] at hw
      refine tE_bind hs hw fun w1 s1 v1 F1 H1 p1 r1 n1 hw1 => ?_
      split at hw1
      · rename_i d e
        have q := hw1 (.bl (decide (d = .non))) F1 H1 p1 (.bl _) .val
        rw [nn (r1.pk p1.sr e)] at q
        exact q
      · exact hw1.elim
  have key2 : ∀ σ H Q, tE P R C W (if ng then .nisn a else .isn a) σ H Q → L2.tOp (fun x y H Q => y = .non ∧ Q (.bl (if ng then !decide (x = .non) else decide (x = .non))) H) (tE P R C W a) (L2.tC .non) σ H Q := fun σ H Q h => by
    obtain ⟨F, s, hs, hw⟩ := key σ H Q h
    exact ⟨F, s, hs, Wp.mono hw (fun w s' q v F' H' p r n => ⟨rfl, q v F' H' p r n⟩) fun _ _ z => z⟩
  cases ng with
  | true => exact ⟨PE.imp (L2.pe_cmpR L2.op_notN ha.pe L2.pe_non (by rfl)) key2, pt_testOf (L2.pt_cmpR L2.op_notN ha.pe L2.pe_non (by rfl)) key2⟩
  | false => exact ⟨PE.imp (L2.pe_cmpR L2.op_isN ha.pe L2.pe_non (by rfl)) key2, pt_testOf (L2.pt_cmpR L2.op_isN ha.pe L2.pe_non (by rfl)) key2⟩

/-! ### taken into something else -/
theorem SR.frz {s : St} {σ : L2.St} {F H : Hp} (hm : C.mono) (h : SR C s σ F H) {a : Addr} {o : HO} (ha : H a = some o) (nt : NTb o) (nf : F a = none) (no : ¬ Ow C s σ a) : SR C s σ (upd F a o) H := by
  have le : Le F (upd F a o) := upd_le nf
  have ne : ∀ b, Ow C s σ b → b ≠ a := fun b hb e => no (e ▸ hb)
  have sl : ∀ {D : Kx} {o' : Option V} {sl : Slot}, D.toBk = C.toBk → D.mono → (∀ d b, sl = .own d → o' = some (.ref b) → b ≠ a) → SlR D F H o' sl → SlR D (upd F a o) H o' sl := fun {D o' sl} hB hm' hn r => by
    cases sl with
    | un => trivial
    | val d => obtain ⟨v, e, q⟩ := r; exact ⟨v, e, q.mono le⟩
    | own d =>
      obtain ⟨b, e, h1, h2, h3⟩ := r
      refine ⟨b, e, ?_, h2, h3.mono le rfl⟩
      rw [upd_ne (hn d b rfl e)]
      exact h1
    | exn x => obtain ⟨v, e, q⟩ := r; exact ⟨v, e, hm' _ _ _ _ le q⟩
    | clo ps b => exact r
  have own_of : ∀ {c : Fr} {τ : L2.St} {i : Nat} {d : D} {b : Addr}, c[i]? = some (Slot.own d) → (τ[i]?).join = some (.ref b) → Own c τ b := fun {c τ i d b} h1 h2 => by
    refine ⟨i, d, h1, ?_⟩
    cases q : τ[i]? with
    | none => rw [q] at h2; cases h2
    | some u => rw [q] at h2; cases u with
      | none => cases h2
      | some v => cases h2; rfl
  refine ⟨fun b u e => ?_, ⟨h.c.len, fun i sl' e => sl rfl hm (fun d b q1 q2 => ne b (.inl (own_of (d := d) (e.trans (congrArg some q1)) q2))) (h.c.sl i sl' e), h.c.ne⟩,
    ⟨h.p.len, fun i sl' e => sl rfl C.par_mono (fun d b q1 q2 => ne b (.inr (own_of (d := d) (e.trans (congrArg some q1)) q2))) (h.p.sl i sl' e), h.p.ne⟩, h.dj, h.zz, h.zp, fun p hp => (h.tb p hp).mono (fun c q z => le _ _ z) (by rw [upd_ne (h.tb.ne ha nt p hp)]; exact (h.tb p hp).1) fun _ _ => rfl, fun p hp => le _ _ (h.cd p hp)⟩
  by_cases q : b = a
  · subst q
    rw [upd_same] at e
    cases e
    exact ha
  · rw [upd_ne q] at e
    exact h.le b u e
theorem List.set_get? {α : Type} {l : List α} {i j : Nat} {x y : α} (h : (l.set i x)[j]? = some y) : (j = i ∧ y = x) ∨ (j ≠ i ∧ l[j]? = some y) := by
  by_cases e : j = i
  · subst e
    rw [List.getElem?_set] at h
    simp only [if_true] at h
    split at h
    · cases h; exact .inl ⟨rfl, rfl⟩
    · cases h
  · rw [List.getElem?_set_ne (Ne.symm e)] at h
    exact .inr ⟨e, h⟩
theorem own_set {c : Fr} {σ : L2.St} {i : Nat} {d : D} {a : Addr} (h : Own (c.set i (.val d)) σ a) : Own c σ a ∧ ∀ v, σ[i]? = some (some (.ref v)) → (∃ e, c[i]? = some (.own e)) → (∀ (j k : Nat) (x y : D), c[j]? = some (.own x) → c[k]? = some (.own y) → σ[j]? = some (some (.ref a)) → σ[k]? = some (some (.ref a)) → j = k) → v ≠ a := by
  obtain ⟨j, x, h1, h2⟩ := h
  rcases List.set_get? h1 with ⟨_, q⟩ | ⟨n, q⟩
  · cases q
  · exact ⟨⟨j, x, q, h2⟩, fun v e ⟨y, ey⟩ u z => n (u j i x y q ey h2 (by rw [e, z]))⟩
/-- a slot's thing is nobody's from now on -/
theorem SR.frzSl (hm : C.mono) {s : St} {σ : L2.St} {F H : Hp} (h : SR C s σ F H) {i : Nat} {d : D} {a : Addr} (e : s.c[i]? = some (.own d)) (eσ : σ[i]? = some (some (.ref a))) : ∃ F', PE' C s σ F H (s.set i (.val d)) F' H ∧ DV C.toBk F' (.ref a) d := by
  obtain ⟨b, e1, nf, hz, od⟩ := h.c.sl i _ e
  rw [eσ] at e1
  cases e1
  obtain ⟨o, ho⟩ := od.some
  have hdv : DV C.toBk (upd F a o) (.ref a) d := od.dv (upd_le nf) (by rw [upd_same, ho])
  have oc : ∀ x, Own (s.c.set i (.val d)) σ x → Own s.c σ x ∧ x ≠ a := fun x hx => by
    obtain ⟨h1, h2⟩ := own_set hx
    exact ⟨h1, fun z => h2 a eσ ⟨d, e⟩ (fun j k y w q1 q2 q3 q4 => h.c.ne j k y w x q1 q2 q3 q4) z.symm⟩
  have nop : ¬ Own s.p C.σp a := h.dj a ⟨i, d, e, eσ⟩
  have h1 : SR C (s.set i (.val d)) σ F H → SR C (s.set i (.val d)) σ (upd F a o) H := fun q => q.frz hm ho (od.ntb ho) nf fun z => by
    rcases z with z | z
    · exact (oc a z).2 rfl
    · exact nop z
  have le : Le F (upd F a o) := upd_le nf
  have hlt : i < s.c.length := (List.getElem?_eq_some_iff.mp e).1
  refine ⟨upd F a o, ⟨⟨?_, ⟨le, fun b u q _ _ => q, fun b q1 q2 => ?_, fun b q => q⟩, fun b q => (oc b q).1, fun b q => q⟩, fun j x q => ?_⟩, hdv⟩
  · refine ⟨fun b u q => ?_, ⟨by show σ.length = (s.c.set i (.val d)).length; rw [List.length_set]; exact h.c.len, fun j sl q => ?_, fun j k x y b q1 q2 q3 q4 => ?_⟩, ?_, fun b q => h.dj b (oc b q).1, h.zz, h.zp, fun p hp => (h.tb p hp).mono (fun c q z => le _ _ z) (by rw [upd_ne (h.tb.ne ho (od.ntb ho) p hp)]; exact (h.tb p hp).1) fun _ _ => rfl, fun p hp => le _ _ (h.cd p hp)⟩
    · by_cases z : b = a
      · subst z; rw [upd_same] at q; cases q; exact ho
      · rw [upd_ne z] at q; exact h.le b u q
    · rcases List.set_get? q with ⟨z, rfl⟩ | ⟨z, q'⟩
      · subst z
        exact ⟨.ref a, by rw [eσ]; rfl, hdv⟩
      · have r := h.c.sl j sl q'
        cases sl with
        | un => trivial
        | val x => obtain ⟨v, e1, e2⟩ := r; exact ⟨v, e1, e2.mono le⟩
        | own x =>
          obtain ⟨b, e1, e2, e3, e4⟩ := r
          refine ⟨b, e1, ?_, e3, e4.mono le rfl⟩
          have hb : σ[j]? = some (some (.ref b)) := by
            cases w : σ[j]? with
            | none => rw [w] at e1; cases e1
            | some u => rw [w] at e1; cases u with
              | none => cases e1
              | some v => cases e1; rfl
          rw [upd_ne fun w => z (h.c.ne j i x d b q' e hb (by rw [eσ, w]))]
          exact e2
        | exn x => obtain ⟨v, e1, e2⟩ := r; exact ⟨v, e1, hm _ _ _ _ le e2⟩
        | clo ps b => exact r
    · rcases List.set_get? q1 with ⟨_, z⟩ | ⟨_, q1'⟩
      · cases z
      · rcases List.set_get? q2 with ⟨_, z⟩ | ⟨_, q2'⟩
        · cases z
        · exact h.c.ne j k x y b q1' q2' q3 q4
    · refine ⟨h.p.len, fun j sl q => ?_, h.p.ne⟩
      have r := h.p.sl j sl q
      cases sl with
      | un => trivial
      | val x => obtain ⟨v, e1, e2⟩ := r; exact ⟨v, e1, e2.mono le⟩
      | own x =>
        obtain ⟨b, e1, e2, e3, e4⟩ := r
        refine ⟨b, e1, ?_, e3, e4.mono le rfl⟩
        have hb : C.σp[j]? = some (some (.ref b)) := by
          cases w : C.σp[j]? with
          | none => rw [w] at e1; cases e1
          | some u => rw [w] at e1; cases u with
            | none => cases e1
            | some v => cases e1; rfl
        rw [upd_ne fun w => nop ⟨j, x, q, by rw [hb, w]⟩]
        exact e2
      | exn x => obtain ⟨v, e1, e2⟩ := r; exact ⟨v, e1, e2⟩
      | clo ps b => exact r
  · by_cases z : b = a
    · subst z; exact .inr (.inl ⟨i, d, e, eσ⟩)
    · rw [upd_ne z] at q2; exact absurd q1 q2
  · by_cases z : j = i
    · subst z
      exact ⟨d, .inr (by show (s.c.set j (.val d))[j]? = _; rw [List.getElem?_set_self hlt])⟩
    · refine ⟨x, ?_⟩
      show (s.c.set i (.val d))[j]? = _ ∨ (s.c.set i (.val d))[j]? = _
      rw [List.getElem?_set_ne (Ne.symm z)]
      exact q
theorem slotAt_eq {s : St} {i : Nat} {x : Slot} (h : s.c[i]? = some x) : slotAt s i = x := by unfold slotAt; rw [h]; rfl
theorem take_ok (hm : C.mono) {s0 s : St} {σ : L2.St} {F0 H0 F H : Hp} {v : V} {w : Mid.W} (p : PE' C s0 σ F0 H0 s F H) (r : RW C s σ F H v w) (n : NW H0 v w) {Q : D → St → Prop} {N : Mid.X → St → Prop} (hw : Wp (take s w) Q N) :
    ∃ d s' F', PE' C s0 σ F0 H0 s' F' H ∧ DV C.toBk F' v d ∧ Q d s' := by
  cases w with
  | val d => exact ⟨d, s, F, p, r, hw⟩
  | own d =>
    obtain ⟨a, rfl, nf, no, hz, hzp, od⟩ := r
    obtain ⟨o, ho⟩ := od.some
    have le : Le F (upd F a o) := upd_le nf
    have hn := n d rfl a rfl
    refine ⟨d, s, upd F a o, ⟨⟨p.sr.frz hm ho (od.ntb ho) nf no, ⟨p.st.le.trans le, p.st.keep, fun b q1 q2 => ?_, p.st.there⟩, p.oc, p.op⟩, p.ks⟩, od.dv le (by rw [upd_same, ho]), hw⟩
    by_cases z : b = a
    · subst z; exact .inl hn
    · rw [upd_ne z] at q2; exact p.st.new b q1 q2
  | pl i =>
    obtain ⟨hv, q⟩ := r
    unfold take at hw
    rcases q with ⟨d, q⟩ | ⟨d, q⟩
    · simp only [slotAt_eq q] at hw
      obtain ⟨b, e1, _⟩ := p.sr.c.sl i _ q
      rw [hv] at e1
      cases e1
      obtain ⟨F', p', dv⟩ := p.sr.frzSl hm q hv
      exact ⟨d, _, F', p.trans p', dv, hw⟩
    · simp only [slotAt_eq q] at hw
      obtain ⟨v', e1, dv⟩ := p.sr.c.sl i _ q
      rw [hv] at e1
      cases e1
      exact ⟨d, s, F, p, dv, hw⟩
/-- a part is taken, then the rest -/
theorem tE_take (hm : C.mono) {β : Type} {a : E} {f : D → St → Out β} {σ : L2.St} {F H : Hp} {s : St} {Q' : β → St → Prop} {Q : VK} (h : SR C s σ F H) (hw : Wp ((evE P R a s).bind fun w s => (take s w).bind f) Q' (NX C W s σ F H))
    (k : ∀ d s1 v F1 H1, PE' C s σ F H s1 F1 H1 → DV C.toBk F1 v d → Wp (f d s1) Q' (NX C W s1 σ F1 H1) → Q v H1) : tE P R C W a σ H Q := by
  refine ⟨F, s, h, Wp.mono (Wp_bind.mp hw) (fun w s1 hq v F1 H1 p r n => ?_) fun _ _ z => z⟩
  obtain ⟨d, s2, F2, p2, dv, q⟩ := take_ok hm p r n (Wp_bind.mp hq)
  exact k d s2 v F2 H1 p2 dv (Wp.mono q (fun _ _ z => z) fun x s' z => z.step p2.toPost)
theorem tTs_nil (σ : L2.St) (H : Hp) (Q : List V → Hp → Prop) (h : tTs P R C W [] σ H Q) : L2.tNil σ H Q := by
  obtain ⟨F, s, hs, hw⟩ := h
  rw [evTs] at hw
  exact hw [] F H (.refl hs) .nil
theorem tTs_cons (hm : C.mono) {a : E} {r : List E} (σ : L2.St) (H : Hp) (Q : List V → Hp → Prop) (h : tTs P R C W (a :: r) σ H Q) : L2.tCons (tE P R C W a) (tTs P R C W r) σ H Q := by
  obtain ⟨F, s, hs, hw⟩ := h
  rw [evTs] at hw
  refine tE_take hm hs hw fun d s1 v F1 H1 p1 dv hw1 => ?_
  refine ⟨F1, s1, p1.sr, Wp.mono (Wp_bind.mp hw1) (fun ds s2 q vs F2 H2 p2 dvs => ?_) fun _ _ z => z⟩
  exact q (v :: vs) F2 H2 (p1.trans p2) (.cons (dv.mono p2.st.le) dvs)
theorem evTs_len : ∀ (ts : List E) (s : St) {Q : List D → St → Prop} {N : Mid.X → St → Prop}, Wp (evTs P R ts s) Q N → Wp (evTs P R ts s) (fun ds s => ds.length = ts.length ∧ Q ds s) N
  | [], s, Q, N, h => by rw [evTs] at h ⊢; exact ⟨rfl, h⟩
  | t :: r, s, Q, N, h => by
    rw [evTs] at h ⊢
    refine Wp_bind.mpr (Wp.mono (Wp_bind.mp h) (fun w s1 h1 => ?_) fun _ _ z => z)
    refine Wp_bind.mpr (Wp.mono (Wp_bind.mp h1) (fun d s2 h2 => ?_) fun _ _ z => z)
    refine Wp_bind.mpr (Wp.mono (evTs_len r s2 (Wp_bind.mp h2)) (fun ds s3 h3 => ?_) fun _ _ z => z)
    exact ⟨by rw [List.length_cons, List.length_cons, h3.1], h3.2⟩
/-- a written tuple, kept plain -/
theorem pe_tupF {es : List Expr} {k : Nat} {pos : Pos} {t : TA} (h : PA X es t) : PE X (.Tuple es k pos) (fun σ H Q => t σ H fun xs H1 => xs.length ≤ sizeLine ∧ ∀ p its, H1 p = none → Q (.ref p) (upd H1 p (.frz (TupOb its) (.tup xs)))) :=
  ⟨fun pins s σ H Q I hq => wpAny_Tuple_spliced (L2.thn (h.run pos pins s σ H _ I hq) fun us s1 ⟨xs, H1, I1, r, z, q⟩ => ⟨by rw [← r.length]; exact z, .ref _, _, laid_tup (t := s1.toks) I1 r z, rfl, q _ _ I1.fresh⟩)⟩
theorem be_tup (hm : C.mono) {es : List Expr} {k : Nat} {pos : Pos} {ts : List E} (h : PA X es (tTs P R C W ts)) (hl : ts.length ≤ line) : BE P R C W X (.Tuple es k pos) (.tup ts) :=
  .of (PE.imp (pe_tupF h) fun σ H Q ⟨F, s, hs, hw⟩ => by
    rw [evE] at hw
    refine ⟨F, s, hs, Wp.mono (evTs_len ts s (Wp_bind.mp hw)) (fun ds s1 ⟨hd, q⟩ vs F1 H1 p dvs => ?_) fun _ _ z => z⟩
    refine ⟨by rw [dvs.length, hd, ← line_eq]; exact hl, fun a its ha => ?_⟩
    have al : Al F1 H1 (upd F1 a (.frz (TupOb its) (.tup vs))) (upd H1 a (.frz (TupOb its) (.tup vs))) := .frz p.sr.le ha
    exact q (.ref a) _ _ (p.trans (p.sr.alP hm al)) (.tup (.inl ⟨its, upd_same⟩) (dvs.mono al.le)) .val) rfl
theorem be_lst (hm : C.mono) {es : List Expr} {pos : Pos} {ts : List E} (h : PA X es (tTs P R C W ts)) (hl : ts.length ≤ line) : BE P R C W X (.List es pos) (.lst ts) :=
  .of (PE.imp (L2.pe_lst h) fun σ H Q ⟨F, s, hs, hw⟩ => by
    rw [evE] at hw
    refine ⟨F, s, hs, Wp.mono (evTs_len ts s (Wp_bind.mp hw)) (fun ds s1 ⟨hd, q⟩ vs F1 H1 p dvs => ?_) fun _ _ z => z⟩
    refine ⟨by rw [dvs.length, hd, ← line_eq]; exact hl, fun a ha => ?_⟩
    have al : Al F1 H1 F1 (upd H1 a (.lst vs)) := .own p.sr.le ha
    have rn : RN C.toBk H1 F1 (upd H1 a (.lst vs)) (.ref a) (.own (.lst ds)) := ⟨a, rfl, ha, p.sr.le.none ha, vs, upd_same, dvs⟩
    exact q (.ref a) _ _ (p.trans (p.sr.alP hm al)) (rn.rw p.sr) (rn.nw.back fun b h => p.st.there b h)) rfl
/-- a built-in of one thing -/
def rBlt (B : Bk) (b : Blt) : List V → Hp → VK → Prop := fun vs H Q => ∃ F v d w, vs = [v] ∧ Le F H ∧ PK B F H v d ∧ bltD b d = some w ∧ ∀ v F' H', Al F H F' H' → RN B H F' H' v w → Q v H'
theorem tE_blt (hm : C.mono) {b : Blt} {a : E} (σ : L2.St) (H : Hp) (Q : VK) (h : tE P R C W (.blt b a) σ H Q) : L2.tCB (rBlt C.toBk b) (L2.tCons (tE P R C W a) L2.tNil) σ H Q :=
  tE_op1 hm (r := fun v H Q => rBlt C.toBk b [v] H Q) (g := bltD b) (fun s => by rw [evE] <;> rfl) (fun d s Q N h => Wp_opt h) (fun x d w F H Q l px eg q => ⟨F, x, d, w, rfl, l, px, eg, q⟩) σ H Q h
def noStar : Expr → Bool
  | .Starred _ _ => false
  | _ => true
theorem starOk {e : Expr} (h : noStar e = true) (es : List Expr) (env : Env) : starEach (e :: es) env = (false, eval e env) :: starEach es env := by
  cases e <;> first | rfl | exact absurd h Bool.false_ne_true
theorem pa_cons' (hm : C.mono) {e : Expr} {es : List Expr} {t : E} {ts : List E} (he : BE P R C W X e t) (hes : PA X es (tTs P R C W ts)) (hs : noStar e = true) : PA X (e :: es) (tTs P R C W (t :: ts)) :=
  PA.imp (L2.pa_cons he.pe hes (starOk hs es _)) (tTs_cons hm)
theorem pa_nil' : PA X [] (tTs P R C W []) := PA.imp L2.pa_nil tTs_nil
theorem be_cst {d : D} {e : Expr} {v : V} (h : PE X e (L2.tC v)) (hv : ∀ F, DV C.toBk F v d) (hp : plainT e = true) : BE P R C W X e (.cst d) := .of (PE.imp h (tE_c hv fun s => .inl (by rw [evE]))) hp
theorem be_var {i : Nat} {x : Str} {pos : Pos} (hN : X.N[i]? = some x) (hv : L2.Vis X.env.scope x) (hd : (x == ("__debug__" : Str)) = false) (hcd : (x == ("__classdict__" : Str)) = false) : BE P R C W X (.Name x pos) (.var i) := .of (PE.imp (L2.pe_var hN hv hd hcd) tE_var) rfl
theorem be_glo {g : Nat} {v : V} {u : Value} {x : Str} {pos : Pos} (hg : L2.Gl X x) (hmg : X.mg x = some u) (r : RelV v u) (hd : (x == ("__debug__" : Str)) = false) (hv : ∀ d, P.gs[g]? = some d → ∀ F, DV C.toBk F v d) : BE P R C W X (.Name x pos) (.glo g) :=
  .of (PE.imp (L2.pe_glob hg hmg r hd) fun σ H Q ⟨F, s, hs, hw⟩ => by
    rw [evE] at hw
    split at hw
    · rename_i d e
      exact QX.now (w := .val d) hs hw (hv d e F) .val
    · exact hw.elim) rfl
theorem be_fnv {f : Nat} {x : Str} {pos : Pos} (hg : L2.Gl X x) (hmg : X.mg x = some (.ref (C.fa f))) (hd : (x == ("__debug__" : Str)) = false) : BE P R C W X (.Name x pos) (.fnv f) :=
  .of (PE.imp (L2.pe_glob (v := .ref (C.fa f)) hg hmg rfl hd) fun σ H Q ⟨F, s, hs, hw⟩ => by
    rw [evE] at hw
    exact QX.now (w := .val (.fn f)) hs hw (.fn f) .val) rfl
theorem be_dict0 (hm : C.mono) {pos : Pos} (h : PE X (.Dict [] [] pos) (fun σ H Q => ∀ p, H p = none → (p == sysModules) = false → Q (.ref p) (upd H p (dctO p #[] 0)))) : BE P R C W X (.Dict [] [] pos) .dict0 := .of (PE.imp h fun σ H Q ⟨F, s, hs', hw⟩ => by
    rw [evE] at hw
    intro a ha hs
    have al : Al F H F (upd H a (dctO a #[] 0)) := .own hs'.le ha
    have rn : RN C.toBk H F (upd H a (dctO a #[] 0)) (.ref a) (.own (.dic [])) := ⟨a, rfl, ha, hs'.le.none ha, #[], 0, upd_same, hs, Nat.zero_le _, .nil, .nil⟩
    exact hw (.ref a) _ _ (hs'.alP hm al) (rn.rw hs') rn.nw) rfl
end
end Mid
set_option Elab.async false
set_option linter.all false
set_option maxRecDepth 100000
set_option maxHeartbeats 4000000
/-! Calls of the program's own functions. -/
namespace Mid
open PySem PySem.Spec PyProof.Rows
open L2 (Hp HO V RelV Vals SqL SqT Rd upd upd_same upd_ne OpR R2 Inv Cx EP VK TE TT TA WX XK PE PT PA)

/-- the frozen heap with the things at L -/
noncomputable def frz (F H : Hp) (L : Addr → Prop) : Hp := fun b => open Classical in if L b then H b else F b
theorem frz_in {F H : Hp} {L : Addr → Prop} {b : Addr} (h : L b) : frz F H L b = H b := by unfold frz; rw [if_pos h]
theorem frz_out {F H : Hp} {L : Addr → Prop} {b : Addr} (h : ¬ L b) : frz F H L b = F b := by unfold frz; rw [if_neg h]
theorem frz_le {F H : Hp} (l : Le F H) (L : Addr → Prop) : Le F (frz F H L) := fun b o e => by
  by_cases h : L b
  · rw [frz_in h]; exact l b o e
  · rw [frz_out h]; exact e
theorem frz_le2 {F H : Hp} (l : Le F H) (L : Addr → Prop) : Le (frz F H L) H := fun b o e => by
  by_cases h : L b
  · rw [frz_in h] at e; exact e
  · rw [frz_out h] at e; exact l b o e

/-- a slot that is handed over: to be changed -/
def OwnE (sl : List Slot) (vs : List V) (a : Addr) : Prop := ∃ (j : Nat) (d : D), sl[j]? = some (Slot.own d) ∧ vs[j]? = some (.ref a)
/-- a thing handed over -/
def EntS (B : Bk) (cs : List Nat → E → V → Prop) (F H : Hp) (v : V) : Slot → Prop
  | .val d => DV B F v d
  | .own d => ∃ a, v = .ref a ∧ F a = none ∧ OD B F H a d
  | .clo ps b => cs ps b v
  | _ => False
structure Ent (B : Bk) (cs : List Nat → E → V → Prop) (F H : Hp) (sl : List Slot) (vs : List V) : Prop where
  le : Le F H
  len : sl.length = vs.length
  at_ : ∀ (i : Nat) (s : Slot) (v : V), sl[i]? = some s → vs[i]? = some v → EntS B cs F H v s
  ne : ∀ (i j : Nat) (d e : D) (a : Addr), sl[i]? = some (.own d) → sl[j]? = some (.own e) → vs[i]? = some (.ref a) → vs[j]? = some (.ref a) → i = j
  tb : TbOk B F H
/-- what stands behind a call; Op: what the handing frame owns -/
structure EndC (B : Bk) (F H : Hp) (sl : List Slot) (vs : List V) (Op : Addr → Prop) (c : Fr) (F' H' : Hp) : Prop where
  le : Le F F'
  le2 : Le F' H'
  keep : ∀ a o, H a = some o → NTb o → ¬ OwnE sl vs a → ¬ Op a → H' a = some o
  new : ∀ a, F a = none → F' a ≠ none → H a = none ∨ OwnE sl vs a ∨ Op a
  there : ∀ a, H' a = none → H a = none
  io : ∀ (j : Nat) (e d : D) (a : Addr), sl[j]? = some (.own e) → vs[j]? = some (.ref a) → c[j]? = some (.own d) → F' a = none ∧ OD B F' H' a d
  tb : TbOk B F' H'
/-- the answer -/
def EndW (B : Bk) (H : Hp) (sl : List Slot) (vs : List V) (c : Fr) (F' H' : Hp) (v : V) : W → Prop
  | .val d => DV B F' v d
  | .own d => ∃ a, v = .ref a ∧ F' a = none ∧ OD B F' H' a d ∧ (H a = none ∨ OwnE sl vs a) ∧ ∀ (j : Nat) (e d : D), sl[j]? = some (.own e) → vs[j]? = some (.ref a) → c[j]? ≠ some (.own d)
  | .pl _ => False
/-- what is the same in all frames -/
structure Gx extends Bk where
  xs : X → V → Hp → Prop
  xr : X → Value → Option Addr → Hp → Prop
abbrev Kx.gx (C : Kx) : Gx := ⟨C.toBk, C.xs, C.xr⟩
/-- a def's promise, no function handed over -/
def spA (P : Pg) (R : Run) (G : Gx) (f : Nat) : L2.Sp := fun vs H Q E => ∃ F sl fd, P.fs[f]? = some fd ∧ sl.length = fd.np ∧ (∀ (j : Nat) (d : D), sl[j]? = some (Slot.own d) → fd.io.contains j = true) ∧ Ent G.toBk (fun _ _ _ => False) F H sl vs ∧
  match R (.call f sl []) with
  | .ret w c _ => ∀ v F' H', EndC G.toBk F H sl vs (fun _ => False) c F' H' → EndW G.toBk H sl vs c F' H' v w → Q v H'
  | .exc x c _ => ∀ cls dO F' H', EndC G.toBk F H sl vs (fun _ => False) c F' H' → G.xr x cls dO F' → E cls dO H'
  | .stk _ => False

/-! ### arguments -/
structure RWs (C : Kx) (s : St) (σ : L2.St) (F H H0 : Hp) (vs : List V) (as : List A) : Prop where
  len : vs.length = as.length
  at_ : ∀ (j : Nat) (v : V) (a : A), vs[j]? = some v → as[j]? = some a → ∃ w, a = .w w ∧ RW C s σ F H v w ∧ NW H0 v w
section
variable (P : Pg) (R : Run) (C : Kx) (W : WX)
def tAs (ts : List E) : TA := fun σ H Q => ∃ F s, SR C s σ F H ∧ Wp (evAs P R ts s) (fun as s' => ∀ vs F' H', PE' C s σ F H s' F' H' → RWs C s' σ F' H' H vs as → Q vs H') (NX C W s σ F H)
end
def E.isClo : E → Bool
  | .clo _ _ => true
  | _ => false
section
variable {P : Pg} {R : Run} {C : Kx} {W : WX} {X : Cx}
theorem evAs_cons {e : E} (h : e.isClo = false) (r : List E) (s : St) : evAs P R (e :: r) s = (evE P R e s).bind fun w s => (evAs P R r s).bind fun as s => .ok (.w w :: as) s := by
  cases e
  case clo => exact absurd h (by simp [E.isClo])
  all_goals (rw [evAs]; intro a b q; cases q)
theorem RWs.post {s s' : St} {σ : L2.St} {F H F' H' H0 : Hp} {vs : List V} {as : List A} (h : RWs C s σ F H H0 vs as) (p : PE' C s σ F H s' F' H') : RWs C s' σ F' H' H0 vs as :=
  ⟨h.len, fun j v a e1 e2 => let ⟨w, e, r, n⟩ := h.at_ j v a e1 e2; ⟨w, e, r.post p, n⟩⟩
theorem tAs_nil (σ : L2.St) (H : Hp) (Q : List V → Hp → Prop) (h : tAs P R C W [] σ H Q) : L2.tNil σ H Q := by
  obtain ⟨F, s, hs, hw⟩ := h
  rw [evAs] at hw
  exact hw [] F H (.refl hs) ⟨rfl, fun j v a e => by simp at e⟩
theorem tAs_cons {a : E} (ha : a.isClo = false) {r : List E} (σ : L2.St) (H : Hp) (Q : List V → Hp → Prop) (h : tAs P R C W (a :: r) σ H Q) : L2.tCons (tE P R C W a) (tAs P R C W r) σ H Q := by
  obtain ⟨F, s, hs, hw⟩ := h
  rw [evAs_cons ha] at hw
  refine tE_bind hs hw fun w s1 v F1 H1 p1 r1 n1 hw1 => ?_
  refine ⟨F1, s1, p1.sr, Wp.mono (Wp_bind.mp hw1) (fun as s2 q vs F2 H2 p2 rs => ?_) fun _ _ z => z⟩
  refine q (v :: vs) F2 H2 (p1.trans p2) ⟨by rw [List.length_cons, List.length_cons, rs.len], fun j x y e1 e2 => ?_⟩
  cases j with
  | zero =>
    rw [List.getElem?_cons_zero] at e1 e2
    cases e1
    cases e2
    exact ⟨w, rfl, r1.post p2, n1⟩
  | succ j =>
    rw [List.getElem?_cons_succ] at e1 e2
    obtain ⟨w', e, r', n'⟩ := rs.at_ j x y e1 e2
    exact ⟨w', e, r', n'.back fun a h => p1.st.there a h⟩
theorem paA_cons {e : Expr} {es : List Expr} {t : E} {ts : List E} (he : BE P R C W X e t) (hes : PA X es (tAs P R C W ts)) (hs : noStar e = true) (hc : t.isClo = false) : PA X (e :: es) (tAs P R C W (t :: ts)) :=
  PA.imp (L2.pa_cons he.pe hes (starOk hs es _)) (tAs_cons hc)
theorem paA_nil : PA X [] (tAs P R C W []) := PA.imp L2.pa_nil tAs_nil

/-! ### the slots handed over -/
def argSl (io : List Nat) (s : St) (j : Nat) : A → Option Slot
  | .clo ps b => some (.clo ps b)
  | .w w => if io.contains j then (match w with
      | .pl i => match slotAt s i with
        | .own d => some (.own d)
        | _ => none
      | _ => none) else (peek s w).map .val
theorem argSl_w {io : List Nat} {s : St} {j : Nat} {w : Mid.W} {x : Slot} (h : argSl io s j (.w w) = some x) : (io.contains j = true ∧ ∃ i d, w = .pl i ∧ slotAt s i = .own d ∧ x = .own d) ∨ (io.contains j = false ∧ ∃ d, peek s w = some d ∧ x = .val d) := by
  have e : argSl io s j (.w w) = if io.contains j then (match w with
      | .pl i => match slotAt s i with
        | .own d => some (.own d)
        | _ => none
      | _ => none) else (peek s w).map .val := by cases w <;> rfl
  rw [e] at h
  cases hi : io.contains j with
  | true =>
    rw [hi, if_pos rfl] at h
    cases w with
    | pl i =>
      simp only at h
      split at h
      · rename_i d e
        cases h
        exact .inl ⟨rfl, i, d, rfl, e, rfl⟩
      · cases h
    | _ => cases h
  | false =>
    rw [hi, if_neg Bool.false_ne_true] at h
    obtain ⟨d, e1, e2⟩ := Option.map_eq_some_iff.mp h
    exact .inr ⟨rfl, d, e1, e2.symm⟩
theorem argSlots_at {io : List Nat} {s : St} : ∀ {as : List A} {j : Nat} {sl : List Slot}, argSlots io s j as = some sl → sl.length = as.length ∧ ∀ (k : Nat) (a : A), as[k]? = some a → ∃ x, sl[k]? = some x ∧ argSl io s (j + k) a = some x
  | [], j, sl, h => by simp only [argSlots, Option.some.injEq] at h; subst h; exact ⟨rfl, fun k a e => by simp at e⟩
  | a :: r, j, sl, h => by
    have main : ∃ x sl', argSl io s j a = some x ∧ argSlots io s (j + 1) r = some sl' ∧ sl = x :: sl' := by
      cases a with
      | clo ps b =>
        simp only [argSlots, Option.map_eq_some_iff] at h
        obtain ⟨sl', h1, h2⟩ := h
        exact ⟨_, sl', rfl, h1, h2.symm⟩
      | w w =>
        simp only [argSlots] at h
        unfold argSl
        split at h
        · rename_i hi
          simp only [if_pos hi]
          cases w with
          | pl i =>
            simp only at h ⊢
            split at h
            · rename_i d e
              simp only [Option.map_eq_some_iff] at h
              obtain ⟨sl', h1, h2⟩ := h
              exact ⟨.own d, sl', by simp only [e], h1, h2.symm⟩
            · cases h
          | _ => cases h
        · rename_i hi
          simp only [if_neg hi]
          split at h
          · rename_i d e
            simp only [Option.map_eq_some_iff] at h
            obtain ⟨sl', h1, h2⟩ := h
            exact ⟨.val d, sl', by rw [e]; rfl, h1, h2.symm⟩
          · cases h
    obtain ⟨x, sl', h1, h2, rfl⟩ := main
    obtain ⟨l, q⟩ := argSlots_at h2
    refine ⟨by rw [List.length_cons, List.length_cons, l], fun k b e => ?_⟩
    cases k with
    | zero => rw [List.getElem?_cons_zero] at e; cases e; exact ⟨x, rfl, h1⟩
    | succ k =>
      rw [List.getElem?_cons_succ] at e
      obtain ⟨y, e1, e2⟩ := q k b e
      exact ⟨y, by rw [List.getElem?_cons_succ]; exact e1, by rw [← e2]; congr 1; omega⟩
theorem ioPls_mem {io : List Nat} : ∀ {as : List A} {j k i : Nat}, as[k]? = some (.w (.pl i)) → io.contains (j + k) = true → i ∈ ioPls io j as
  | [], _, _, _, h, _ => by simp at h
  | a :: r, j, 0, i, h, hi => by
    rw [List.getElem?_cons_zero] at h
    cases h
    simp only [ioPls]
    rw [if_pos (by simpa using hi)]
    exact List.mem_cons_self
  | a :: r, j, k + 1, i, h, hi => by
    rw [List.getElem?_cons_succ] at h
    have m := ioPls_mem (j := j + 1) h (by rw [← hi]; congr 1; omega)
    cases a with
    | clo ps b => simpa only [ioPls] using m
    | w w => cases w with
      | pl x =>
        simp only [ioPls]
        split
        · exact List.mem_cons_of_mem _ m
        · exact m
      | _ => simpa only [ioPls] using m
theorem lentPls_mem {io : List Nat} : ∀ {as : List A} {j k i : Nat}, as[k]? = some (.w (.pl i)) → io.contains (j + k) = false → i ∈ lentPls io j as
  | [], _, _, _, h, _ => by simp at h
  | a :: r, j, 0, i, h, hi => by
    rw [List.getElem?_cons_zero] at h
    cases h
    simp only [lentPls]
    rw [if_neg (by simpa using hi)]
    exact List.mem_cons_self
  | a :: r, j, k + 1, i, h, hi => by
    rw [List.getElem?_cons_succ] at h
    have m := lentPls_mem (j := j + 1) h (by rw [← hi]; congr 1; omega)
    cases a with
    | clo ps b => simpa only [lentPls] using m
    | w w => cases w with
      | pl x =>
        simp only [lentPls]
        split
        · exact m
        · exact List.mem_cons_of_mem _ m
      | _ => simpa only [lentPls] using m
theorem ioPls_inj {io : List Nat} : ∀ {as : List A} {j k l i : Nat}, (ioPls io j as).Nodup → as[k]? = some (.w (.pl i)) → as[l]? = some (.w (.pl i)) → io.contains (j + k) = true → io.contains (j + l) = true → k = l
  | [], _, _, _, _, _, h, _, _, _ => by simp at h
  | a :: r, j, 0, 0, i, _, _, _, _, _ => rfl
  | a :: r, j, 0, l + 1, i, n, h1, h2, h3, h4 => by
    rw [List.getElem?_cons_zero] at h1
    cases h1
    rw [List.getElem?_cons_succ] at h2
    simp only [ioPls] at n
    rw [if_pos (by simpa using h3)] at n
    exact absurd (ioPls_mem (j := j + 1) h2 (by rw [← h4]; congr 1; omega)) (List.nodup_cons.mp n).1
  | a :: r, j, k + 1, 0, i, n, h1, h2, h3, h4 => by
    rw [List.getElem?_cons_zero] at h2
    cases h2
    rw [List.getElem?_cons_succ] at h1
    simp only [ioPls] at n
    rw [if_pos (by simpa using h4)] at n
    exact absurd (ioPls_mem (j := j + 1) h1 (by rw [← h3]; congr 1; omega)) (List.nodup_cons.mp n).1
  | a :: r, j, k + 1, l + 1, i, n, h1, h2, h3, h4 => by
    rw [List.getElem?_cons_succ] at h1 h2
    have n' : (ioPls io (j + 1) r).Nodup := by
      cases a with
      | clo ps b => simpa only [ioPls] using n
      | w w => cases w with
        | pl x =>
          simp only [ioPls] at n
          split at n
          · exact (List.nodup_cons.mp n).2
          · exact n
        | _ => simpa only [ioPls] using n
    rw [ioPls_inj (j := j + 1) n' h1 h2 (by rw [← h3]; congr 1; omega) (by rw [← h4]; congr 1; omega)]
theorem apart_io {io : List Nat} {as : List A} (h : apartOk io as = true) {k l i : Nat} (h1 : as[k]? = some (.w (.pl i))) (h2 : as[l]? = some (.w (.pl i))) (h3 : io.contains k = true) : k = l := by
  unfold apartOk at h
  rw [Bool.and_eq_true] at h
  have n := of_decide_eq_true h.1
  cases hl : io.contains l with
  | true => exact ioPls_inj (j := 0) n h1 h2 (by rw [Nat.zero_add]; exact h3) (by rw [Nat.zero_add]; exact hl)
  | false =>
    have m1 := ioPls_mem (j := 0) h1 (by rw [Nat.zero_add]; exact h3)
    have m2 := lentPls_mem (j := 0) h2 (by rw [Nat.zero_add]; exact hl)
    have := List.all_eq_true.mp h.2 _ m1
    simp only [Bool.not_eq_true', List.contains_eq_mem, decide_eq_false_iff_not] at this
    exact absurd m2 this
/-- what is lent -/
def Lent (io : List Nat) (s : St) (vs : List V) (as : List A) (a : Addr) : Prop := ∃ (j : Nat) (w : Mid.W), as[j]? = some (.w w) ∧ vs[j]? = some (.ref a) ∧ io.contains j = false ∧ ((∃ d, w = .own d) ∨ ∃ i d, w = .pl i ∧ s.c[i]? = some (.own d))
section
variable {s : St} {σ : L2.St} {F H H0 : Hp} {vs : List V} {as : List A} {io : List Nat}
theorem slotAt_own {s : St} {i : Nat} {d : D} (h : slotAt s i = .own d) : s.c[i]? = some (.own d) := by
  unfold slotAt at h
  cases e : s.c[i]? with
  | none => rw [e] at h; cases h
  | some x => rw [e] at h; exact congrArg some h
theorem slotAt_val {s : St} {i : Nat} {d : D} (h : slotAt s i = .val d) : s.c[i]? = some (.val d) := by
  unfold slotAt at h
  cases e : s.c[i]? with
  | none => rw [e] at h; cases h
  | some x => rw [e] at h; exact congrArg some h
theorem Lent.ok (hs : SR C s σ F H) (rs : RWs C s σ F H H0 vs as) {a : Addr} (h : Lent io s vs as a) : F a = none ∧ (∃ d, OD C.toBk F H a d) ∧ (H0 a = none ∨ Own s.c σ a) := by
  obtain ⟨j, w, e1, e2, _, q⟩ := h
  obtain ⟨w', e3, r, n⟩ := rs.at_ j _ _ e2 e1
  cases e3
  rcases q with ⟨d, rfl⟩ | ⟨i, d, rfl, q⟩
  · obtain ⟨b, e, h1, h2, h3, h4, h5⟩ := r
    cases e
    exact ⟨h1, ⟨d, h5⟩, .inl (n d rfl a rfl)⟩
  · obtain ⟨e, _⟩ := r
    obtain ⟨b, e4, h1, h2, h3⟩ := hs.c.sl i _ q
    rw [e] at e4
    cases e4
    exact ⟨h1, ⟨d, h3⟩, .inr ⟨i, d, q, e⟩⟩
/-- the callee's entry -/
theorem ent_of (hs : SR C s σ F H) (rs : RWs C s σ F H H0 vs as) {sl : List Slot} (h : argSlots io s 0 as = some sl) (ap : apartOk io as = true) : Ent C.toBk (fun _ _ _ => False) (frz F H (Lent io s vs as)) H sl vs ∧
    (∀ (j : Nat) (d : D), sl[j]? = some (.own d) → ∃ i a, as[j]? = some (.w (.pl i)) ∧ io.contains j = true ∧ s.c[i]? = some (.own d) ∧ vs[j]? = some (.ref a) ∧ σ[i]? = some (some (.ref a))) := by
  obtain ⟨hl, hat⟩ := argSlots_at h
  have own : ∀ (j : Nat) (d : D), sl[j]? = some (.own d) → ∃ i a, as[j]? = some (.w (.pl i)) ∧ io.contains j = true ∧ s.c[i]? = some (.own d) ∧ vs[j]? = some (.ref a) ∧ σ[i]? = some (some (.ref a)) := fun j d e => by
    have hj : j < as.length := by rw [← hl]; exact (List.getElem?_eq_some_iff.mp e).1
    obtain ⟨v, hv⟩ : ∃ v, vs[j]? = some v := ⟨vs[j]'(by rw [rs.len]; exact hj), List.getElem?_eq_getElem _⟩
    obtain ⟨x, e1, e2⟩ := hat j as[j] (List.getElem?_eq_getElem hj)
    rw [e] at e1
    cases e1
    obtain ⟨w, ew, r, n⟩ := rs.at_ j v as[j] hv (List.getElem?_eq_getElem hj)
    rw [ew, Nat.zero_add] at e2
    rcases argSl_w e2 with ⟨hi, i, d', rfl, ex, z⟩ | ⟨_, d', _, z⟩
    · cases z
      have q := slotAt_own ex
      obtain ⟨b, e4, h1, h2, h3⟩ := hs.c.sl i _ q
      obtain ⟨er, _⟩ := r
      rw [er] at e4
      cases e4
      exact ⟨i, b, by rw [← ew]; exact List.getElem?_eq_getElem hj, hi, q, hv, er⟩
    · cases z
  refine ⟨⟨frz_le2 hs.le _, by rw [hl, rs.len], fun j x v e1 e2 => ?_, fun i j d e a h1 h2 h3 h4 => ?_, fun p hp => (hs.tb p hp).mono (fun c q z => frz_le hs.le _ _ _ z) (by
    rw [frz_out]
    · exact (hs.tb p hp).1
    · intro z
      obtain ⟨_, ⟨d, od⟩, _⟩ := z.ok hs rs
      obtain ⟨o, ho⟩ := od.some
      exact hs.tb.ne ho (od.ntb ho) p hp rfl) fun _ _ => rfl⟩, own⟩
  · have hj : j < as.length := by rw [← hl]; exact (List.getElem?_eq_some_iff.mp e1).1
    obtain ⟨x', e3, e4⟩ := hat j as[j] (List.getElem?_eq_getElem hj)
    rw [e1] at e3
    cases e3
    obtain ⟨w, ew, r, n⟩ := rs.at_ j v as[j] e2 (List.getElem?_eq_getElem hj)
    have eas : as[j]? = some (.w w) := by rw [← ew]; exact List.getElem?_eq_getElem hj
    cases x with
    | own d =>
      obtain ⟨i, a, q1, q2, q3, q4, q5⟩ := own j d e1
      rw [e2] at q4
      cases q4
      obtain ⟨b, e4, h1, h2, h3⟩ := hs.c.sl i _ q3
      rw [q5] at e4
      cases e4
      refine ⟨a, rfl, ?_, h3.mono (frz_le hs.le _) rfl⟩
      rw [frz_out]
      · exact h1
      · rintro ⟨j', w', z1, z2, z3, z4⟩
        obtain ⟨w2, ew2, r2, n2⟩ := rs.at_ j' _ _ z2 z1
        cases ew2
        rcases z4 with ⟨d', rfl⟩ | ⟨i', d', rfl, z4⟩
        · obtain ⟨b, e5, _, no, _⟩ := r2
          cases e5
          exact no (.inl ⟨i, d, q3, q5⟩)
        · obtain ⟨er, _⟩ := r2
          have ei := hs.c.ne i i' d d' a q3 z4 q5 er
          subst ei
          have := apart_io ap q1 z1 q2
          subst this
          rw [q2] at z3
          cases z3
    | val d =>
      show DV C.toBk _ v d
      rw [ew, Nat.zero_add] at e4
      rcases argSl_w e4 with ⟨_, i, d', _, _, z⟩ | ⟨hi, d', pk, z⟩
      · cases z
      · cases z
        cases w with
        | val d' => cases pk; exact r.mono (frz_le hs.le _)
        | own d' =>
          cases pk
          obtain ⟨a, rfl, h1, h2, h3, h4, h5⟩ := r
          exact h5.dv (frz_le hs.le _) (frz_in ⟨j, _, eas, e2, hi, .inl ⟨d, rfl⟩⟩)
        | pl i =>
          obtain ⟨er, _⟩ := r
          unfold peek at pk
          simp only at pk
          split at pk
          · rename_i d' e
            cases pk
            have q := slotAt_own e
            obtain ⟨b, e5, h1, h2, h3⟩ := hs.c.sl i _ q
            rw [er] at e5
            cases e5
            exact h3.dv (frz_le hs.le _) (frz_in ⟨j, _, eas, e2, hi, .inr ⟨i, d, rfl, q⟩⟩)
          · rename_i d' e
            cases pk
            obtain ⟨v', e5, h3⟩ := hs.c.sl i _ (slotAt_val e)
            rw [er] at e5
            cases e5
            exact h3.mono (frz_le hs.le _)
          · cases pk
    | _ =>
      rw [ew, Nat.zero_add] at e4
      rcases argSl_w e4 with ⟨_, i, d', _, _, z⟩ | ⟨hi, d', pk, z⟩ <;> cases z
  · obtain ⟨i1, a1, q1, q2, q3, q4, q5⟩ := own i d h1
    obtain ⟨i2, a2, p1, p2, p3, p4, p5⟩ := own j e h2
    rw [h3] at q4
    cases q4
    rw [h4] at p4
    cases p4
    have ei := hs.c.ne i1 i2 d e a q3 p3 q5 p5
    subst ei
    exact apart_io ap q1 p1 q2
end
/-! ### behind the call -/
theorem ioPls_ex {io : List Nat} : ∀ {as : List A} {j i : Nat}, i ∈ ioPls io j as → ∃ k, as[k]? = some (.w (.pl i)) ∧ io.contains (j + k) = true
  | [], _, _, h => by simp [ioPls] at h
  | a :: r, j, i, h => by
    have go : i ∈ ioPls io (j + 1) r → ∃ k, (a :: r)[k]? = some (.w (.pl i)) ∧ io.contains (j + k) = true := fun m => by
      obtain ⟨k, e1, e2⟩ := ioPls_ex m
      exact ⟨k + 1, by rw [List.getElem?_cons_succ]; exact e1, by rw [← e2]; congr 1; omega⟩
    cases a with
    | clo ps b => exact go (by simpa only [ioPls] using h)
    | w w => cases w with
      | pl x =>
        simp only [ioPls] at h
        split at h
        · rename_i hi
          rcases List.mem_cons.mp h with e | h
          · subst e; exact ⟨0, rfl, hi⟩
          · exact go h
        · exact go h
      | _ => exact go (by simpa only [ioPls] using h)
/-- the frame behind a call -/
def BackOk (io : List Nat) (flat : Bool) (c : Fr) (j : Nat) (as : List A) (s c' : Fr) : Prop :=
  c'.length = s.length ∧ ∀ i : Nat,
      (i ∈ ioPls io j as → ∃ (k : Nat) (d : D), as[k]? = some (.w (.pl i)) ∧ io.contains (j + k) = true ∧ c[j + k]? = some (Slot.own d) ∧ (i < s.length → c'[i]? = some (Slot.own d))) ∧
      (i ∉ ioPls io j as → c'[i]? = s[i]? ∨ (flat = false ∧ i ∈ lentPls io j as ∧ ∃ d, s[i]? = some (Slot.own d) ∧ c'[i]? = some (Slot.val d))) ∧
      (i ∈ lentPls io j as → flat = false → ∀ d, c'[i]? ≠ some (Slot.own d))
theorem argBack_at {io : List Nat} {flat : Bool} {c : Fr} : ∀ {as : List A} {j : Nat} {s c' : Fr}, argBack io flat c j as s = some c' → (ioPls io j as).Nodup → (∀ i ∈ ioPls io j as, i ∉ lentPls io j as) →
    BackOk io flat c j as s c'
  | [], j, s, c', h, _, _ => by
    simp only [argBack, Option.some.injEq] at h
    subst h
    exact ⟨rfl, fun i => ⟨fun z => by simp [ioPls] at z, fun _ => .inl rfl, fun z => by simp [lentPls] at z⟩⟩
  | a :: r, j, s, c', h, nd, ap => by
    have pass : argBack io flat c (j + 1) r s = some c' → ioPls io j (a :: r) = ioPls io (j + 1) r → lentPls io j (a :: r) = lentPls io (j + 1) r → BackOk io flat c j (a :: r) s c' := fun h e1 e2 => by
      rw [e1] at nd ap
      rw [e2] at ap
      obtain ⟨l, q⟩ := argBack_at h nd ap
      refine ⟨l, fun i => ?_⟩
      obtain ⟨q1, q2, q3⟩ := q i
      rw [e1, e2]
      refine ⟨fun m => ?_, q2, q3⟩
      obtain ⟨k, d, e3, e4, e5, e6⟩ := q1 m
      have ek : j + 1 + k = j + (k + 1) := by omega
      rw [ek] at e4 e5
      exact ⟨k + 1, d, by rw [List.getElem?_cons_succ]; exact e3, e4, e5, e6⟩
    cases a with
    | clo ps b => exact pass (by simpa only [argBack] using h) (by simp only [ioPls]) (by simp only [lentPls])
    | w w =>
      cases w with
      | pl x =>
        simp only [argBack] at h
        cases hi : io.contains j with
        | true =>
          have e1 : ioPls io j (.w (.pl x) :: r) = x :: ioPls io (j + 1) r := by simp only [ioPls]; rw [if_pos hi]
          have e2 : lentPls io j (.w (.pl x) :: r) = lentPls io (j + 1) r := by simp only [lentPls]; rw [if_pos hi]
          rw [if_pos hi] at h
          rw [e1] at nd ap
          rw [e2] at ap
          split at h
          · rename_i d ed
            have ed : c[j]? = some (Slot.own d) := by
              cases q : c[j]? with
              | none => rw [q] at ed; cases ed
              | some u => rw [q] at ed; exact congrArg some ed
            obtain ⟨l, q⟩ := argBack_at h (List.nodup_cons.mp nd).2 fun i m => ap i (List.mem_cons_of_mem _ m)
            rw [List.length_set] at l
            refine ⟨l, fun i => ?_⟩
            obtain ⟨q1, q2, q3⟩ := q i
            rw [e1, e2]
            refine ⟨fun m => ?_, fun m => ?_, q3⟩
            · by_cases z : i = x
              · subst z
                refine ⟨0, d, rfl, hi, ed, fun hlt => ?_⟩
                rcases q2 (List.nodup_cons.mp nd).1 with q | ⟨_, q, _⟩
                · rw [q, List.getElem?_set_self hlt]
                · exact absurd q (ap i List.mem_cons_self)
              · obtain ⟨k, d', e3, e4, e5, e6⟩ := q1 ((List.mem_cons.mp m).resolve_left z)
                have ek : j + 1 + k = j + (k + 1) := by omega
                rw [ek] at e4 e5
                exact ⟨k + 1, d', by rw [List.getElem?_cons_succ]; exact e3, e4, e5, by rw [List.length_set] at e6; exact e6⟩
            · have z : i ≠ x := fun z => m (z ▸ List.mem_cons_self)
              have q2 := q2 fun w => m (List.mem_cons_of_mem _ w)
              rw [List.getElem?_set_ne (Ne.symm z)] at q2
              exact q2
          · cases h
        | false =>
          have e1 : ioPls io j (.w (.pl x) :: r) = ioPls io (j + 1) r := by simp only [ioPls]; rw [if_neg (by rw [hi]; exact Bool.false_ne_true)]
          have e2 : lentPls io j (.w (.pl x) :: r) = x :: lentPls io (j + 1) r := by simp only [lentPls]; rw [if_neg (by rw [hi]; exact Bool.false_ne_true)]
          rw [if_neg (by rw [hi]; exact Bool.false_ne_true)] at h
          rw [e1] at nd ap
          rw [e2] at ap
          have gen : ∀ {s1 : Fr}, argBack io flat c (j + 1) r s1 = some c' → (s1 = s ∧ (flat = true ∨ ∀ d, s[x]? ≠ some (Slot.own d)) ∨ (flat = false ∧ ∃ d, s[x]? = some (Slot.own d) ∧ s1 = s.set x (.val d))) → BackOk io flat c j (.w (.pl x) :: r) s c' := fun {s1} h hs => by
            obtain ⟨l, q⟩ := argBack_at h nd fun i m w => ap i m (List.mem_cons_of_mem _ w)
            have len : s1.length = s.length := by
              rcases hs with ⟨e, _⟩ | ⟨_, d, _, e⟩
              · rw [e]
              · rw [e, List.length_set]
            refine ⟨l.trans len, fun i => ?_⟩
            obtain ⟨q1, q2, q3⟩ := q i
            rw [e1, e2]
            refine ⟨fun m => ?_, fun m => ?_, fun m hf => ?_⟩
            · obtain ⟨k, d', e3, e4, e5, e6⟩ := q1 m
              have ek : j + 1 + k = j + (k + 1) := by omega
              rw [ek] at e4 e5
              exact ⟨k + 1, d', by rw [List.getElem?_cons_succ]; exact e3, e4, e5, by rw [len] at e6; exact e6⟩
            · have q2 := q2 m
              rcases hs with ⟨e, _⟩ | ⟨hf, d, ed, e⟩
              · rw [e] at q2
                exact q2.imp id fun ⟨a, b, c⟩ => ⟨a, List.mem_cons_of_mem _ b, c⟩
              · by_cases z : i = x
                · subst z
                  have hlt : i < s.length := (List.getElem?_eq_some_iff.mp ed).1
                  rw [e, List.getElem?_set_self hlt] at q2
                  rcases q2 with q | ⟨_, _, d', q, _⟩
                  · exact .inr ⟨hf, List.mem_cons_self, d, ed, q⟩
                  · cases q
                · rw [e, List.getElem?_set_ne (Ne.symm z)] at q2
                  exact q2.imp id fun ⟨a, b, c⟩ => ⟨a, List.mem_cons_of_mem _ b, c⟩
            · by_cases z : i = x
              · subst z
                intro d ec
                by_cases mm : i ∈ lentPls io (j + 1) r
                · exact q3 mm hf d ec
                · have nio : i ∉ ioPls io (j + 1) r := fun w => ap i w List.mem_cons_self
                  rcases q2 nio with q | ⟨_, q, _⟩
                  · rcases hs with ⟨e, h'⟩ | ⟨_, d', ed, e⟩
                    · rw [e] at q
                      rw [q] at ec
                      rcases h' with h' | h'
                      · rw [hf] at h'; cases h'
                      · exact h' d ec
                    · rw [e, List.getElem?_set_self (List.getElem?_eq_some_iff.mp ed).1] at q
                      rw [q] at ec
                      cases ec
                  · exact absurd q mm
              · exact q3 ((List.mem_cons.mp m).resolve_left z) hf
          cases hf : flat with
          | true =>
            rw [if_pos hf] at h
            have r := gen h (.inl ⟨rfl, .inl hf⟩)
            rw [hf] at r
            exact r
          | false =>
            rw [if_neg (by rw [hf]; exact Bool.false_ne_true)] at h
            split at h
            · rename_i d ed
              have ed : s[x]? = some (Slot.own d) := by
                cases q : s[x]? with
                | none => rw [q] at ed; cases ed
                | some u => rw [q] at ed; exact congrArg some ed
              have r := gen h (.inr ⟨hf, d, ed, rfl⟩)
              rw [hf] at r
              exact r
            · rename_i ne
              have r := gen h (.inl ⟨rfl, .inr fun d e => ne d (by rw [e]; rfl)⟩)
              rw [hf] at r
              exact r
      | _ => exact pass (by simpa only [argBack] using h) (by simp only [ioPls]) (by simp only [lentPls])
end
end Mid
set_option Elab.async false
set_option linter.all false
set_option maxRecDepth 100000
set_option maxHeartbeats 4000000
/-! Calls: the state behind. -/
namespace Mid
open PySem PySem.Spec PyProof.Rows
open L2 (Hp HO V RelV Vals SqL SqT Rd upd upd_same upd_ne OpR R2 Inv Cx EP VK TE TT TA WX XK PE PT PA)

/-- the frozen heap without the things at K -/
noncomputable def cut (F : Hp) (K : Addr → Prop) : Hp := fun b => open Classical in if K b then none else F b
theorem cut_in {F : Hp} {K : Addr → Prop} {b : Addr} (h : K b) : cut F K b = none := by unfold cut; rw [if_pos h]
theorem cut_out {F : Hp} {K : Addr → Prop} {b : Addr} (h : ¬ K b) : cut F K b = F b := by unfold cut; rw [if_neg h]
theorem cut_le {F : Hp} {K : Addr → Prop} : Le (cut F K) F := fun b o e => by
  by_cases h : K b
  · rw [cut_in h] at e; cases e
  · rw [cut_out h] at e; exact e
theorem cut_none {F : Hp} {K : Addr → Prop} {b : Addr} (h : F b = none) : cut F K b = none := by
  by_cases k : K b
  · exact cut_in k
  · rw [cut_out k]; exact h
/-- lists and dicts alone are cut off -/
def NoTup (F : Hp) (K : Addr → Prop) : Prop := ∀ a, K a → ∀ xs, F a ≠ some (.tup xs) ∧ (∀ o, F a ≠ some (.frz o (.tup xs))) ∧ ∀ fs, F a ≠ some (.xd fs)
mutual
theorem flat_cut {B : Bk} {F : Hp} {K : Addr → Prop} (nt : NoTup F K) : ∀ {v : V} {d : D}, d.flat = true → DV B F v d → DV B (cut F K) v d
  | _, _, _, .non => .non
  | _, _, _, .bl b => .bl b
  | _, _, _, .int i => .int i
  | _, _, _, .str s => .str s
  | _, _, h, .tup (a := a) s q => .tup (s.imp (fun ⟨its, r⟩ => ⟨its, by rw [cut_out fun k => (nt a k _).2.1 _ r]; exact r⟩) id) (flats_cut nt (by simpa only [D.flat] using h) q)
  | _, _, h, .lst _ _ => by simp [D.flat] at h
  | _, _, h, .dic _ _ _ _ _ => by simp [D.flat] at h
  | _, _, h, .fn _ => by simp [D.flat] at h
theorem flats_cut {B : Bk} {F : Hp} {K : Addr → Prop} (nt : NoTup F K) : ∀ {v : List V} {d : List D}, D.flats d = true → DVs B F v d → DVs B (cut F K) v d
  | _, _, _, .nil => .nil
  | _, _, h, .cons p q => by
    simp only [D.flats, Bool.and_eq_true] at h
    exact .cons (flat_cut nt h.1 p) (flats_cut nt h.2 q)
end
theorem flatk_cut {B : Bk} {F : Hp} {K : Addr → Prop} (nt : NoTup F K) : ∀ {v : List DictEntry} {d : List (D × D)}, (d.all fun p => p.1.flat && p.2.flat) = true → DKs B F v d → DKs B (cut F K) v d
  | _, _, _, .nil => .nil
  | _, _, h, .cons a b c d e f q => by
    simp only [List.all_cons, Bool.and_eq_true] at h
    exact .cons a b (flat_cut nt h.1.1 c) (flat_cut nt h.1.2 d) e f (flatk_cut nt h.2 q)

section
variable {P : Pg} {R : Run} {C : Kx} {W : WX} {X : Cx}
variable {s0 s : St} {σ : L2.St} {F H F0 H0 F' H' : Hp} {vs : List V} {as : List A} {io : List Nat} {sl : List Slot} {c c' : Fr} {flat : Bool}
theorem join_some {σ : L2.St} {i : Nat} {v : V} (h : (σ[i]?).join = some v) : σ[i]? = some (some v) := by
  cases q : σ[i]? with
  | none => rw [q] at h; cases h
  | some u => rw [q] at h; cases u with
    | none => cases h
    | some w => cases h; rfl
/-- the lent slots' things -/
def LentP (io : List Nat) (s : St) (vs : List V) (as : List A) (a : Addr) : Prop := ∃ (j i : Nat) (d : D), as[j]? = some (.w (.pl i)) ∧ vs[j]? = some (.ref a) ∧ io.contains j = false ∧ s.c[i]? = some (.own d)
theorem LentP.l {a : Addr} (h : LentP io s vs as a) : Lent io s vs as a := let ⟨j, i, d, h1, h2, h3, h4⟩ := h; ⟨j, _, h1, h2, h3, .inr ⟨i, d, rfl, h4⟩⟩
theorem od_notup {B : Bk} {F H : Hp} {a : Addr} {d : D} (h : OD B F H a d) (xs : List V) : H a ≠ some (.tup xs) ∧ (∀ o, H a ≠ some (.frz o (.tup xs))) ∧ ∀ fs, H a ≠ some (.xd fs) := by
  cases d <;> simp only [OD] at h
  · obtain ⟨ys, h, _⟩ := h
    rw [h]
    exact ⟨fun z => (by cases z), fun o z => (by cases z), fun o z => (by cases z)⟩
  · obtain ⟨es, ep, h, _⟩ := h
    rw [h]
    exact ⟨fun z => (by cases z), fun o z => (by cases z), fun o z => (by cases z)⟩
/-- a dict is no code -/
theorem dct_nocode {a c : Addr} {es : Array DictEntry} {ep : Nat} {q : Str} : dctO a es ep ≠ LamX.CodeO c q := fun z => by
  have e := HO.ext.inj (show HO.ext (fun h : Heap => h.DictRaw a es ep) = HO.ext _ from z)
  have p1 := congrFun e ⟨Array.replicate (a + 1) { cls := .type "dict", data := .dict es ep }, {}⟩
  have q1 : (⟨Array.replicate (a + 1) { cls := .type "dict", data := .dict es ep }, {}⟩ : Heap).DictRaw a es ep := ⟨{ cls := .type "dict", data := .dict es ep }, by simp [Heap.get?], ⟨rfl, rfl, rfl⟩, rfl⟩
  obtain ⟨oc, vs, t, hoc, hd, hv⟩ := p1.mp q1
  unfold Heap.get? at hoc
  split at hoc
  · cases hoc
  · rw [Array.getElem?_replicate] at hoc
    split at hoc
    · cases hoc; cases hd
    · cases hoc
theorem od_nocode {B : Bk} {F H : Hp} {a c : Addr} {d : D} {q : Str} (h : OD B F H a d) : H a ≠ some (LamX.CodeO c q) := by
  cases d <;> simp only [OD] at h
  · obtain ⟨ys, h, _⟩ := h
    rw [h]
    exact fun z => (by cases z)
  · obtain ⟨es, ep, h, _⟩ := h
    rw [h]
    exact fun z => dct_nocode (Option.some.inj z)
theorem call_after (hm : C.mono) (p : PE' C s0 σ F0 H0 s F H) (rs : RWs C s σ F H H0 vs as) (hsl : argSlots io s 0 as = some sl) (ap : apartOk io as = true) (en : EndC C.toBk (frz F H (Lent io s vs as)) H sl vs (fun _ => False) c F' H')
    (hb : argBack io flat c 0 as s.c = some c') (hf : flat = true → io = []) :
    PE' C s0 σ F0 H0 ⟨c', s.p⟩ (cut F' fun a => flat = true ∧ LentP io s vs as a) H' ∧ NoTup F' (fun a => flat = true ∧ LentP io s vs as a) ∧
      (∀ v w, EndW C.toBk H sl vs c F' H' v w → (flat = true → wFlat w = true) → RW C ⟨c', s.p⟩ σ (cut F' fun a => flat = true ∧ LentP io s vs as a) H' v w ∧ NW H0 v w) := by
  have hs := p.sr
  obtain ⟨et, own⟩ := ent_of hs rs hsl ap
  obtain ⟨hl, hat⟩ := argSlots_at hsl
  have apn : (ioPls io 0 as).Nodup := by
    unfold apartOk at ap
    rw [Bool.and_eq_true] at ap
    exact of_decide_eq_true ap.1
  have apd : ∀ i ∈ ioPls io 0 as, i ∉ lentPls io 0 as := fun i m w => by
    unfold apartOk at ap
    rw [Bool.and_eq_true] at ap
    have := List.all_eq_true.mp ap.2 i m
    simp only [Bool.not_eq_true', List.contains_eq_mem, decide_eq_false_iff_not] at this
    exact this w
  obtain ⟨cl, bk⟩ := argBack_at hb apn apd
  generalize hK : (fun a => flat = true ∧ LentP io s vs as a) = K
  have hKd : ∀ a, K a ↔ flat = true ∧ LentP io s vs as a := fun a => by rw [← hK]
  have nle : ∀ a o, F a = some o → ¬ K a := fun a o e k => by
    have := (((hKd a).mp k).2.l.ok hs rs).1
    rw [this] at e
    cases e
  have frz_at : ∀ a o, F a = some o → F' a = some o := fun a o e => en.le a o (frz_le hs.le _ a o e)
  have leC : Le F (cut F' K) := fun a o e => by
    rw [cut_out (nle a o e)]
    exact frz_at a o e
  have le2 : Le (cut F' K) H' := fun a o e => en.le2 a o (cut_le a o e)
  -- what is owned by the callee's parameters is owned by a slot
  have ownE : ∀ a, OwnE sl vs a → ∃ i d, i ∈ ioPls io 0 as ∧ s.c[i]? = some (Slot.own d) ∧ σ[i]? = some (some (.ref a)) := fun a ⟨j, d, e1, e2⟩ => by
    obtain ⟨i, b, h1, h2, h3, h4, h5⟩ := own j d e1
    rw [e2] at h4
    cases h4
    exact ⟨i, d, ioPls_mem (j := 0) h1 (by rw [Nat.zero_add]; exact h2), h3, h5⟩
  have ownE' : ∀ a, OwnE sl vs a → Own s.c σ a := fun a h => let ⟨i, d, _, h1, h2⟩ := ownE a h; ⟨i, d, h1, h2⟩
  -- own things that are not handed over
  have stay : ∀ a o, H a = some o → F a = none → ¬ OwnE sl vs a → ¬ Lent io s vs as a → F' a = none := fun a o ho nf no nl => by
    cases q : F' a with
    | none => rfl
    | some u =>
      rcases en.new a (by rw [frz_out nl]; exact nf) (by rw [q]; simp) with z | z | z
      · rw [ho] at z; cases z
      · exact absurd z no
      · exact z.elim
  have nt : NoTup F' K := fun a k xs => by
    have kk := (hKd a).mp k
    obtain ⟨_, ⟨d, od⟩, _⟩ := kk.2.l.ok hs rs
    obtain ⟨o, ho⟩ := od.some
    have e : F' a = H a := by
      rw [ho]
      exact en.le a o (by rw [frz_in kk.2.l]; exact ho)
    rw [e]
    exact od_notup od xs
  -- one slot behind the call
  have slot : ∀ (i : Nat) (x : Slot), c'[i]? = some x → (∃ (j : Nat) (a : Addr) (d d0 : D), as[j]? = some (A.w (.pl i)) ∧ x = Slot.own d ∧ s.c[i]? = some (.own d0) ∧ σ[i]? = some (some (.ref a)) ∧ flat = false ∧ F' a = none ∧ OD C.toBk F' H' a d) ∨
      (s.c[i]? = some x ∧ i ∉ ioPls io 0 as ∧ (∀ d, x = .own d → i ∈ lentPls io 0 as → flat = true)) ∨ (∃ d a, flat = false ∧ s.c[i]? = some (.own d) ∧ x = .val d ∧ σ[i]? = some (some (.ref a)) ∧ Lent io s vs as a) := fun i x e => by
    obtain ⟨b1, b2, b3⟩ := bk i
    by_cases m : i ∈ ioPls io 0 as
    · obtain ⟨k, d, e1, e2, e3, e4⟩ := b1 m
      rw [Nat.zero_add] at e2 e3
      have hlt : i < s.c.length := by rw [← cl]; exact (List.getElem?_eq_some_iff.mp e).1
      rw [e4 hlt] at e
      cases e
      obtain ⟨y, y1, y2⟩ := hat k _ e1
      rw [Nat.zero_add] at y2
      rcases argSl_w y2 with ⟨_, i', d', z1, z2, z3⟩ | ⟨z, _⟩
      · cases z1
        subst z3
        obtain ⟨i'', a, h1, h2, h3, h4, h5⟩ := own k d' y1
        rw [e1] at h1
        cases h1
        obtain ⟨q1, q2⟩ := en.io k d' d a y1 h4 e3
        have ff : flat = false := by
          cases q : flat with
          | false => rfl
          | true =>
            rw [hf q] at m
            obtain ⟨k, _, h⟩ := ioPls_ex m
            simp at h
        exact .inl ⟨k, a, d, d', e1, rfl, h3, h5, ff, q1, q2⟩
      · rw [e2] at z; cases z
    · rcases b2 m with q | ⟨hf, ml, d, q1, q2⟩
      · rw [q] at e
        refine .inr (.inl ⟨e, m, fun d z w => ?_⟩)
        cases q' : flat with
        | true => rfl
        | false => exact absurd (q.trans (e.trans (congrArg some z))) (b3 w q' d)
      · rw [q2] at e
        cases e
        obtain ⟨a, e1, _⟩ := hs.c.sl i _ q1
        have es := join_some e1
        refine .inr (.inr ⟨d, a, hf, q1, rfl, es, ?_⟩)
        obtain ⟨k, h1, h2⟩ : ∃ k, as[k]? = some (.w (.pl i)) ∧ io.contains k = false := by
          have : ∀ {as : List A} {j : Nat}, i ∈ lentPls io j as → ∃ k, as[k]? = some (.w (.pl i)) ∧ io.contains (j + k) = false := by
            intro as
            induction as with
            | nil => intro j h; simp [lentPls] at h
            | cons x r ih =>
              intro j h
              have go : i ∈ lentPls io (j + 1) r → ∃ k, (x :: r)[k]? = some (.w (.pl i)) ∧ io.contains (j + k) = false := fun m => by
                obtain ⟨k, e1, e2⟩ := ih m
                exact ⟨k + 1, by rw [List.getElem?_cons_succ]; exact e1, by rw [← e2]; congr 1; omega⟩
              cases x with
              | clo ps b => exact go (by simpa only [lentPls] using h)
              | w w => cases w with
                | pl y =>
                  simp only [lentPls] at h
                  split at h
                  · exact go h
                  · rename_i hi
                    rcases List.mem_cons.mp h with e | h
                    · subst e; exact ⟨0, rfl, by simpa using hi⟩
                    · exact go h
                | _ => exact go (by simpa only [lentPls] using h)
          obtain ⟨k, h1, h2⟩ := this ml
          exact ⟨k, h1, by rw [Nat.zero_add] at h2; exact h2⟩
        have hk : k < as.length := (List.getElem?_eq_some_iff.mp h1).1
        obtain ⟨v, hv⟩ : ∃ v, vs[k]? = some v := ⟨vs[k]'(by rw [rs.len]; exact hk), List.getElem?_eq_getElem _⟩
        obtain ⟨w, ew, r, _⟩ := rs.at_ k _ _ hv h1
        cases ew
        obtain ⟨er, _⟩ := r
        rw [es] at er
        cases er
        exact ⟨k, _, h1, hv, h2, .inr ⟨i, d, rfl, q1⟩⟩
  have ownC : ∀ a, Own c' σ a → Own s.c σ a := fun a ⟨i, d, e1, e2⟩ => by
    rcases slot i _ e1 with ⟨j, b, d1, d0, _, _, z, _⟩ | ⟨z, _⟩ | ⟨d1, b, _, z, z2, _⟩
    · exact ⟨i, d0, z, e2⟩
    · exact ⟨i, d, z, e2⟩
    · cases z2
  have lentOwn : ∀ a i d, s.c[i]? = some (Slot.own d) → σ[i]? = some (some (.ref a)) → Lent io s vs as a → i ∈ lentPls io 0 as ∧ LentP io s vs as a := fun a i d e1 e2 h => by
    obtain ⟨j, w, h1, h2, h3, h4⟩ := h
    obtain ⟨w', ew, r, _⟩ := rs.at_ j _ _ h2 h1
    cases ew
    rcases h4 with ⟨d', rfl⟩ | ⟨i', d', rfl, h4⟩
    · obtain ⟨b, e, _, no, _⟩ := r
      cases e
      exact absurd (.inl ⟨i, d, e1, e2⟩) no
    · obtain ⟨er, _⟩ := r
      have ei := hs.c.ne i i' d d' a e1 h4 e2 er
      subst ei
      exact ⟨lentPls_mem (j := 0) h1 (by rw [Nat.zero_add]; exact h3), j, i, d, h1, h2, h3, e1⟩
  have slotR : ∀ (i : Nat) (x : Slot), c'[i]? = some x → SlR C (cut F' K) H' (σ[i]?.join) x := fun i x e => by
    rcases slot i x e with ⟨j, a, d, d0, h1, rfl, h2, h3, ff, h4, h5⟩ | ⟨h1, h2, h3⟩ | ⟨d, a, ff, h1, rfl, h2, h3⟩
    · obtain ⟨b, e1, q1, q2, _⟩ := hs.c.sl i _ h2
      rw [h3] at e1
      cases e1
      have kn : K = fun _ => False := by
        funext b
        exact propext ⟨fun k => (by have := ((hKd b).mp k).1; rw [ff] at this; cases this), fun z => z.elim⟩
      refine ⟨a, by rw [h3]; rfl, cut_none h4, q2, ?_⟩
      have : cut F' K = F' := by funext b; exact cut_out (by rw [kn]; exact id)
      rw [this]
      exact h5
    · have r := hs.c.sl i _ h1
      cases x with
      | un => trivial
      | val d => obtain ⟨v, e1, dv⟩ := r; exact ⟨v, e1, dv.mono leC⟩
      | own d =>
        obtain ⟨a, e1, q1, q2, od⟩ := r
        have es := join_some e1
        obtain ⟨o, ho⟩ := od.some
        have noE : ¬ OwnE sl vs a := fun z => by
          obtain ⟨i', d', m, z1, z2⟩ := ownE a z
          have ei := hs.c.ne i i' d d' a h1 z1 es z2
          subst ei
          exact h2 m
        refine ⟨a, e1, ?_, q2, od.mono leC (by rw [en.keep a o ho (od.ntb ho) noE id, ho])⟩
        by_cases nl : Lent io s vs as a
        · obtain ⟨m, lp⟩ := lentOwn a i d h1 es nl
          exact cut_in ((hKd a).mpr ⟨h3 d rfl m, lp⟩)
        · exact cut_none (stay a o ho q1 noE nl)
      | exn x => obtain ⟨v, e1, q⟩ := r; exact ⟨v, e1, hm _ _ _ _ leC q⟩
      | clo ps b => exact r
    · obtain ⟨b, e1, q1, q2, od⟩ := hs.c.sl i _ h1
      rw [h2] at e1
      cases e1
      obtain ⟨o, ho⟩ := od.some
      refine ⟨.ref a, by rw [h2]; rfl, od.dv leC ?_⟩
      have nk : ¬ K a := fun k => by have := ((hKd a).mp k).1; rw [ff] at this; cases this
      rw [cut_out nk, ho]
      exact en.le a o (by rw [frz_in h3]; exact ho)
  have parR : Fm C.par s.p C.σp (cut F' K) H' := by
    refine ⟨hs.p.len, fun i x e => ?_, hs.p.ne⟩
    have r := hs.p.sl i x e
    cases x with
    | un => trivial
    | val d => obtain ⟨v, e1, dv⟩ := r; exact ⟨v, e1, dv.mono leC⟩
    | own d =>
      obtain ⟨a, e1, q1, q2, od⟩ := r
      have es := join_some e1
      obtain ⟨o, ho⟩ := od.some
      have op : Own s.p C.σp a := ⟨i, d, e, es⟩
      have noE : ¬ OwnE sl vs a := fun z => hs.dj a (ownE' a z) op
      have nl : ¬ Lent io s vs as a := fun ⟨j, w, z1, z2, z3, z4⟩ => by
        obtain ⟨w', ew, r, _⟩ := rs.at_ j _ _ z2 z1
        cases ew
        rcases z4 with ⟨d', rfl⟩ | ⟨i', d', rfl, z4⟩
        · obtain ⟨b, e, _, no, _⟩ := r
          cases e
          exact no (.inr op)
        · obtain ⟨er, _⟩ := r
          exact hs.dj a ⟨i', d', z4, er⟩ op
      exact ⟨a, e1, cut_none (stay a o ho q1 noE nl), q2, od.mono leC (by rw [en.keep a o ho (od.ntb ho) noE id, ho])⟩
    | exn x => obtain ⟨v, e1, q⟩ := r; exact ⟨v, e1, q⟩
    | clo ps b => exact r
  have noK : ∀ {c : Addr} {q : Str}, F' c = some (LamX.CodeO c q) → cut F' K c = some (LamX.CodeO c q) := fun {c q} z => by
    rw [cut_out]
    · exact z
    · intro k
      have kk := (hKd c).mp k
      obtain ⟨_, ⟨d, od⟩, _⟩ := kk.2.l.ok hs rs
      obtain ⟨o, ho⟩ := od.some
      have e : F' c = H c := by
        rw [ho]
        exact en.le c o (by rw [frz_in kk.2.l]; exact ho)
      exact od_nocode od (e.symm.trans z)
  have hsr : SR C ⟨c', s.p⟩ σ (cut F' K) H' := by
    refine ⟨le2, ⟨by rw [cl]; exact hs.c.len, slotR, fun i j d e a h1 h2 h3 h4 => ?_⟩, parR, fun a h => hs.dj a (ownC a h), fun a e => hs.zz a (en.there a e), fun a e => hs.zp a (en.there a e), fun p hp => (en.tb p hp).mono (fun c q z => noK z) (cut_none (en.tb p hp).1) fun _ _ => rfl, fun p hp => noK (frz_at _ _ (hs.cd p hp))⟩
    have o1 : ∃ d, s.c[i]? = some (Slot.own d) := by
      rcases slot i _ h1 with ⟨_, _, _, d0, _, _, z, _⟩ | ⟨z, _⟩ | ⟨_, _, _, _, z, _⟩
      · exact ⟨d0, z⟩
      · exact ⟨d, z⟩
      · cases z
    have o2 : ∃ d, s.c[j]? = some (Slot.own d) := by
      rcases slot j _ h2 with ⟨_, _, _, d0, _, _, z, _⟩ | ⟨z, _⟩ | ⟨_, _, _, _, z, _⟩
      · exact ⟨d0, z⟩
      · exact ⟨e, z⟩
      · cases z
    obtain ⟨d1, o1⟩ := o1
    obtain ⟨d2, o2⟩ := o2
    exact hs.c.ne i j d1 d2 a o1 o2 h3 h4
  have hpe : PE' C s0 σ F0 H0 ⟨c', s.p⟩ (cut F' K) H' := by
    refine ⟨⟨hsr, ⟨p.st.le.trans leC, fun a o e t n => en.keep a o (p.st.keep a o e t n) t (fun z => n (.inl (p.oc a (ownE' a z)))) id, fun a e q => ?_, fun a e => p.st.there a (en.there a e)⟩, fun a h => p.oc a (ownC a h), p.op⟩, fun i d h => ?_⟩
    · have q' : F' a ≠ none := fun z => q (cut_none z)
      by_cases nf : F a = none
      · by_cases nl : Lent io s vs as a
        · rcases (nl.ok hs rs).2.2 with z | z
          · exact .inl z
          · exact .inr (.inl (p.oc a z))
        · rcases en.new a (by rw [frz_out nl]; exact nf) q' with z | z | z
          · exact .inl (p.st.there a z)
          · exact .inr (.inl (p.oc a (ownE' a z)))
          · exact z.elim
      · exact p.st.new a e nf
    · obtain ⟨d1, h1⟩ := p.ks i d h
      have : ∃ x, s.c[i]? = some x := by rcases h1 with h1 | h1 <;> exact ⟨_, h1⟩
      obtain ⟨x, hx⟩ := this
      have hlt : i < c'.length := by rw [cl]; exact (List.getElem?_eq_some_iff.mp hx).1
      have hy : c'[i]? = some c'[i] := List.getElem?_eq_getElem hlt
      rcases slot i _ hy with ⟨_, _, d2, _, _, z, _⟩ | ⟨z, _⟩ | ⟨d2, _, _, _, z, _⟩
      · exact ⟨d2, .inl (by show c'[i]? = _; rw [hy, z])⟩
      · refine ⟨d1, ?_⟩
        show c'[i]? = _ ∨ c'[i]? = _
        rw [hy, ← z]
        exact h1
      · exact ⟨d2, .inr (by show c'[i]? = _; rw [hy, z])⟩
  refine ⟨hpe, nt, fun v w h hfl => ?_⟩
  have kn : flat = false → cut F' K = F' := fun ff => by
    funext b
    exact cut_out fun k => by have := ((hKd b).mp k).1; rw [ff] at this; cases this
  cases w with
  | val d =>
    refine ⟨?_, .val⟩
    show DV C.toBk (cut F' K) v d
    cases hq : flat with
    | true => exact flat_cut nt (by have := hfl hq; simpa only [wFlat] using this) h
    | false => rw [kn hq]; exact h
  | own d =>
    obtain ⟨a, rfl, e1, e2, e3, e4⟩ := h
    have hn : H a = none := by
      rcases e3 with z | z
      · exact z
      · obtain ⟨j, d', y1, y2⟩ := z
        obtain ⟨i, b, h1, h2, h3, h4, h5⟩ := own j d' y1
        rw [y2] at h4
        cases h4
        obtain ⟨k, d2, g1, g2, g3, _⟩ := (bk i).1 (ioPls_mem (j := 0) h1 (by rw [Nat.zero_add]; exact h2))
        rw [Nat.zero_add] at g2 g3
        have ek := apart_io ap g1 h1 g2
        subst ek
        exact absurd g3 (e4 k d' d2 y1 y2)
    refine ⟨⟨a, rfl, cut_none e1, fun o => ?_, hs.zz a hn, hs.zp a hn, ?_⟩, fun d' _ b q => by cases q; exact p.st.there _ hn⟩
    · have : ∃ o, H a = some o := by
        rcases o with o | o
        · exact Own.some hs.c (ownC a o)
        · exact Own.some hs.p o
      obtain ⟨o, ho⟩ := this
      rw [hn] at ho
      cases ho
    · cases hq : flat with
      | false => rw [kn hq]; exact e2
      | true =>
        have fl := hfl hq
        cases d with
        | lst ds =>
          obtain ⟨xs, q1, q2⟩ := e2
          exact ⟨xs, q1, flats_cut nt (by simpa only [wFlat] using fl) q2⟩
        | dic kvs =>
          obtain ⟨es, epp, q1, q2, q3, q4, q5⟩ := e2
          exact ⟨es, epp, q1, q2, q3, flatk_cut nt (by simpa only [wFlat] using fl) q4, q5⟩
        | _ => exact e2.elim
  | pl i => exact h.elim
/-- what is known of the errors -/
structure Kx.Good (C : Kx) : Prop where
  s : C.mono
  x : ∀ x v d F F', Le F F' → C.xr x v d F → C.xr x v d F'
  cut : ∀ x v d F K, D.flats x.as = true → NoTup F K → C.xr x v d F → C.xr x v d (cut F K)
theorem noClo (rs : RWs C s σ F H H0 vs as) : as.any A.isClo = false := by
  rw [List.any_eq_false]
  intro a ha
  obtain ⟨j, hj, e⟩ := List.getElem_of_mem ha
  obtain ⟨w, ew, _⟩ := rs.at_ j _ a (List.getElem?_eq_getElem (by rw [rs.len]; exact hj)) (by rw [← e]; exact List.getElem?_eq_getElem hj)
  subst ew
  exact Bool.false_ne_true
theorem call_r (hg : C.Good) {f : Nat} {fd : Fd} (hfd : P.fs[f]? = some fd) {ts : List E} (σ : L2.St) (H : Hp) (Q : VK) (h : tE P R C W (.call f ts) σ H Q) : L2.tCallS (spA P R C.gx f) (L2.WE W) (tAs P R C W ts) σ H Q := by
  obtain ⟨F, s, hs, hw⟩ := h
  rw [evE] at hw
  refine ⟨F, s, hs, Wp.mono (Wp_bind.mp hw) (fun as s1 q vs F1 H1 p rs => ?_) fun _ _ z => z⟩
  unfold callOf at q
  rw [hfd] at q
  simp only [noClo rs, Bool.false_eq_true, if_false] at q
  unfold callA at q
  cases hsl : argSlots fd.io s1 0 as with
  | none => rw [hsl] at q; exact q.elim
  | some sl =>
    rw [hsl] at q
    simp only at q
    split at q
    · rename_i hc
      obtain ⟨hlen, hap⟩ := hc
      refine ⟨_, sl, fd, hfd, hlen, fun j d e => ?_, (ent_of p.sr rs hsl hap).1, ?_⟩
      · obtain ⟨i, a, _, q, _⟩ := (ent_of p.sr rs hsl hap).2 j d e
        exact q
      cases hR : R (.call f sl []) with
      | stk m => rw [hR] at q; exact q.elim
      | ret w c p' =>
        rw [hR] at q
        show ∀ v F' H', _
        intro v F' H' en ew
        cases w with
        | pl i => exact q.elim
        | val d =>
          simp only at q
          split at q
          · rename_i c' hb
            obtain ⟨p2, _, r⟩ := call_after hg.s p rs hsl hap en hb fun z => by
              simp only [Bool.and_eq_true, List.isEmpty_iff] at z
              exact z.2
            obtain ⟨r1, r2⟩ := r v (.val d) ew fun z => by
              simp only [Bool.and_eq_true] at z
              exact z.1
            exact q v _ H' p2 r1 r2
          · exact q.elim
        | own d =>
          simp only at q
          split at q
          · rename_i c' hb
            obtain ⟨p2, _, r⟩ := call_after hg.s p rs hsl hap en hb fun z => by
              simp only [Bool.and_eq_true, List.isEmpty_iff] at z
              exact z.2
            obtain ⟨r1, r2⟩ := r v (.own d) ew fun z => by
              simp only [Bool.and_eq_true] at z
              exact z.1
            exact q v _ H' p2 r1 r2
          · exact q.elim
      | exc x c p' =>
        rw [hR] at q
        show ∀ cls dO F' H', _
        intro cls dO F' H' en hx
        simp only at q
        split at q
        · rename_i hfl
          split at q
          · rename_i c' hb
            obtain ⟨p2, nt, _⟩ := call_after hg.s p rs hsl hap en hb fun z => by
              simp only [List.isEmpty_iff] at z
              exact z
            exact q cls dO _ H' p2.toPost (hg.cut _ _ _ _ _ hfl nt hx)
          · exact q.elim
        · exact q.elim
    · exact q.elim
end
end Mid
set_option Elab.async false
set_option linter.all false
set_option maxRecDepth 100000
set_option maxHeartbeats 4000000
/-! Readings of statements. -/
namespace Mid
open PySem PySem.Spec PyProof.Rows
open L2 (Hp HO V RelV Vals SqL SqT Rd upd upd_same upd_ne OpR R2 Inv Cx EP VK TE TT TA TS WX XK PE PT PA PS PSs Ends)

/-- what statements do -/
structure PostS (C : Kx) (s : St) (σ : L2.St) (F H : Hp) (s' : St) (σ' : L2.St) (F' H' : Hp) : Prop where
  sr : SR C s' σ' F' H'
  st : Stp (fun a => C.Z a ∨ Own s.p C.σp a) F H F' H'
  op : ∀ a, Own s'.p C.σp a → Own s.p C.σp a
  fx : ∀ j ∈ C.fx, σ'[j]? = σ[j]?
section
variable {C : Kx} {s s1 s2 : St} {σ σ1 σ2 : L2.St} {F H F1 H1 F2 H2 : Hp}
theorem PostS.refl (h : SR C s σ F H) : PostS C s σ F H s σ F H := ⟨h, .refl _ _ _, fun _ h => h, fun _ _ => rfl⟩
theorem PostS.trans (a : PostS C s σ F H s1 σ1 F1 H1) (b : PostS C s1 σ1 F1 H1 s2 σ2 F2 H2) : PostS C s σ F H s2 σ2 F2 H2 :=
  ⟨b.sr, a.st.trans b.st fun x z => .inl (z.imp id (a.op x)), fun x z => a.op x (b.op x z), fun j hj => (b.fx j hj).trans (a.fx j hj)⟩
theorem Post.toS (h : SR C s σ F H) (a : Post C s σ F H s1 F1 H1) : PostS C s σ F H s1 σ F1 H1 :=
  ⟨a.sr, a.st.weak fun x z => z.imp (fun z => (Own.od h.c z).2.1) id, a.op, fun _ _ => rfl⟩
theorem set_some {σ : L2.St} {i j : Nat} {o : Option V} {v : V} (h : (σ.set i o)[j]? = some (some v)) : (j = i ∧ o = some v) ∨ (j ≠ i ∧ σ[j]? = some (some v)) := by
  rcases List.set_get? h with ⟨e, q⟩ | ⟨e, q⟩
  · exact .inl ⟨e, q.symm⟩
  · exact .inr ⟨e, q⟩
theorem own_set2 {c : Fr} {i : Nat} {x : Slot} {o : Option V} {a : Addr} (h : Own (c.set i x) (σ.set i o) a) : (∃ d, x = .own d ∧ o = some (.ref a)) ∨ Own c σ a := by
  obtain ⟨j, d, h1, h2⟩ := h
  rcases List.set_get? h1 with ⟨e, q⟩ | ⟨e, q⟩
  · rcases set_some h2 with ⟨_, q2⟩ | ⟨n, _⟩
    · exact .inl ⟨d, q.symm, q2⟩
    · exact absurd e n
  · rcases set_some h2 with ⟨n, _⟩ | ⟨_, q2⟩
    · exact absurd n e
    · exact .inr ⟨j, d, q, q2⟩
/-- a slot is stored -/
theorem SR.set (h : SR C s σ F H) (i : Nat) {x : Slot} {o : Option V} (hx : SlR C F H o x) (ho : ∀ d a, x = .own d → o = some (.ref a) → ¬ Ow C s σ a) : SR C (s.set i x) (σ.set i o) F H := by
  refine ⟨h.le, ⟨by show (σ.set i o).length = (s.c.set i x).length; rw [List.length_set, List.length_set]; exact h.c.len, fun j y e => ?_, fun j k d e a h1 h2 h3 h4 => ?_⟩, h.p, fun a q => ?_, h.zz, h.zp, h.tb, h.cd⟩
  · rcases List.set_get? e with ⟨z, rfl⟩ | ⟨z, q⟩
    · subst z
      have hlt : j < σ.length := by rw [h.c.len]; have := (List.getElem?_eq_some_iff.mp e).1; simp only [St.set, List.length_set] at this; exact this
      rw [List.getElem?_set_self hlt]
      exact hx
    · rw [List.getElem?_set_ne (Ne.symm z)]
      exact h.c.sl j y q
  · rcases List.set_get? h1 with ⟨z1, q1⟩ | ⟨z1, q1⟩
    · rcases List.set_get? h2 with ⟨z2, q2⟩ | ⟨z2, q2⟩
      · rw [z1, z2]
      · rcases set_some h3 with ⟨_, q3⟩ | ⟨n, _⟩
        · rcases set_some h4 with ⟨n, _⟩ | ⟨_, q4⟩
          · exact absurd n z2
          · exact absurd (.inl ⟨k, e, q2, q4⟩) (ho d a q1.symm q3)
        · exact absurd z1 n
    · rcases List.set_get? h2 with ⟨z2, q2⟩ | ⟨z2, q2⟩
      · rcases set_some h4 with ⟨_, q4⟩ | ⟨n, _⟩
        · rcases set_some h3 with ⟨n, _⟩ | ⟨_, q3⟩
          · exact absurd n z1
          · exact absurd (.inl ⟨j, d, q1, q3⟩) (ho e a q2.symm q4)
        · exact absurd z2 n
      · rcases set_some h3 with ⟨n, _⟩ | ⟨_, q3⟩
        · exact absurd n z1
        · rcases set_some h4 with ⟨n, _⟩ | ⟨_, q4⟩
          · exact absurd n z2
          · exact h.c.ne j k d e a q1 q2 q3 q4
  · rcases own_set2 q with ⟨d, e1, e2⟩ | q
    · exact fun z => ho d a e1 e2 (.inr z)
    · exact h.dj a q
theorem PostS.set (h : SR C s σ F H) {i : Nat} {x : Slot} {o : Option V} (hi : i ∉ C.fx) (hx : SlR C F H o x) (ho : ∀ d a, x = .own d → o = some (.ref a) → ¬ Ow C s σ a) : PostS C s σ F H (s.set i x) (σ.set i o) F H :=
  ⟨h.set i hx ho, .refl _ _ _, fun _ z => z, fun j hj => by rw [List.getElem?_set_ne (fun e : i = j => hi (by rw [e]; exact hj))]⟩
theorem PostS.setVal (h : SR C s σ F H) {i : Nat} (hi : i ∉ C.fx) {v : V} {d : D} (r : DV C.toBk F v d) : PostS C s σ F H (s.set i (.val d)) (σ.set i (some v)) F H :=
  PostS.set (x := .val d) h hi ⟨v, rfl, r⟩ fun d a z => by cases z
theorem PostS.setOwn (h : SR C s σ F H) {i : Nat} (hi : i ∉ C.fx) {v : V} {d : D} (r : RW C s σ F H v (.own d)) : PostS C s σ F H (s.set i (.own d)) (σ.set i (some v)) F H := by
  obtain ⟨a, rfl, nf, no, hz, _, od⟩ := r
  exact PostS.set (x := .own d) h hi ⟨a, rfl, nf, hz, od⟩ fun d b z q => by cases q; exact no
/-- what is handed back -/
def RT (C : Kx) (s : St) (σ : L2.St) (F H : Hp) (v : V) : W → Prop
  | .val d => DV C.toBk F v d
  | .own d => ∃ a, v = .ref a ∧ F a = none ∧ ¬ Ow C s σ a ∧ C.Z a ∧ OD C.toBk F H a d
  | .pl _ => False
def QS (C : Kx) (s : St) (σ : L2.St) (F H : Hp) (D : Ends) : Fl → St → Prop := fun f s' => ∀ σ' F' H', PostS C s σ F H s' σ' F' H' → match f with
  | .nx => D.nx σ' H'
  | .bk => D.bk σ' H'
  | .ct => D.ct σ' H'
  | .rt w => ∀ v, RT C s' σ' F' H' v w → D.rt v H'
def NS (C : Kx) (W : WX) (s : St) (σ : L2.St) (F H : Hp) : X → St → Prop := fun x s' => ∀ cls dO σ' F' H', PostS C s σ F H s' σ' F' H' → C.xr x cls dO F' → W cls dO σ' H'
theorem QS.step {D : Ends} (p : PostS C s σ F H s1 σ1 F1 H1) {f : Fl} {s' : St} (h : QS C s σ F H D f s') : QS C s1 σ1 F1 H1 D f s' := fun σ' F' H' q => h σ' F' H' (p.trans q)
theorem NS.step {W : WX} (p : PostS C s σ F H s1 σ1 F1 H1) {x : X} {s' : St} (h : NS C W s σ F H x s') : NS C W s1 σ1 F1 H1 x s' := fun cls dO σ' F' H' q => h cls dO σ' F' H' (p.trans q)
theorem NS.nx {W : WX} (hs : SR C s σ F H) {x : X} {s' : St} (h : NS C W s σ F H x s') : NX C W s σ F H x s' := fun cls dO F' H' q r => h cls dO σ F' H' (q.toS hs) r
end
section
variable (P : Pg) (R : Run) (C : Kx) (W : WX)
def tS (b : List S) : TS := fun D σ H => ∃ F s, SR C s σ F H ∧ Wp (evSs P R b s) (QS C s σ F H D) (NS C W s σ F H)
def tS1 (a : S) : TS := fun D σ H => ∃ F s, SR C s σ F H ∧ Wp (evS P R a s) (QS C s σ F H D) (NS C W s σ F H)
end
section
variable {P : Pg} {R : Run} {C : Kx} {W : WX} {X : Cx}
theorem PS.imp {e : Stmt} {t t' : TS} (h : PS X e t) (i : ∀ D σ H, t' D σ H → t D σ H) : PS X e t' := ⟨fun pins s σ H D I q => h.run pins s σ H D I (i _ _ _ q)⟩
theorem PSs.imp {e : List Stmt} {t t' : TS} (h : PSs X e t) (i : ∀ D σ H, t' D σ H → t D σ H) : PSs X e t' := ⟨fun pins s σ H D I q => h.run pins s σ H D I (i _ _ _ q)⟩
theorem bs_nil : PSs X [] (tS P R C W []) := PSs.imp L2.pss_nil fun D σ H ⟨F, s, hs, hw⟩ => by
  rw [evSs] at hw
  exact hw σ F H (.refl hs)
/-- the rest -/
theorem tS_rest {b : List S} {D : Ends} {s0 s : St} {σ0 σ : L2.St} {F0 H0 F H : Hp} (p : PostS C s0 σ0 F0 H0 s σ F H) (hw : Wp (evSs P R b s) (QS C s0 σ0 F0 H0 D) (NS C W s0 σ0 F0 H0)) : tS P R C W b D σ H :=
  ⟨F, s, p.sr, Wp.mono hw (fun _ _ q => q.step p) fun _ _ q => q.step p⟩
theorem bs_cons {st : Stmt} {rest : List Stmt} {a : S} {r : List S} (h1 : PS X st (tS1 P R C W a)) (h2 : PSs X rest (tS P R C W r)) : PSs X (st :: rest) (tS P R C W (a :: r)) :=
  PSs.imp (L2.pss_cons h1 h2) fun D σ H ⟨F, s, hs, hw⟩ => by
    rw [evSs] at hw
    refine ⟨F, s, hs, Wp.mono (Wp_bind.mp hw) (fun f s1 q σ1 F1 H1 p => ?_) fun _ _ z => z⟩
    cases f with
    | nx => exact tS_rest p q
    | bk => exact q σ1 F1 H1 p
    | ct => exact q σ1 F1 H1 p
    | rt w => exact q σ1 F1 H1 p
/-- an expression ahead of the rest of a statement -/
theorem tS_e {β : Type} {e : E} {f : Mid.W → St → Out β} {D : Ends} {σ : L2.St} {F H : Hp} {s : St} {Q' : β → St → Prop} {Q : VK} (h : SR C s σ F H) (hw : Wp ((evE P R e s).bind f) Q' (NS C W s σ F H))
    (k : ∀ w s1 v F1 H1, PE' C s σ F H s1 F1 H1 → RW C s1 σ F1 H1 v w → NW H v w → Wp (f w s1) Q' (NS C W s σ F H) → Q v H1) : tE P R C W e σ H Q :=
  ⟨F, s, h, Wp.mono (Wp_bind.mp hw) (fun w s1 hq v F1 H1 p r n => k w s1 v F1 H1 p r n hq) fun _ _ z => z.nx h⟩
theorem setW_ok (hm : C.mono) {i : Nat} (hi : i ∉ C.fx) {s0 s : St} {σ : L2.St} {F0 H0 F H : Hp} {v : V} {w : Mid.W} (h0 : SR C s0 σ F0 H0) (p : PE' C s0 σ F0 H0 s F H) (r : RW C s σ F H v w) (n : NW H0 v w) {Q : Unit → St → Prop} {N : Mid.X → St → Prop} (hw : Wp (setW i w s) Q N) :
    ∃ s' F', PostS C s0 σ F0 H0 s' (σ.set i (some v)) F' H ∧ Q () s' := by
  cases w with
  | val d => exact ⟨_, F, (p.toPost.toS h0).trans (.setVal p.sr hi r), hw⟩
  | own d =>
    exact ⟨_, F, (p.toPost.toS h0).trans (.setOwn p.sr hi r), hw⟩
  | pl j =>
    unfold setW at hw
    simp only at hw
    by_cases e : i = j
    · rw [if_pos e] at hw
      obtain ⟨hv, _⟩ := r
      subst e
      refine ⟨s, F, ?_, hw⟩
      have : σ.set i (some v) = σ := by
        refine List.ext_getElem? fun k => ?_
        by_cases z : k = i
        · subst z
          rw [List.getElem?_set_self (List.getElem?_eq_some_iff.mp hv).1, hv]
        · rw [List.getElem?_set_ne (Ne.symm z)]
      rw [this]
      exact p.toPost.toS h0
    · rw [if_neg e] at hw
      obtain ⟨d, s2, F2, p2, dv, q⟩ := take_ok hm p r n (Wp_bind.mp hw)
      exact ⟨_, F2, (p2.toPost.toS h0).trans (.setVal p2.sr hi dv), q⟩
theorem asg_r (hm : C.mono) {i : Nat} (hi : i ∉ C.fx) {e : E} (D : Ends) (σ : L2.St) (H : Hp) (h : tS1 P R C W (.asg (.nm i) e) D σ H) : L2.tAsg (tE P R C W e) (L2.gName i) D σ H := by
  obtain ⟨F, s, hs, hw⟩ := h
  rw [evS] at hw
  refine tS_e (D := D) hs hw fun w s1 v F1 H1 p r n hw1 => ?_
  obtain ⟨s2, F2, p2, q⟩ := setW_ok hm hi hs p r n (Wp_bind.mp hw1)
  exact q _ F2 H1 p2
theorem expr_r {e : E} (D : Ends) (σ : L2.St) (H : Hp) (h : tS1 P R C W (.expr e) D σ H) : L2.tDrop (tE P R C W e) D σ H := by
  obtain ⟨F, s, hs, hw⟩ := h
  rw [evS] at hw
  exact tS_e (D := D) hs hw fun w s1 v F1 H1 p r n hw1 => hw1 σ F1 H1 (p.toPost.toS hs)
/-- a slot is forgotten -/
theorem SR.un (h : SR C s σ F H) (i : Nat) : SR C (s.set i .un) σ F H := by
  have oc : ∀ a, Own (s.c.set i .un) σ a → Own s.c σ a := fun a ⟨j, d, h1, h2⟩ => by
    rcases List.set_get? h1 with ⟨_, q⟩ | ⟨_, q⟩
    · cases q
    · exact ⟨j, d, q, h2⟩
  refine ⟨h.le, ⟨by show σ.length = (s.c.set i .un).length; rw [List.length_set]; exact h.c.len, fun j y e => ?_, fun j k d e a h1 h2 h3 h4 => ?_⟩, h.p, fun a q => h.dj a (oc a q), h.zz, h.zp, h.tb, h.cd⟩
  · rcases List.set_get? e with ⟨_, rfl⟩ | ⟨z, q⟩
    · trivial
    · exact h.c.sl j y q
  · rcases List.set_get? h1 with ⟨_, q⟩ | ⟨_, q1⟩
    · cases q
    · rcases List.set_get? h2 with ⟨_, q⟩ | ⟨_, q2⟩
      · cases q
      · exact h.c.ne j k d e a q1 q2 h3 h4
theorem ret_r (hm : C.mono) {e : E} (D : Ends) (σ : L2.St) (H : Hp) (h : tS1 P R C W (.ret e) D σ H) : L2.tRet (tE P R C W e) D σ H := by
  obtain ⟨F, s, hs, hw⟩ := h
  rw [evS] at hw
  refine tS_e (D := D) hs hw fun w s1 v F1 H1 p r n hw1 => ?_
  cases w with
  | val d => exact hw1 σ F1 H1 (p.toPost.toS hs) v r
  | own d =>
    obtain ⟨a, e, nf, no, hz, _, od⟩ := r
    exact hw1 σ F1 H1 (p.toPost.toS hs) v ⟨a, e, nf, no, hz, od⟩
  | pl i =>
    obtain ⟨hv, q⟩ := r
    simp only at hw1
    rcases q with ⟨d, q⟩ | ⟨d, q⟩
    · rw [slotAt_eq q] at hw1
      obtain ⟨a, e1, nf, hz, od⟩ := p.sr.c.sl i _ q
      rw [hv] at e1
      cases e1
      have hun := p.sr.un i
      have pu : PostS C s1 σ F1 H1 (s1.set i .un) σ F1 H1 := ⟨hun, .refl _ _ _, fun _ z => z, fun _ _ => rfl⟩
      obtain ⟨o, ho⟩ := od.some
      have nop : ¬ Own s1.p C.σp a := p.sr.dj a ⟨i, d, q, hv⟩
      refine hw1 σ F1 H1 ((p.toPost.toS hs).trans pu) (.ref a) ⟨a, rfl, nf, fun z => ?_, hz, od⟩
      · rcases z with ⟨j, x, z1, z2⟩ | z
        · rcases List.set_get? z1 with ⟨_, w⟩ | ⟨w, z1⟩
          · cases w
          · exact w (p.sr.c.ne j i x d a z1 q z2 hv)
        · exact nop z
    · rw [slotAt_eq q] at hw1
      obtain ⟨v', e1, dv⟩ := p.sr.c.sl i _ q
      rw [hv] at e1
      cases e1
      exact hw1 σ F1 H1 (p.toPost.toS hs) v dv
end
end Mid
set_option Elab.async false
set_option linter.all false
set_option maxRecDepth 100000
set_option maxHeartbeats 4000000
/-! A def keeps its promise. -/
namespace Mid
open PySem PySem.Spec PyProof.Rows
open L2 (Hp HO V RelV Vals SqL SqT Rd upd upd_same upd_ne OpR R2 Inv Cx EP VK TE TT TA TS WX XK PE PT PA PS PSs Ends)

/-- the context of a def -/
abbrev Kx.fn (G : Gx) (H : Hp) (sl : List Slot) (vs : List V) (io : List Nat) : Kx :=
  { G.toBk with Z := fun a => H a = none ∨ OwnE sl vs a, σp := [], Zp := fun _ => True, cs := fun _ _ _ => False, xs := G.xs, xr := G.xr, fx := io, cd := [] }
section
variable {G : Gx} {F H : Hp} {sl : List Slot} {vs : List V} {N : List Str}
theorem start_at {i : Nat} {v : V} (h : vs[i]? = some v) : (L2.start N vs)[i]? = some (some v) := by
  have hi : i < vs.length := (List.getElem?_eq_some_iff.mp h).1
  unfold L2.start
  rw [List.getElem?_append_left (by rw [List.length_map]; exact hi), List.getElem?_map, h]
  rfl
theorem ent_sr {io : List Nat} {ns np : Nat} (e : Ent G.toBk (fun _ _ _ => False) F H sl vs) (hn : sl.length = np) (hN : N.length = ns) (hle : np ≤ ns) : SR (Kx.fn G H sl vs io) ⟨sl ++ List.replicate (ns - np) .un, []⟩ (L2.start N vs) F H := by
  have old : ∀ {i : Nat} {x : Slot}, (sl ++ List.replicate (ns - np) .un)[i]? = some x → x = .un ∨ (sl[i]? = some x ∧ ∃ v, vs[i]? = some v) := fun {i x} q => by
    by_cases hi : i < sl.length
    · rw [List.getElem?_append_left hi] at q
      exact .inr ⟨q, vs[i]'(by rw [← e.len]; exact hi), List.getElem?_eq_getElem _⟩
    · rw [List.getElem?_append_right (by omega), List.getElem?_replicate] at q
      split at q
      · cases q; exact .inl rfl
      · cases q
  have ownO : ∀ {a : Addr}, Own (sl ++ List.replicate (ns - np) .un) (L2.start N vs) a → OwnE sl vs a := fun {a} ⟨i, d, h1, h2⟩ => by
    rcases old h1 with q | ⟨q, v, hv⟩
    · cases q
    · rw [start_at hv] at h2
      cases h2
      exact ⟨i, d, q, hv⟩
  refine ⟨e.le, ⟨?_, fun i x q => ?_, fun i j d d' a h1 h2 h3 h4 => ?_⟩, ⟨rfl, fun i x q => by simp at q, fun i j d e a h => by simp at h⟩, fun a _ ⟨i, d, h, _⟩ => by simp at h, fun a h => .inl h, fun a h => trivial, e.tb, fun p hp => by cases hp⟩
  · unfold L2.start
    simp only [List.length_append, List.length_map, List.length_replicate]
    have := e.len
    omega
  · rcases old q with rfl | ⟨q, v, hv⟩
    · trivial
    · rw [start_at hv]
      have r := e.at_ i x v q hv
      cases x with
      | un => trivial
      | val d => exact ⟨v, rfl, r⟩
      | own d =>
        obtain ⟨a, rfl, nf, od⟩ := r
        exact ⟨a, rfl, nf, .inr ⟨i, d, q, hv⟩, od⟩
      | exn x => exact r.elim
      | clo ps b => exact r.elim
  · rcases old h1 with q | ⟨q1, v, hv⟩
    · cases q
    · rcases old h2 with q | ⟨q2, v', hv'⟩
      · cases q
      · rw [start_at hv] at h3
        rw [start_at hv'] at h4
        cases h3
        cases h4
        exact e.ne i j d d' a q1 q2 hv hv'
theorem end_c {io : List Nat} {s s' : St} {σ σ' : L2.St} {F' H' : Hp} (hs : s.p = []) (hσ : σ = L2.start N vs) (hio : ∀ (j : Nat) (d : D), sl[j]? = some (Slot.own d) → io.contains j = true) (p : PostS (Kx.fn G H sl vs io) s σ F H s' σ' F' H') :
    EndC G.toBk F H sl vs (fun _ => False) s'.c F' H' ∧ ∀ v w, RT (Kx.fn G H sl vs io) s' σ' F' H' v w → EndW G.toBk H sl vs s'.c F' H' v w := by
  have np : ∀ a, ¬ Own s.p (Kx.fn G H sl vs io).σp a := fun a ⟨i, d, h, _⟩ => by rw [hs] at h; simp at h
  have same : ∀ (j : Nat) (e : D) (a : Addr), sl[j]? = some (.own e) → vs[j]? = some (.ref a) → σ'[j]? = some (some (.ref a)) := fun j e a h1 h2 => by
    rw [p.fx j (by have := hio j e h1; simpa using this), hσ]
    exact start_at h2
  refine ⟨⟨p.st.le, p.sr.le, fun a o e t n _ => p.st.keep a o e t fun z => ?_, fun a e q => ?_, p.st.there, fun j e d a h1 h2 h3 => ?_, p.sr.tb⟩, fun v w r => ?_⟩
  · rcases z with (z | z) | z
    · rw [z] at e; cases e
    · exact n z
    · exact np a z
  · rcases p.st.new a e q with z | (z | z) | z
    · exact .inl z
    · exact .inl z
    · exact .inr (.inl z)
    · exact absurd z (np a)
  · obtain ⟨b, e1, nf, _, od⟩ := p.sr.c.sl j _ h3
    rw [same j e a h1 h2] at e1
    cases e1
    exact ⟨nf, od⟩
  · cases w with
    | val d => exact r
    | own d =>
      obtain ⟨a, e, nf, no, hz, od⟩ := r
      exact ⟨a, e, nf, od, hz, fun j e' d' h1 h2 h3 => no (.inl ⟨j, d', h3, same j e' a h1 h2⟩)⟩
    | pl i => exact r.elim
end
/-- a def's promise, by its body -/
theorem fn_ok {G : Gx} {Pm : Program} {w : World} {K : PySem.W.Frag} {mg : Str → Option Value} {base : Heap} {k : Nat} {f : Addr} {name qual : Str} {params : Arguments} {body : List Stmt} {scope : Scope} {dV kV doc pm cdv ct oc : Value} {an od : Option Addr}
    {osl : Array (Option Value)} {N ps : List Str} {P : Pg} {n fi : Nat} {fd : Fd} (lk : K.lookup f = some ⟨oc, od, .func (PySem.W.fnOf name qual params body scope dV kV doc pm an cdv ct), osl⟩) (hcd : PySem.W.codeIn K cdv qual = true) (S : L2.FnScope N ps scope)
    (hfd : P.fs[fi]? = some fd) (hnp : fd.np = ps.length) (hns : fd.ns = N.length)
    (hbody : ∀ (A : Around) (outer : List Env) (s : Shared) (H H0 : Hp) (sl : List Slot) (vs : List V) (E : XK), L2.Room k (A.deeper (envOfC qual scope s.heap.objs.size f cdv)) →
      PSs (L2.cxOf (L2.CX Pm w) Pm w K mg base N qual scope f cdv A outer s H E) body (tS P (run P n) (Kx.fn G H sl vs fd.io) (fun cls d _ H => E cls d H) fd.body)) :
    L2.FnOk Pm w K mg base (L2.CX Pm w) (k + 1) f (PySem.W.fnOf name qual params body scope dV kV doc pm an cdv ct) ps (spA P (run P (n + 1)) G fi) := by
  have hpl : ps.length ≤ N.length := by have := congrArg List.length S.pre; rw [List.length_take] at this; omega
  refine L2.fn_of lk hcd S (fun vs H Q E h => ?_) fun A outer s H vs Q E hr h => ?_
  · obtain ⟨F, sl, fd', e, hl, _, ent, _⟩ := h
    rw [hfd] at e
    cases e
    rw [← ent.len, hl, hnp]
  · obtain ⟨F, sl, fd', e, hl, hio, ent, hq⟩ := h
    rw [hfd] at e
    cases e
    refine ⟨_, hbody A outer s H H sl vs E hr, ?_⟩
    refine ⟨F, ⟨sl ++ List.replicate (fd.ns - fd.np) .un, []⟩, ent_sr ent hl hns.symm (by omega), ?_⟩
    have hrun : run P (n + 1) (.call fi sl []) = match evSs P (run P n) fd.body ⟨sl ++ List.replicate (fd.ns - fd.np) .un, []⟩ with
      | .ok (.rt w) s => .ret w s.c s.p
      | .ok .nx s => .ret (.val .non) s.c s.p
      | .ok _ _ => .stk "flow"
      | .exc x s => .exc x s.c s.p
      | .stk m => .stk (m ++ " <f" ++ toString fi) := by
      rw [run]
      simp only [hfd]
      all_goals cases evSs P (run P n) fd.body ⟨sl ++ List.replicate (fd.ns - fd.np) .un, []⟩ with
      | ok a s => cases a <;> rfl
      | exc x s => rfl
      | stk m => rfl
    rw [hrun] at hq
    cases he : evSs P (run P n) fd.body ⟨sl ++ List.replicate (fd.ns - fd.np) .un, []⟩ with
    | stk m => rw [he] at hq; exact hq.elim
    | exc x s' =>
      rw [he] at hq
      intro cls dO σ' F' H' p hx
      exact hq cls dO F' H' (end_c (N := N) rfl rfl hio p).1 hx
    | ok fl s' =>
      rw [he] at hq
      intro σ' F' H' p
      obtain ⟨e1, e2⟩ := end_c (N := N) rfl rfl hio p
      cases fl with
      | nx => exact hq .non F' H' e1 .non
      | rt w => exact fun v r => hq v F' H' e1 (e2 v w r)
      | bk => exact hq.elim
      | ct => exact hq.elim
end Mid
set_option Elab.async false
set_option linter.all false
set_option maxRecDepth 100000
set_option maxHeartbeats 4000000
/-! Tests, loops, what is walked. -/
namespace Mid
open PySem PySem.Spec PyProof.Rows
open L2 (Hp HO V RelV Vals SqL SqT Rd upd upd_same upd_ne OpR R2 Inv Cx EP VK TE TT TA TS TG TGs TI It WX XK PE PT PA PS PSs PG PGs PI Ends)

section
variable {P : Pg} {R : Run} {C : Kx} {W : WX} {X : Cx}
/-- a test ahead of the rest of a statement -/
theorem tS_t {β : Type} {e : E} {f : Bool → St → Out β} {σ : L2.St} {F H : Hp} {s : St} {Q' : β → St → Prop} {Q : Bool → Hp → Prop} (h : SR C s σ F H) (hw : Wp ((evE P R e s).bind fun w s => (boolOf w s).bind f) Q' (NS C W s σ F H))
    (k : ∀ b s1 F1 H1, PE' C s σ F H s1 F1 H1 → Wp (f b s1) Q' (NS C W s σ F H) → Q b H1) : tT P R C W e σ H Q := by
  refine ⟨F, s, h, Wp.mono (Wp_bind.mp hw) (fun w s1 hq => ?_) fun _ _ z => z.nx h⟩
  obtain ⟨b, e, hb⟩ := boolOf_ok hq
  exact ⟨b, e, fun F1 H1 p => k b s1 F1 H1 p hb⟩
theorem if_r {c : E} {a b : List S} (D : Ends) (σ : L2.St) (H : Hp) (h : tS1 P R C W (.ite c a b) D σ H) : L2.tIfS (tT P R C W c) (tS P R C W a) (tS P R C W b) D σ H := by
  obtain ⟨F, s, hs, hw⟩ := h
  rw [evS] at hw
  refine tS_t hs hw fun k s1 F1 H1 p q => ?_
  cases k with
  | true =>
    rw [if_pos rfl] at q ⊢
    exact tS_rest (p.toPost.toS hs) q
  | false =>
    rw [if_neg Bool.false_ne_true] at q ⊢
    exact tS_rest (p.toPost.toS hs) q
theorem pass_r (D : Ends) (σ : L2.St) (H : Hp) (h : tS1 P R C W .pass D σ H) : L2.tNext D σ H := by
  obtain ⟨F, s, hs, hw⟩ := h
  rw [evS] at hw
  exact hw σ F H (.refl hs)
theorem brk_r (D : Ends) (σ : L2.St) (H : Hp) (h : tS1 P R C W .brk D σ H) : L2.tBreak D σ H := by
  obtain ⟨F, s, hs, hw⟩ := h
  rw [evS] at hw
  exact hw σ F H (.refl hs)
theorem cont_r (D : Ends) (σ : L2.St) (H : Hp) (h : tS1 P R C W .cont D σ H) : L2.tCont D σ H := by
  obtain ⟨F, s, hs, hw⟩ := h
  rw [evS] at hw
  exact hw σ F H (.refl hs)
theorem while_r {c : E} {b : List S} (D : Ends) (σ : L2.St) (H : Hp) (h : tS1 P R C W (.while_ c b) D σ H) : L2.tWhile (tT P R C W c) (tS P R C W b) D σ H := by
  obtain ⟨F, s, hs, hw⟩ := h
  rw [evS] at hw
  refine ⟨fun m σ' H' => ∃ F' s', SR C s' σ' F' H' ∧ Wp (whileGo (fun s => (evE P R c s).bind boolOf) (fun s => evSs P R b s) m s') (QS C s' σ' F' H' D) (NS C W s' σ' F' H'), ⟨P.fuel, F, s, hs, hw⟩, ?_⟩
  rintro m σ1 H1 ⟨F1, s1, h1, hw1⟩
  cases m with
  | zero => exact hw1.elim
  | succ m =>
    rw [whileGo] at hw1
    have hw2 : Wp ((evE P R c s1).bind fun w s => (boolOf w s).bind fun b' s => if b' then (evSs P R b s).bind fun f s => match f with
      | .nx => whileGo (fun s => (evE P R c s).bind boolOf) (fun s => evSs P R b s) m s
      | .ct => whileGo (fun s => (evE P R c s).bind boolOf) (fun s => evSs P R b s) m s
      | .bk => .ok .nx s
      | .rt w => .ok (.rt w) s
      else .ok .nx s) (QS C s1 σ1 F1 H1 D) (NS C W s1 σ1 F1 H1) := by
      refine Wp_bind.mpr (Wp.mono (Wp_bind.mp (Wp_bind.mp hw1)) (fun w s' q => ?_) fun _ _ z => z)
      exact Wp_bind.mpr q
    refine tS_t h1 hw2 fun k s2 F2 H2 p2 q => ?_
    have p2' := p2.toPost.toS h1
    cases k with
    | false =>
      rw [if_neg Bool.false_ne_true] at q ⊢
      exact q σ1 F2 H2 p2'
    | true =>
      rw [if_pos rfl] at q ⊢
      refine ⟨fun σ' H' => ∃ F' s', SR C s' σ' F' H' ∧ Wp (whileGo (fun s => (evE P R c s).bind boolOf) (fun s => evSs P R b s) m s') (QS C s' σ' F' H' D) (NS C W s' σ' F' H'), fun σ' H' z => ⟨m, Nat.lt_succ_self m, z⟩, F2, s2, p2.sr, ?_⟩
      refine Wp.mono (Wp_bind.mp q) (fun f s3 q3 σ3 F3 H3 p3 => ?_) fun x s3 q3 => q3.step p2'
      have p23 := p2'.trans p3
      cases f with
      | nx => exact ⟨F3, s3, p3.sr, Wp.mono q3 (fun _ _ z => z.step p23) fun _ _ z => z.step p23⟩
      | ct => exact ⟨F3, s3, p3.sr, Wp.mono q3 (fun _ _ z => z.step p23) fun _ _ z => z.step p23⟩
      | bk => exact q3 σ3 F3 H3 p23
      | rt w => exact q3 σ3 F3 H3 p23

/-! ### targets -/
mutual
def gT (K : PySem.W.Frag) : T → TG
  | .nm i => L2.gName i
  | .pr ts => L2.gTup K ts.length (gTs K ts)
def gTs (K : PySem.W.Frag) : List T → TGs
  | [] => L2.gNil
  | t :: r => L2.gCons (gT K t) (gTs K r)
end
mutual
theorem gT_ok : ∀ (t : T) {s s' : St} {σ : L2.St} {F H : Hp} {v : V} {d : D} {Q : L2.St → Hp → Prop}, SR C s σ F H → DV C.toBk F v d → stT t d s = some s' → (∀ i ∈ t.nms, i ∉ C.fx) → (∀ σ', PostS C s σ F H s' σ' F H → (∀ j, j ∉ t.nms → σ'[j]? = σ[j]?) → Q σ' H) → gT C.K t v σ H Q
  | .nm i, s, s', σ, F, H, v, d, Q, h, dv, e, fx, k => by
    simp only [stT, Option.some.injEq] at e
    subst e
    exact k _ (.setVal h (fx i (by simp [T.nms])) dv) fun j hj => by rw [List.getElem?_set_ne (fun e : i = j => hj (by simp [T.nms, e]))]
  | .pr ts, s, s', σ, F, H, v, d, Q, h, dv, e, fx, k => by
    cases dv with
    | tup sq q =>
      simp only [stT] at e
      obtain ⟨l, g⟩ := gTs_ok ts h q e (fun i hi => fx i (by simpa only [T.nms] using hi)) (fun σ' p z => k σ' p fun j hj => z j (by simpa only [T.nms] using hj))
      exact ⟨_, _, rfl, (h.le.pT sq).sq, l, g⟩
    | _ => simp [stT] at e
theorem gTs_ok : ∀ (ts : List T) {s s' : St} {σ : L2.St} {F H : Hp} {vs : List V} {ds : List D} {Q : L2.St → Hp → Prop}, SR C s σ F H → DVs C.toBk F vs ds → stTs ts ds s = some s' → (∀ i ∈ T.nmss ts, i ∉ C.fx) → (∀ σ', PostS C s σ F H s' σ' F H → (∀ j, j ∉ T.nmss ts → σ'[j]? = σ[j]?) → Q σ' H) → vs.length = ts.length ∧ gTs C.K ts vs σ H Q
  | [], s, s', σ, F, H, vs, ds, Q, h, dv, e, fx, k => by
    cases dv with
    | nil =>
      simp only [stTs, Option.some.injEq] at e
      subst e
      exact ⟨rfl, rfl, k σ (.refl h) fun _ _ => rfl⟩
    | cons _ _ => simp [stTs] at e
  | t :: r, s, s', σ, F, H, vs, ds, Q, h, dv, e, fx, k => by
    cases dv with
    | nil => simp [stTs] at e
    | @cons v vr d dr p q =>
      simp only [stTs] at e
      cases e1 : stT t d s with
      | none => rw [e1] at e; cases e
      | some s1 =>
        rw [e1] at e
        have fx1 : ∀ i ∈ t.nms, i ∉ C.fx := fun i hi => fx i (by simp only [T.nmss]; exact List.mem_append_left _ hi)
        have fx2 : ∀ i ∈ T.nmss r, i ∉ C.fx := fun i hi => fx i (by simp only [T.nmss]; exact List.mem_append_right _ hi)
        have go : ∀ σ1, PostS C s σ F H s1 σ1 F H → (∀ j, j ∉ t.nms → σ1[j]? = σ[j]?) → vr.length = r.length ∧ gTs C.K r vr σ1 H Q := fun σ1 p1 z1 =>
          gTs_ok r p1.sr q e fx2 fun σ2 p2 z2 => k σ2 (p1.trans p2) fun j hj => by
            simp only [T.nmss, List.mem_append, not_or] at hj
            rw [z2 j hj.2, z1 j hj.1]
        have gl : vr.length = r.length := by
          have hl : ∀ (ts : List T) (ds : List D) (s s' : St), stTs ts ds s = some s' → ds.length = ts.length := by
            intro ts
            induction ts with
            | nil => intro ds s s' e; cases ds <;> simp [stTs] at e ⊢
            | cons t r ih =>
              intro ds s s' e
              cases ds with
              | nil => simp [stTs] at e
              | cons d dr =>
                simp only [stTs] at e
                split at e
                · rw [List.length_cons, List.length_cons, ih _ _ _ e]
                · cases e
          rw [q.length]
          exact hl r dr s1 s' e
        refine ⟨by rw [List.length_cons, List.length_cons, gl], v, vr, rfl, ?_⟩
        exact gT_ok t h p e1 fx1 fun σ1 p1 z1 => (go σ1 p1 z1).2
end

/-! ### what is walked -/
/-- an item: a thing, or a couple that is taken apart at once -/
def DW (B : Bk) (F : Hp) (v : V) (d : D) (t : T) : Prop := DV B F v d ∨ ((∃ ts, t = .pr ts) ∧ ∃ a xs ds, v = .ref a ∧ d = .tup ds ∧ SqT B.K F a xs ∧ DVs B F xs ds)
theorem gW_ok {t : T} {s s' : St} {σ : L2.St} {F H : Hp} {v : V} {d : D} {Q : L2.St → Hp → Prop} (h : SR C s σ F H) (dv : DW C.toBk F v d t) (e : stT t d s = some s') (fx : ∀ i ∈ t.nms, i ∉ C.fx)
    (k : ∀ σ', PostS C s σ F H s' σ' F H → (∀ j, j ∉ t.nms → σ'[j]? = σ[j]?) → Q σ' H) : gT C.K t v σ H Q := by
  rcases dv with dv | ⟨⟨ts, rfl⟩, a, xs, ds, rfl, rfl, sq, q⟩
  · exact gT_ok t h dv e fx k
  · simp only [stT] at e
    obtain ⟨l, g⟩ := gTs_ok ts h q e (fun i hi => fx i (by simpa only [T.nms] using hi)) (fun σ' p z => k σ' p fun j hj => z j (by simpa only [T.nms] using hj))
    exact ⟨_, _, rfl, h.le.sqT sq, l, g⟩
/-- the iterator J yields the items ds as long as the list that is walked stands (slot g holds it, where a name owns it) -/
structure Walk (C : Kx) (t : T) (J : It) (ds : List D) (g : Option Nat) (d : D) (σ0 : L2.St) (F0 : Hp) : Prop where
  go : ∀ (s : St) (σ : L2.St) (F H : Hp), SR C s σ F H → Le F0 F → still g d s = true → (∀ j, g = some j → σ[j]? = σ0[j]?) → ∀ (i : Nat) (e : D), ds[i]? = some e → J.go i H ∧ ∀ x H', J.yld i H x H' → ∃ F', Al F H F' H' ∧ DW C.toBk F' x e t
  stop : ∀ (s : St) (σ : L2.St) (F H : Hp), SR C s σ F H → Le F0 F → still g d s = true → (∀ j, g = some j → σ[j]? = σ0[j]?) → ∀ i, ds.length ≤ i → J.stop i H
theorem Walk.le {t : T} {J : It} {ds : List D} {g : Option Nat} {d : D} {σ0 : L2.St} {F0 F1 : Hp} (w : Walk C t J ds g d σ0 F0) (l : Le F0 F1) : Walk C t J ds g d σ0 F1 :=
  ⟨fun s σ F H h l' st e => w.go s σ F H h (l.trans l') st e, fun s σ F H h l' st e => w.stop s σ F H h (l.trans l') st e⟩
/-- a source's reading -/
def tSrc (P : Pg) (R : Run) (C : Kx) (W : WX) (own : List Nat) (t : T) (src : E) : TI := fun σ H Rr => ∃ F s, SR C s σ F H ∧ Wp ((evE P R src s).bind fun x s => evSrc src own x s) (fun d s' => ∃ xs, items d.1 = some xs ∧ ∀ J F' H', PE' C s σ F H s' F' H' → (∀ j, d.2 = some j → src = .var j ∧ j ∉ own) → Walk C t J xs d.2 d.1 σ F' → Rr J H') (NX C W s σ F H)
/-- the name whose list is walked is not stored anew -/
def lockS : E → List Nat
  | .var j => [j]
  | _ => []
abbrev Kx.lock (C : Kx) (l : List Nat) : Kx := { C with fx := l ++ C.fx }
section
variable {l : List Nat} {s s' : St} {σ σ' : L2.St} {F H F' H' : Hp}
theorem SR.lock (h : SR C s σ F H) : SR (C.lock l) s σ F H := ⟨h.le, ⟨h.c.len, h.c.sl, h.c.ne⟩, ⟨h.p.len, h.p.sl, h.p.ne⟩, h.dj, h.zz, h.zp, h.tb, h.cd⟩
theorem SR.unlock (h : SR (C.lock l) s σ F H) : SR C s σ F H := ⟨h.le, ⟨h.c.len, h.c.sl, h.c.ne⟩, ⟨h.p.len, h.p.sl, h.p.ne⟩, h.dj, h.zz, h.zp, h.tb, h.cd⟩
theorem PostS.unlock (p : PostS (C.lock l) s σ F H s' σ' F' H') : PostS C s σ F H s' σ' F' H' := ⟨p.sr.unlock, p.st, p.op, fun j hj => p.fx j (List.mem_append_right _ hj)⟩
theorem PE'.lock (p : PE' C s σ F H s' F' H') : PE' (C.lock l) s σ F H s' F' H' := ⟨⟨p.sr.lock, p.st, p.oc, p.op⟩, p.ks⟩
theorem PE'.unlock (p : PE' (C.lock l) s σ F H s' F' H') : PE' C s σ F H s' F' H' := ⟨⟨p.sr.unlock, p.st, p.oc, p.op⟩, p.ks⟩
theorem Walk.lock {t : T} {J : It} {ds : List D} {g : Option Nat} {d : D} {σ0 : L2.St} {F0 : Hp} (w : Walk C t J ds g d σ0 F0) : Walk (C.lock l) t J ds g d σ0 F0 :=
  ⟨fun s σ F H h => w.go s σ F H h.unlock, fun s σ F H h => w.stop s σ F H h.unlock⟩
theorem NX.unlock {x : Mid.X} (h : NX C W s σ F H x s') : NX (C.lock l) W s σ F H x s' := fun cls dO F' H' p r => h cls dO F' H' ⟨p.sr.unlock, p.st, p.oc, p.op⟩ r
theorem QS.lock {D : Ends} {f : Fl} (h : QS C s σ F H D f s') : QS (C.lock l) s σ F H D f s' := fun σ' F' H' p => by
  have := h σ' F' H' p.unlock
  cases f <;> exact this
theorem NS.lock {x : Mid.X} (h : NS C W s σ F H x s') : NS (C.lock l) W s σ F H x s' := fun cls dO σ' F' H' p r => h cls dO σ' F' H' p.unlock r
end
theorem SR.al' {s : St} {σ : L2.St} {F H F' H' : Hp} (hm : C.mono) (h : SR C s σ F H) (a : Al F H F' H') : PostS C s σ F H s σ F' H' := ((h.alP hm a).toPost).toS h
/-- a walk by a name's turns -/
theorem for_r (hm : C.mono) {t : T} {src : E} {b : List S} (hfx : ∀ i ∈ t.nms, i ∉ lockS src ++ C.fx) (D : Ends) (σ : L2.St) (H : Hp) (h : tS1 P R C W (.for_ t src b) D σ H) :
    L2.tFor (tSrc P R C W [] t src) (gT C.K t) (tS P R (C.lock (lockS src)) W b) D σ H := by
  obtain ⟨F, s, hs, hw⟩ := h
  rw [evS] at hw
  have hw' : Wp (((evE P R src s).bind fun x s => evSrc src [] x s).bind fun d s => match items d.1 with
      | some xs => forGo (still d.2 d.1) t (fun s => evSs P R b s) xs s
      | none => .stk "for") (QS C s σ F H D) (NS C W s σ F H) := Wp_bind.mpr (Wp_bind.mpr (Wp.mono (Wp_bind.mp hw) (fun _ _ q => Wp_bind.mp q) fun _ _ z => z))
  refine ⟨F, s, hs, Wp.mono (Wp_bind.mp hw') (fun d s1 q => ?_) fun _ _ z => z.nx hs⟩
  cases hit : items d.1 with
  | none => rw [hit] at q; exact q.elim
  | some xs =>
  refine ⟨xs, rfl, fun J F1 H1 p hsrc wk => ?_⟩
  rw [hit] at q
  simp only at q
  have q : Wp (forGo (still d.2 d.1) t (fun s => evSs P R b s) xs s1) (QS C s σ F H D) (NS C W s σ F H) := q
  have p' := p.toPost.toS hs
  generalize hC : C.lock (lockS src) = C' at *
  refine ⟨fun i m σ' H' => ∃ F' s' r, SR C' s' σ' F' H' ∧ Le F1 F' ∧ (∀ j, d.2 = some j → σ'[j]? = σ[j]?) ∧ r = xs.drop i ∧ m = r.length ∧ Wp (forGo (still d.2 d.1) t (fun s => evSs P R b s) r s') (QS C' s' σ' F' H' D) (NS C' W s' σ' F' H'),
    ⟨xs.length, F1, s1, xs, by rw [← hC]; exact p'.sr.lock, .refl F1, fun _ _ => rfl, rfl, rfl, ?_⟩, ?_⟩
  · rw [← hC]
    exact Wp.mono q (fun _ _ z => (z.step p').lock) fun _ _ z => (z.step p').lock
  · rintro i m σ2 H2 ⟨F2, s2, r, h2, l2, g2, rfl, rfl, q2⟩
    have hC'm : C'.mono := by rw [← hC]; exact hm
    have wk' : Walk C' t J xs d.2 d.1 σ F1 := by rw [← hC]; exact wk.lock
    have eK : C'.K = C.K := by rw [← hC]
    cases hr : xs.drop i with
    | nil =>
      rw [hr, forGo] at q2
      cases hst : still d.2 d.1 s2 with
      | false => rw [hst, if_neg Bool.false_ne_true] at q2; exact q2.elim
      | true =>
        rw [hst, if_pos rfl] at q2
        refine .inl ⟨wk'.stop s2 σ2 F2 H2 h2 l2 hst g2 i (by simpa using hr), q2 σ2 F2 H2 (.refl h2)⟩
    | cons e r =>
      rw [hr, forGo] at q2
      have hi : xs[i]? = some e := by
        have := congrArg (fun l => l[0]?) hr
        simpa using this
      have hdr : xs.drop (i + 1) = r := by
        have := congrArg List.tail hr
        simpa using this
      cases hst : still d.2 d.1 s2 with
      | false => rw [hst, if_neg Bool.false_ne_true] at q2; exact q2.elim
      | true =>
        rw [hst, if_pos rfl] at q2
        obtain ⟨hgo, hy⟩ := wk'.go s2 σ2 F2 H2 h2 l2 hst g2 i e hi
        refine .inr ⟨hgo, fun σ' H' => ∃ F' s', SR C' s' σ' F' H' ∧ Le F1 F' ∧ (∀ j, d.2 = some j → σ'[j]? = σ[j]?) ∧ Wp (forGo (still d.2 d.1) t (fun s => evSs P R b s) r s') (QS C' s' σ' F' H' D) (NS C' W s' σ' F' H'),
          fun σ' H' ⟨F', s', z1, z2, z3, z4⟩ => ⟨r.length, by simp, F', s', r, z1, z2, z3, hdr.symm, rfl, z4⟩, fun x H3 hyl => ?_⟩
        obtain ⟨F3, al, dv⟩ := hy x H3 hyl
        have p3 := SR.al' hC'm h2 al
        cases est : stT t e s2 with
        | none => simp only [est] at q2; exact q2.elim
        | some s3 =>
          simp only [est] at q2
          rw [← eK]
          refine gW_ok p3.sr dv est (fun i hi => by rw [← hC]; exact hfx i hi) fun σ4 p4 z4 => ?_
          have p34 := p3.trans p4
          have lk : ∀ {σ' : L2.St} {s' : St} {F' H' : Hp}, PostS C' s2 σ2 F2 H2 s' σ' F' H' → ∀ j, d.2 = some j → σ'[j]? = σ[j]? := fun {σ' s' F' H'} p j hj => by
            have : j ∈ C'.fx := by
              rw [← hC, (hsrc j hj).1]
              exact List.mem_append_left _ (by simp [lockS])
            exact (p.fx j this).trans (g2 j hj)
          refine ⟨F3, s3, p4.sr, Wp.mono (Wp_bind.mp q2) (fun f s5 q5 σ5 F5 H5 p5 => ?_) fun x s5 q5 => q5.step p34⟩
          have p25 := p34.trans p5
          cases f with
          | nx => exact ⟨F5, s5, p5.sr, l2.trans p25.st.le, lk p25, Wp.mono q5 (fun _ _ z => z.step p25) fun _ _ z => z.step p25⟩
          | ct => exact ⟨F5, s5, p5.sr, l2.trans p25.st.le, lk p25, Wp.mono q5 (fun _ _ z => z.step p25) fun _ _ z => z.step p25⟩
          | bk => exact q5 σ5 F5 H5 p25
          | rt w => exact q5 σ5 F5 H5 p25
end
end Mid
set_option Elab.async false
set_option linter.all false
set_option maxRecDepth 100000
set_option maxHeartbeats 4000000
/-! Sources: lists, tuples, texts, dicts' keys, ranges, enumerate, zip. -/
namespace Mid
open PySem PySem.Spec PyProof.Rows
open L2 (Hp HO V RelV Vals SqL SqT Rd upd upd_same upd_ne OpR R2 Inv Cx EP VK TE TT TA TS TG TGs TI It WX XK PE PT PA PS PSs PG PGs PI PIE Turn Ends FpOk)

/-- the keys of the dict at d -/
def Itdk (d : Addr) (es : Array DictEntry) (ep : Nat) : It := ⟨fun i H => H d = some (dctO d es ep) ∧ i < es.size ∧ ∀ (j : Nat) (e : DictEntry), es[j]? = some e → ∃ x, RelV x e.key, fun i H x H' => H' = H ∧ ∃ e, es[i]? = some e ∧ RelV x e.key, fun i H => H d = some (dctO d es ep) ∧ es.size ≤ i⟩
/-- what an iterator of a thing is -/
inductive ItOk (K : PySem.W.Frag) (H : Hp) : V → It → Prop
  | lst {a : Addr} {xs : List V} : SqL K H a xs → ItOk K H (.ref a) (L2.Itl K a)
  | tup {a : Addr} {xs : List V} : SqT K H a xs → ItOk K H (.ref a) (L2.Itt K a)
  | str (z : Str) : ItOk K H (.str z) (L2.Its z)
  | dic {a : Addr} {es : Array DictEntry} {ep : Nat} : H a = some (dctO a es ep) → (a == sysModules) = false → ItOk K H (.ref a) (Itdk a es ep)
section
variable {X : Cx} {pins : List (Addr × Obj)} {σ : L2.St} {H : Hp} {s : Shared} {tg : Expr}
theorem raw_now (I : Inv X pins σ H s) {a : Addr} {es : Array DictEntry} {ep : Nat} (h : H a = some (dctO a es ep)) : s.heap.DictRaw a es ep := (I.hok a _ h).1
theorem turn_dk {P : Program} {w : World} {K : PySem.W.Frag} (d it : Addr) (es : Array DictEntry) (ep : Nat) : Turn P w K tg (Itdk d es ep) [it] it (fun i h => h.IsKeyIter it d i es.size ep) where
  mem := List.mem_singleton.mpr rfl
  obj := fun i h st b hb => by
    rw [List.mem_singleton.mp hb]
    obtain ⟨o, e, _, hd⟩ := st
    exact ⟨o, e, fun v z => by rw [hd] at z; cases z⟩
  keep := fun i h h' st k => by
    obtain ⟨o, e, r⟩ := st
    exact ⟨o, k it (List.mem_singleton.mpr rfl) o e, r⟩
  item := by
    intro X eP ew eK hc i pins s σ H E I hf st hg
    subst eP ew eK
    obtain ⟨hd, hi, hv⟩ := hg
    obtain ⟨f0, f1, f2, f3, f4, f5⟩ := hf it (List.mem_singleton.mpr rfl)
    refine wpAny_pyNext_keys_item_raw st (raw_now I hd) hi fun h' st' sb => ?_
    have J : Inv X pins σ H { s with heap := h' } := I.turned (t' := s.toks) (fun b o hb e => (sb.2 b hb).trans e) f0 f1 f3 f4 f5
    obtain ⟨x, rx⟩ := hv i es[i] (Array.getElem?_eq_getElem hi)
    obtain ⟨o, e, hcl, hdt⟩ := id st'
    exact ⟨_, rfl, L2.go_of (s := { s with heap := h' }) e hcl hdt (by decide) ⟨x, H, J, rx, ⟨rfl, _, Array.getElem?_eq_getElem hi, rx⟩, st', fun b hb => (hf b hb).1⟩⟩
  done := by
    intro X eP ew eK hc i pins s σ H E I hf st hg
    subst eP ew eK
    obtain ⟨hd, hi⟩ := hg
    obtain ⟨f0, f1, f2, f3, f4, f5⟩ := hf it (List.mem_singleton.mpr rfl)
    exact wpAny_pyNext_keys_end_raw (I.ok.hd hc) st (raw_now I hd) hi fun h' eb => ⟨rfl, I.turned (t' := s.toks) (fun b o hb e => eb b o hb e) f0 f1 f3 f4 f5⟩
  self := fun A i s Q E st h => wpAny_pyIter_keyiter st h
/-- an iterator of a thing -/
theorem iter_v {R : It → Hp → Prop} {x : V} {v : Value} {J : It} {E : Value → Shared → Prop} (I : Inv X pins σ H s) (r : RelV x v) (k : ItOk X.K H x J) (q : R J H) : wpAny (model X.prog X.w) X.A (pyIter v) (PIE X pins σ tg R) E s := by
  cases k with
  | @lst a xs hq =>
    cases r
    obtain ⟨its, rv, p, hz⟩ := I.list hq
    exact wpAny_pyIter_list p.isList (L2.pi_one (tk := s.toks) I _ (L2.turn_list a _) ⟨_, Heap.get?_push_size _ rfl, rfl, rfl⟩ q)
  | @tup a xs hq =>
    cases r
    obtain ⟨its, rv, p, hz⟩ := I.tuple hq
    exact wpAny_pyIter_tuple (show s.heap.IsTuple a its.toArray from p) (L2.pi_one (tk := s.toks) I _ (L2.turn_tuple a _) ⟨_, Heap.get?_push_size _ rfl, rfl, rfl⟩ q)
  | str z =>
    obtain ⟨t, rfl⟩ := r
    cases ha : z.cps.all (· < 128) with
    | false => exact wpAny_pyIter_wide ha (L2.pi_one (tk := s.toks) I _ (L2.turn_str _ z t "str_iterator" (.inr rfl)) ⟨_, Heap.get?_push_size _ rfl, rfl, rfl⟩ q)
    | true => exact wpAny_pyIter_ascii ha (L2.pi_one (tk := s.toks) I _ (L2.turn_str _ z t "str_ascii_iterator" (.inl rfl)) ⟨_, Heap.get?_push_size _ rfl, rfl, rfl⟩ q)
  | @dic a es ep hd hs =>
    cases r
    exact wpAny_pyIter_dict_raw hs (raw_now I hd) (L2.pi_one (tk := s.toks) I _ (turn_dk a _ es ep) ⟨_, Heap.get?_push_size _ rfl, rfl, rfl⟩ q)
end
/-- an expression's value is walked -/
def tIt (K : PySem.W.Frag) (te : TE) : TI := fun σ H R => te σ H fun x H1 => ∃ J, ItOk K H1 x J ∧ R J H1
theorem pi_any {X : Cx} {tg e : Expr} {te : TE} (he : PE X e te) : PI X tg e (tIt X.K te) :=
  ⟨fun pins s σ H R I h => L2.thn (he.run pins s σ H _ I h) fun v s1 ⟨x, H1, I1, r1, J, k, q⟩ => iter_v I1 r1 k q⟩

section
variable {P : Pg} {R : Run} {C : Kx} {W : WX} {X : Cx}
theorem Rd.lst {F : Hp} {a : Addr} {xs : List V} {K : PySem.W.Frag} (h : Rd F a (.lst xs)) : SqL K F a xs := .inl h
/-- a list that stands: its walk -/
theorem walk_lst {t : T} {a : Addr} {ds : List D} {g : Option Nat} {σ0 : L2.St} {F0 : Hp} (h0 : g = none → DV C.toBk F0 (.ref a) (.lst ds)) (hg : ∀ j, g = some j → σ0[j]? = some (some (.ref a))) : Walk C t (L2.Itl C.K a) ds g (.lst ds) σ0 F0 := by
  have at_ : ∀ (s : St) (σ : L2.St) (F H : Hp), SR C s σ F H → Le F0 F → still g (.lst ds) s = true → (∀ j, g = some j → σ[j]? = σ0[j]?) → ∃ xs, SqL C.K H a xs ∧ DVs C.toBk F xs ds := fun s σ F H h l st eg => by
    cases g with
    | none =>
      cases (h0 rfl).mono l with
      | lst r q => exact ⟨_, .inl (h.le.rd r), q⟩
    | some j =>
      have ea : σ[j]? = some (some (.ref a)) := (eg j rfl).trans (hg j rfl)
      unfold still at st
      simp only at st
      split at st
      · rename_i d e
        obtain rfl := of_decide_eq_true st
        obtain ⟨b, e1, _, _, xs, ho, q⟩ := h.c.sl j _ (slotAt_own e)
        rw [ea] at e1
        cases e1
        exact ⟨xs, .inl (.inl ho), q⟩
      · rename_i d e
        obtain rfl := of_decide_eq_true st
        obtain ⟨v, e1, q⟩ := h.c.sl j _ (slotAt_val e)
        rw [ea] at e1
        cases e1
        cases q with
        | lst r q => exact ⟨_, .inl (h.le.rd r), q⟩
      · cases st
  refine ⟨fun s σ F H h l st eg i e hi => ?_, fun s σ F H h l st eg i hi => ?_⟩
  · obtain ⟨xs, hq, dv⟩ := at_ s σ F H h l st eg
    obtain ⟨v, hv, r⟩ := dv.get hi
    refine ⟨⟨xs, v, hq, hv⟩, fun x H' hy => ?_⟩
    obtain ⟨rfl, hy⟩ := hy
    have := hy xs hq
    rw [hv] at this
    cases this
    exact ⟨F, .refl h.le, .inl r⟩
  · obtain ⟨xs, hq, dv⟩ := at_ s σ F H h l st eg
    exact ⟨xs, hq, by rw [dv.length]; exact hi⟩
theorem walk_tup {t : T} {a : Addr} {ds : List D} {d : D} {σ0 : L2.St} {F0 : Hp} (h0 : DV C.toBk F0 (.ref a) (.tup ds)) : Walk C t (L2.Itt C.K a) ds none d σ0 F0 := by
  refine ⟨fun s σ F H h l st eg i e hi => ?_, fun s σ F H h l st eg i hi => ?_⟩
  · cases h0.mono l with
    | tup sq q =>
      obtain ⟨v, hv, r⟩ := q.get hi
      refine ⟨⟨_, v, (h.le.pT sq).sq, hv⟩, fun x H' hy => ?_⟩
      obtain ⟨rfl, hy⟩ := hy
      have := hy _ ((h.le.pT sq).sq)
      rw [hv] at this
      cases this
      exact ⟨F, .refl h.le, .inl r⟩
  · cases h0.mono l with
    | tup sq q => exact ⟨_, (h.le.pT sq).sq, by rw [q.length]; exact hi⟩
theorem walk_str {t : T} {z : List Nat} {d : D} {σ0 : L2.St} {F0 : Hp} : Walk C t (L2.Its (txt z)) (z.map fun c => .str [c]) none d σ0 F0 := by
  have sz : (txt z).cps.size = z.length := by simp [txt]
  refine ⟨fun s σ F H h l st eg i e hi => ?_, fun s σ F H h l st eg i hi => ?_⟩
  · rw [List.getElem?_map, Option.map_eq_some_iff] at hi
    obtain ⟨c, hc, rfl⟩ := hi
    refine ⟨by show i < (txt z).cps.size; rw [sz]; exact (List.getElem?_eq_some_iff.mp hc).1, fun x H' hy => ?_⟩
    obtain ⟨rfl, c', hc', rfl⟩ := hy
    have : (txt z).cps[i]? = z[i]? := by simp [txt]
    rw [this, hc] at hc'
    cases hc'
    exact ⟨F, .refl h.le, .inl (.str [c])⟩
  · show (txt z).cps.size ≤ i
    rw [sz]
    simpa using hi
theorem walk_dic {t : T} {a : Addr} {es : Array DictEntry} {ep : Nat} {kvs : List (D × D)} {d : D} {σ0 : L2.St} {F0 : Hp} (hd : F0 a = some (dctO a es ep)) (hk : DKs C.toBk F0 es.toList kvs) : Walk C t (Itdk a es ep) (kvs.map (·.1)) none d σ0 F0 := by
  have hsz : es.size = kvs.length := by rw [← hk.length]; simp
  refine ⟨fun s σ F H h l st eg i e hi => ?_, fun s σ F H h l st eg i hi => ?_⟩
  · rw [List.getElem?_map, Option.map_eq_some_iff] at hi
    obtain ⟨p, hp, rfl⟩ := hi
    have hlt : i < es.size := by rw [hsz]; exact (List.getElem?_eq_some_iff.mp hp).1
    obtain ⟨en, he, dk⟩ := hk.get hp
    refine ⟨⟨h.le _ _ (l _ _ hd), hlt, fun j ej ee => ?_⟩, fun x H' hy => ?_⟩
    · obtain ⟨q, hq, dk'⟩ := hk.get' (i := j) (e := ej) (by simpa using ee)
      obtain ⟨k, v, rk, _⟩ := dk'.ex
      exact ⟨k, rk⟩
    · obtain ⟨rfl, e', he', rx⟩ := hy
      obtain ⟨k, v, rk, _, dvk, _⟩ := dk.ex
      have : e' = en := by
        have h1 : es.toList[i]? = some e' := by simpa using he'
        rw [he] at h1
        exact (Option.some.inj h1).symm
      subst this
      have := rx.inj rk
      subst this
      exact ⟨F, .refl h.le, .inl (dvk.mono l)⟩
  · exact ⟨h.le _ _ (l _ _ hd), by rw [hsz]; simpa using hi⟩
theorem evSrc_ok (hm : C.mono) {src : E} {own : List Nat} {s0 s : St} {σ : L2.St} {F0 H0 F H : Hp} {v : V} {w : Mid.W} (p : PE' C s0 σ F0 H0 s F H) (r : RW C s σ F H v w) (n : NW H0 v w) {Q : D × Option Nat → St → Prop} {N : Mid.X → St → Prop} (hw : Wp (evSrc src own w s) Q N) :
    ∃ d g s' F', PE' C s0 σ F0 H0 s' F' H ∧ Q (d, g) s' ∧ (g = none → DV C.toBk F' v d) ∧ (∀ j, g = some j → src = .var j ∧ j ∉ own ∧ σ[j]? = some (some v) ∧ ∃ ds a, d = .lst ds ∧ v = .ref a ∧ s'.c[j]? = some (.own d)) := by
  have tk : ∀ {f : D → St → Out (D × Option Nat)}, (∀ d s, f d s = .ok (d, none) s) → Wp ((take s w).bind f) Q N → ∃ d g s' F', PE' C s0 σ F0 H0 s' F' H ∧ Q (d, g) s' ∧ (g = none → DV C.toBk F' v d) ∧ (∀ j, g = some j → src = .var j ∧ j ∉ own ∧ σ[j]? = some (some v) ∧ ∃ ds a, d = .lst ds ∧ v = .ref a ∧ s'.c[j]? = some (.own d)) := fun {f} hf h => by
    obtain ⟨d, s', F', p', dv, q⟩ := take_ok hm p r n (Wp_bind.mp h)
    rw [hf] at q
    exact ⟨d, none, s', F', p', q, fun _ => dv, fun j z => by cases z⟩
  unfold evSrc at hw
  split at hw
  · rename_i x i
    obtain ⟨hv, _⟩ := r
    split at hw
    · rename_i xs e
      split at hw
      · exact tk (fun _ _ => rfl) hw
      · rename_i hc
        simp only [Bool.or_eq_true, List.contains_eq_mem, decide_eq_true_eq, bne_iff_ne, ne_eq, not_or, Decidable.not_not] at hc
        have q := slotAt_own e
        obtain ⟨a, e1, _⟩ := p.sr.c.sl i _ q
        rw [hv] at e1
        cases e1
        refine ⟨.lst xs, some i, s, F, p, hw, fun z => (by cases z), fun j z => ?_⟩
        cases z
        exact ⟨by rw [hc.2], hc.1, hv, xs, a, rfl, rfl, q⟩
    · exact tk (fun _ _ => rfl) hw
  · exact tk (fun _ _ => rfl) hw
/-- a source by its value -/
theorem src_r {t : T} (hm : C.mono) {own : List Nat} {src : E} (σ : L2.St) (H : Hp) (Rr : It → Hp → Prop) (h : tSrc P R C W own t src σ H Rr) : tIt C.K (tE P R C W src) σ H Rr := by
  obtain ⟨F, s, hs, hw⟩ := h
  refine tE_bind hs hw fun w s1 v F1 H1 p r n hw1 => ?_
  obtain ⟨d, g, s2, F2, p2, ⟨xs, hit, q⟩, hn, hg⟩ := evSrc_ok hm p r n hw1
  have fin : ∀ J, ItOk C.K H1 v J → Walk C t J xs g d σ F2 → ∃ J, ItOk C.K H1 v J ∧ Rr J H1 := fun J k wk => ⟨J, k, q J F2 H1 p2 (fun j z => ⟨(hg j z).1, (hg j z).2.1⟩) wk⟩
  cases g with
  | some j =>
    obtain ⟨_, _, e1, ds, a, rfl, rfl, eo⟩ := hg j rfl
    cases hit
    have wk : Walk C t (L2.Itl C.K a) xs (some j) (.lst xs) σ F2 := walk_lst (fun z => by cases z) fun k z => by cases z; exact e1
    -- the list stands
    obtain ⟨b, e2, _, _, ys, ho, _⟩ := p2.sr.c.sl j _ eo
    rw [e1] at e2
    cases e2
    exact fin _ (.lst (.inl (.inl ho))) wk
  | none =>
    have dv := hn rfl
    cases dv with
    | lst r1 q1 => cases hit; exact fin _ (.lst (.inl (p2.sr.le.rd r1))) (walk_lst (fun _ => .lst r1 q1) fun j z => by cases z)
    | tup r1 q1 => cases hit; exact fin _ (.tup (p2.sr.le.pT r1).sq) (walk_tup (.tup r1 q1))
    | str z => cases hit; exact fin _ (.str _) walk_str
    | dic h1 h2 h3 h4 h5 => cases hit; exact fin _ (.dic (p2.sr.le _ _ h1) h2) (walk_dic h1 h4)
    | _ => cases hit

/-! ### ranges -/
theorem rngL_get {lo : Int} {n i : Nat} {e : D} (h : (rngL lo n)[i]? = some e) : i < n ∧ e = .int (lo + i) := by
  have hlt : i < n := by
    have := (List.getElem?_eq_some_iff.mp h).1
    simpa [rngL] using this
  refine ⟨hlt, ?_⟩
  unfold rngL at h
  rw [List.getElem?_map, List.getElem?_range hlt] at h
  exact (Option.some.inj h).symm
theorem walk_rng {t : T} {lo : Int} {n : Nat} {d : D} {σ0 : L2.St} {F0 : Hp} : Walk C t (L2.Itr lo n) (rngL lo n) none d σ0 F0 :=
  ⟨fun s σ F H h l st eg i e hi => by
    obtain ⟨h1, rfl⟩ := rngL_get hi
    refine ⟨h1, fun x H' hy => ?_⟩
    obtain ⟨rfl, rfl⟩ := hy
    exact ⟨F, .refl h.le, .inl (.int _)⟩, fun s σ F H h l st eg i hi => by
    show n ≤ i
    simpa [rngL] using hi⟩
theorem src_val {own : List Nat} {src : E} (hv : ∀ k, src ≠ .var k) {d : D} {s : St} : evSrc src own (.val d) s = .ok (d, none) s := by
  unfold evSrc
  split
  · rename_i z
    cases z
  · rfl
theorem rng_r {t : T} {own : List Nat} {a : E} (σ : L2.St) (H : Hp) (Rr : It → Hp → Prop) (h : tSrc P R C W own t (.rng a) σ H Rr) : L2.iRng1 (L2.tCons (tE P R C W a) L2.tNil) σ H Rr := by
  obtain ⟨F, s, hs, hw⟩ := h
  rw [evE] at hw
  have hw' := Wp_bind.mpr (Wp_bind.mp (Wp_bind.mp hw))
  refine tE_bind (f := fun x s => (match peek s x with
    | some (.int i) => if rngOk i then .ok (.val (.lst (rngL 0 i.toNat))) s else .stk "rng"
    | _ => .stk "rng" : Out Mid.W).bind fun x s => evSrc (.rng a) own x s) hs (Wp_bind.mpr (Wp.mono (Wp_bind.mp (Wp_bind.mp hw)) (fun _ _ q => Wp_bind.mpr q) fun _ _ z => z)) fun w s1 v F1 H1 p r n hw1 => ?_
  split at hw1
  · rename_i i e
    split at hw1
    · rename_i hi
      rw [Out.bind, src_val (fun k z => by cases z)] at hw1
      obtain ⟨xs, hit, q⟩ := hw1
      cases hit
      unfold rngOk at hi
      simp only [Bool.and_eq_true, decide_eq_true_eq] at hi
      refine ⟨i, by rw [(r.pk p.sr e).int], hi.1, hi.2, q _ F1 H1 p (fun j z => by cases z) ?_⟩
      have := @walk_rng C t 0 i.toNat (.lst (rngL 0 i.toNat)) σ F1
      exact this
    · exact hw1.elim
  · exact hw1.elim
theorem rng2_r {t : T} {own : List Nat} {a b : E} (σ : L2.St) (H : Hp) (Rr : It → Hp → Prop) (h : tSrc P R C W own t (.rng2 a b) σ H Rr) : L2.iRng2 (L2.tCons (tE P R C W a) (L2.tCons (tE P R C W b) L2.tNil)) σ H Rr := by
  obtain ⟨F, s, hs, hw⟩ := h
  rw [evE] at hw
  refine tE_bind (f := fun x s => (evE P R b s).bind fun y s => (match peek s x, peek s y with
    | some (.int i), some (.int j) => if rngOk i && rngOk j then .ok (.val (.lst (rngL i (j - i).toNat))) s else .stk "rng"
    | _, _ => .stk "rng" : Out Mid.W).bind fun x s => evSrc (.rng2 a b) own x s) hs (Wp_bind.mpr (Wp.mono (Wp_bind.mp (Wp_bind.mp hw)) (fun _ _ q => Wp_bind.mpr (Wp.mono (Wp_bind.mp q) (fun _ _ q => Wp_bind.mpr q) fun _ _ z => z)) fun _ _ z => z)) fun w s1 v F1 H1 p r n hw1 =>
    tE_bind p.sr hw1 fun w2 s2 v2 F2 H2 p2 r2 n2 hw2 => ?_
  split at hw2
  · rename_i i j e1 e2
    split at hw2
    · rename_i hi
      rw [Out.bind, src_val (fun k z => by cases z)] at hw2
      obtain ⟨xs, hit, q⟩ := hw2
      cases hit
      unfold rngOk at hi
      simp only [Bool.and_eq_true, decide_eq_true_eq] at hi
      have r1 := r.post p2
      exact ⟨i, j, by rw [(r1.pk p2.sr e1).int, (r2.pk p2.sr e2).int], ⟨hi.1.1, hi.1.2, hi.2.1, hi.2.2⟩, q _ F2 H2 (p.trans p2) (fun j z => by cases z) walk_rng⟩
    · exact hw2.elim
  · exact hw2.elim

/-! ### enumerate, zip -/
/-- a part is taken, then the rest of a source -/
theorem walk_enu {ts : List T} {a : Addr} {ds : List D} {d : D} {σ0 : L2.St} {F0 : Hp} (h0 : DV C.toBk F0 (.ref a) (.lst ds)) : Walk C (.pr ts) (L2.Ite C.K a) (ds.zipIdx.map fun p => .tup [.int p.2, p.1]) none d σ0 F0 := by
  refine ⟨fun s σ F H h l st eg i e hi => ?_, fun s σ F H h l st eg i hi => ?_⟩
  · rw [List.getElem?_map, Option.map_eq_some_iff] at hi
    obtain ⟨p, hp, rfl⟩ := hi
    rw [List.getElem?_zipIdx, Option.map_eq_some_iff] at hp
    obtain ⟨x, hx, rfl⟩ := hp
    cases h0.mono l with
    | lst r q =>
      obtain ⟨v, hv, dv⟩ := q.get hx
      refine ⟨⟨_, v, .inl (h.le.rd r), hv⟩, fun y H' hy => ?_⟩
      obtain ⟨T, z, rfl, hT, rfl, hz⟩ := hy
      have := hz _ (.inl (h.le.rd r))
      rw [hv] at this
      cases this
      have al : Al F H (upd F T (.tup [.int i, v])) (upd H T (.tup [.int i, v])) := .frz h.le hT
      refine ⟨_, al, .inr ⟨⟨ts, rfl⟩, T, _, _, rfl, rfl, .inl (.inl upd_same), .cons ?_ (.cons (dv.mono al.le) .nil)⟩⟩
      show DV C.toBk _ (.int (i : Int)) (.int ((0 + i : Nat) : Int))
      rw [Nat.zero_add]
      exact .int _
  · cases h0.mono l with
    | lst r q => exact ⟨_, .inl (h.le.rd r), by rw [q.length]; simpa using hi⟩
theorem enu_r {ts : List T} (hm : C.mono) {own : List Nat} {a : E} (σ : L2.St) (H : Hp) (Rr : It → Hp → Prop) (h : tSrc P R C W own (.pr ts) (.enu a) σ H Rr) : L2.iEnum C.K (L2.tCons (tE P R C W a) L2.tNil) σ H Rr := by
  obtain ⟨F, s, hs, hw⟩ := h
  rw [evE] at hw
  refine tE_take (f := fun d s => (match d with
    | .lst xs => .ok (.val (.lst (xs.zipIdx.map fun p => .tup [.int p.2, p.1]))) s
    | _ => .stk "enu" : Out Mid.W).bind fun x s => evSrc (.enu a) own x s) hm hs (Wp_bind.mpr (Wp.mono (Wp_bind.mp (Wp_bind.mp hw)) (fun _ _ q => Wp_bind.mpr (Wp.mono (Wp_bind.mp q) (fun _ _ q => Wp_bind.mpr q) fun _ _ z => z)) fun _ _ z => z)) fun d s1 v F1 H1 p dv hw1 => ?_
  split at hw1
  · rename_i ds
    rw [Out.bind, src_val (fun k z => by cases z)] at hw1
    obtain ⟨xs, hit, q⟩ := hw1
    cases hit
    cases dv with
    | @lst b xs' _ r1 q1 => exact ⟨b, xs', rfl, .inl (p.sr.le.rd r1), q _ F1 H1 p (fun j z => by cases z) (walk_enu (.lst r1 q1))⟩
  · exact hw1.elim
theorem zip_pair {ts : List T} {F H : Hp} {σ : L2.St} {s : St} (h : SR C s σ F H) {T : Addr} {x y : V} {d e : D} (hT : H T = none) (hx : DV C.toBk F x d) (hy : DV C.toBk F y e) : ∃ F', Al F H F' (upd H T (.tup [x, y])) ∧ DW C.toBk F' (.ref T) (.tup [d, e]) (.pr ts) :=
  ⟨_, .frz h.le hT, .inr ⟨⟨ts, rfl⟩, T, _, _, rfl, rfl, .inl (.inl upd_same), .cons (hx.mono (upd_le (h.le.none hT))) (.cons (hy.mono (upd_le (h.le.none hT))) .nil)⟩⟩
theorem zip_get {ds es : List D} {i : Nat} {e : D} (h : ((ds.zip es).map fun p => D.tup [p.1, p.2])[i]? = some e) : ∃ x y, ds[i]? = some x ∧ es[i]? = some y ∧ e = .tup [x, y] := by
  rw [List.getElem?_map, Option.map_eq_some_iff] at h
  obtain ⟨p, hp, rfl⟩ := h
  rw [List.getElem?_zip_eq_some] at hp
  exact ⟨_, _, hp.1, hp.2, rfl⟩
theorem walk_zipL {ts : List T} {a b : Addr} {ds es : List D} {d : D} {σ0 : L2.St} {F0 : Hp} (h0 : DV C.toBk F0 (.ref a) (.lst ds)) (h1 : DV C.toBk F0 (.ref b) (.lst es)) : Walk C (.pr ts) (L2.Itz C.K a b) ((ds.zip es).map fun p => .tup [p.1, p.2]) none d σ0 F0 := by
  refine ⟨fun s σ F H h l st eg i e hi => ?_, fun s σ F H h l st eg i hi => ?_⟩
  · obtain ⟨x, y, hx, hy, rfl⟩ := zip_get hi
    cases h0.mono l with
    | lst r q => cases h1.mono l with
      | lst r' q' =>
        obtain ⟨v, hv, dv⟩ := q.get hx
        obtain ⟨w, hw, dw⟩ := q'.get hy
        refine ⟨⟨_, _, v, w, .inl (h.le.rd r), .inl (h.le.rd r'), hv, hw⟩, fun z H' hz => ?_⟩
        obtain ⟨T, z1, z2, rfl, hT, rfl, k1, k2⟩ := hz
        have e1 := k1 _ (.inl (h.le.rd r))
        have e2 := k2 _ (.inl (h.le.rd r'))
        rw [hv] at e1
        rw [hw] at e2
        cases e1
        cases e2
        exact zip_pair h hT dv dw
  · cases h0.mono l with
    | lst r q => cases h1.mono l with
      | lst r' q' =>
        refine ⟨_, _, .inl (h.le.rd r), .inl (h.le.rd r'), ?_⟩
        rw [q.length, q'.length]
        simp only [List.length_map, List.length_zip] at hi
        omega
theorem walk_zipT {ts : List T} {a b : Addr} {ds es : List D} {d : D} {σ0 : L2.St} {F0 : Hp} (h0 : DV C.toBk F0 (.ref a) (.tup ds)) (h1 : DV C.toBk F0 (.ref b) (.tup es)) : Walk C (.pr ts) (RZ.ItzT C.K a b) ((ds.zip es).map fun p => .tup [p.1, p.2]) none d σ0 F0 := by
  refine ⟨fun s σ F H h l st eg i e hi => ?_, fun s σ F H h l st eg i hi => ?_⟩
  · obtain ⟨x, y, hx, hy, rfl⟩ := zip_get hi
    cases h0.mono l with
    | tup r q => cases h1.mono l with
      | tup r' q' =>
        obtain ⟨v, hv, dv⟩ := q.get hx
        obtain ⟨w, hw, dw⟩ := q'.get hy
        refine ⟨⟨_, _, v, w, (h.le.pT r).sq, (h.le.pT r').sq, hv, hw⟩, fun z H' hz => ?_⟩
        obtain ⟨T, z1, z2, rfl, hT, rfl, k1, k2⟩ := hz
        have e1 := k1 _ ((h.le.pT r).sq)
        have e2 := k2 _ ((h.le.pT r').sq)
        rw [hv] at e1
        rw [hw] at e2
        cases e1
        cases e2
        exact zip_pair h hT dv dw
  · cases h0.mono l with
    | tup r q => cases h1.mono l with
      | tup r' q' =>
        refine ⟨_, _, (h.le.pT r).sq, (h.le.pT r').sq, ?_⟩
        rw [q.length, q'.length]
        simp only [List.length_map, List.length_zip] at hi
        omega
theorem zip_r {ts : List T} (hm : C.mono) {own : List Nat} {a b : E} (σ : L2.St) (H : Hp) (Rr : It → Hp → Prop) (h : tSrc P R C W own (.pr ts) (.zip a b) σ H Rr) : RZ.iZipA C.K (L2.tCons (tE P R C W a) (L2.tCons (tE P R C W b) L2.tNil)) σ H Rr := by
  obtain ⟨F, s, hs, hw⟩ := h
  rw [evE] at hw
  refine tE_take (f := fun d s => (evE P R b s).bind fun y s => (take s y).bind fun e s => (match d, e with
    | .lst xs, .lst ys => .ok (.val (.lst ((xs.zip ys).map fun p => .tup [p.1, p.2]))) s
    | .tup xs, .tup ys => .ok (.val (.lst ((xs.zip ys).map fun p => .tup [p.1, p.2]))) s
    | _, _ => .stk "zip" : Out Mid.W).bind fun x s => evSrc (.zip a b) own x s) hm hs (Wp_bind.mpr (Wp.mono (Wp_bind.mp (Wp_bind.mp hw)) (fun _ _ q => Wp_bind.mpr (Wp.mono (Wp_bind.mp q) (fun _ _ q => Wp_bind.mpr (Wp.mono (Wp_bind.mp q) (fun _ _ q => Wp_bind.mpr (Wp.mono (Wp_bind.mp q) (fun _ _ q => Wp_bind.mpr q) fun _ _ z => z)) fun _ _ z => z)) fun _ _ z => z)) fun _ _ z => z)) fun d s1 v F1 H1 p dv hw1 =>
    tE_take hm p.sr hw1 fun d2 s2 v2 F2 H2 p2 dv2 hw2 => ?_
  have dv := dv.mono p2.st.le
  have p12 := p.trans p2
  split at hw2
  · rw [Out.bind, src_val (fun k z => by cases z)] at hw2
    obtain ⟨xs, hit, q⟩ := hw2
    cases hit
    cases dv with
    | @lst b1 xs1 _ r1 q1 => cases dv2 with
      | @lst b2 xs2 _ r2 q2 =>
        exact ⟨b1, b2, xs1, xs2, rfl, .inl ⟨.inl (p2.sr.le.rd r1), .inl (p2.sr.le.rd r2), q _ F2 H2 p12 (fun j z => by cases z) (walk_zipL (.lst r1 q1) (.lst r2 q2))⟩⟩
  · rw [Out.bind, src_val (fun k z => by cases z)] at hw2
    obtain ⟨xs, hit, q⟩ := hw2
    cases hit
    cases dv with
    | @tup b1 xs1 _ r1 q1 => cases dv2 with
      | @tup b2 xs2 _ r2 q2 =>
        exact ⟨b1, b2, xs1, xs2, rfl, .inr ⟨(p2.sr.le.pT r1).sq, (p2.sr.le.pT r2).sq, q _ F2 H2 p12 (fun j z => by cases z) (walk_zipT (.tup r1 q1) (.tup r2 q2))⟩⟩
  · exact hw2.elim
end
end Mid
set_option Elab.async false
set_option linter.all false
set_option maxRecDepth 100000
set_option maxHeartbeats 4000000
/-! Comprehensions. -/
namespace Mid
open PySem PySem.Spec PyProof.Rows
open L2 (Hp HO V RelV Vals SqL SqT Rd upd upd_same upd_ne OpR R2 Inv Cx EP VK TE TT TA TS TG TGs TI It WX XK PE PT PA PS PSs PG PGs PI PIE Turn Ends FpOk)

theorem wipe_len (c : Fr) : ∀ l : List Nat, (wipe c l).length = c.length
  | [] => rfl
  | i :: r => by rw [wipe, List.length_set, wipe_len c r]
theorem wipe_out {c : Fr} {j : Nat} : ∀ {l : List Nat}, j ∉ l → (wipe c l)[j]? = c[j]?
  | [], _ => rfl
  | i :: r, h => by
    rw [wipe, List.getElem?_set_ne (fun e : i = j => h (by simp [e])), wipe_out fun z => h (List.mem_cons_of_mem _ z)]
theorem wipe_in {c : Fr} {j : Nat} : ∀ {l : List Nat} {x : Slot}, j ∈ l → (wipe c l)[j]? = some x → x = .un
  | i :: r, x, h, e => by
    rw [wipe] at e
    rcases List.set_get? e with ⟨_, q⟩ | ⟨n, q⟩
    · exact q
    · exact wipe_in ((List.mem_cons.mp h).resolve_left n) q
theorem swipe_out {σ : L2.St} {j : Nat} : ∀ {l : List Nat}, j ∉ l → (L2.wipe σ l)[j]? = σ[j]?
  | [], _ => rfl
  | i :: r, h => by
    rw [L2.wipe, List.getElem?_set_ne (fun e : i = j => h (by simp [e])), swipe_out fun z => h (List.mem_cons_of_mem _ z)]
theorem swipe_in {σ : L2.St} {j : Nat} {l : List Nat} (h : j ∈ l) (hl : j < σ.length) : (L2.wipe σ l)[j]? = some none := by
  have hl' : j < (L2.wipe σ l).length := by rw [L2.wipe_length]; exact hl
  cases e : (L2.wipe σ l)[j]? with
  | none => rw [List.getElem?_eq_none_iff] at e; omega
  | some o =>
    cases o with
    | none => rfl
    | some v => exact absurd h (L2.wipe_some e).2
theorem swipe_eq {σ τ : L2.St} {l : List Nat} (hl : σ.length = τ.length) (h : ∀ j, j ∉ l → σ[j]? = τ[j]?) : L2.wipe σ l = L2.wipe τ l := by
  refine List.ext_getElem? fun j => ?_
  by_cases hj : j ∈ l
  · by_cases hlt : j < σ.length
    · rw [swipe_in hj hlt, swipe_in hj (hl ▸ hlt)]
    · rw [List.getElem?_eq_none (by rw [L2.wipe_length]; omega), List.getElem?_eq_none (by rw [L2.wipe_length]; omega)]
  · rw [swipe_out hj, swipe_out hj, h j hj]
theorem back_len (c0 c : Fr) : ∀ l : List Nat, (back c0 c l).length = c.length
  | [] => rfl
  | i :: r => by rw [back, List.length_set, back_len c0 c r]
theorem back_out {c0 c : Fr} {j : Nat} : ∀ {l : List Nat}, j ∉ l → (back c0 c l)[j]? = c[j]?
  | [], _ => rfl
  | i :: r, h => by
    rw [back, List.getElem?_set_ne (fun e : i = j => h (by simp [e])), back_out fun z => h (List.mem_cons_of_mem _ z)]
theorem back_in {c0 c : Fr} {j : Nat} (hl : c0.length = c.length) : ∀ {l : List Nat}, j ∈ l → (back c0 c l)[j]? = c0[j]?
  | i :: r, h => by
    rw [back]
    by_cases e : i = j
    · subst e
      by_cases hlt : i < c.length
      · rw [List.getElem?_set_self (by rw [back_len]; exact hlt)]
        rw [List.getElem?_eq_getElem (by omega)]
        rfl
      · rw [List.getElem?_eq_none (by rw [List.length_set, back_len]; omega), List.getElem?_eq_none (by omega)]
    · rw [List.getElem?_set_ne e, back_in hl ((List.mem_cons.mp h).resolve_left (Ne.symm e))]
section
variable {P : Pg} {R : Run} {C : Kx} {W : WX} {X : Cx}
variable {s s1 s2 : St} {σ σ2 : L2.St} {F H F1 H1 F2 H2 : Hp} {own : List Nat}
theorem own_wipe {c : Fr} {a : Addr} (h : Own (wipe c own) (L2.wipe σ own) a) : ∃ (i : Nat) (d : D), i ∉ own ∧ c[i]? = some (Slot.own d) ∧ σ[i]? = some (some (.ref a)) := by
  obtain ⟨i, d, h1, h2⟩ := h
  by_cases hi : i ∈ own
  · have := wipe_in hi h1
    cases this
  · rw [wipe_out hi] at h1
    rw [swipe_out hi] at h2
    exact ⟨i, d, hi, h1, h2⟩
theorem SR.wipe (h : SR C s σ F H) : SR C (s.wipe own) (L2.wipe σ own) F H := by
  refine ⟨h.le, ⟨by show (L2.wipe σ own).length = (Mid.wipe s.c own).length; rw [L2.wipe_length, wipe_len]; exact h.c.len, fun i x e => ?_, fun i j d e a h1 h2 h3 h4 => ?_⟩, h.p, fun a q => ?_, h.zz, h.zp, h.tb, h.cd⟩
  · by_cases hi : i ∈ own
    · rw [wipe_in hi e]
      trivial
    · rw [swipe_out hi]
      exact h.c.sl i x (by rw [← wipe_out hi]; exact e)
  · by_cases hi : i ∈ own
    · have := wipe_in hi h1; cases this
    · by_cases hj : j ∈ own
      · have := wipe_in hj h2; cases this
      · rw [swipe_out hi] at h3
        rw [swipe_out hj] at h4
        exact h.c.ne i j d e a (by rw [← wipe_out hi]; exact h1) (by rw [← wipe_out hj]; exact h2) h3 h4
  · obtain ⟨i, d, _, h1, h2⟩ := own_wipe q
    exact h.dj a ⟨i, d, h1, h2⟩
/-- behind a block the names stand as they stood -/
theorem blk_back (hm : C.mono) (h : SR C s σ F H) {sf : St} (p : PE' C (s.wipe own) (L2.wipe σ own) F H (sf.wipe own) F1 H1) : PE' C s σ F H ⟨back s.c sf.c own, sf.p⟩ F1 H1 := by
  have hl : s.c.length = sf.c.length := by
    have h1 := h.c.len
    have h2 := p.sr.c.len
    rw [L2.wipe_length] at h2
    have h3 : (sf.wipe own).c.length = sf.c.length := wipe_len _ _
    omega
  have nOw : ∀ {i : Nat} {d : D} {a : Addr}, i ∈ own → s.c[i]? = some (.own d) → σ[i]? = some (some (.ref a)) → ¬ Ow C (s.wipe own) (L2.wipe σ own) a := fun {i d a} hi h1 h2 z => by
    rcases z with z | z
    · obtain ⟨j, e, hj, q1, q2⟩ := own_wipe z
      have := h.c.ne i j d e a h1 q1 h2 q2
      subst this
      exact hj hi
    · exact h.dj a ⟨i, d, h1, h2⟩ z
  have sl : ∀ (i : Nat) (x : Slot), (back s.c sf.c own)[i]? = some x → SlR C F1 H1 (σ[i]?.join) x := fun i x e => by
    by_cases hi : i ∈ own
    · rw [back_in hl hi] at e
      have r := h.c.sl i x e
      cases x with
      | un => trivial
      | val d => obtain ⟨v, e1, dv⟩ := r; exact ⟨v, e1, dv.mono p.st.le⟩
      | own d =>
        obtain ⟨a, e1, nf, hz, od⟩ := r
        have es := join_some e1
        have no := nOw hi e es
        obtain ⟨o, ho⟩ := od.some
        refine ⟨a, e1, ?_, hz, od.mono p.st.le (by rw [p.st.keep a o ho (od.ntb ho) no, ho])⟩
        cases q : F1 a with
        | none => rfl
        | some u =>
          rcases p.st.new a nf (by rw [q]; simp) with z | z
          · rw [ho] at z; cases z
          · exact absurd z no
      | exn x => obtain ⟨v, e1, q⟩ := r; exact ⟨v, e1, hm _ _ _ _ p.st.le q⟩
      | clo ps b => exact r
    · rw [back_out hi] at e
      have r := p.sr.c.sl i x (by show (wipe sf.c own)[i]? = _; rw [wipe_out hi]; exact e)
      rw [swipe_out hi] at r
      exact r
  have cs : ∀ a, Own (back s.c sf.c own) σ a → (∃ (i : Nat) (d : D), i ∈ own ∧ s.c[i]? = some (Slot.own d) ∧ σ[i]? = some (some (.ref a))) ∨ ∃ (i : Nat) (d : D), i ∉ own ∧ (sf.wipe own).c[i]? = some (Slot.own d) ∧ (L2.wipe σ own)[i]? = some (some (.ref a)) := fun a ⟨i, d, h1, h2⟩ => by
    by_cases hi : i ∈ own
    · rw [back_in hl hi] at h1
      exact .inl ⟨i, d, hi, h1, h2⟩
    · rw [back_out hi] at h1
      exact .inr ⟨i, d, hi, by show (wipe sf.c own)[i]? = _; rw [wipe_out hi]; exact h1, by rw [swipe_out hi]; exact h2⟩
  have oc : ∀ a, Own (back s.c sf.c own) σ a → Own s.c σ a := fun a q => by
    rcases cs a q with ⟨i, d, _, h1, h2⟩ | ⟨i, d, _, h1, h2⟩
    · exact ⟨i, d, h1, h2⟩
    · obtain ⟨j, e, _, q1, q2⟩ := own_wipe (p.oc a ⟨i, d, h1, h2⟩)
      exact ⟨j, e, q1, q2⟩
  refine ⟨⟨⟨p.sr.le, ⟨by rw [back_len, ← hl]; exact h.c.len, sl, fun i j d e a h1 h2 h3 h4 => ?_⟩, p.sr.p, fun a q => ?_, p.sr.zz, p.sr.zp, p.sr.tb, p.sr.cd⟩, p.st.weak fun a z => ?_, oc, p.op⟩, fun i d q => ?_⟩
  · have mix : ∀ {i j : Nat} {d e : D}, i ∈ own → j ∉ own → (back s.c sf.c own)[i]? = some (Slot.own d) → (back s.c sf.c own)[j]? = some (Slot.own e) → σ[i]? = some (some (.ref a)) → σ[j]? = some (some (.ref a)) → False := fun {i j d e} hi hj h1 h2 h3 h4 => by
      rw [back_in hl hi] at h1
      rw [back_out hj] at h2
      obtain ⟨k, e', hk, q1, q2⟩ := own_wipe (p.oc a ⟨j, e, by show (wipe sf.c own)[j]? = _; rw [wipe_out hj]; exact h2, by rw [swipe_out hj]; exact h4⟩)
      have := h.c.ne i k d e' a h1 q1 h3 q2
      subst this
      exact hk hi
    by_cases hi : i ∈ own
    · by_cases hj : j ∈ own
      · rw [back_in hl hi] at h1
        rw [back_in hl hj] at h2
        exact h.c.ne i j d e a h1 h2 h3 h4
      · exact (mix hi hj h1 h2 h3 h4).elim
    · by_cases hj : j ∈ own
      · exact (mix hj hi h2 h1 h4 h3).elim
      · rw [back_out hi] at h1
        rw [back_out hj] at h2
        exact p.sr.c.ne i j d e a (by show (wipe sf.c own)[i]? = _; rw [wipe_out hi]; exact h1) (by show (wipe sf.c own)[j]? = _; rw [wipe_out hj]; exact h2) (by rw [swipe_out hi]; exact h3) (by rw [swipe_out hj]; exact h4)
  · rcases cs a q with ⟨i, d, _, h1, h2⟩ | ⟨i, d, _, h1, h2⟩
    · exact fun z => h.dj a ⟨i, d, h1, h2⟩ (p.op a z)
    · exact p.sr.dj a ⟨i, d, h1, h2⟩
  · rcases z with z | z
    · obtain ⟨i, d, _, h1, h2⟩ := own_wipe z
      exact .inl ⟨i, d, h1, h2⟩
    · exact .inr z
  · by_cases hi : i ∈ own
    · exact ⟨d, by show (back s.c sf.c own)[i]? = _ ∨ (back s.c sf.c own)[i]? = _; rw [back_in hl hi]; exact q⟩
    · obtain ⟨e, q'⟩ := p.ks i d (by show (wipe s.c own)[i]? = _ ∨ (wipe s.c own)[i]? = _; rw [wipe_out hi]; exact q)
      refine ⟨e, ?_⟩
      show (back s.c sf.c own)[i]? = _ ∨ (back s.c sf.c own)[i]? = _
      rw [back_out hi]
      have q' : (wipe sf.c own)[i]? = _ ∨ (wipe sf.c own)[i]? = _ := q'
      rw [wipe_out hi] at q'
      exact q'
/-- storing leaves values alone -/
def Stored (l : List Nat) (s s' : St) : Prop := s'.p = s.p ∧ s'.c.length = s.c.length ∧ ∀ j : Nat, (j ∉ l → s'.c[j]? = s.c[j]?) ∧ (s'.c[j]? = s.c[j]? ∨ ∃ d, s'.c[j]? = some (Slot.val d))
theorem Stored.trans {l l' : List Nat} {s s1 s2 : St} (a : Stored l s s1) (b : Stored l' s1 s2) : Stored (l ++ l') s s2 :=
  ⟨b.1.trans a.1, b.2.1.trans a.2.1, fun j => ⟨fun h => ((b.2.2 j).1 fun z => h (List.mem_append_right _ z)).trans ((a.2.2 j).1 fun z => h (List.mem_append_left _ z)), by
    rcases (b.2.2 j).2 with e | e
    · rcases (a.2.2 j).2 with e' | e'
      · exact .inl (e.trans e')
      · exact .inr (by rw [e]; exact e')
    · exact .inr e⟩⟩
mutual
theorem stT_stored : ∀ (t : T) {d : D} {s s' : St}, stT t d s = some s' → Stored t.nms s s'
  | .nm i, d, s, s', e => by
    simp only [stT, Option.some.injEq] at e
    subst e
    refine ⟨rfl, List.length_set .., fun j => ⟨fun h => ?_, ?_⟩⟩
    · show (s.c.set i _)[j]? = _
      rw [List.getElem?_set_ne (fun e : i = j => h (by simp [T.nms, e]))]
    · show (s.c.set i _)[j]? = _ ∨ ∃ d, (s.c.set i _)[j]? = _
      by_cases e : i = j
      · subst e
        by_cases hl : i < s.c.length
        · exact .inr ⟨d, List.getElem?_set_self hl⟩
        · exact .inl (by rw [List.getElem?_eq_none (by rw [List.length_set]; omega), List.getElem?_eq_none (by omega)])
      · exact .inl (List.getElem?_set_ne e)
  | .pr ts, d, s, s', e => by
    cases d with
    | tup xs =>
      simp only [stT] at e
      have := stTs_stored ts e
      simpa only [T.nms] using this
    | _ => simp [stT] at e
theorem stTs_stored : ∀ (ts : List T) {ds : List D} {s s' : St}, stTs ts ds s = some s' → Stored (T.nmss ts) s s'
  | [], ds, s, s', e => by
    cases ds with
    | nil =>
      simp only [stTs, Option.some.injEq] at e
      subst e
      exact ⟨rfl, rfl, fun j => ⟨fun _ => rfl, .inl rfl⟩⟩
    | cons _ _ => simp [stTs] at e
  | t :: r, ds, s, s', e => by
    cases ds with
    | nil => simp [stTs] at e
    | cons d dr =>
      simp only [stTs] at e
      split at e
      · rename_i s1 e1
        have := (stT_stored t e1).trans (stTs_stored r e)
        simpa only [T.nmss] using this
      · cases e
end
/-- a turn of a block, back in the block's frame -/
theorem turn_back {l : List Nat} (hw : L2.wipe σ2 own = σ) (hu : ∀ i ∈ own, ∀ x, s.c[i]? = some x → x = .un) (hlo : ∀ j ∈ l, j ∈ own) (st : Stored l s s1) (hσ : ∀ j, j ∉ l → σ2[j]? = σ[j]?) (p : PE' C s1 σ2 F H s2 F1 H1) : PE' C s σ F H (s2.wipe own) F1 H1 := by
  have o1 : ∀ a, Own s1.c σ2 a → Own s.c σ a := fun a ⟨i, d, h1, h2⟩ => by
    rcases (st.2.2 i).2 with e | ⟨d', e⟩
    · rw [e] at h1
      have hi : i ∉ l := fun z => by
        have := hu i (hlo i z) _ h1
        cases this
      exact ⟨i, d, h1, by rw [← hσ i hi]; exact h2⟩
    · rw [e] at h1; cases h1
  have ow : ∀ a, Ow C s1 σ2 a → Ow C s σ a := fun a z => z.imp (o1 a) fun z => by rw [st.1] at z; exact z
  refine ⟨⟨by rw [← hw]; exact p.sr.wipe, p.st.weak ow, fun a q => ?_, fun a q => by rw [← st.1]; exact p.op a q⟩, fun i d q => ?_⟩
  · rw [← hw] at q
    obtain ⟨i, d, _, h1, h2⟩ := own_wipe q
    exact o1 a (p.oc a ⟨i, d, h1, h2⟩)
  · have hi : i ∉ own := fun z => by
      rcases q with q | q <;> (have := hu i z _ q; cases this)
    obtain ⟨e, q'⟩ := p.ks i d (by rw [(st.2.2 i).1 fun z => hi (hlo i z)]; exact q)
    exact ⟨e, by show (wipe s2.c own)[i]? = _ ∨ (wipe s2.c own)[i]? = _; rw [wipe_out hi]; exact q'⟩
/-- a thing that nobody owns is written -/
theorem SR.updD (h : SR C s σ F H) {D0 : Addr} {o o' : HO} (ho : H D0 = some o) (nt : NTb o) (nf : F D0 = none) (no : ¬ Ow C s σ D0) : SR C s σ F (upd H D0 o') := by
  have od : ∀ {c : Fr} {τ : L2.St} {Z : Kx}, (Z.toBk = C.toBk) → (∀ a, Own c τ a → a ≠ D0) → Fm Z c τ F H → Fm Z c τ F (upd H D0 o') := fun {c τ Z} eB ne f => by
    refine ⟨f.len, fun i x e => ?_, f.ne⟩
    have r := f.sl i x e
    cases x with
    | own d =>
      obtain ⟨a, e1, q1, q2, q3⟩ := r
      exact ⟨a, e1, q1, q2, q3.mono (.refl F) (by rw [upd_ne (ne a ⟨i, d, e, join_some e1⟩)])⟩
    | un => trivial
    | val d => exact r
    | exn x => exact r
    | clo ps b => exact r
  refine ⟨fun a u e => ?_, od rfl (fun a q e => no (e ▸ .inl q)) h.c, od rfl (fun a q e => no (e ▸ .inr q)) h.p, h.dj, fun a e => h.zz a ?_, fun a e => h.zp a ?_, fun p hp => (h.tb p hp).mono (fun _ _ z => z) (h.tb p hp).1 fun _ _ => upd_ne (h.tb.ne ho nt p hp), h.cd⟩
  · by_cases z : a = D0
    · subst z; rw [nf] at e; cases e
    · rw [upd_ne z]; exact h.le a u e
  · by_cases z : a = D0
    · subst z; rw [upd_same] at e; cases e
    · rw [upd_ne z] at e; exact e
  · by_cases z : a = D0
    · subst z; rw [upd_same] at e; cases e
    · rw [upd_ne z] at e; exact e
theorem PE'.updD (p : PE' C s σ F H s1 F1 H1) {D0 : Addr} {o o' : HO} (hn : H D0 = none) (ho : H1 D0 = some o) (nt : NTb o) (nf : F1 D0 = none) (no : ¬ Ow C s1 σ D0) : PE' C s σ F H s1 F1 (upd H1 D0 o') :=
  ⟨⟨p.sr.updD ho nt nf no, ⟨p.st.le, fun a u e t n => by rw [upd_ne (fun z => by rw [z, hn] at e; cases e)]; exact p.st.keep a u e t n, p.st.new, fun a e => p.st.there a (by
    by_cases z : a = D0
    · subst z; rw [upd_same] at e; cases e
    · rw [upd_ne z] at e; exact e)⟩, p.oc, p.op⟩, p.ks⟩
theorem still_wipe {g : Option Nat} {d : D} (h : ∀ j, g = some j → j ∉ own) : still g d (s.wipe own) = still g d s := by
  unfold still
  cases g with
  | none => rfl
  | some j =>
    have : slotAt (s.wipe own) j = slotAt s j := by
      unfold slotAt
      show ((wipe s.c own)[j]?).getD _ = _
      rw [wipe_out (h j rfl)]
    simp only [this]
/-- the state of a comprehension at a turn: D0 is the new thing -/
structure LcS (C : Kx) (own : List Nat) (s0 : St) (σ0 : L2.St) (F0 H0 : Hp) (D0 : Addr) (s : St) (F H : Hp) : Prop where
  pe : PE' C (s0.wipe own) (L2.wipe σ0 own) F0 H0 (s.wipe own) F H
  nf : F D0 = none
  no : ¬ Ow C (s.wipe own) (L2.wipe σ0 own) D0
theorem LcS.turn (hm : C.mono) {s0 s sa sb : St} {σ0 σa : L2.St} {F0 H0 F H Fy Hy Fb Hb : Hp} {D0 : Addr} {t : T} {d : D} (L : LcS C own s0 σ0 F0 H0 D0 s F H) (hD : ∃ o, H D0 = some o ∧ NTb o) (al : Al F H Fy Hy) (hs : stT t d (s.wipe own) = some sa) (hlo : ∀ j ∈ t.nms, j ∈ own) (hσ : ∀ j, j ∉ t.nms → σa[j]? = (L2.wipe σ0 own)[j]?) (hlσ : σa.length = σ0.length) (p : PE' C sa σa Fy Hy sb Fb Hb) :
    LcS C own s0 σ0 F0 H0 D0 sb Fb Hb ∧ Hb D0 = H D0 ∧ Le F Fb := by
  have hww : L2.wipe (L2.wipe σ0 own) own = L2.wipe σ0 own := swipe_eq (by rw [L2.wipe_length]) fun j hj => swipe_out hj
  have hw : L2.wipe σa own = L2.wipe σ0 own := by
    rw [← hww]
    exact swipe_eq (by rw [hlσ, L2.wipe_length]) fun j hj => hσ j fun z => hj (hlo j z)
  have e1 : PE' C (s.wipe own) (L2.wipe σ0 own) F H (s.wipe own) Fy Hy := L.pe.sr.alP hm al
  have e2 : PE' C (s.wipe own) (L2.wipe σ0 own) Fy Hy (sb.wipe own) Fb Hb := turn_back hw (fun i hi x e => wipe_in hi e) hlo (stT_stored t hs) hσ p
  obtain ⟨o, ho, hnt⟩ := hD
  have hoy : Hy D0 = some o := al.keep _ _ ho
  have nOw : ∀ a, Ow C (sb.wipe own) (L2.wipe σ0 own) a → Ow C (s.wipe own) (L2.wipe σ0 own) a := fun a z => z.imp (e2.oc a) (e2.op a)
  refine ⟨⟨L.pe.trans (e1.trans e2), ?_, fun z => L.no (nOw _ z)⟩, ?_, al.le.trans e2.st.le⟩
  · have f1 : Fy D0 = none := by
      cases q : Fy D0 with
      | none => rfl
      | some u =>
        have := al.new D0 L.nf (by rw [q]; simp)
        rw [ho] at this; cases this
    cases q : Fb D0 with
    | none => rfl
    | some u =>
      rcases e2.st.new D0 f1 (by rw [q]; simp) with z | z
      · rw [hoy] at z; cases z
      · exact absurd z L.no
  · rw [ho, e2.st.keep D0 o hoy hnt L.no]
/-- no error is wanted -/
abbrev W0 : WX := fun _ _ _ _ => False
theorem blk_wp {α : Type} {own : List Nat} {s : St} {m : St → Out α} {Q : α → St → Prop} {N : Mid.X → St → Prop} (h : Wp (blk own s m) Q N) : Wp (m (s.wipe own)) (fun a s1 => Q a ⟨back s.c s1.c own, s1.p⟩) (fun _ _ => False) := by
  unfold blk at h
  have e : (⟨wipe s.c own, s.p⟩ : St) = s.wipe own := rfl
  rw [e] at h
  cases q : m (s.wipe own) with
  | ok a s1 => rw [q] at h; exact h
  | exc x s1 => rw [q] at h; exact h.elim
  | stk m => rw [q] at h; exact h.elim
theorem SR.wfx {l : List Nat} (h : SR C s σ F H) : SR { C with fx := l } s σ F H := ⟨h.le, ⟨h.c.len, h.c.sl, h.c.ne⟩, ⟨h.p.len, h.p.sl, h.p.ne⟩, h.dj, h.zz, h.zp, h.tb, h.cd⟩
theorem SR.unwfx {l : List Nat} (h : SR { C with fx := l } s σ F H) : SR C s σ F H := ⟨h.le, ⟨h.c.len, h.c.sl, h.c.ne⟩, ⟨h.p.len, h.p.sl, h.p.ne⟩, h.dj, h.zz, h.zp, h.tb, h.cd⟩
/-- a target within a block -/
theorem gT_blk {t : T} {s s' : St} {v : V} {d : D} {Q : L2.St → Hp → Prop} (h : SR C s σ F H) (dv : DW C.toBk F v d t) (e : stT t d s = some s') (k : ∀ σ', SR C s' σ' F H → (∀ j, j ∉ t.nms → σ'[j]? = σ[j]?) → σ'.length = σ.length → Q σ' H) : gT C.K t v σ H Q :=
  gW_ok (C := { C with fx := [] }) h.wfx dv e (fun i _ => by simp) fun σ' p z => k σ' p.sr.unwfx z (by
    have h1 := p.sr.c.len
    have h2 := h.c.len
    have h3 := (stT_stored t e).2.1
    omega)
theorem wipe_idem : L2.wipe (L2.wipe σ own) own = L2.wipe σ own := swipe_eq (by rw [L2.wipe_length]) fun j hj => swipe_out hj
theorem lcS_start (hm : C.mono) (h : SR C s σ F H) {D0 : Addr} {o : HO} (hn : H D0 = none) : LcS C own s σ F H D0 (s.wipe own) F (upd H D0 o) := by
  have e0 : PE' C (s.wipe own) (L2.wipe σ own) F H (s.wipe own) F (upd H D0 o) := h.wipe.alP hm (.own h.le hn)
  have e1 : PE' C (s.wipe own) (L2.wipe σ own) F H ((s.wipe own).wipe own) F (upd H D0 o) :=
    turn_back (l := []) wipe_idem (fun i hi x e => wipe_in hi e) (fun j z => by simp at z) ⟨rfl, rfl, fun j => ⟨fun _ => rfl, .inl rfl⟩⟩ (fun _ _ => rfl) e0
  refine ⟨e1, h.le.none hn, fun z => ?_⟩
  have z' : Ow C (s.wipe own) (L2.wipe σ own) D0 := z.imp (e1.oc D0) (e1.op D0)
  obtain ⟨_, o', ho'⟩ := h.wipe.ow z'
  rw [hn] at ho'
  cases ho'
theorem tT_bind0 {β : Type} {a : E} {f : Bool → St → Out β} {s : St} {σ : L2.St} {F H : Hp} {Q' : β → St → Prop} {Q : Bool → Hp → Prop} (h : SR C s σ F H) (hw : Wp (((evE P R a s).bind boolOf).bind f) Q' (fun _ _ => False))
    (k : ∀ b s1 F1 H1, PE' C s σ F H s1 F1 H1 → Wp (f b s1) Q' (fun _ _ => False) → Q b H1) : tT P R C W a σ H Q := by
  refine ⟨F, s, h, Wp.mono (Wp_bind.mp (Wp_bind.mp hw)) (fun w s1 hq => ?_) fun _ _ z => z.elim⟩
  obtain ⟨b, e, hb⟩ := boolOf_ok (f := f) (Wp_bind.mpr hq)
  exact ⟨b, e, fun F1 H1 p => k b s1 F1 H1 p hb⟩
theorem tE_take0 (hm : C.mono) {β : Type} {a : E} {f : D → St → Out β} {s : St} {σ : L2.St} {F H : Hp} {Q' : β → St → Prop} {Q : VK} (h : SR C s σ F H) (hw : Wp (((evE P R a s).bind fun w s => take s w).bind f) Q' (fun _ _ => False))
    (k : ∀ d s1 v F1 H1, PE' C s σ F H s1 F1 H1 → DV C.toBk F1 v d → Wp (f d s1) Q' (fun _ _ => False) → Q v H1) : tE P R C W a σ H Q := by
  refine ⟨F, s, h, Wp.mono (Wp_bind.mp (Wp_bind.mp hw)) (fun w s1 hq v F1 H1 p r n => ?_) fun _ _ z => z.elim⟩
  obtain ⟨d, s2, F2, p2, dv, q⟩ := take_ok hm p r n hq
  exact k d s2 v F2 H1 p2 dv q
theorem lc_r (hm : C.mono) {elt c src : E} {t : T} {own : List Nat} {tt : TT} (htt : ∀ σ H Q, tT P R C W0 c σ H Q → tt σ H Q) (hlo : ∀ j ∈ t.nms, j ∈ own) (σ : L2.St) (H : Hp) (Q : VK) (h : tE P R C W (.lc elt t src c own) σ H Q) :
    L2.tLc (tSrc P R C W own t src) (gT C.K t) tt (tE P R C W0 elt) own σ H Q := by
  obtain ⟨F, s, hs, hw⟩ := h
  rw [evE] at hw
  have hw' : Wp (((evE P R src s).bind fun x s => evSrc src own x s).bind fun d s => match items d.1 with
      | some xs => blk own s fun s => (lcGo own (still d.2 d.1) t (fun s => (evE P R c s).bind boolOf) (fun s => (evE P R elt s).bind fun w s => take s w) xs [] s).bind fun ys s => .ok (.own (.lst ys)) s
      | none => .stk "lc items") (QX C s σ F H Q) (NX C W s σ F H) := Wp_bind.mpr (Wp_bind.mpr (Wp.mono (Wp_bind.mp hw) (fun _ _ q => Wp_bind.mp q) fun _ _ z => z))
  refine ⟨F, s, hs, Wp.mono (Wp_bind.mp hw') (fun d s1 q => ?_) fun _ _ z => z⟩
  cases hit : items d.1 with
  | none => rw [hit] at q; exact q.elim
  | some xs =>
  refine ⟨xs, rfl, fun J F1 H1 p hsrc wk D0 hD0 => ?_⟩
  rw [hit] at q
  have q := Wp_bind.mp (blk_wp q)
  generalize htst : (fun s => (evE P R c s).bind boolOf) = tst at q
  generalize hel : (fun s => (evE P R elt s).bind fun w s => take s w) = el at q
  refine ⟨fun i m H2 => ∃ F2 s2 acc accV r, LcS C own s1 σ F1 H1 D0 s2 F2 H2 ∧ H2 D0 = some (.lst accV) ∧ DVs C.toBk F2 accV acc ∧ Le F1 F2 ∧ r = xs.drop i ∧ m = r.length ∧
      Wp (lcGo own (still d.2 d.1) t tst el r acc s2) (fun ys s' => QX C s σ F H Q (.own (.lst ys)) ⟨back s1.c s'.c own, s'.p⟩) (fun _ _ => False),
    ⟨xs.length, F1, s1.wipe own, [], [], xs, lcS_start hm p.sr hD0, upd_same, .nil, .refl F1, rfl, rfl, q⟩, ?_⟩
  rintro i m H2 ⟨F2, s2, acc, accV, r, L, hD, dvs, l2, rfl, rfl, q2⟩
  have st_eq : still d.2 d.1 (s2.wipe own) = still d.2 d.1 s2 := still_wipe fun j hj => (hsrc j hj).2
  have gd : ∀ j, d.2 = some j → (L2.wipe σ own)[j]? = σ[j]? := fun j hj => swipe_out (hsrc j hj).2
  cases hr : xs.drop i with
  | nil =>
    rw [hr, lcGo] at q2
    cases hst : still d.2 d.1 s2 with
    | false => rw [hst, if_neg Bool.false_ne_true] at q2; exact q2.elim
    | true =>
      rw [hst, if_pos rfl] at q2
      refine .inl ⟨wk.stop _ _ F2 H2 L.pe.sr l2 (st_eq.trans hst) gd i (by simpa using hr), ?_⟩
      have pb := blk_back hm p.sr L.pe
      refine q2 (.ref D0) F2 H2 (p.trans pb) ⟨D0, rfl, L.nf, fun z => ?_, p.sr.zz _ hD0, p.sr.zp _ hD0, accV, hD, dvs⟩ fun _ _ a e => by cases e; exact p.st.there _ hD0
      obtain ⟨_, o', ho'⟩ := p.sr.ow (z.imp (pb.oc D0) (pb.op D0) : Ow C s1 σ D0)
      rw [hD0] at ho'
      cases ho'
  | cons e r =>
    rw [hr, lcGo] at q2
    have hi : xs[i]? = some e := by
      have := congrArg (fun l => l[0]?) hr
      simpa using this
    have hdr : xs.drop (i + 1) = r := by
      have := congrArg List.tail hr
      simpa using this
    cases hst : still d.2 d.1 s2 with
    | false => rw [hst, if_neg Bool.false_ne_true] at q2; exact q2.elim
    | true =>
      rw [hst, if_pos rfl] at q2
      obtain ⟨hgo, hy⟩ := wk.go _ _ F2 H2 L.pe.sr l2 (st_eq.trans hst) gd i e hi
      refine .inr ⟨hgo, fun H' => ∃ F' s' acc accV, LcS C own s1 σ F1 H1 D0 s' F' H' ∧ H' D0 = some (.lst accV) ∧ DVs C.toBk F' accV acc ∧ Le F1 F' ∧ Wp (lcGo own (still d.2 d.1) t tst el r acc s') (fun ys s' => QX C s σ F H Q (.own (.lst ys)) ⟨back s1.c s'.c own, s'.p⟩) (fun _ _ => False),
        fun H' ⟨F', s', acc', accV', z1, z2, z3, z4, z5⟩ => ⟨r.length, by simp, F', s', acc', accV', r, z1, z2, z3, z4, hdr.symm, rfl, z5⟩, fun x H3 hyl => ?_⟩
      obtain ⟨F3, al, dv⟩ := hy x H3 hyl
      have p3 := L.pe.sr.al hm al
      cases est : stT t e (s2.wipe own) with
      | none => simp only [est] at q2; exact q2.elim
      | some s3 =>
        simp only [est] at q2
        refine gT_blk p3 dv est fun σ3 h3 z3 hl3 => ?_
        have hl3' : σ3.length = σ.length := by rw [hl3, L2.wipe_length]
        refine ⟨swipe_eq hl3' fun j hj => ?_, ?_⟩
        · rw [z3 j fun z => hj (hlo j z), swipe_out hj]
        · rw [← htst] at q2
          refine htt _ _ _ (tT_bind0 h3 q2 fun b s4 F4 H4 p4 q4 => ?_)
          rw [htst] at q4
          cases b with
          | false =>
            rw [if_neg Bool.false_ne_true] at q4 ⊢
            obtain ⟨L4, hD4, l4⟩ := L.turn hm ⟨_, hD, fun _ z => by cases z⟩ al est hlo z3 hl3' p4
            exact ⟨F4, s4, acc, accV, L4, by rw [hD4]; exact hD, dvs.mono l4, l2.trans l4, q4⟩
          | true =>
            rw [if_pos rfl] at q4 ⊢
            rw [← hel] at q4
            refine tE_take0 hm p4.sr q4 fun e' s5 v F5 H5 p5 dv5 q5 => ?_
            rw [hel] at q5
            obtain ⟨L5, hD5, l5⟩ := L.turn hm ⟨_, hD, fun _ z => by cases z⟩ al est hlo z3 hl3' (p4.trans p5)
            have hD5' : H5 D0 = some (.lst accV) := by rw [hD5]; exact hD
            split at q5
            · rename_i hlen
              refine ⟨accV, hD5', by rw [(dvs.mono l5).length, ← line_eq]; exact hlen, F5, s5, acc ++ [e'], accV ++ [v], ⟨L5.pe.updD hD0 hD5' (fun _ z => by cases z) L5.nf L5.no, L5.nf, L5.no⟩, upd_same, (dvs.mono l5).snoc dv5, l2.trans l5, q5⟩
            · exact q5.elim
end
end Mid
set_option Elab.async false
set_option linter.all false
set_option maxRecDepth 100000
set_option maxHeartbeats 4000000
/-! Dict comprehensions, keys of any kind. -/
namespace Mid
open PySem PySem.Spec PyProof.Rows
open L2 (Hp HO V RelV Vals SqL SqT Rd upd upd_same upd_ne OpR R2 Inv Cx EP VK TE TT TA TS TG TGs TI It WX XK PE PT PA PS PSs PG PGs PI PIE PTs Turn Ends FpOk BlkOk)

/-- what an entry's storing asks, and what comes of it -/
def rPut (B : Bk) (a : Addr) (y z : V) (H : Hp) (N : Hp → Prop) : Prop := ∃ es ep kvs dk, H a = some (dctO a es ep) ∧ DKs B H es.toList kvs ∧ (kvs.map (·.1)).Nodup ∧ es.size ≤ sizeLine ∧ DV B H y dk ∧ keyOk dk = true ∧
  ∀ (u w : Value) (ep' : Nat), RelV y u → RelV z w → N (upd H a (dctO a (entPut B.w dk kvs es u w) ep'))
theorem put_run {B : Bk} {X : Cx} {pins : List (Addr × Obj)} {σ : L2.St} {H : Hp} {s : Shared} {E : Value → Shared → Prop} {a : Addr} {y z : V} {u w : Value} {N : Hp → Prop} {Q : Unit → Shared → Prop} (hK : X.K = B.K) (hw : X.w = B.w) (hu : X.A.units + 100 < cLine) (I : Inv X pins σ H s)
    (ry : RelV y u) (rz : RelV z w) (h : rPut B a y z H N) (k : ∀ H' s', Inv X pins σ H' s' → N H' → Q () s') : wpAny (model X.prog X.w) X.A (dictSet a u w) Q E s := by
  obtain ⟨es, ep, kvs, dk, ha, hes, hn, hz, dy, ko, hN⟩ := h
  have g := sets_D (B := B) (v := w) (Inv.hi' I) hK hw ha hes hn ⟨y, ry, dy⟩ ko hz (A := X.A) (by omega)
  exact g E Q fun h' ep' hr sb => k _ _ (set_inv I ha hr sb) (hN u w ep' ry rz)
section
variable {X : Cx}
def tDcM (B : Bk) (wi : TI) (g : TG) (tt : TT) (tk tv : TE) (vs : List Nat) : TE := fun σ H Q => wi σ H fun J H1 => ∀ D, H1 D = none → (D == sysModules) = false → ∃ W : Nat → Nat → Hp → Prop, (∃ m, W 0 m (upd H1 D (dctO D #[] 0))) ∧
  ∀ i m H, W i m H → (J.stop i H ∧ Q (.ref D) H) ∨ (J.go i H ∧ ∃ Nx : Hp → Prop, (∀ H', Nx H' → ∃ m', m' < m ∧ W (i + 1) m' H') ∧
    ∀ x H', J.yld i H x H' → g x (L2.wipe σ vs) H' fun σ2 H2 => L2.wipe σ2 vs = L2.wipe σ vs ∧ tt σ2 H2 fun b H3 => if b = true then tk σ2 H3 fun y H4 => tv σ2 H4 fun z H5 => rPut B D y z H5 Nx else Nx H3)
theorem dct_new {H : Hp} {P : Program} {w : World} (h : Heap) : L2.ObjOk P w H (h.push { cls := .type "dict", data := .dict #[] }) h.objs.size (dctO h.objs.size #[] 0) := by
  have e : (h.push { cls := .type "dict", data := .dict #[] }).get? h.objs.size = some { cls := .type "dict", data := .dict #[] } := Heap.get?_push_size _ rfl
  exact ⟨⟨_, e, ⟨rfl, rfl, rfl⟩, rfl⟩, ⟨_, e⟩, fun h1 h2 r st => r.at st⟩
/-- a block's context, by its parts -/
abbrev InBlk (X : Cx) (scope : Scope) (T : Cx → Prop) : Prop := ∀ (s : Shared) (H : Hp) (C : Addr) (cl : List (Str × Addr)) (fp : List Addr), T (X.blk s H scope (compEnvC scope cl C X.env) fp)
theorem dcM_core {B : Bk} {pins : List (Addr × Obj)} {s : Shared} {σ : L2.St} {H : Hp} {Q : VK} {ek ev tg src : Expr} {tests : List Expr} {scope : Scope} {own : List (Str × Nat)} {pos pos' : Pos} {wi : TI} {g : TG} {tt : TT} {tk tv : TE} {use : Option (Value → Sem Unit)} {Qf : Value → Shared → Prop}
    (hK : X.K = B.K) (hw : X.w = B.w) (hu : X.A.units + 100 < cLine) (calm : X.calm = true) (nd : X.N.Nodup) (I : Inv X pins σ H s) (psrc : PI X tg src wi) (ok : BlkOk X.N X.env.scope scope own)
    (ptg : InBlk X scope fun Y => PG Y tg g) (ptt : InBlk X scope fun Y => PTs Y tests tt) (pk : InBlk X scope fun Y => PE Y ek tk) (pv : InBlk X scope fun Y => PE Y ev tv) (nofold : ∀ x, foldedSetIterable src X.env x = pure x)
    (h : tDcM B wi g tt tk tv (own.map (·.2)) σ H Q)
    (done : ∀ D C s' m H', Inv X pins σ H' s' → Q (.ref D) H' → s'.heap.Ns C m → FpOk X pins H' C → compPost (model X.prog X.w) X.A X.xe use Qf (.ref D) C (.ok .next) s') :
    wpAny (model X.prog X.w) X.A (comprehension (.DictComp ek ev [⟨tg, src, tests, 0⟩] scope pos) scope X.env pos' newDict false (eval src X.env) use) Qf X.xe s := by
  have captured : ∀ q ∈ scope.names, q.2 = .free → ∃ c, X.env.cells.lookup q.1 = some c := fun q hq e => (ok.free q hq e).elim (fun z => I.ok.has _ (.inl z)) fun z => I.ok.has _ (.inr z)
  refine wpAny_comprehension_free (use := use) rfl nofold (L2.closure_ok captured) ok.kind (fun q hq e => (ok.uniq q hq).trans (congrArg some e)) (L2.thn (psrc.run pins s σ H _ I h) fun xv sa hx => L2.thn hx fun itv sb hb => ?_)
  obtain ⟨it, fp, tn, J, Hb, rfl, Ib, T, stb, fb, q⟩ := hb
  refine wpAny_newObj_type (L2.newEnv_comp ?_)
  obtain ⟨D, hD⟩ : ∃ D, sb.heap.objs.size = D := ⟨_, rfl⟩
  have dnew : Hb D = none := Ib.hok.fresh (Nat.le_of_eq hD)
  have dsys : (D == sysModules) = false := beq_eq_false_iff_ne.mpr (by rw [← hD]; exact Nat.ne_of_gt Ib.big)
  obtain ⟨W, ⟨m0, w0⟩, turn⟩ := q D dnew dsys
  -- the state with the new dict
  obtain ⟨sc, hsc⟩ : ∃ sc : Shared, sc = { sb with heap := sb.heap.push { cls := .type "dict", data := .dict #[] } } := ⟨_, rfl⟩
  have scH : sc.heap = sb.heap.push { cls := .type "dict", data := .dict #[] } := by rw [hsc]
  have grow : ∀ b o, sb.heap.get? b = some o → sc.heap.get? b = some o := fun b o e => by rw [scH]; exact Heap.get?_push_of_some _ e
  have Ic : Inv X pins σ (upd Hb D (dctO D #[] 0)) sc := by
    rw [hsc, ← hD]
    exact Ib.laid (t' := sb.toks) (fun b o e => Heap.get?_push_of_some _ e) (Nat.le_refl _) (dct_new sb.heap)
  have young : ∀ b ∈ fp, b < sb.heap.objs.size := fun b hb => (T.obj _ _ stb b hb).elim fun o e => Heap.lt_size e.1
  have nD : ∀ b ∈ fp, b ≠ D := fun b hb z => by
    have := young b hb
    rw [z, ← hD] at this
    exact Nat.lt_irrefl _ this
  have fc : ∀ b ∈ fp, FpOk X pins (upd Hb D (dctO D #[] 0)) b ∧ b < sc.heap.objs.size := fun b hb =>
    ⟨⟨(upd_ne (nD b hb)).trans (fb b hb).1, (fb b hb).2⟩, by rw [scH, Heap.size_push]; exact Nat.lt_succ_of_lt (young b hb)⟩
  have stc : tn 0 sc.heap := T.keep _ _ _ stb fun b _ o e => grow b o e
  have Id := L2.block_start Ic ok nd fc
  have gg := ptg sc (upd Hb D (dctO D #[] 0)) sc.heap.objs.size (cellsFrom (sc.heap.objs.size + 1) scope.names (L2.cloFrom X.env.cells scope.names [])) fp
  have gt := ptt sc (upd Hb D (dctO D #[] 0)) sc.heap.objs.size (cellsFrom (sc.heap.objs.size + 1) scope.names (L2.cloFrom X.env.cells scope.names [])) fp
  have gk := pk sc (upd Hb D (dctO D #[] 0)) sc.heap.objs.size (cellsFrom (sc.heap.objs.size + 1) scope.names (L2.cloFrom X.env.cells scope.names [])) fp
  have gv := pv sc (upd Hb D (dctO D #[] 0)) sc.heap.objs.size (cellsFrom (sc.heap.objs.size + 1) scope.names (L2.cloFrom X.env.cells scope.names [])) fp
  rw [hD, ← hsc]
  show codeAny _ _ (.compStart (.DictComp ek ev [⟨tg, src, tests, 0⟩] scope pos) 0 (.ref it) (.ref D) (compEnvC scope (cellsFrom (sc.heap.objs.size + 1) scope.names (L2.cloFrom X.env.cells scope.names [])) sc.heap.objs.size X.env)) (compPost (model X.prog X.w) X.A X.xe use Qf (.ref D) sc.heap.objs.size) { sc with heap := pushCells (sc.heap.push { cls := .type "dict", data := .dict #[] }) scope.names }
  obtain ⟨ce, hce⟩ : ∃ ce, compEnvC scope (cellsFrom (sc.heap.objs.size + 1) scope.names (L2.cloFrom X.env.cells scope.names [])) sc.heap.objs.size X.env = ce := ⟨_, rfl⟩
  rw [hce] at Id gg gt gk gv ⊢
  have ceL : ce.locals = sc.heap.objs.size := by rw [← hce]; rfl
  obtain ⟨Hc, hHc⟩ : ∃ Hc, upd Hb D (dctO D #[] 0) = Hc := ⟨_, rfl⟩
  rw [hHc] at Ic Id gg gt gk gv w0 fc
  obtain ⟨sd, hsd⟩ : ∃ sd : Shared, { sc with heap := pushCells (sc.heap.push { cls := .type "dict", data := .dict #[] }) scope.names } = sd := ⟨_, rfl⟩
  rw [hsd] at Id ⊢
  have std : tn 0 sd.heap := T.keep _ _ _ stc fun b _ o e => by rw [← hsd]; exact pushCells_keeps _ _ _ _ (Heap.get?_push_of_some _ e)
  have noPin : ∀ p : Addr × Obj, p ∉ ([] : List (Addr × Obj)) ++ [] := fun p hp => by simp at hp
  have own_it : ∀ {σ' : L2.St} {H' : Hp} {s' : Shared}, Inv (X.blk sc Hc scope ce fp) [] σ' H' s' → (∀ b ∈ fp, H' b = none) → ∀ b ∈ fp, FpOk (X.blk sc Hc scope ce fp) [] H' b := fun {σ' H' s'} J hn b hb =>
    ⟨hn b hb, (J.ok.exf b hb).1, J.ok.exfs b hb, .inl hb, (J.ok.exf b hb).2 |> fun z x c e => z x c e, fun p hp => absurd hp (noPin p)⟩
  have walk : codeAny (model X.prog X.w) X.A (.compLoop (.DictComp ek ev [⟨tg, src, tests, 0⟩] scope pos) 0 (.ref it) (.ref D) ce) (compPost (model X.prog X.w) X.A X.xe use Qf (.ref D) sc.heap.objs.size) sd := by
    refine L2.compLoop_anyD (fun n s' => ∃ i H', Inv (X.blk sc Hc scope ce fp) [] (L2.wipe σ (own.map (·.2))) H' s' ∧ tn i s'.heap ∧ (∀ b ∈ fp, H' b = none) ∧ W i n H') ?_ m0 ⟨0, Hc, Id, std, fun b hb => (fc b hb).1.1, w0⟩
    rintro n s5 ⟨i, H5, I5, st5, n5, w5⟩
    rcases turn i n H5 w5 with ⟨stop, fin⟩ | ⟨go, Nx, less, step⟩
    · refine L2.thnF (T.done (X.blk sc Hc scope ce fp) rfl rfl rfl calm i [] s5 _ H5 (fun _ _ => False) I5 (own_it I5 n5) st5 stop) fun r s6 ⟨hr, I6⟩ => ?_
      subst hr
      have I7 : Inv X pins σ H5 s6 := Ic.call' (ch := fp) I6.os I6.base I6.hok I6.bare fun b hb => ⟨(fc b hb).1.2.2.2.1, (fc b hb).1.2.1, (fc b hb).1.2.2.2.2.1, (fc b hb).1.2.2.2.2.2⟩
      have nC : H5 sc.heap.objs.size = none := ceL ▸ (show H5 ce.locals = none from I6.free)
      obtain ⟨m, hn, _⟩ := I6.loc
      exact done D sc.heap.objs.size s6 m H5 I7 fin (ceL ▸ (show s6.heap.Ns ce.locals m from hn)) (Ic.fpOk (Nat.le_refl _) nC)
    · refine L2.thnF (T.item (X.blk sc Hc scope ce fp) rfl rfl rfl calm i [] s5 _ H5 (fun _ _ => False) I5 (own_it I5 n5) st5 go) fun r s6 ⟨u, hr, h6⟩ => ?_
      subst hr
      refine L2.thnF h6 fun _ s7 ⟨x, H7, I7, r7, y7, st7, n7⟩ => ?_
      have P7 := I7.pinned (own_it I7 n7) (T.obj _ _ st7)
      refine L2.thnF (gg.run _ s7 _ H7 x u _ P7 r7 (step x H7 y7)) fun _ s8 ⟨σ8, H8, I8, hw8, q8⟩ => ?_
      refine L2.thnF (gt.run _ s8 σ8 H8 _ I8 q8) fun b s9 ⟨H9, I9, q9⟩ => ?_
      have next : ∀ {s' : Shared} {H' : Hp}, Inv (X.blk sc Hc scope ce fp) ([] ++ L2.pinsAt fp s7.heap) σ8 H' s' → Nx H' → ∃ m, m < n ∧ ∃ i H', Inv (X.blk sc Hc scope ce fp) [] (L2.wipe σ (own.map (·.2))) H' s' ∧ tn i s'.heap ∧ (∀ b ∈ fp, H' b = none) ∧ W i m H' := fun {s' H'} J nx => by
        obtain ⟨m', lt, w'⟩ := less H' nx
        have held : ∀ b ∈ fp, ∀ o, s7.heap.get? b = some o → s'.heap.get? b = some o ∧ H' b = none := fun b hb o e => by
          have z := J.pin (b, o) (List.mem_append_right _ (List.mem_append_right _ (L2.mem_pinsAt hb e)))
          exact ⟨z.1, z.2.1⟩
        refine ⟨m', lt, i + 1, H', (J.unpinned (pins := [])).weak (by rw [← hw8, L2.wipe_length]) (fun j v e => ?_), T.keep _ _ _ st7 fun b hb o e => (held b hb o e).1, fun b hb => ?_, w'⟩
        · rw [← hw8] at e
          exact (L2.wipe_some e).1
        · obtain ⟨o, e, _⟩ := T.obj _ _ st7 b hb
          exact (held b hb o e).2
      cases b with
      | false =>
        rw [if_neg Bool.false_ne_true] at q9 ⊢
        exact next I9 q9
      | true =>
        rw [if_pos rfl] at q9 ⊢
        refine L2.thnF (gk.run _ s9 σ8 H9 _ I9 q9) fun z s10 ⟨yk, H10, I10, r10, q10⟩ => ?_
        refine L2.thnF (gv.run _ s10 σ8 H10 _ I10 q10) fun z2 s11 ⟨yv, H11, I11, r11, put⟩ => ?_
        exact put_run (X := X.blk sc Hc scope ce fp) hK hw hu I11 r10 r11 put fun H' s' J nx => next J nx
  exact codeAny_compStart_dict walk (T.self X.A 0 _ _ _ std walk)
/-- as a value -/
theorem pe_dcM {B : Bk} {ek ev tg src : Expr} {tests : List Expr} {scope : Scope} {own : List (Str × Nat)} {pos : Pos} {wi : TI} {g : TG} {tt : TT} {tk tv : TE}
    (hK : X.K = B.K) (hw : X.w = B.w) (hu : X.A.units + 100 < cLine) (calm : X.calm = true) (nd : X.N.Nodup) (psrc : PI X tg src wi) (ok : BlkOk X.N X.env.scope scope own)
    (ptg : InBlk X scope fun Y => PG Y tg g) (ptt : InBlk X scope fun Y => PTs Y tests tt) (pk : InBlk X scope fun Y => PE Y ek tk) (pv : InBlk X scope fun Y => PE Y ev tv) (nofold : ∀ x, foldedSetIterable src X.env x = pure x) :
    PE X (.DictComp ek ev [⟨tg, src, tests, 0⟩] scope pos) (tDcM B wi g tt tk tv (own.map (·.2))) :=
  ⟨fun pins s σ H Q I h => by
    rw [arm_eval_DictComp]
    refine dcM_core hK hw hu calm nd I psrc ok ptg ptt pk pv nofold h fun D C s' m H' J q hn f => ⟨m, hn, fun h'' sb => ?_⟩
    exact ⟨.ref D, H', J.turned (t' := s'.toks) (fun b o hb e => (sb.2 b hb).trans e) f.1 f.2.1 f.2.2.2.1 f.2.2.2.2.1 f.2.2.2.2.2, rfl, q⟩⟩
end
section
variable {P : Pg} {R : Run} {C : Kx} {W : WX}
theorem put_nodup' {k v : D} {kvs : List (D × D)} (h : (kvs.map (·.1)).Nodup) : ((put k v kvs).map (·.1)).Nodup := put_nodup h
theorem dc_r (hm : C.mono) {kx vx c src : E} {t : T} {own : List Nat} {tt : TT} (htt : ∀ σ H Q, tT P R C W0 c σ H Q → tt σ H Q) (hlo : ∀ j ∈ t.nms, j ∈ own) (σ : L2.St) (H : Hp) (Q : VK) (h : tE P R C W (.dc kx vx t src c own) σ H Q) :
    tDcM C.toBk (tSrc P R C W own t src) (gT C.K t) tt (tE P R C W0 kx) (tE P R C W0 vx) own σ H Q := by
  obtain ⟨F, s, hs, hw⟩ := h
  rw [evE] at hw
  have hw' : Wp (((evE P R src s).bind fun x s => evSrc src own x s).bind fun d s => match items d.1 with
      | some xs => blk own s fun s => (dcGo own (still d.2 d.1) t (fun s => (evE P R c s).bind boolOf) (fun s => (evE P R kx s).bind fun w s => (take s w).bind fun a s => (evE P R vx s).bind fun w s => (take s w).bind fun b s => .ok (a, b) s) xs [] s).bind fun ys s => .ok (.own (.dic ys)) s
      | none => .stk "dc items") (QX C s σ F H Q) (NX C W s σ F H) := Wp_bind.mpr (Wp_bind.mpr (Wp.mono (Wp_bind.mp hw) (fun _ _ q => Wp_bind.mp q) fun _ _ z => z))
  refine ⟨F, s, hs, Wp.mono (Wp_bind.mp hw') (fun d s1 q => ?_) fun _ _ z => z⟩
  cases hit : items d.1 with
  | none => rw [hit] at q; exact q.elim
  | some xs =>
  refine ⟨xs, rfl, fun J F1 H1 p hsrc wk D0 hD0 hsy => ?_⟩
  rw [hit] at q
  have q := Wp_bind.mp (blk_wp q)
  generalize htst : (fun s => (evE P R c s).bind boolOf) = tst at q
  generalize hel : (fun s => (evE P R kx s).bind fun w s => (take s w).bind fun a s => (evE P R vx s).bind fun w s => (take s w).bind fun b s => (.ok (a, b) s : Out (D × D))) = el at q
  refine ⟨fun i m H2 => ∃ F2 s2 acc es ep r, LcS C own s1 σ F1 H1 D0 s2 F2 H2 ∧ H2 D0 = some (dctO D0 es ep) ∧ DKs C.toBk F2 es.toList acc ∧ (acc.map (·.1)).Nodup ∧ es.size ≤ sizeLine ∧ Le F1 F2 ∧ r = xs.drop i ∧ m = r.length ∧
      Wp (dcGo own (still d.2 d.1) t tst el r acc s2) (fun ys s' => QX C s σ F H Q (.own (.dic ys)) ⟨back s1.c s'.c own, s'.p⟩) (fun _ _ => False),
    ⟨xs.length, F1, s1.wipe own, [], #[], 0, xs, lcS_start hm p.sr hD0, upd_same, .nil, .nil, Nat.zero_le _, .refl F1, rfl, rfl, q⟩, ?_⟩
  rintro i m H2 ⟨F2, s2, acc, es, ep, r, L, hD, dks, nd, hz, l2, rfl, rfl, q2⟩
  have st_eq : still d.2 d.1 (s2.wipe own) = still d.2 d.1 s2 := still_wipe fun j hj => (hsrc j hj).2
  have gd : ∀ j, d.2 = some j → (L2.wipe σ own)[j]? = σ[j]? := fun j hj => swipe_out (hsrc j hj).2
  cases hr : xs.drop i with
  | nil =>
    rw [hr, dcGo] at q2
    cases hst : still d.2 d.1 s2 with
    | false => rw [hst, if_neg Bool.false_ne_true] at q2; exact q2.elim
    | true =>
      rw [hst, if_pos rfl] at q2
      refine .inl ⟨wk.stop _ _ F2 H2 L.pe.sr l2 (st_eq.trans hst) gd i (by simpa using hr), ?_⟩
      have pb := blk_back hm p.sr L.pe
      refine q2 (.ref D0) F2 H2 (p.trans pb) ⟨D0, rfl, L.nf, fun z => ?_, p.sr.zz _ hD0, p.sr.zp _ hD0, es, ep, hD, hsy, hz, dks, nd⟩ fun _ _ a e => by cases e; exact p.st.there _ hD0
      obtain ⟨_, o', ho'⟩ := p.sr.ow (z.imp (pb.oc D0) (pb.op D0) : Ow C s1 σ D0)
      rw [hD0] at ho'
      cases ho'
  | cons e r =>
    rw [hr, dcGo] at q2
    have hi : xs[i]? = some e := by
      have := congrArg (fun l => l[0]?) hr
      simpa using this
    have hdr : xs.drop (i + 1) = r := by
      have := congrArg List.tail hr
      simpa using this
    cases hst : still d.2 d.1 s2 with
    | false => rw [hst, if_neg Bool.false_ne_true] at q2; exact q2.elim
    | true =>
      rw [hst, if_pos rfl] at q2
      obtain ⟨hgo, hy⟩ := wk.go _ _ F2 H2 L.pe.sr l2 (st_eq.trans hst) gd i e hi
      refine .inr ⟨hgo, fun H' => ∃ F' s' acc es ep, LcS C own s1 σ F1 H1 D0 s' F' H' ∧ H' D0 = some (dctO D0 es ep) ∧ DKs C.toBk F' es.toList acc ∧ (acc.map (·.1)).Nodup ∧ es.size ≤ sizeLine ∧ Le F1 F' ∧ Wp (dcGo own (still d.2 d.1) t tst el r acc s') (fun ys s' => QX C s σ F H Q (.own (.dic ys)) ⟨back s1.c s'.c own, s'.p⟩) (fun _ _ => False),
        fun H' ⟨F', s', acc', es', ep', z1, z2, z3, z4, z5, z6, z7⟩ => ⟨r.length, by simp, F', s', acc', es', ep', r, z1, z2, z3, z4, z5, z6, hdr.symm, rfl, z7⟩, fun x H3 hyl => ?_⟩
      obtain ⟨F3, al, dv⟩ := hy x H3 hyl
      have p3 := L.pe.sr.al hm al
      cases est : stT t e (s2.wipe own) with
      | none => simp only [est] at q2; exact q2.elim
      | some s3 =>
        simp only [est] at q2
        refine gT_blk p3 dv est fun σ3 h3 z3 hl3 => ?_
        have hl3' : σ3.length = σ.length := by rw [hl3, L2.wipe_length]
        refine ⟨swipe_eq hl3' fun j hj => ?_, ?_⟩
        · rw [z3 j fun z => hj (hlo j z), swipe_out hj]
        · rw [← htst] at q2
          refine htt _ _ _ (tT_bind0 h3 q2 fun b s4 F4 H4 p4 q4 => ?_)
          rw [htst] at q4
          cases b with
          | false =>
            rw [if_neg Bool.false_ne_true] at q4 ⊢
            obtain ⟨L4, hD4, l4⟩ := L.turn hm ⟨_, hD, fun _ z => by cases z⟩ al est hlo z3 hl3' p4
            exact ⟨F4, s4, acc, es, ep, L4, by rw [hD4]; exact hD, dks.mono l4, nd, hz, l2.trans l4, q4⟩
          | true =>
            rw [if_pos rfl] at q4 ⊢
            rw [← hel] at q4
            have q4' : Wp (((evE P R kx s4).bind fun w s => take s w).bind fun a s => ((evE P R vx s).bind fun w s => take s w).bind fun b s => if keyOk a && decide (acc.length < line) then dcGo own (still d.2 d.1) t tst el r (put a b acc) s else .stk "key")
                (fun ys s' => QX C s σ F H Q (.own (.dic ys)) ⟨back s1.c s'.c own, s'.p⟩) (fun _ _ => False) := by
              rw [hel] at q4
              rw [← hel] at q4
              refine Wp_bind.mpr (Wp_bind.mpr (Wp.mono (Wp_bind.mp (Wp_bind.mp q4)) (fun w s' z => ?_) fun _ _ z => z))
              refine Wp.mono (Wp_bind.mp z) (fun a s'' z => ?_) fun _ _ z => z
              refine Wp_bind.mpr (Wp_bind.mpr (Wp.mono (Wp_bind.mp z) (fun w s' z => ?_) fun _ _ z => z))
              refine Wp.mono (Wp_bind.mp z) (fun b s'' z => ?_) fun _ _ z => z
              rw [hel] at z
              exact z
            refine tE_take0 hm p4.sr q4' fun e' s5 v F5 H5 p5 dv5 q5 => tE_take0 hm p5.sr q5 fun e2 s6 v2 F6 H6 p6 dv6 q6 => ?_
            have p46 := p4.trans (p5.trans p6)
            obtain ⟨L6, hD6, l6⟩ := L.turn hm ⟨_, hD, fun _ z => by cases z⟩ al est hlo z3 hl3' p46
            have hD6' : H6 D0 = some (dctO D0 es ep) := by rw [hD6]; exact hD
            split at q6
            · rename_i hko
              rw [Bool.and_eq_true, decide_eq_true_eq] at hko
              have dk6 := dks.mono l6
              have dv5' := dv5.mono p6.st.le
              have hsz : es.size = acc.length := by rw [← dk6.length]; simp
              refine ⟨es, ep, acc, e', hD6', dk6.mono p46.sr.le, nd, hz, dv5'.mono p46.sr.le, hko.1, fun u w ep' ru rw' => ?_⟩
              refine ⟨F6, s6, put e' e2 acc, entPut C.w e' acc es u w, ep', ⟨L6.pe.updD hD0 hD6' (fun _ z => by cases z) L6.nf L6.no, L6.nf, L6.no⟩, upd_same, entPut_ok dk6 ⟨v, ru, dv5'⟩ ⟨v2, rw', dv6⟩ hko.1, put_nodup nd, ?_, l2.trans l6, q6⟩
              have := entPut_size (w := C.w) (k := e') (kvs := acc) (es := es) (u := u) (v := w)
              rw [line_eq] at hko
              omega
            · exact q6.elim
end
end Mid
set_option Elab.async false
set_option linter.all false
set_option maxRecDepth 100000
set_option maxHeartbeats 4000000
/-! Built-in functions of one thing. -/
namespace Mid
open PySem PySem.Spec PyProof.Rows
open L2 (Hp HO V RelV Vals SqL SqT Rd upd upd_same upd_ne OpR R2 Inv Cx EP VK CallR)

section
variable {X : Cx} {B : Bk}
theorem val1 {v : V} {us : List Value} (r : Vals [v] us) : ∃ u, us = [u] ∧ RelV v u := by
  cases r with
  | cons r1 rr => cases rr; exact ⟨_, rfl, r1⟩
theorem bools_v {F : Hp} : ∀ {vs : List V} {ds : List D} {bs : List Bool}, DVs B F vs ds → bools ds = some bs → vs = bs.map V.bl
  | _, _, _, .nil, h => by simp [bools] at h; subst h; rfl
  | _, _, _, .cons p q, h => by
    cases p <;> simp only [bools, Option.map_eq_some_iff, reduceCtorEq] at h
    obtain ⟨bs', h1, rfl⟩ := h
    rw [bools_v q h1]
    rfl
theorem ints_v {F : Hp} : ∀ {vs : List V} {ds : List D} {bs : List Int}, DVs B F vs ds → Mid.intsD ds = some bs → vs = bs.map V.int
  | _, _, _, .nil, h => by simp [Mid.intsD] at h; subst h; rfl
  | _, _, _, .cons p q, h => by
    cases p <;> simp only [Mid.intsD, Option.map_eq_some_iff, reduceCtorEq] at h
    obtain ⟨bs', h1, rfl⟩ := h
    rw [ints_v q h1]
    rfl
theorem cr_len (hK : X.K = B.K) : CallR X (.builtin "len") (rBlt B .len) := by
  intro pins s σ H xs us Q I r ⟨F, v, d, w, ex, l, pk, hb, q⟩
  subst ex
  unfold bltD at hb
  simp only at hb
  split at hb
  · cases hb
    obtain ⟨a, ys, rfl, hr, dv⟩ := pk.lst l
    refine L2.call_len_seq pins s σ H _ us Q I r ⟨a, ys, rfl, .inl (.inl hr), ?_⟩
    rw [dv.length]
    exact q _ F H (.refl l) (.int _)
  · cases hb
    obtain ⟨a, ys, rfl, hr, pt, dv⟩ := pk.tup l
    refine L2.call_len_seq pins s σ H _ us Q I r ⟨a, ys, rfl, .inr (by rw [hK]; exact hr), ?_⟩
    rw [dv.length]
    exact q _ F H (.refl l) (.int _)
  · rename_i kvs
    cases hb
    obtain ⟨a, es, ep, rfl, hd, hs, hz, dk, nd⟩ := pk.dic l
    obtain ⟨u, rfl, ru⟩ := val1 r
    cases ru
    have raw := raw_of (Inv.hi' I) hd
    have hl : es.size = kvs.length := by rw [← dk.length, Array.length_toList]
    have l63 := L2.line63
    refine call_len_slot raw.typeIs PySem.F.slot_dict_len (n := es.size) (fun Q' k => call_len_raw hs raw k) (by omega) (by omega) ⟨.int es.size, H, I.tok _, ⟨_, rfl⟩, ?_⟩
    rw [hl]
    exact q _ F H (.refl l) (.int _)
  · rename_i z
    obtain rfl := pk.str
    split at hb
    · rename_i hz
      cases hb
      refine L2.call_len_str pins s σ H _ us Q I r ⟨txt z, rfl, by rw [txt_length, ← line_eq]; exact hz, ?_⟩
      rw [txt_length]
      exact q _ F H (.refl l) (.int _)
    · cases hb
  · cases hb
/-- tuple(list), kept plain -/
theorem tup_of_list {pins : List (Addr × Obj)} {s : Shared} {σ : L2.St} {H : Hp} {a : Addr} {ys : List V} {Q : VK} (I : Inv X pins σ H s) (hq : SqL X.K H a ys) (k : ∀ H' p its, (∀ b o, H b = some o → H' b = some o) → H' p = none → (∀ b, H' b = none → H b = none) → H' = H → Q (.ref p) (upd H' p (.frz (TupOb its) (.tup ys)))) :
    wpAny (model X.prog X.w) X.A (call (.type "tuple") [.ref a]) (EP X pins σ Q) X.xe s := by
  obtain ⟨its, r, pl, hz⟩ := I.list hq
  have el := r.length
  refine call_tuple_list pl.isList (fun h' kp => ?_) (by rw [List.size_toArray]; omega)
  have J : Inv X pins σ H { s with heap := h' } := I.kept (t' := s.toks) kp
  exact ⟨.ref _, _, laid_tup (t := s.toks) J r hz, rfl, k H _ _ (fun _ _ e => e) J.fresh (fun _ e => e) rfl⟩
theorem cr_tuple (hK : X.K = B.K) : CallR X (.type "tuple") (rBlt B .tuple) := by
  intro pins s σ H xs us Q I r ⟨F, v, d, w, ex, l, pk, hb, q⟩
  subst ex
  unfold bltD at hb
  simp only at hb
  split at hb
  · cases hb
    obtain ⟨a, ys, rfl, hr, dv⟩ := pk.lst l
    obtain ⟨u, rfl, ru⟩ := val1 r
    cases ru
    refine tup_of_list I (.inl hr) fun H' p its _ hp _ e => ?_
    subst e
    exact q _ _ _ (.frz l hp) (.tup (.inl ⟨its, upd_same⟩) (dv.mono (upd_le (l.none hp))))
  · cases hb
    obtain ⟨a, ys, rfl, hr, pt, dv⟩ := pk.tup l
    exact L2.call_tuple_of pins s σ H _ us Q I r ⟨a, ys, rfl, .inr ⟨by rw [hK]; exact hr, q _ F H (.refl l) (.tup pt dv)⟩⟩
  · cases hb
theorem cr_list (hK : X.K = B.K) : CallR X (.type "list") (rBlt B .list) := by
  intro pins s σ H xs us Q I r ⟨F, v, d, w, ex, l, pk, hb, q⟩
  subst ex
  unfold bltD at hb
  simp only at hb
  split at hb
  · cases hb
    obtain ⟨a, ys, rfl, hr, dv⟩ := pk.lst l
    exact L2.call_list_of pins s σ H _ us Q I r ⟨a, ys, rfl, .inl (.inl hr), fun p hp => q _ F _ (.own l hp) ⟨p, rfl, hp, l.none hp, _, upd_same, dv⟩⟩
  · cases hb
    obtain ⟨a, ys, rfl, hr, pt, dv⟩ := pk.tup l
    exact L2.call_list_of pins s σ H _ us Q I r ⟨a, ys, rfl, .inr (by rw [hK]; exact hr), fun p hp => q _ F _ (.own l hp) ⟨p, rfl, hp, l.none hp, _, upd_same, dv⟩⟩
  · cases hb
theorem cr_all (hc : X.calm = true) : CallR X (.builtin "all") (rBlt B .all) := by
  intro pins s σ H xs us Q I r ⟨F, v, d, w, ex, l, pk, hb, q⟩
  subst ex
  unfold bltD at hb
  simp only at hb
  split at hb
  · obtain ⟨bs, h1, rfl⟩ := Option.map_eq_some_iff.mp hb
    obtain ⟨a, ys, rfl, hr, dv⟩ := pk.lst l
    obtain rfl := bools_v dv h1
    exact L2.cr_all hc pins s σ H _ us Q I r ⟨a, bs, rfl, .inl hr, q _ F H (.refl l) (.bl _)⟩
  · cases hb
theorem cr_any (hc : X.calm = true) : CallR X (.builtin "any") (rBlt B .any) := by
  intro pins s σ H xs us Q I r ⟨F, v, d, w, ex, l, pk, hb, q⟩
  subst ex
  unfold bltD at hb
  simp only at hb
  split at hb
  · obtain ⟨bs, h1, rfl⟩ := Option.map_eq_some_iff.mp hb
    obtain ⟨a, ys, rfl, hr, dv⟩ := pk.lst l
    obtain rfl := bools_v dv h1
    exact L2.cr_any hc pins s σ H _ us Q I r ⟨a, bs, rfl, .inl hr, q _ F H (.refl l) (.bl _)⟩
  · cases hb
theorem cr_sum (hc : X.calm = true) : CallR X (.builtin "sum") (rBlt B .sum) := by
  intro pins s σ H xs us Q I r ⟨F, v, d, w, ex, l, pk, hb, q⟩
  subst ex
  unfold bltD at hb
  simp only at hb
  split at hb
  · obtain ⟨bs, h1, rfl⟩ := Option.map_eq_some_iff.mp hb
    obtain ⟨a, ys, rfl, hr, dv⟩ := pk.lst l
    obtain rfl := ints_v dv h1
    exact L2.cr_sum hc pins s σ H _ us Q I r ⟨a, bs, rfl, .inl hr, q _ F H (.refl l) (.int _)⟩
  · cases hb
theorem cr_int : CallR X (.type "int") (rBlt B .int) := by
  intro pins s σ H xs us Q I r ⟨F, v, d, w, ex, l, pk, hb, q⟩
  subst ex
  unfold bltD at hb
  simp only at hb
  split at hb
  · cases hb
    obtain rfl := pk.int
    exact L2.call_int1 pins s σ H _ us Q I r (.inl ⟨_, rfl, q _ F H (.refl l) (.int _)⟩)
  · cases hb
    obtain rfl := pk.bl
    exact L2.call_int1 pins s σ H _ us Q I r (.inr ⟨_, rfl, q _ F H (.refl l) (.int _)⟩)
  · cases hb
theorem cr_abs : CallR X (.builtin "abs") (rBlt B .abs) := by
  intro pins s σ H xs us Q I r ⟨F, v, d, w, ex, l, pk, hb, q⟩
  subst ex
  unfold bltD at hb
  simp only at hb
  split at hb
  · cases hb
    obtain rfl := pk.int
    exact L2.call_abs pins s σ H _ us Q I r ⟨_, rfl, q _ F H (.refl l) (.int _)⟩
  · cases hb
theorem cr_str : CallR X (.type "str") (rBlt B .str) := by
  intro pins s σ H xs us Q I r ⟨F, v, d, w, ex, l, pk, hb, q⟩
  subst ex
  unfold bltD at hb
  simp only at hb
  split at hb
  · rename_i i
    split at hb
    · rename_i hz
      cases hb
      obtain rfl := pk.int
      refine L2.call_str_int pins s σ H _ us Q I r ⟨i, rfl, hz, q _ F H (.refl l) ?_⟩
      have e : ((toString i : String) : Str) = txt (intS i) := Str.ofString_eq_toList _
      rw [e]
      exact .str _
    · cases hb
  · cases hb

/-! ### dict(couples) -/
theorem couples_at {F H : Hp} {h : Heap} (hi : Hi X H h) (hK : X.K = B.K) (l : Le F H) : ∀ {vs : List V} {us : List Value} {ds : List D} {kvs : List (D × D)}, DVs B F vs ds → Vals vs us → couples ds = some kvs →
    ∃ (Ts : List Addr) (ps : List (Value × Value)), us = Ts.map Value.ref ∧ Ts.length = ps.length ∧ ps.length = kvs.length ∧ kvs.length = ds.length ∧ ∀ (j : Nat) (T : Addr) (k v : Value) (p : D × D), Ts[j]? = some T → ps[j]? = some (k, v) → kvs[j]? = some p →
      h.IsTuple T #[k, v] ∧ VD B F k p.1 ∧ VD B F v p.2 ∧ keyOk p.1 = true
  | _, _, _, _, .nil, .nil, e => by
    simp only [couples, Option.some.injEq] at e
    subst e
    exact ⟨[], [], rfl, rfl, rfl, rfl, fun j T k v p z => by simp at z⟩
  | _, _, _, kvs, .cons (d := d) dv dr, .cons rv rr, e => by
    cases dv with
    | @tup a xs ds' pt dvs =>
      cases dvs with
      | nil => simp [couples] at e
      | cons d1 t1 =>
        cases t1 with
        | nil => simp [couples] at e
        | cons d2 t2 =>
          cases t2 with
          | cons _ _ => simp [couples] at e
          | nil =>
            simp only [couples] at e
            split at e
            · rename_i hk
              obtain ⟨kr, er, rfl⟩ := Option.map_eq_some_iff.mp e
              obtain ⟨Ts, ps, e1, e2, e3, e4, e5⟩ := couples_at hi hK l dr rr er
              cases rv
              obtain ⟨its, ri, tp, _⟩ := hi.tuple (a := a) (by rw [hK]; exact (l.pT pt).sq)
              obtain ⟨u1, u2, rfl, r1, r2⟩ := L2.vals2 ri
              refine ⟨a :: Ts, (u1, u2) :: ps, by rw [e1]; rfl, by simp [e2], by simp [e3], by simp [e4], fun j T k v p z1 z2 z3 => ?_⟩
              cases j with
              | zero =>
                simp only [List.getElem?_cons_zero, Option.some.injEq] at z1 z2 z3
                subst z1 z3
                cases z2
                exact ⟨tp, ⟨_, r1, d1⟩, ⟨_, r2, d2⟩, hk⟩
              | succ j =>
                simp only [List.getElem?_cons_succ] at z1 z2 z3
                exact e5 j T k v p z1 z2 z3
            · cases e
    | _ => simp [couples] at e
theorem puts_take {kvs : List (D × D)} {i : Nat} {p : D × D} (h : kvs[i]? = some p) : puts [] (kvs.take (i + 1)) = put p.1 p.2 (puts [] (kvs.take i)) := by
  unfold puts
  rw [List.take_succ, h, Option.toList_some, List.foldl_append]
  rfl
theorem puts_nodup (kvs : List (D × D)) : ∀ es : List (D × D), (es.map (·.1)).Nodup → ((puts es kvs).map (·.1)).Nodup := by
  induction kvs with
  | nil => exact fun es h => h
  | cons p r ih => exact fun es h => ih _ (put_nodup h)
theorem there_of {P : Program} {w : World} {H : Hp} {h : Heap} {a : Addr} {o : HO} (x : L2.ObjOk P w H h a o) : ∃ u, h.get? a = some u := by
  cases o with
  | lst xs => obtain ⟨_, _, _, _, e⟩ := x; exact ⟨_, e⟩
  | tup xs => obtain ⟨_, _, _, o, e, _⟩ := x; exact ⟨_, e⟩
  | dK kvs => obtain ⟨_, _, _, _, o, _, _, e, _⟩ := x; exact ⟨_, e⟩
  | dT kvs => obtain ⟨_, _, _, _, o, _, _, e, _⟩ := x; exact ⟨_, e⟩
  | set S n => obtain ⟨o, _, _, _, e, _⟩ := x; exact ⟨_, e⟩
  | ins C dx fs => obtain ⟨_, _, _, e, _⟩ := x; exact ⟨_, e⟩
  | own y => exact x
  | xd fs => obtain ⟨_, ⟨o, _, _, e, _⟩, _⟩ := x; exact ⟨_, e⟩
  | rng lo hi => obtain ⟨_, _, _, e⟩ := x; exact ⟨_, e⟩
  | frz ob u => exact ⟨_, x.1⟩
  | tbl ps => exact ⟨_, x⟩
  | met f y => exact ⟨_, x⟩
  | ext φ => exact x.2.1
/-- the heap while a dict is being filled -/
def Fill (B : Bk) (X : Cx) (F H : Hp) (D0 : Addr) (kvs : List (D × D)) (i : Nat) (h : Heap) : Prop := ∃ es ep, Hi X (upd H D0 (dctO D0 es ep)) h ∧ DKs B F es.toList (puts [] (kvs.take i)) ∧ es.size ≤ i
theorem dict_of {pins : List (Addr × Obj)} {s : Shared} {σ : L2.St} {F H : Hp} (l : Le F H) {Q : VK} {a : Addr} {ty : String} {items : Array Value} {Ts : List Addr} {ps : List (Value × Value)} {kvs : List (D × D)} (hK : X.K = B.K) (hw : X.w = B.w) (hu : X.A.units + 100 < cLine) (hc : X.calm = true)
    (I : Inv X pins σ H s) (P : PairArg X.prog X.w ty a (a :: (List.range ps.length).map fun j => Ts.getD j 0) [] ps.length (PairRel ps) (fun h => PlainSeq ty h a items ∧ PairItems h items (fun j => Ts.getD j 0) ps)) (hp : PlainSeq ty s.heap a items) (hi : items.toList = Ts.map Value.ref) (h1 : Ts.length = ps.length) (h2 : ps.length = kvs.length)
    (h3 : kvs.length ≤ line) (at_ : ∀ (j : Nat) (T : Addr) (k v : Value) (p : D × D), Ts[j]? = some T → ps[j]? = some (k, v) → kvs[j]? = some p → s.heap.IsTuple T #[k, v] ∧ VD B F k p.1 ∧ VD B F v p.2 ∧ keyOk p.1 = true)
    (k : ∀ p es ep, H p = none → (p == sysModules) = false → es.size ≤ sizeLine → DKs B F es.toList (puts [] kvs) → Q (.ref p) (upd H p (dctO p es ep))) :
    wpAny (model X.prog X.w) X.A (call (.type "dict") [.ref a]) (EP X pins σ Q) X.xe s := by
  have items_at : ∀ {j : Nat} {kv : Value × Value}, ps[j]? = some kv → ∃ T p, Ts[j]? = some T ∧ kvs[j]? = some p ∧ Ts.getD j 0 = T := fun {j kv} e => by
    have hj : j < ps.length := (List.getElem?_eq_some_iff.mp e).1
    exact ⟨Ts[j]'(by omega), kvs[j]'(by omega), List.getElem?_eq_getElem _, List.getElem?_eq_getElem _, by rw [List.getD_eq_getElem?_getD, List.getElem?_eq_getElem (by omega)]; rfl⟩
  have ok : PlainSeq ty s.heap a items ∧ PairItems s.heap items (fun j => Ts.getD j 0) ps := ⟨hp, by rw [← Array.length_toList, hi, List.length_map, h1], fun j kk v e => by
    obtain ⟨T, p, eT, ep, ed⟩ := items_at e
    refine ⟨?_, .inl ?_⟩
    · show items[j]? = some (.ref (Ts.getD j 0))
      rw [ed, ← Array.getElem?_toList, hi, List.getElem?_map, eT]
      rfl
    · show s.heap.IsTuple (Ts.getD j 0) #[kk, v]
      rw [ed]
      exact (at_ j T kk v p eT e ep).1⟩
  refine call_dict_arg P ok fun s1 e1 hnew ok1 => ?_
  obtain ⟨D0, hD⟩ : ∃ D0, s.heap.objs.size = D0 := ⟨_, rfl⟩
  rw [hD] at hnew ⊢
  have fresh : H D0 = none := I.hok.fresh (Nat.le_of_eq hD)
  have sys : (D0 == sysModules) = false := beq_eq_false_iff_ne.mpr (by rw [← hD]; exact Nat.ne_of_gt I.big)
  have grow : ∀ b o, s.heap.get? b = some o → s1.heap.get? b = some o := fun b o e => by rw [e1]; exact Heap.get?_push_of_some _ e
  have I1 : Inv X pins σ (upd H D0 (dctO D0 #[] 0)) s1 := by
    rw [e1, ← hD]
    exact I.laid (t' := s.toks) (fun b o e => Heap.get?_push_of_some _ e) (Nat.le_refl _) (dct_new s.heap)
  have lt : Le H (upd H D0 (dctO D0 #[] 0)) := upd_le fresh
  have trk : ∀ {es ep} b o, upd H D0 (dctO D0 es ep) b = some o → ∃ u, s1.heap.get? b = some u := fun {es ep} b o e => by
    by_cases z : b = D0
    · rw [z]
      obtain ⟨u, hu, _⟩ := raw_of (Inv.hi' I1) (a := D0) upd_same
      exact ⟨_, hu⟩
    · rw [upd_ne z] at e
      obtain ⟨u, hu⟩ := there_of (I.hok b o e)
      exact ⟨u, grow b u hu⟩
  refine updateFrom_arg (A := X.A.in1) (Tab := Fill B X F H D0 kvs) P .none (I.ok.hd hc) ok1 hnew ⟨#[], 0, Inv.hi' I1, .nil, Nat.le_refl _⟩ (fun i h ⟨es, ep, hh, _⟩ => hh.hok.lt upd_same) (fun i h h' wr' hd hwr ⟨es, ep, hh, dk, hz⟩ kept => ?_) (fun i kk v sx Qx Ex hi' hrel ⟨es, ep, hh, dk, hz⟩ _ hQ => ?_) fun h' tk ⟨es, ep, hh, dk, hz⟩ kept => ?_
  · have nw : ∀ b u, s1.heap.get? b = some u → b ∉ wr' := fun b u e z => by
      rcases hwr b z with w | w
      · simp at w
      · rw [e] at w; cases w
    refine ⟨es, ep, ⟨fun b o e => (hh.hok b o e).stay (fun c u hc' g => kept c u (fun z => ?_) g) (fun _ z => z) (fun _ _ z => z), fun b o e => kept b o (nw b o (grow b o (I.kIn b o e))) (hh.kin b o e)⟩, dk, hz⟩
    have : ∃ o', upd H D0 (dctO D0 es ep) c = some o' := by
      rcases hc' with w | w
      · exact ⟨o, by rw [w]; exact e⟩
      · exact ⟨_, w⟩
    obtain ⟨o', e'⟩ := this
    obtain ⟨u', hu'⟩ := trk c o' e'
    exact nw c u' hu' z
  · obtain ⟨T, p, eT, ep', ed⟩ := items_at (show ps[i]? = some (kk, v) from hrel)
    obtain ⟨_, vk, vv, ko⟩ := at_ i T kk v p eT hrel ep'
    have le : ∀ {o}, Le F (upd H D0 o) := l.trans (upd_le fresh)
    have vdm : ∀ {u : Value} {d : D} {o : HO}, VD B F u d → VD B (upd H D0 o) u d := fun ⟨x, r, dv⟩ => ⟨x, r, dv.mono le⟩
    have sz : es.size ≤ sizeLine := by rw [← line_eq]; omega
    have g := sets_D (B := B) (v := v) (s := sx) hh hK hw upd_same (dk.mono le) (puts_nodup _ [] .nil) (vdm vk) ko sz (A := X.A.in1.in1) (by show X.A.units + 1 + 1 + 9 < cLine; omega)
    refine g Ex Qx fun h' ep2 hr sb => hQ h' _ ⟨entPut B.w p.1 (puts [] (kvs.take i)) es kk v, ep2, ⟨?_, fun b o e => ?_⟩, ?_, ?_⟩ sb
    · have w := hh.hok.write (x := D0) (e := D0) (o' := dctO D0 (entPut B.w p.1 (puts [] (kvs.take i)) es kk v) ep2) (by rw [upd_same]; trivial) (.inl rfl) (fun b u hb e => (sb.2 b hb).trans e) (by obtain ⟨o, ho, _⟩ := hr; exact ⟨o, ho⟩) ⟨hr, by obtain ⟨o, ho, _⟩ := hr; exact ⟨o, ho⟩, fun h1 h2 z st => z.at st⟩
      rw [L2.upd_upd] at w
      exact w
    · have nb : b ≠ D0 := fun z => by
        have := Heap.lt_size (I.kIn b o e)
        rw [z, ← hD] at this
        exact Nat.lt_irrefl _ this
      exact (sb.2 b nb).trans (hh.kin b o e)
    · rw [puts_take ep']
      exact entPut_ok dk vk vv ko
    · have := entPut_size (w := B.w) (k := p.1) (kvs := puts [] (kvs.take i)) (es := es) (u := kk) (v := v)
      omega
  · have J : Inv X pins σ (upd H D0 (dctO D0 es ep)) { s with heap := h', toks := tk } :=
      I.laid (t' := tk) (fun b o e => kept b o (fun z => by have := Heap.lt_size e; rw [z, ← hD] at this; exact Nat.lt_irrefl _ this) (by simp) (grow b o e)) (Nat.le_of_eq hD) (hh.hok D0 _ upd_same)
    rw [h2, List.take_length] at dk
    refine ⟨rfl, .ref D0, _, ?_, rfl, k D0 es ep fresh sys (by rw [← line_eq]; omega) dk⟩
    subst e1
    exact J
theorem plain_of {pins : List (Addr × Obj)} {s : Shared} {σ : L2.St} {H : Hp} {a : Addr} {ys : List V} (I : Inv X pins σ H s) (pt : PlT X.K H a ys) : ∃ (its : List Value) (n : Nat) (_ : Vals ys its), s.heap.get? a = some { cls := .type "tuple", data := .seq its.toArray n } := by
  rcases pt with ⟨its, e⟩ | ⟨o, its, n, k1, k2, k3, k4, _, k5⟩
  · obtain ⟨ho, _, its', ri, o', ho', hc', n', hd'⟩ := I.hok a _ e
    rw [ho] at ho'
    cases ho'
    have : its' = its := by
      have h1 : Data.seq its.toArray 0 = Data.seq its'.toArray n' := hd'
      injection h1 with h1 _
      simpa using h1.symm
    subst this
    exact ⟨its', 0, ri, ho⟩
  · have ho := I.kIn a o k1
    obtain ⟨oc, od, oda, osl⟩ := o
    obtain ⟨k3, k6⟩ := k3
    dsimp only at k2 k3 k4 k6
    subst k2 k3 k4 k6
    exact ⟨its.toList, n, k5, by simpa using ho⟩
theorem cr_dict (hK : X.K = B.K) (hw : X.w = B.w) (hu : X.A.units + 100 < cLine) (hc : X.calm = true) : CallR X (.type "dict") (rBlt B .dict) := by
  intro pins s σ H xs us Q I r ⟨F, v, d, w, ex, l, pk, hb, q⟩
  subst ex
  unfold bltD at hb
  simp only at hb
  split at hb
  · rename_i ds
    split at hb
    · rename_i hz
      obtain ⟨kvs, hk, rfl⟩ := Option.map_eq_some_iff.mp hb
      obtain ⟨a, ys, rfl, hr, dv⟩ := pk.lst l
      obtain ⟨u, rfl, ru⟩ := val1 r
      cases ru
      obtain ⟨its, ri, ⟨o, n, ho, hcl, hdn, hdt⟩, _⟩ := I.list (.inl hr)
      obtain ⟨Ts, ps, e1, e2, e3, e4, e5⟩ := couples_at (Inv.hi' I) hK l dv ri hk
      exact dict_of l hK hw hu hc I (PairArg.list a its.toArray _ ps) ⟨o, n, ho, hcl, hdn, hdt⟩ (by simpa using e1) e2 e3 (by omega) e5 fun p es ep hp hs hz dk => q _ F _ (.own l hp) ⟨p, rfl, hp, l.none hp, es, ep, upd_same, hs, hz, dk, puts_nodup _ [] .nil⟩
    · cases hb
  · rename_i ds
    split at hb
    · rename_i hz
      obtain ⟨kvs, hk, rfl⟩ := Option.map_eq_some_iff.mp hb
      obtain ⟨a, ys, rfl, hr, pt, dv⟩ := pk.tup l
      obtain ⟨u, rfl, ru⟩ := val1 r
      cases ru
      have plain := plain_of I (by rw [hK]; exact l.pT pt)
      obtain ⟨its, n0, ri, ho0⟩ := plain
      have hpl : PlainSeq "tuple" s.heap a its.toArray := ⟨_, n0, ho0, rfl, rfl, rfl⟩
      obtain ⟨Ts, ps, e1, e2, e3, e4, e5⟩ := couples_at (Inv.hi' I) hK l dv ri hk
      exact dict_of l hK hw hu hc I (PairArg.tuple a its.toArray _ ps) hpl (by simpa using e1) e2 e3 (by omega) e5 fun p es ep hp hs hz dk => q _ F _ (.own l hp) ⟨p, rfl, hp, l.none hp, es, ep, upd_same, hs, hz, dk, puts_nodup _ [] .nil⟩
    · cases hb
  · cases hb
end
end Mid
set_option Elab.async false
set_option linter.all false
set_option maxRecDepth 100000
set_option maxHeartbeats 4000000
/-! Statements that turn what a name owns. -/
namespace Mid
open PySem PySem.Spec PyProof.Rows
open L2 (Hp HO V RelV Vals SqL SqT Rd upd upd_same upd_ne OpR R2 Inv Cx EP VK TE TT TA TS WX XK PE PT PA PS PSs Ends)

section
variable {P : Pg} {R : Run} {C : Kx} {W : WX} {X : Cx}
variable {s s' : St} {σ : L2.St} {F H : Hp}
/-- what a name owns is written -/
theorem own_write (h : SR C s σ F H) {i : Nat} {d d' : D} {a : Addr} {o : HO} (e : s.c[i]? = some (.own d)) (eσ : σ[i]? = some (some (.ref a))) (od : OD C.toBk F (upd H a o) a d') : PostS C s σ F H (s.set i (.own d')) σ F (upd H a o) := by
  obtain ⟨b, e1, nf, hz, od0⟩ := h.c.sl i _ e
  rw [eσ] at e1
  cases e1
  obtain ⟨o0, ho⟩ := od0.some
  have hlt : i < s.c.length := (List.getElem?_eq_some_iff.mp e).1
  have own_of : ∀ {x : Addr}, Own (s.c.set i (.own d')) σ x → Own s.c σ x := fun {x} ⟨j, y, h1, h2⟩ => by
    rcases List.set_get? h1 with ⟨z, q⟩ | ⟨z, q⟩
    · subst z; exact ⟨j, d, e, h2⟩
    · exact ⟨j, y, q, h2⟩
  have nop : ¬ Own s.p C.σp a := h.dj a ⟨i, d, e, eσ⟩
  have od_at : ∀ {b : Addr} {y : D}, b ≠ a → OD C.toBk F H b y → OD C.toBk F (upd H a o) b y := fun {b y} n q => q.mono (.refl F) (upd_ne n)
  refine ⟨⟨fun b u q => ?_, ⟨by show σ.length = (s.c.set i (.own d')).length; rw [List.length_set]; exact h.c.len, fun j x q => ?_, fun j k x y b q1 q2 q3 q4 => ?_⟩, ⟨h.p.len, fun j x q => ?_, h.p.ne⟩, fun b q => h.dj b (own_of q), fun b q => h.zz b ?_, fun b q => h.zp b ?_, fun p hp => (h.tb p hp).mono (fun _ _ z => z) (h.tb p hp).1 fun _ _ => upd_ne (h.tb.ne ho (od0.ntb ho) p hp), h.cd⟩, ⟨.refl F, fun b u q _ n => ?_, fun b q1 q2 => absurd q1 q2, fun b q => ?_⟩, fun b q => q, fun _ _ => rfl⟩
  · by_cases z : b = a
    · subst z; rw [nf] at q; cases q
    · rw [upd_ne z]; exact h.le b u q
  · rcases List.set_get? q with ⟨z, rfl⟩ | ⟨z, q'⟩
    · subst z; exact ⟨a, by rw [eσ]; rfl, nf, hz, od⟩
    · have r := h.c.sl j x q'
      cases x with
      | own y =>
        obtain ⟨b, e1, e2, e3, e4⟩ := r
        exact ⟨b, e1, e2, e3, od_at (fun w => z (h.c.ne j i y d b q' e (join_some e1) (by rw [eσ, w]))) e4⟩
      | un => trivial
      | val y => exact r
      | exn x => exact r
      | clo ps b => exact r
  · have g : ∀ {j : Nat} {x : D}, (s.c.set i (.own d'))[j]? = some (Slot.own x) → ∃ x, s.c[j]? = some (Slot.own x) := fun {j x} q => by
      rcases List.set_get? q with ⟨z, _⟩ | ⟨_, q⟩
      · subst z; exact ⟨d, e⟩
      · exact ⟨x, q⟩
    obtain ⟨x1, w1⟩ := g q1
    obtain ⟨x2, w2⟩ := g q2
    exact h.c.ne j k x1 x2 b w1 w2 q3 q4
  · have r := h.p.sl j x q
    cases x with
    | own y =>
      obtain ⟨b, e1, e2, e3, e4⟩ := r
      exact ⟨b, e1, e2, e3, od_at (fun w => nop ⟨j, y, q, by rw [join_some e1, w]⟩) e4⟩
    | un => trivial
    | val y => exact r
    | exn x => exact r
    | clo ps b => exact r
  · by_cases z : b = a
    · subst z; rw [upd_same] at q; cases q
    · rw [upd_ne z] at q; exact q
  · by_cases z : b = a
    · subst z; rw [upd_same] at q; cases q
    · rw [upd_ne z] at q; exact q
  · rw [upd_ne (fun z => n (by rw [z]; exact .inl hz))]
    exact q
  · by_cases z : b = a
    · subst z; rw [upd_same] at q; cases q
    · rw [upd_ne z] at q; exact q
/-- a name's own list, by the name -/
theorem own_lst (h : SR C s σ F H) {i : Nat} {xs : List D} (e : slotAt s i = .own (.lst xs)) : ∃ a vs, σ[i]? = some (some (.ref a)) ∧ s.c[i]? = some (.own (.lst xs)) ∧ H a = some (.lst vs) ∧ DVs C.toBk F vs xs := by
  have q := slotAt_own e
  obtain ⟨a, e1, _, _, vs, ho, dv⟩ := h.c.sl i _ q
  exact ⟨a, vs, join_some e1, q, ho, dv⟩
theorem app_r (hm : C.mono) {i : Nat} {e : E} (D : Ends) (σ : L2.St) (H : Hp) (h : tS1 P R C W (.app i e) D σ H) : L2.tDrop (L2.tBM C.K "list" L2.rAppend (L2.tVar i) (L2.tCons (tE P R C W e) L2.tNil)) D σ H := by
  obtain ⟨F, s, hs, hw⟩ := h
  rw [evS] at hw
  split at hw
  · rename_i xs0 e0
    obtain ⟨a, vs, eσ, ec, ho, dv⟩ := own_lst hs e0
    refine ⟨.ref a, eσ, .inl ⟨rfl, vs, .inl (.inl ho)⟩, ?_⟩
    refine tS_e (D := D) hs hw fun w s1 v F1 H1 p r n hw1 => ?_
    obtain ⟨d, s2, F2, p2, dv2, q⟩ := take_ok hm p r n (Wp_bind.mp hw1)
    split at q
    · rename_i xs e1
      obtain ⟨b, ys, eb, ec2, ho2, dy⟩ := own_lst p2.sr e1
      rw [eσ] at eb
      cases eb
      split at q
      · rename_i hz
        refine ⟨a, ys, v, rfl, rfl, ho2, by rw [dy.length, ← line_eq]; exact hz, ?_⟩
        have pw := own_write (d' := .lst (xs ++ [d])) (o := .lst (ys ++ [v])) p2.sr ec2 eσ ⟨_, upd_same, dy.snoc dv2⟩
        exact q σ F2 _ ((p2.toPost.toS hs).trans pw)
      · exact q.elim
    · exact q.elim
  · exact hw.elim
/-- xs.extend(ys), ys a list or a tuple -/
def rExt (K : PySem.W.Frag) : V → List V → Hp → VK → Prop := fun x vs H Q => ∃ l b xs zs, x = .ref l ∧ vs = [.ref b] ∧ H l = some (.lst xs) ∧ (Rd H b (.lst zs) ∨ PlT K H b zs) ∧ xs.length + zs.length ≤ sizeLine ∧ Q .non (upd H l (.lst (xs ++ zs)))
theorem mt_ext : L2.MtR X "list.extend" (rExt X.K) := by
  intro pins s σ H x vs v us Q I rx rv ⟨l, b, xs, zs, ex, ev, hH, hB, hz, q⟩
  subst ex ev
  cases rx
  obtain ⟨u, rfl, ru⟩ := val1 rv
  cases ru
  obtain ⟨_, its, n, r, hl, e⟩ := rdL I (.inl hH)
  rcases hB with hB | hB
  · obtain ⟨_, its2, n2, r2, hl2, e2⟩ := rdL I hB
    have fit : its.toArray.size + its2.toArray.size ≤ sizeLine := by simp only [List.size_toArray]; omega
    refine call_meets F.slot_list_extend ⟨_, e, rfl⟩ F.entry_list_extend (F.args_list_extend_2 _ _) (AutoSeq1.list_extend_list_list_0 l its.toArray n b its2.toArray n2 (by rw [L2.notLongL fit, Bool.and_false]; exact Bool.false_ne_true) (by simp only [List.size_toArray]; omega) (by simp only [List.size_toArray]; omega)) ⟨e, e2, ?_⟩
    exact ⟨.non, _, I.lset (its' := its ++ its2) hH e (by simp) (r.append r2) (by rw [List.length_append]; omega), rfl, q⟩
  · obtain ⟨its2, n2, r2, e2⟩ := plain_of I hB
    have e20 := r2.length
    have fit : its.toArray.size + its2.toArray.size ≤ sizeLine := by simp only [List.size_toArray]; omega
    refine call_meets F.slot_list_extend ⟨_, e, rfl⟩ F.entry_list_extend (F.args_list_extend_2 _ _) (AutoSeq1.list_extend_list_tuple_0 l its.toArray n b its2.toArray n2 (by rw [L2.notLongL fit, Bool.and_false]; exact Bool.false_ne_true) (by simp only [List.size_toArray]; omega) (by simp only [List.size_toArray]; omega)) ⟨e, e2, ?_⟩
    exact ⟨.non, _, I.lset (its' := its ++ its2) hH e (by simp) (r.append r2) (by rw [List.length_append]; omega), rfl, q⟩
theorem ext_r (hm : C.mono) {i : Nat} {e : E} (D : Ends) (σ : L2.St) (H : Hp) (h : tS1 P R C W (.ext i e) D σ H) : L2.tDrop (L2.tBM C.K "list" (rExt C.K) (L2.tVar i) (L2.tCons (tE P R C W e) L2.tNil)) D σ H := by
  obtain ⟨F, s, hs, hw⟩ := h
  rw [evS] at hw
  split at hw
  · rename_i xs0 e0
    obtain ⟨a, vs, eσ, ec, ho, dv⟩ := own_lst hs e0
    refine ⟨.ref a, eσ, .inl ⟨rfl, vs, .inl (.inl ho)⟩, ?_⟩
    refine tS_e (D := D) hs hw fun w s1 v F1 H1 p r n hw1 => ?_
    split at hw1
    · rename_i ys xs e1 e2
      obtain ⟨b, us, eb, ec2, ho2, dy⟩ := own_lst p.sr e2
      rw [eσ] at eb
      cases eb
      split at hw1
      · rename_i hz
        obtain ⟨c, zs, rfl, hr, dz⟩ := (r.pk p.sr e1).lst p.sr.le
        refine ⟨a, c, us, zs, rfl, rfl, ho2, .inl hr, by rw [dy.length, dz.length, ← line_eq]; exact hz, ?_⟩
        exact hw1 σ F1 _ ((p.toPost.toS hs).trans (own_write (d' := .lst (xs ++ ys)) (o := .lst (us ++ zs)) p.sr ec2 eσ ⟨_, upd_same, dy.append dz⟩))
      · exact hw1.elim
    · rename_i ys xs e1 e2
      obtain ⟨b, us, eb, ec2, ho2, dy⟩ := own_lst p.sr e2
      rw [eσ] at eb
      cases eb
      split at hw1
      · rename_i hz
        obtain ⟨c, zs, rfl, hr, pt, dz⟩ := (r.pk p.sr e1).tup p.sr.le
        refine ⟨a, c, us, zs, rfl, rfl, ho2, .inr (p.sr.le.pT pt), by rw [dy.length, dz.length, ← line_eq]; exact hz, ?_⟩
        exact hw1 σ F1 _ ((p.toPost.toS hs).trans (own_write (d' := .lst (xs ++ ys)) (o := .lst (us ++ zs)) p.sr ec2 eσ ⟨_, upd_same, dy.append dz⟩))
      · exact hw1.elim
    · exact hw1.elim
  · exact hw.elim

/-! ### x[k] = v -/
def rSetM (B : Bk) : L2.TSet := fun o i v H Q => L2.rSetL o i v H Q ∨ ∃ a, o = .ref a ∧ (a == sysModules) = false ∧ rPut B a i v H Q
theorem pset_m {B : Bk} (hK : X.K = B.K) (hw : X.w = B.w) (hu : X.A.units + 100 < cLine) : L2.PSet X (rSetM B) := by
  intro pins s σ H o i v ov iv u Q I ro ri rv h
  rcases h with h | ⟨a, rfl, hs, es, ep, kvs, dk, ha, hes, hn, hz, dy, ko, hN⟩
  · exact L2.set_list pins s σ H o i v ov iv u Q I ro ri rv h
  · cases ro
    have g := sets_D (B := B) (v := u) (Inv.hi' I) hK hw ha hes hn ⟨i, ri, dy⟩ ko hz (A := X.A.in1) (by show X.A.units + 1 + 9 < cLine; omega)
    exact setItem_by (typeD (Inv.hi' I) ha) g fun h' ep' hr sb => ⟨_, set_inv I ha hr sb, hN iv u ep' ri rv⟩
theorem ixN_l2 {n : Nat} {i : Int} {j : Nat} (h : ixN n i = some j) : L2.ixN n i = some j := by
  unfold ixN at h
  unfold L2.ixN
  first | exact h | (split at h <;> simp_all)
theorem own_at (h : SR C s σ F H) {i : Nat} {d : D} (e : slotAt s i = .own d) : ∃ a, σ[i]? = some (some (.ref a)) ∧ s.c[i]? = some (.own d) ∧ OD C.toBk F H a d := by
  have q := slotAt_own e
  obtain ⟨a, e1, _, _, od⟩ := h.c.sl i _ q
  exact ⟨a, join_some e1, q, od⟩
theorem seti_r (hm : C.mono) {i : Nat} {k v : E} (D : Ends) (σ : L2.St) (H : Hp) (h : tS1 P R C W (.seti i k v) D σ H) : L2.tAsg (tE P R C W v) (L2.gSub (L2.tVar i) (tE P R C W k) (rSetM C.toBk)) D σ H := by
  obtain ⟨F, s, hs, hw⟩ := h
  rw [evS] at hw
  split at hw
  · rename_i d0 e0
    obtain ⟨a, eσ, _, _⟩ := own_at hs e0
    refine tS_e (D := D) hs hw fun w s1 x F1 H1 p r n hw1 => ?_
    obtain ⟨d, s2, F2, p2, dv, q⟩ := take_ok hm p r n (Wp_bind.mp hw1)
    refine ⟨.ref a, eσ, ?_⟩
    have q' : Wp ((evE P R k s2).bind fun u s => (take s u).bind fun k s => match slotAt s i with
      | .own (.lst xs) => match k with
        | .int j => match setL xs j d with
          | some ys => .ok .nx (s.set i (.own (.lst ys)))
          | none => .stk "seti"
        | _ => .stk "seti"
      | .own (.dic kvs) => if keyOk k && decide (kvs.length < line) then .ok .nx (s.set i (.own (.dic (put k d kvs)))) else .stk "seti key"
      | _ => .stk "seti") (QS C s2 σ F2 H1 D) (NS C W s2 σ F2 H1) := Wp.mono q (fun _ _ z => z.step (p2.toPost.toS hs)) fun _ _ z => z.step (p2.toPost.toS hs)
    refine tS_e (D := D) p2.sr q' fun w3 s3 x3 F3 H3 p3 r3 n3 hw3 => ?_
    obtain ⟨kd, s4, F4, p4, dk, q4⟩ := take_ok hm p3 r3 n3 (Wp_bind.mp hw3)
    have dv4 := dv.mono p4.st.le
    split at q4
    · rename_i xs e4
      obtain ⟨b, eb, ec, ys, ho, dy⟩ := own_at p4.sr e4
      rw [eσ] at eb
      cases eb
      split at q4
      · rename_i j
        split at q4
        · rename_i zs ez
          unfold setL at ez
          obtain ⟨m, hm', rfl⟩ := Option.map_eq_some_iff.mp ez
          cases dk
          rw [← dy.length] at hm'
          refine .inl ⟨a, ys, j, m, rfl, rfl, ho, ixN_l2 hm', ?_⟩
          exact q4 σ F4 _ ((p4.toPost.toS p2.sr).trans (own_write (d' := .lst (xs.set m d)) (o := .lst (ys.set m x)) p4.sr ec eσ ⟨_, upd_same, dy.set m dv4⟩))
        · exact q4.elim
      · exact q4.elim
    · rename_i kvs e4
      obtain ⟨b, eb, ec, es, ep, ho, hsy, hz, dks, nd⟩ := own_at p4.sr e4
      rw [eσ] at eb
      cases eb
      split at q4
      · rename_i hk
        rw [Bool.and_eq_true, decide_eq_true_eq] at hk
        have hsz : es.size = kvs.length := by rw [← dks.length, Array.length_toList]
        refine .inr ⟨a, rfl, hsy, es, ep, kvs, kd, ho, dks.mono p4.sr.le, nd, hz, dk.mono p4.sr.le, hk.1, fun u w ep' ru rw' => ?_⟩
        refine q4 σ F4 _ ((p4.toPost.toS p2.sr).trans (own_write (d' := .dic (put kd d kvs)) (o := dctO a (entPut C.w kd kvs es u w) ep') p4.sr ec eσ ⟨_, ep', upd_same, hsy, ?_, entPut_ok dks ⟨_, ru, dk⟩ ⟨_, rw', dv4⟩ hk.1, put_nodup nd⟩))
        have := entPut_size (w := C.w) (k := kd) (kvs := kvs) (es := es) (u := u) (v := w)
        rw [line_eq] at hk
        omega
      · exact q4.elim
    · exact q4.elim
  · exact hw.elim

/-! ### x op= e -/
def rAug (B : Bk) (o : Bop) : L2.TIp := fun x y H Q => ∃ F d e w, Le F H ∧ PK B F H x d ∧ PK B F H y e ∧ augD o d e = some w ∧ ∀ v F', DV B F' v w → F' = F → Q v H
theorem pip_m {B : Bk} (o : Bop) : L2.PIp X o.py (rAug B o) := by
  intro pins s σ H x y v u Q I rx ry ⟨F, d, e, w, l, px, py, hb, q⟩
  unfold augD at hb
  split at hb
  · obtain rfl := px.int
    obtain rfl := py.int
    cases hb
    exact L2.augR L2.iop_add I rx ry ⟨_, _, rfl, rfl, q _ F (.int _) rfl⟩
  · obtain rfl := px.int
    obtain rfl := py.int
    cases hb
    exact L2.augR L2.iop_sub I rx ry ⟨_, _, rfl, rfl, q _ F (.int _) rfl⟩
  · obtain rfl := px.int
    obtain rfl := py.int
    split at hb
    · rename_i hm
      cases hb
      refine L2.augR L2.iop_mul I rx ry ⟨_, _, rfl, rfl, ?_, q _ F (.int _) rfl⟩
      simp only [mulOk, Bool.or_eq_true, Bool.and_eq_true, decide_eq_true_eq] at hm
      exact hm
    · cases hb
  · obtain rfl := px.int
    obtain rfl := py.int
    split at hb
    · rename_i hm
      cases hb
      exact L2.augR L2.iop_fdiv I rx ry ⟨_, _, rfl, rfl, hm, q _ F (.int _) rfl⟩
    · cases hb
  · obtain rfl := px.int
    obtain rfl := py.int
    split at hb
    · rename_i hm
      cases hb
      exact L2.augR L2.iop_mod I rx ry ⟨_, _, rfl, rfl, hm, q _ F (.int _) rfl⟩
    · cases hb
  · cases hb
theorem aug_r {i : Nat} {o : Bop} {e : E} (hi : i ∉ C.fx) (D : Ends) (σ : L2.St) (H : Hp) (h : tS1 P R C W (.aug i o e) D σ H) : L2.tAug i (tE P R C W e) (rAug C.toBk o) D σ H := by
  obtain ⟨F, s, hs, hw⟩ := h
  rw [evS] at hw
  split at hw
  · rename_i d e0
    obtain ⟨v0, e1, dv⟩ := hs.c.sl i _ (slotAt_val e0)
    refine ⟨v0, join_some e1, ?_⟩
    refine tS_e (D := D) hs hw fun w s1 x F1 H1 p r n hw1 => ?_
    split at hw1
    · rename_i y ey
      split at hw1
      · rename_i z ez
        refine ⟨F1, d, y, z, p.sr.le, .inl (dv.mono p.st.le), r.pk p.sr ey, ez, fun v F' hv eF => ?_⟩
        subst eF
        exact hw1 _ F' H1 ((p.toPost.toS hs).trans (.setVal p.sr hi hv))
      · exact hw1.elim
    · exact hw1.elim
  · exact hw.elim
theorem asgp_r (hm : C.mono) {ts : List T} {e : E} (hi : ∀ j ∈ (T.pr ts).nms, j ∉ C.fx) (D : Ends) (σ : L2.St) (H : Hp) (h : tS1 P R C W (.asg (.pr ts) e) D σ H) : L2.tAsg (tE P R C W e) (gT C.K (.pr ts)) D σ H := by
  obtain ⟨F, s, hs, hw⟩ := h
  rw [evS] at hw
  refine tS_e (D := D) hs hw fun w s1 x F1 H1 p r n hw1 => ?_
  obtain ⟨d, s2, F2, p2, dv, q⟩ := take_ok hm p r n (Wp_bind.mp hw1)
  split at q
  · rename_i s3 e3
    exact gT_ok (.pr ts) p2.sr dv e3 hi fun σ' p3 _ => q σ' F2 H1 ((p2.toPost.toS hs).trans p3)
  · exact q.elim
/-- x[k], a list's -/
def rGetL (B : Bk) : V → V → Hp → VK → Prop := fun o i H Q => ∃ p xs k v, o = .ref p ∧ i = .int k ∧ SqL B.K H p xs ∧ L2.atI xs k = some v ∧ Q v H
theorem augi_r (hm : C.mono) {i : Nat} {o : Bop} {k e : E} (D : Ends) (σ : L2.St) (H : Hp) (h : tS1 P R C W (.augi i k o e) D σ H) :
    L2.tAugS (L2.tVar i) (tE P R C W k) (tE P R C W e) (rGetL C.toBk) (rAug C.toBk o) L2.rSetL D σ H := by
  obtain ⟨F, s, hs, hw⟩ := h
  rw [evS] at hw
  split at hw
  · rename_i d0 e0
    obtain ⟨a, eσ, _, _⟩ := own_at hs e0
    refine ⟨.ref a, eσ, ?_⟩
    refine tS_e (D := D) hs hw fun w s1 x F1 H1 p r n hw1 => ?_
    split at hw1
    · rename_i j xs ej exs
      obtain ⟨b, eb, ec, ys, ho, dy⟩ := own_at p.sr exs
      rw [eσ] at eb
      cases eb
      split at hw1
      · rename_i d ed
        obtain ⟨v0, ev, dv⟩ := dy.atI ed
        refine ⟨a, ys, j, v0, rfl, (r.pk p.sr ej).int, .inl (.inl ho), ev, ?_⟩
        have hw2 : Wp ((evE P R e s1).bind fun w s => match peek s w, slotAt s i with
          | some y, .own (.lst xs) => match augD o d y with
            | some z => match setL xs j z with
              | some ys => .ok .nx (s.set i (.own (.lst ys)))
              | none => .stk "augi"
            | none => .stk "augi"
          | _, _ => .stk "augi") (QS C s1 σ F1 H1 D) (NS C W s1 σ F1 H1) := Wp.mono hw1 (fun _ _ z => z.step (p.toPost.toS hs)) fun _ _ z => z.step (p.toPost.toS hs)
        refine tS_e (D := D) p.sr hw2 fun w2 s2 x2 F2 H2 p2 r2 n2 hw3 => ?_
        split at hw3
        · rename_i y xs2 ey exs2
          obtain ⟨b, eb, ec2, us, ho2, du⟩ := own_at p2.sr exs2
          rw [eσ] at eb
          cases eb
          split at hw3
          · rename_i z ez
            split at hw3
            · rename_i zs ezs
              unfold setL at ezs
              obtain ⟨m, hm', rfl⟩ := Option.map_eq_some_iff.mp ezs
              rw [← du.length] at hm'
              refine ⟨F2, d, y, z, p2.sr.le, .inl (dv.mono p2.st.le), r2.pk p2.sr ey, ez, fun v F' hv eF => ?_⟩
              subst eF
              refine ⟨a, us, j, m, rfl, (r.pk p.sr ej).int, ho2, ixN_l2 hm', ?_⟩
              exact hw3 σ F' _ ((p2.toPost.toS p.sr).trans (own_write (d' := .lst (xs2.set m z)) (o := .lst (us.set m v)) p2.sr ec2 eσ ⟨_, upd_same, du.set m hv⟩))
            · exact hw3.elim
          · exact hw3.elim
        · exact hw3.elim
      · exact hw1.elim
    · exact hw1.elim
  · exact hw.elim

/-! ### x, y = a, b -/
/-- what is about to be stored -/
def SlV (C : Kx) (s : St) (σ : L2.St) (F H : Hp) (v : V) : Slot → Prop
  | .val d => DV C.toBk F v d
  | .own d => RW C s σ F H v (.own d)
  | _ => False
theorem SlV.post {s s' : St} {σ : L2.St} {F H F' H' : Hp} {v : V} {x : Slot} (h : SlV C s σ F H v x) (p : PE' C s σ F H s' F' H') : SlV C s' σ F' H' v x := by
  cases x with
  | val d => exact DV.mono p.st.le h
  | own d => exact (show RW C s σ F H v (.own d) from h).post p
  | _ => exact h.elim
/-- one of them -/
theorem par_one (hm : C.mono) {β : Type} {e : E} {f : Slot → St → Out β} {σ : L2.St} {F H : Hp} {s : St} {Q' : β → St → Prop} {D : Ends} {Q : VK} (h : SR C s σ F H)
    (hw : Wp ((evE P R e s).bind fun w s => match w with | .own d => f (.own d) s | w => (take s w).bind fun d s => f (.val d) s) Q' (NS C W s σ F H))
    (k : ∀ x s1 v F1 H1, PE' C s σ F H s1 F1 H1 → SlV C s1 σ F1 H1 v x → (∀ d, x = .own d → ∀ a, v = .ref a → H a = none) → Wp (f x s1) Q' (NS C W s σ F H) → Q v H1) : tE P R C W e σ H Q := by
  refine tS_e (D := D) h hw fun w s1 v F1 H1 p r n hw1 => ?_
  cases w with
  | own d => exact k (.own d) s1 v F1 H1 p r (fun d' z a e => by cases z; exact n d rfl a e) hw1
  | val d => exact k (.val d) s1 v F1 H1 p r (fun d' z => by cases z) hw1
  | pl i =>
    obtain ⟨d, s2, F2, p2, dv, q⟩ := take_ok hm p r n (Wp_bind.mp hw1)
    exact k (.val d) s2 v F2 H1 p2 dv (fun d' z => by cases z) q
theorem store_slot {s : St} {σ : L2.St} {F H : Hp} (h : SR C s σ F H) {i : Nat} (hi : i ∉ C.fx) {v : V} {x : Slot} (r : SlV C s σ F H v x) : PostS C s σ F H (s.set i x) (σ.set i (some v)) F H := by
  cases x with
  | val d => exact .setVal h hi r
  | own d => exact .setOwn h hi r
  | _ => exact r.elim
/-- the second of two -/
def parIn (P : Pg) (R : Run) (b : E) (G : Slot → St → Out Fl) (s : St) : Out Fl := (evE P R b s).bind fun w s => match w with
  | .own d => G (.own d) s
  | w => (take s w).bind fun d s => G (.val d) s
theorem par_r (hm : C.mono) {i j : Nat} {a b : E} (hi : i ∉ C.fx) (hj : j ∉ C.fx) (D : Ends) (σ : L2.St) (H : Hp) (h : tS1 P R C W (.par [i, j] [a, b]) D σ H) : L2.tPar i j (L2.tCons (tE P R C W a) (L2.tCons (tE P R C W b) L2.tNil)) D σ H := by
  obtain ⟨F, s, hs, hw⟩ := h
  rw [evS, evPs] at hw
  have hw1 : Wp ((evE P R a s).bind fun w s => match w with
      | .own d => parIn P R b (fun y s => .ok .nx (setAll [i, j] [.own d, y] s)) s
      | w => (take s w).bind fun d s => parIn P R b (fun y s => .ok .nx (setAll [i, j] [.val d, y] s)) s) (QS C s σ F H D) (NS C W s σ F H) := by
    have inner : ∀ (x : Slot) (s : St) {Q : Fl → St → Prop} {N : Mid.X → St → Prop}, Wp (((evPs P R [b] s).bind fun l s => (.ok (x :: l) s : Out (List Slot))).bind fun l s => (.ok .nx (setAll [i, j] l s) : Out Fl)) Q N → Wp (parIn P R b (fun y s => .ok .nx (setAll [i, j] [x, y] s)) s) Q N := fun x s {Q N} h => by
      rw [evPs] at h
      unfold parIn
      refine Wp_bind.mpr (Wp.mono (Wp_bind.mp (Wp_bind.mp (Wp_bind.mp h))) (fun w s' z => ?_) fun _ _ z => z)
      cases w with
      | own d => rw [evPs] at z; exact z
      | val d => rw [evPs] at z; exact z
      | pl m =>
        refine Wp_bind.mpr (Wp.mono (Wp_bind.mp z) (fun d s'' z => ?_) fun _ _ z => z)
        rw [evPs] at z
        exact z
    refine Wp_bind.mpr (Wp.mono (Wp_bind.mp (Wp_bind.mp hw)) (fun w s' z => ?_) fun _ _ z => z)
    cases w with
    | own d => exact inner (.own d) s' (Wp_bind.mpr z)
    | val d => exact inner (.val d) s' (Wp_bind.mpr z)
    | pl m => exact Wp_bind.mpr (Wp.mono (Wp_bind.mp z) (fun d s'' z => inner (.val d) s'' (Wp_bind.mpr z)) fun _ _ z => z)
  refine par_one (D := D) (f := fun x s => parIn P R b (fun y s => .ok .nx (setAll [i, j] [x, y] s)) s) hm hs hw1 fun x s1 v F1 H1 p1 r1 n1 q1 => ?_
  have q1' := Wp.mono q1 (fun _ _ z => QS.step (p1.toPost.toS hs) z) fun _ _ z => NS.step (p1.toPost.toS hs) z
  unfold parIn at q1'
  refine par_one (D := D) (f := fun y s => (Out.ok Fl.nx (setAll [i, j] [x, y] s) : Out Fl)) hm p1.sr q1' fun y s2 w F2 H2 p2 r2 n2 q2 => ?_
  refine ⟨v, w, rfl, ?_⟩
  have r1' := r1.post p2
  have e1 := store_slot p2.sr hi r1'
  have r2' : SlV C (s2.set i x) (σ.set i (some v)) F2 H2 w y := by
    cases y with
    | val d => exact r2
    | own d =>
      obtain ⟨a2, e, nf, no, hz, hzp, od⟩ := r2
      refine ⟨a2, e, nf, fun z => ?_, hz, hzp, od⟩
      rcases z with z | z
      · rcases own_set2 z with ⟨d', ex, ev⟩ | z
        · subst ex
          obtain ⟨a1, ea, _, _, _, _, od1⟩ := r1
          have hn := n2 d rfl a2 e
          obtain ⟨o, ho⟩ := od1.some
          cases ev
          cases ea
          rw [hn] at ho
          cases ho
        · exact no (.inl z)
      · exact no (.inr z)
    | _ => exact r2.elim
  exact q2 _ F2 H2 ((p2.toPost.toS p1.sr).trans (e1.trans (store_slot e1.sr hj r2')))
end
end Mid
set_option Elab.async false
set_option linter.all false
set_option maxRecDepth 100000
set_option maxHeartbeats 4000000
/-! isinstance, chains. -/
namespace Mid
open PySem PySem.Spec PyProof.Rows
open L2 (Hp HO V RelV Vals SqL SqT Rd upd upd_same upd_ne OpR R2 Inv Cx EP VK TE TT TA TS WX XK PE PT PA PS PSs Ends TyX ClsV)

def Ty.nm : Ty → String
  | .int => "int"
  | .bool => "bool"
  | .str => "str"
  | .tuple => "tuple"
  | .list => "list"
/-- the type's name of a thing -/
def tyN : D → String
  | .non => "NoneType"
  | .bl _ => "bool"
  | .int _ => "int"
  | .str _ => "str"
  | .tup _ => "tuple"
  | .lst _ => "list"
  | .dic _ => "dict"
  | .fn _ => "function"
theorem kit_all (t : Ty) (d : D) {b : Bool} (h : isTyO t d = some b) : L2.kitB (tyN d) t.nm = some b := by
  cases d with
  | dic _ => cases h
  | fn _ => cases h
  | _ => cases t <;> (simp only [isTyO, isTy, Option.some.injEq] at h; subst h; simp only [tyN, Ty.nm]; decide +kernel)
section
variable {P : Pg} {R : Run} {C : Kx} {W : WX} {X : Cx}
theorem tyx_of {F H : Hp} {v : V} {d : D} (l : Le F H) (p : PK C.toBk F H v d) {t : Ty} {b : Bool} (h : isTyO t d = some b) : TyX C.K H v (.type (tyN d)) := by
  have rd : ∀ {a : Addr} {xs : List V}, Rd H a (.lst xs) → TyX C.K H (.ref a) (.type "list") := fun {a xs} r => by
    rcases r with r | ⟨o, r⟩
    · exact .base (.lst r)
    · exact .base (.frz r)
  rcases p with dv | ⟨a, rfl, od⟩
  · cases dv with
    | non => exact .base .non
    | bl b => exact .base (.bl b)
    | int i => exact .base (.int i)
    | str s => exact .base (.str _)
    | tup pt q =>
      rcases pt with ⟨its, e⟩ | ⟨o, its, n, k1, k2, _⟩
      · exact .fTuple (l _ _ e)
      · exact .kTuple k1 k2
    | lst r q => exact rd (l.rd r)
    | dic _ _ _ _ _ => cases h
    | fn _ => cases h
  · cases d with
    | lst ds => obtain ⟨xs, e, _⟩ := od; exact rd (.inl e)
    | dic kvs => cases h
    | _ => exact od.elim
theorem isi_r (hm : C.mono) {a : E} {t : Ty} (σ : L2.St) (H : Hp) (Q : VK) (h : tE P R C W (.isi a t) σ H Q) : L2.tCB (L2.rIsi C.K) (L2.tCons (tE P R C W a) (L2.tCons (L2.tC (.ty t.nm)) L2.tNil)) σ H Q := by
  obtain ⟨F, s, hs, hw⟩ := h
  rw [evE] at hw
  refine tE_bind hs hw fun w s1 v F1 H1 p r n hw1 => ?_
  split at hw1
  · rename_i d e
    split at hw1
    · rename_i b eb
      exact ⟨v, .ty t.nm, .type (tyN d), .type t.nm, b, rfl, .ty _, tyx_of p.sr.le (r.pk p.sr e) eb, L2.kit_ty (kit_all t d eb), hw1 (.bl b) F1 H1 p (.bl b) .val⟩
    · exact hw1.elim
  · exact hw1.elim

/-! ### slices -/
def PRd (P : Pg) (R : Run) (C : Kx) (W : WX) (lo : E) (tl : L2.TO) : Prop := ∀ {β : Type} {f : D → St → Out β} {Q' : β → St → Prop} {σ : L2.St} {F H : Hp} {s : St} {K : Option Int → Hp → Prop}, SR C s σ F H → Wp ((partV lo (evE P R lo s)).bind f) Q' (NX C W s σ F H) →
  (∀ d o s1 F1 H1, PE' C s σ F H s1 F1 H1 → PartOf o d → Wp (f d s1) Q' (NX C W s1 σ F1 H1) → K o H1) → tl σ H K
theorem pRd_none : PRd P R C W (.cst .non) L2.tNoPart := fun {β f Q' σ F H s K} h hw k => by
  unfold partV at hw
  rw [evE] at hw
  exact k .non none s F H (.refl h) (.inl ⟨rfl, rfl⟩) hw
theorem pRd_some {lo : E} (hl : lo ≠ .cst .non) : PRd P R C W lo (L2.tPart (tE P R C W lo)) := fun {β f Q' σ F H s K} h hw k => by
  have e : partV lo (evE P R lo s) = (evE P R lo s).bind fun w s => match w with
    | .val (.int i) => .ok (.int i) s
    | _ => .stk "part" := by
    unfold partV
    split
    · exact absurd rfl hl
    · rfl
  rw [e] at hw
  refine tE_bind (f := fun w s => (match w with
    | .val (.int i) => .ok (.int i) s
    | _ => .stk "part" : Out D).bind f) h (Wp_bind.mpr (Wp.mono (Wp_bind.mp (Wp_bind.mp hw)) (fun _ _ q => Wp_bind.mpr q) fun _ _ z => z)) fun w s1 v F1 H1 p r n hw1 => ?_
  cases w with
  | val d =>
    cases d with
    | int i =>
      cases r
      exact ⟨i, rfl, k (.int i) (some i) s1 F1 H1 p (.inr ⟨i, rfl, rfl⟩) hw1⟩
    | _ => exact hw1.elim
  | _ => exact hw1.elim
theorem slc_r (hm : C.mono) {a lo hi : E} {tl th : L2.TO} (hl : PRd P R C W lo tl) (hh : PRd P R C W hi th) (σ : L2.St) (H : Hp) (Q : VK) (h : tE P R C W (.slc a lo hi (.cst .non)) σ H Q) : L2.tSl (rSlm C.toBk) (tE P R C W a) tl th σ H Q := by
  obtain ⟨F, s, hs, hw⟩ := h
  rw [evE] at hw
  refine tE_bind hs hw fun w s1 v F1 H1 p r n hw1 => ?_
  refine hl p.sr hw1 fun d1 o1 s2 F2 H2 p2 k1 hw2 => ?_
  refine hh p2.sr hw2 fun d2 o2 s3 F3 H3 p3 k2 hw3 => ?_
  unfold partV at hw3
  rw [evE] at hw3
  have hw4 : Wp (match peek s3 w with
    | some d => Out.opt s3 "slc" (slcD d d1 d2 .non)
    | none => .stk "slc") (QX C s σ F H Q) (NX C W s3 σ F3 H3) := hw3
  split at hw4
  · rename_i d e
    obtain ⟨w', ew, q⟩ := Wp_opt hw4
    have p13 := p.trans (p2.trans p3)
    exact ⟨F3, d, d1, d2, w', p3.sr.le, (r.post (p2.trans p3)).pk p3.sr e, k1, k2, ew, fun v' F' H' al rn => q v' F' H' (p13.trans (p3.sr.alP hm al)) (rn.rw p3.sr) (rn.nw.back fun a h => p13.st.there a h)⟩
  · exact hw4.elim

/-! ### a < b <= c -/
theorem chain_r {o o' : Cop} {a b c : E} (σ : L2.St) (H : Hp) (Q : VK) (h : tE P R C W (.chain o o' a b c) σ H Q) : L2.tChain (rCmp C.toBk o) (rCmp C.toBk o') (tE P R C W a) (tE P R C W b) (tE P R C W c) σ H Q := by
  obtain ⟨F, s, hs, hw⟩ := h
  rw [evE] at hw
  refine tE_bind hs hw fun w s1 x F1 H1 p1 r1 n1 hw1 => tE_bind p1.sr hw1 fun w2 s2 y F2 H2 p2 r2 n2 hw2 => ?_
  have r1' := r1.post p2
  have p12 := p1.trans p2
  split at hw2
  · rename_i d e ed ee
    split at hw2
    · rename_i ec
      refine ⟨F2, d, e, true, p2.sr.le, r1'.pk p2.sr ed, r2.pk p2.sr ee, ec, true, rfl, ?_⟩
      rw [if_pos rfl]
      refine tE_bind p2.sr hw2 fun w3 s3 z F3 H3 p3 r3 n3 hw3 => ?_
      have r2' := r2.post p3
      split at hw3
      · rename_i e' f ee' ef
        split at hw3
        · rename_i k ek
          exact ⟨F3, e', f, k, p3.sr.le, r2'.pk p3.sr ee', r3.pk p3.sr ef, ek, hw3 (.bl k) F3 H3 (p12.trans p3) (.bl k) .val⟩
        · exact hw3.elim
      · exact hw3.elim
    · rename_i ec
      refine ⟨F2, d, e, false, p2.sr.le, r1'.pk p2.sr ed, r2.pk p2.sr ee, ec, false, rfl, ?_⟩
      rw [if_neg Bool.false_ne_true]
      exact hw2 (.bl false) F2 H2 p12 (.bl false) .val
    · exact hw2.elim
  · exact hw2.elim
theorem lastMk {o o' : Cop} {eb ec : Expr} (h : behindInMarks o'.py ec = false) : lastMarks [o.py, o'.py] [eb, ec] = false := h
theorem be_chain (hK : X.K = C.K) (hw : X.w = C.w) (hu : X.A.units + 100 < cLine) {ea eb ec : Expr} {pos : Pos} {o o' : Cop} {a b c : E} (ha : BE P R C W X ea a) (hb : BE P R C W X eb b) (hc : BE P R C W X ec c) (hm : behindInMarks o'.py ec = false) : BE P R C W X (.Compare ea [o.py, o'.py] [eb, ec] pos) (.chain o o' a b c) :=
  ⟨PE.imp (L2.pe_chain (op_cmp hK hw hu o) (op_cmp hK hw hu o') ha.pe hb.pe hc.pe (lastMk hm)) chain_r, pt_testOf (L2.pt_chain (op_cmp hK hw hu o) (op_cmp hK hw hu o') ha.pe hb.pe hc.pe (lastMk hm)) chain_r⟩

/-! ### x[k] of a list, for x[k] op= e -/
theorem pget_m {B : Bk} (hK : X.K = B.K) : L2.PGet X (rGetL B) := by
  intro pins s σ H o i ov iv Q I ro ri ⟨p, xs, k, v, eo, ei, hq, ev, q⟩
  subst eo ei
  cases ro
  obtain ⟨t, rfl⟩ := ri
  obtain ⟨its, r, pl, _⟩ := I.list (by rw [hK]; exact hq)
  obtain ⟨j, e1, e2, e3, e4, e5⟩ := L2.atI_get ev
  obtain ⟨u, eu, ru⟩ := r.get e2
  have el := r.length
  have l63 := L2.line63
  have done : EP X pins σ Q u s := ⟨v, H, I, ru, q⟩
  by_cases h0 : 0 ≤ k
  · have ej : k.toNat = j := by
      rw [seqIndex_of h0 e5] at e1
      exact Option.some.inj e1
    exact wpAny_getItem_list pl.isList h0 (by omega) (by rw [ej]; simpa using eu) done
  · have ej : (k + (its.toArray.size : Int)).toNat = j := by
      rw [seqIndex_neg (by omega) e4] at e1
      rw [List.size_toArray, ← el]
      exact Option.some.inj e1
    exact wpAny_getItem_list_neg pl.isList (by omega) (by rw [List.size_toArray]; omega) (by omega) (by rw [ej]; simpa using eu) done

/-! ### a if c else b as a test; {} -/
theorem be_iteB {ec ea eb : Expr} {pos : Pos} {c a b : E} (hc : BE P R C W X ec c) (ha : BE P R C W X ea a) (hb : BE P R C W X eb b) : BE P R C W X (.IfExp ec ea eb pos) (.ite c a b) := by
  refine ⟨be_ite hc ha hb, ⟨fun pins s σ H Q I ⟨F, st, hs, hw⟩ => ?_⟩⟩
  rw [evE] at hw
  have h : tT P R C W c σ H fun k H1 => if k = true then tT P R C W a σ H1 Q else tT P R C W b σ H1 Q := by
    refine tT_bind hs hw fun k s1 F1 H1 p1 q => ?_
    cases k with
    | true =>
      rw [if_pos rfl] at q ⊢
      exact tT_rest p1 q
    | false =>
      rw [if_neg Bool.false_ne_true] at q ⊢
      exact tT_rest p1 q
  show wpAny _ _ (do if ← isTrue ec X.env (eval ec X.env) then isTrue ea X.env (eval ea X.env) else isTrue eb X.env (eval eb X.env)) _ _ _
  refine wpAny_bind (L2.thn (hc.pt.run pins s σ H _ I h) fun k s1 ⟨H1, I1, q1⟩ => ?_)
  cases k with
  | true =>
    rw [if_pos rfl] at q1 ⊢
    exact ha.pt.run pins s1 σ H1 Q I1 q1
  | false =>
    rw [if_neg Bool.false_ne_true] at q1 ⊢
    exact hb.pt.run pins s1 σ H1 Q I1 q1
theorem pe_dnewM {pos : Pos} : PE X (.Dict [] [] pos) (fun σ H Q => ∀ p, H p = none → (p == sysModules) = false → Q (.ref p) (upd H p (dctO p #[] 0))) :=
  ⟨fun pins s σ H Q I h => wpAny_Dict_empty ⟨.ref s.heap.objs.size, _, I.laid (t' := s.toks) (fun _ _ q => Heap.get?_push_of_some _ q) (Nat.le_refl _) (dct_new s.heap), rfl, h _ I.fresh (beq_eq_false_iff_ne.mpr (Nat.ne_of_gt I.big))⟩⟩

/-! ### name = {..} on one line -/
theorem ps_setDcM {B : Bk} {i : Nat} {y : Str} {py spos pos : Pos} {ek ev tg src : Expr} {tests : List Expr} {scope : Scope} {own : List (Str × Nat)} {wi : L2.TI} {g : L2.TG} {tt : TT} {tk tv : TE}
    (hK : X.K = B.K) (hw : X.w = B.w) (hu : X.A.units + 100 < cLine) (calm : X.calm = true) (nd : X.N.Nodup) (hy : X.N[i]? = some y) (hyl : X.env.scope.names.lookup y = some .local)
    (hsw : swapsWith (.DictComp ek ev [⟨tg, src, tests, 0⟩] scope pos) (some (.Name y py)) spos.line X.env = pure true) (psrc : L2.PI X tg src wi) (ok : L2.BlkOk X.N X.env.scope scope own)
    (ptg : InBlk X scope fun Y => L2.PG Y tg g) (ptt : InBlk X scope fun Y => L2.PTs Y tests tt) (pk : InBlk X scope fun Y => PE Y ek tk) (pv : InBlk X scope fun Y => PE Y ev tv) (nofold : ∀ x, foldedSetIterable src X.env x = pure x) :
    PS X (.Assign [.Name y py] (.DictComp ek ev [⟨tg, src, tests, 0⟩] scope pos) spos) (L2.tAsg (tDcM B wi g tt tk tv (own.map (·.2))) (L2.gName i)) := by
  refine ⟨fun pins s σ H D I h => ?_⟩
  rw [exec_Assign_Name_used _ _ _ _ hsw]
  have h' : tDcM B wi g tt tk tv (own.map (·.2)) σ H (fun x H1 => D.nx (σ.set i (some x)) H1) := h
  refine wpAny_bind (wpAny_standAt (wpAny_bind ?_))
  show wpAny _ X.A (do let _ ← comprehension (.DictComp ek ev [⟨tg, src, tests, 0⟩] scope pos) scope X.env (firstIterPos [⟨tg, src, tests, 0⟩] pos) newDict false (eval src X.env) (some (assign (.Name y py) X.env))) _ _ s
  refine wpAny_bind (L2.thn (dcM_core (Qf := fun _ z => L2.SP X pins D .next z) hK hw hu calm nd I psrc ok ptg ptt pk pv nofold h' fun L C s' m H' J q hn f => ?_) fun _ s' hq => wpAny_pure (wpAny_pure hq))
  show wpAny _ _ (assign (.Name y py) X.env (.ref L)) _ _ _
  refine wpAny_assign_Name (L2.store_ok2 (v := V.ref L) J nd hy (.inl hyl) rfl (fun s2 J2 ⟨a, sb, ha⟩ => ?_) (.inr hyl))
  have apart : C ≠ a := ha.elim (fun z => by rw [z]; exact f.2.1) fun z e => f.2.2.2.2.1 y a z e.symm
  exact ⟨m, hn.sameBut sb apart, fun h3 sb3 => ⟨_, H', J2.turned (t' := s2.toks) (fun b o hb e => (sb3.2 b hb).trans e) f.1 f.2.1 f.2.2.2.1 f.2.2.2.2.1 f.2.2.2.2.2, q⟩⟩
end
end Mid
set_option Elab.async false
set_option linter.all false
set_option maxRecDepth 100000
set_option maxHeartbeats 4000000
/-! xs[::-1] of lists and tuples. -/
namespace Mid
open PySem PySem.Spec PyProof.Rows
open L2 (Hp HO V RelV Vals SqL SqT Rd upd upd_same upd_ne OpR R2 Inv Cx EP VK TE TT TA TS WX XK PE PT PA PS PSs Ends)
section
variable {prog : Program} {w : World} {A : Around} {E : Value → Shared → Prop} {s : Shared}
theorem applied_rev {sl : Addr} {vl vu vs : Value} {n : Nat} {Q : Int × Int × Nat → Shared → Prop} (hs : s.heap.IsSliceOf sl vl vu vs) (pl : IsPart vl none) (pu : IsPart vu none) (ps : IsPart vs (some (-1)))
    (h : Q ((n : Int) - 1, -1, n) s) : wpAny (model prog w) A (Builtin.Slice.sliceApplied (.ref sl) (pure (n : Int))) Q E s := by
  obtain ⟨os, hos, hcs, hds⟩ := id hs
  unfold Builtin.Slice.sliceApplied Builtin.Slice.sliceFields
  refine wpAny_bind (wpAny_bind (wpAny_field hos hds (x := vl) rfl (wpAny_bind (wpAny_field hos hds (x := vu) rfl (wpAny_bind (wpAny_field hos hds (x := vs) rfl (wpAny_pure ?_)))))))
  refine wpAny_bind (HT.slicePart_ ps ?_)
  show wpAny _ _ (if ((-1 : Int) == 0) = true then _ else _) _ _ s
  rw [if_neg (by decide)]
  refine wpAny_bind (HT.slicePart_ pl (wpAny_bind (HT.slicePart_ pu (wpAny_bind (wpAny_pure ?_)))))
  have e1 : Builtin.Slice.sliceAdjust none none (-1) (n : Int) = ((n : Int) - 1, -1) := by
    unfold Builtin.Slice.sliceAdjust
    simp
  have e2 : Builtin.Slice.slicePlaces ((n : Int) - 1) (-1) (-1) = n := by
    unfold Builtin.Slice.slicePlaces
    have h1 : ¬ ((-1 : Int) > 0) := by decide
    simp only [h1, if_false]
    split
    · rw [show (-(-1) : Int) = 1 by decide, Int.ediv_one]
      omega
    · omega
  show wpAny _ _ (match Builtin.Slice.sliceAdjust none none (-1) (n : Int) with | (lo, hi) => pure (lo, (-1 : Int), Builtin.Slice.slicePlaces lo hi (-1))) _ _ s
  rw [e1]
  show wpAny _ _ (pure ((n : Int) - 1, (-1 : Int), Builtin.Slice.slicePlaces ((n : Int) - 1) (-1) (-1))) _ _ s
  rw [e2]
  exact wpAny_pure h
theorem pick_rev (xs : Array Value) : ((List.range xs.size).filterMap fun (k : Nat) => xs[((xs.size : Int) - 1 + (k : Int) * -1).toNat]?).toArray = xs.toList.reverse.toArray := by
  have e : ((List.range xs.size).filterMap fun (k : Nat) => xs[((xs.size : Int) - 1 + (k : Int) * -1).toNat]?) = ((List.range xs.size).map fun k => xs.size - 1 - k).filterMap (xs[·]?) := by
    have key : ∀ l : List Nat, (∀ k ∈ l, k < xs.size) → (l.filterMap fun (k : Nat) => xs[((xs.size : Int) - 1 + (k : Int) * -1).toNat]?) = (l.map fun k => xs.size - 1 - k).filterMap (xs[·]?) := by
      intro l
      induction l with
      | nil => intro _; rfl
      | cons k r ih =>
        intro h
        have hk := h k (List.mem_cons_self ..)
        have e : ((xs.size : Int) - 1 + (k : Int) * -1).toNat = xs.size - 1 - k := by omega
        rw [List.map_cons, List.filterMap_cons, List.filterMap_cons, e, ih fun j hj => h j (List.mem_cons_of_mem _ hj)]
    exact key _ fun k hk => List.mem_range.mp hk
  rw [e, PySem.W.krv_range, List.filterMap_reverse, PySem.W.krv_all]
theorem tuple_rev {t sl : Addr} {items : Array Value} {vl vu vs : Value} {Q : Value → Shared → Prop} (ht : IsTup s.heap t items) (hs : s.heap.IsSliceOf sl vl vu vs) (pl : IsPart vl none) (pu : IsPart vu none) (ps : IsPart vs (some (-1)))
    (h : Q (.ref s.heap.objs.size) { s with heap := s.heap.push (TupOb items.toList.reverse) }) (hsz : items.size ≤ sizeLine) : wpAny (model prog w) A (getItem (.ref t) (.ref sl)) Q E s := by
  have hok : sizeOk (.seq items.toList.reverse.toArray) := by
    show items.toList.reverse.toArray.size ≤ sizeLine
    rw [List.size_toArray, List.length_reverse, Array.length_toList]
    exact hsz
  obtain ⟨os, hos, hcs, hds⟩ := id hs
  have hTs : s.TypeIs (.ref sl) "slice" := ⟨os, hos, hcs⟩
  unfold getItem
  try with_reducible refine wpAny_holding ?_
  first | refine wpAny_bind (wpAny_pure ?_) | skip
  refine wpAny_bind (wpAny_sequenceKey ht.typeIs (by decide) ?_)
  refine wpAny_bind (wpAny_callSpecial?_slot (name := Str.ofString "__getitem__") ht.typeIs slot_tuple_getitem (wpAny_call_entry slot_tuple_getitem ht.typeIs PyProof.Rows.entry_tuple_getitem ?_ (PyProof.Rows.args_tuple_getitem _ _)))
  show wpAny _ _ (Builtin.Tuple.tupleItemsOf (.ref t) >>= _) _ _ s
  refine wpAny_bind (PyProof.Rows.tupleItemsOf_ ht (wpAny_bind (wpAny_typeOf hTs ?_)))
  rw [if_pos (by decide)]
  refine wpAny_bind (applied_rev hs pl pu ps ?_)
  have hno : ¬ (((items.size : Int) - 1 == 0 && (-1 : Int) == 1 && items.size == items.size) = true) := by simp
  show wpAny _ _ (if ((items.size : Int) - 1 == 0 && (-1 : Int) == 1 && items.size == items.size) = true then _ else _) _ _ s
  rw [if_neg hno, pick_rev]
  first
    | exact wpAny_bind (m := Builtin.Tuple.tupleExact _) (wpAny_newObj_type (wpAny_pure ⟨_, rfl, wpAny_pure h⟩) hok)
    | exact wpAny_bind (m := Builtin.Tuple.tupleExact _) (wpAny_newObj_type (wpAny_bind (wpAny_pure (wpAny_pure ⟨_, rfl, wpAny_pure h⟩))) hok)
    | exact wpAny_bind (wpAny_bind (m := Builtin.Tuple.tupleExact _) (wpAny_newObj_type (wpAny_pure (wpAny_pure ⟨_, rfl, wpAny_pure h⟩)) hok))
    | exact wpAny_bind (wpAny_bind (m := Builtin.Tuple.tupleExact _) (wpAny_newObj_type (wpAny_pure ⟨_, rfl, wpAny_pure h⟩) hok))
end
section
variable {P : Pg} {R : Run} {C : Kx} {W : WX} {X : Cx}
def rRevM (B : Bk) : V → Hp → VK → Prop := fun x H Q => ∃ F d w, Le F H ∧ PK B F H x d ∧ slcD d .non .non (.int (-1)) = some w ∧ ∀ v F' H', Al F H F' H' → RN B H F' H' v w → Q v H'
theorem pe_revM {B : Bk} (hK : X.K = B.K) {e : Expr} {te : TE} {k : Nat} {p1 p2 p3 pos : Pos} (he : PE X e te) : PE X (.Subscript e (.Slice none none (some (.UnaryOp .USub (.Constant (.int 1) k p1) p2)) p3) pos) (fun σ H Q => te σ H fun x H1 => rRevM B x H1 Q) := by
  refine ⟨fun pins s σ H Q I h => ?_⟩
  refine Subscript_ (L2.thn (he.run pins s σ H _ I h) fun v s1 ⟨x, H1, I1, r1, q1⟩ => ?_)
  obtain ⟨F, d, w, l, px, hw, q⟩ := q1
  have hst : L2.PO X (some (.UnaryOp .USub (.Constant (.int 1) k p1) p2)) (L2.tPart (L2.tUn (L2.rU fun i => .int (-i)) (L2.tC (.int 1)))) := L2.po_some (L2.pe_un L2.un_neg L2.pe_int)
  refine wpAny_Slice (L2.thn (L2.po_none.run pins s1 σ H1 (fun o H2 => o = none ∧ H2 = H1) I1 ⟨rfl, rfl⟩) fun vl s2 ⟨l2, H2, I2, pl, el, e2⟩ => ?_)
  subst el e2
  refine L2.thn (L2.po_none.run pins s2 σ H2 (fun o H3 => o = none ∧ H3 = H2) I2 ⟨rfl, rfl⟩) fun vu s3 ⟨u, H3, I3, pu, eu, e3⟩ => ?_
  subst eu e3
  refine L2.thn (hst.run pins s3 σ H3 (fun o H4 => o = some (-1) ∧ H4 = H3) I3 ⟨1, rfl, -1, rfl, rfl, rfl⟩) fun vs s4 ⟨o, H4, I4, ps, eo, e4⟩ => ?_
  subst eo e4
  have I5 : Inv X pins σ H4 { s4 with heap := s4.heap.push { cls := .type "slice", data := .fields #[vl, vu, vs] } } := I4.kept (t' := s4.toks) fun b ob q => Heap.get?_push_of_some _ q
  unfold slcD at hw
  split at hw
  · obtain ⟨a, xs, rfl, ha, qa⟩ := px.lst l
    obtain ⟨ys, hy, rfl⟩ := Option.map_eq_some_iff.mp hw
    simp only [cutL, Option.some.injEq] at hy
    subst hy
    obtain rfl : v = Value.ref a := r1
    obtain ⟨its, r, ht, hz⟩ := I5.list (xs := xs) (.inl ha)
    show wpAny (model X.prog X.w) X.A (subscriptTail e (.Slice none none (some (.UnaryOp .USub (.Constant (.int 1) k p1) p2)) p3) (.ref a) (.ref s4.heap.objs.size)) (EP X pins σ Q) X.xe { s4 with heap := s4.heap.push { cls := .type "slice", data := .fields #[vl, vu, vs] } }
    refine tail_any (ops := [.ref a, .ref s4.heap.objs.size]) ht.isList.typeIs (PySem.slot_list_getitem.lookup) ?_ (by with_unfolding_all rfl)
    refine wpAny_getItem_list_slice ht.isList (Heap.IsSliceOf.new _ vl vu vs) pl pu ps (by decide) ?_ (by rw [List.size_toArray, ← r.length]; exact hz)
    rw [PySem.W.krv_pick]
    have hn := I5.fresh
    refine ⟨.ref _, _, I5.laid (t' := s4.toks) (o := .lst xs.reverse) (fun b ob q => Heap.get?_push_of_some _ q) (Nat.le_refl _) ?_, rfl, q _ F _ (.own l hn) ⟨_, rfl, hn, l.none hn, _, upd_same, qa.reverse⟩⟩
    exact ⟨by rw [List.length_reverse]; exact hz, _, 0, r.reverse, Heap.get?_push_size _ rfl⟩
  · obtain ⟨a, xs, rfl, ha, fa, qa⟩ := px.tup l
    obtain ⟨ys, hy, rfl⟩ := Option.map_eq_some_iff.mp hw
    simp only [cutL, Option.some.injEq] at hy
    subst hy
    obtain rfl : v = Value.ref a := r1
    obtain ⟨its, r, ht, hz⟩ := I5.tuple (by rw [hK]; exact ha)
    show wpAny (model X.prog X.w) X.A (subscriptTail e (.Slice none none (some (.UnaryOp .USub (.Constant (.int 1) k p1) p2)) p3) (.ref a) (.ref s4.heap.objs.size)) (EP X pins σ Q) X.xe { s4 with heap := s4.heap.push { cls := .type "slice", data := .fields #[vl, vu, vs] } }
    refine tail_any (ops := [.ref a, .ref s4.heap.objs.size]) ht.typeIs (slot_tuple_getitem.lookup) ?_ (by with_unfolding_all rfl)
    refine tuple_rev ht (Heap.IsSliceOf.new _ vl vu vs) pl pu ps ?_ (by rw [List.size_toArray, ← r.length]; exact hz)
    have hn := I5.fresh
    have hv : Vals xs.reverse its.reverse := r.reverse
    refine ⟨.ref _, _, laid_tup (t := s4.toks) I5 hv (by rw [List.length_reverse]; exact hz), rfl, q _ _ _ (.frz l hn) (.tup (.inl ⟨_, upd_same⟩) (qa.reverse.mono (upd_le (l.none hn))))⟩
  · cases hw
  · cases hw
theorem be_revM (hm : C.mono) (hK : X.K = C.K) {k : Nat} {p1 p2 p3 pos : Pos} {ea : Expr} {a : E} (ha : BE P R C W X ea a) : BE P R C W X (.Subscript ea (.Slice none none (some (.UnaryOp .USub (.Constant (.int 1) k p1) p2)) p3) pos) (.slc a (.cst .non) (.cst .non) (.neg (.cst (.int 1)))) := by
  refine .of (PE.imp (pe_revM (B := C.toBk) hK ha.pe) fun σ H Q ⟨F, s, hs, hw⟩ => ?_) rfl
  rw [evE] at hw
  refine tE_bind hs hw fun w1 s1 v1 F1 H1 p1 r1 n1 hw1 => ?_
  have e : ∀ s : St, evE P R (.cst .non) s = .ok (.val .non) s := fun s => by rw [evE]
  have e2 : ∀ s : St, evE P R (.neg (.cst (.int 1))) s = .ok (.val (.int (-1))) s := fun s => by rw [evE, evE]; rfl
  simp only [partV, e, e2, Out.bind] at hw1
  split at hw1
  · rename_i d ed
    obtain ⟨w, ew, q⟩ := Wp_opt hw1
    exact ⟨F1, d, w, p1.sr.le, r1.pk p1.sr ed, ew, fun v F' H' al rn => q v F' H' (p1.trans (p1.sr.alP hm al)) (rn.rw p1.sr) (rn.nw.back fun a h => p1.st.there a h)⟩
  · exact hw1.elim
end
end Mid
set_option Elab.async false
set_option linter.all false
set_option maxRecDepth 100000
set_option maxHeartbeats 4000000
/-! The rules, ready for the checker. -/
namespace Mid
open PySem PySem.Spec PyProof.Rows
open L2 (Hp HO V RelV Vals SqL SqT Rd upd upd_same upd_ne OpR R2 Inv Cx EP VK TE TT TA TS WX XK PE PT PA PS PSs Ends CallR)
section
variable {P : Pg} {R : Run} {C : Kx} {W : WX} {X : Cx}
theorem be_bltB (hm : C.mono) {b : Blt} {id : String} {x : Str} {p pos : Pos} {ea : Expr} {a : E} (hc : CallR X (.builtin id) (rBlt C.toBk b)) (hg : L2.Gl X x) (hn : X.mg x = none) (hv : bootBuiltins x = some (.builtin id)) (ha : BE P R C W X ea a) (hs : noStar ea = true)
    (h1 : x ≠ "__name__") (h2 : (x == ("__debug__" : Str)) = false) : BE P R C W X (.Call (.Name x p) [ea] [] pos) (.blt b a) :=
  .of (PE.imp (L2.pe_callB hc hg hn hv (L2.pa_cons ha.pe L2.pa_nil (starOk hs [] _)) h1 h2 (starOk hs [] _) rfl) (tE_blt hm)) rfl
theorem be_bltT (hm : C.mono) {b : Blt} {id : String} {x : Str} {p pos : Pos} {ea : Expr} {a : E} (hc : CallR X (.type id) (rBlt C.toBk b)) (hg : L2.Gl X x) (hn : X.mg x = none) (hv : bootBuiltins x = some (.type id)) (ha : BE P R C W X ea a) (hs : noStar ea = true)
    (h1 : x ≠ "__name__") (h2 : (x == ("__debug__" : Str)) = false) : BE P R C W X (.Call (.Name x p) [ea] [] pos) (.blt b a) :=
  .of (PE.imp (L2.pe_callTy hc hg hn hv (L2.pa_cons ha.pe L2.pa_nil (starOk hs [] _)) h1 h2 (starOk hs [] _) rfl) (tE_blt hm)) rfl
theorem be_isi (hm : C.mono) (hK : X.K = C.K) {t : Ty} {x y : Str} {p p2 pos : Pos} {ea : Expr} {a : E} (hg : L2.Gl X x) (hn : X.mg x = none) (hv : bootBuiltins x = some (.builtin "isinstance")) (hg2 : L2.Gl X y) (hn2 : X.mg y = none) (hv2 : bootBuiltins y = some (.type t.nm)) (ha : BE P R C W X ea a) (hs : noStar ea = true)
    (h1 : x ≠ "__name__") (h2 : (x == ("__debug__" : Str)) = false) (h3 : y ≠ "__name__") (h4 : (y == ("__debug__" : Str)) = false) : BE P R C W X (.Call (.Name x p) [ea, .Name y p2] [] pos) (.isi a t) := by
  have pa : PA X [ea, .Name y p2] (L2.tCons (tE P R C W a) (L2.tCons (L2.tC (.ty t.nm)) L2.tNil)) := L2.pa_cons ha.pe (L2.pa_cons (L2.pe_bltn (v := .ty t.nm) hg2 hn2 hv2 rfl h3 h4) L2.pa_nil rfl) (starOk hs _ _)
  exact .of (PE.imp (L2.pe_callB (L2.call_isi) hg hn hv pa h1 h2 (starOk hs _ _) rfl) (by rw [hK]; exact isi_r hm)) rfl
theorem plainStars (pos : Pos) (env : Env) : ∀ {es : List Expr}, es.all noStar = true → (backTo pos (starEach es env)).any (·.1) = false
  | [], _ => rfl
  | e :: r, h => by
    rw [List.all_cons, Bool.and_eq_true] at h
    rw [starOk h.1]
    have ih := plainStars pos env h.2
    simp only [backTo, List.map_cons, List.any_cons, Bool.false_or] at ih ⊢
    exact ih
/-- a call of a def of the program -/
theorem pe_callM (hg : C.Good) {f k : Nat} {fd : Fd} {fdata : FuncData} {ps : List Str} {x : Str} {p pos : Pos} {e : Expr} {es : List Expr} {ts : List E} (hfd : P.fs[f]? = some fd) (F : L2.FnOk X.prog X.w X.K X.mg X.base (L2.CX X.prog X.w) k (C.fa f) fdata ps (spA P R C.gx f)) (hr : L2.Room k X.A)
    (hgl : L2.Gl X x) (hmg : X.mg x = some (.ref (C.fa f))) (hk : PySem.W.keepIn X.K (.ref (C.fa f)) = true) (hb : L2.Binds X.K fdata ps []) (tk : L2.Takes X W) (ha : PA X (e :: es) (tAs P R C W ts)) (hs : (e :: es).all noStar = true) (hdb : (x == ("__debug__" : Str)) = false) : PE X (.Call (.Name x p) (e :: es) [] pos) (tE P R C W (.call f ts)) := by
  rw [List.all_cons, Bool.and_eq_true] at hs
  exact PE.imp (L2.pe_callS F hr hgl hmg hk hb (fun σ => L2.passAt tk σ) ha hdb (starOk hs.1 es _) (plainStars pos _ hs.2)) (call_r hg hfd)
/-- .. without arguments -/
theorem pe_callM0 (hg : C.Good) {f k : Nat} {fd : Fd} {fdata : FuncData} {ps : List Str} {x : Str} {p pos : Pos} (hfd : P.fs[f]? = some fd) (F : L2.FnOk X.prog X.w X.K X.mg X.base (L2.CX X.prog X.w) k (C.fa f) fdata ps (spA P R C.gx f)) (hr : L2.Room k X.A)
    (hgl : L2.Gl X x) (hmg : X.mg x = some (.ref (C.fa f))) (hk : PySem.W.keepIn X.K (.ref (C.fa f)) = true) (hb : L2.Binds X.K fdata ps []) (tk : L2.Takes X W) (hdb : (x == ("__debug__" : Str)) = false) : PE X (.Call (.Name x p) [] [] pos) (tE P R C W (.call f [])) :=
  ⟨fun pins s σ H Q I h => by
    obtain h' := tAs_nil _ _ _ (call_r hg hfd σ H Q h)
    exact wpAny_Call_Name_kw (L2.ld_glob I hgl hmg (PySem.W.callWith_K0 I.kIn hk (L2.run_fnS (us := []) F hr hb (L2.passAt tk σ) I .nil h')) hdb)⟩
/-- a slice -/
theorem be_slc (hm : C.mono) (hK : X.K = C.K) {ea : Expr} {elo ehi : Option Expr} {p2 pos : Pos} {a lo hi : E} {tl th : L2.TO} (ha : BE P R C W X ea a) (hl : L2.PO X elo tl) (hh : L2.PO X ehi th) (kl : PRd P R C W lo tl) (kh : PRd P R C W hi th) :
    BE P R C W X (.Subscript ea (.Slice elo ehi none p2) pos) (.slc a lo hi (.cst .non)) :=
  .of (PE.imp (L2.pe_slice (sl_m hK) ha.pe hl hh) (slc_r hm kl kh)) rfl
def noSet : Expr → Bool
  | .Set _ _ _ => false
  | _ => true
theorem noFold {e : Expr} (h : noSet e = true) (env : Env) (x : Value) : foldedSetIterable e env x = pure x := by
  cases e <;> first | rfl | exact absurd h Bool.false_ne_true
/-- a loop -/
theorem ps_forM (hm : C.mono) (hK : X.K = C.K) {tg iter : Expr} {body : List Stmt} {pos : Pos} {t : T} {src : E} {b : List S} (hp : PassesOwn (model X.prog X.w) X.A X.env X.xe) (hc : X.calm = true) (hi : L2.PI X tg iter (tSrc P R C W [] t src)) (hgt : L2.PG X tg (gT C.K t)) (hb : PSs X body (tS P R (C.lock (lockS src)) W b))
    (hfx : ∀ i ∈ t.nms, i ∉ lockS src ++ C.fx) (hns : noSet iter = true) : PS X (.For tg iter body [] pos) (tS1 P R C W (.for_ t src b)) :=
  PS.imp (L2.ps_for hp hc hi hgt hb (hs := fun x => noFold hns _ x)) (for_r hm hfx)
theorem ps_whileM {test : Expr} {body : List Stmt} {pos : Pos} {c : E} {b : List S} (hp : PassesOwn (model X.prog X.w) X.A X.env X.xe) (hc : BE P R C W X test c) (hb : PSs X body (tS P R C W b)) : PS X (.While test body [] pos) (tS1 P R C W (.while_ c b)) :=
  PS.imp (L2.ps_while hp hc.pt hb) while_r
theorem ps_ifM {test : Expr} {b1 b2 : List Stmt} {pos : Pos} {c : E} {s1 s2 : List S} (hc : BE P R C W X test c) (h1 : PSs X b1 (tS P R C W s1)) (h2 : PSs X b2 (tS P R C W s2)) : PS X (.If test b1 b2 pos) (tS1 P R C W (.ite c s1 s2)) :=
  PS.imp (L2.ps_if hc.pt h1 h2) if_r
theorem ps_retM (hm : C.mono) {e : Expr} {t : E} {pos : Pos} (h : BE P R C W X e t) : PS X (.Return (some e) pos) (tS1 P R C W (.ret t)) := PS.imp (L2.ps_ret h.pe) (ret_r hm)
end
end Mid
set_option Elab.async false
set_option linter.all false
set_option maxRecDepth 100000
set_option maxHeartbeats 4000000
/-! Functions handed over: lambdas without parameters. -/
namespace Mid
open PySem PySem.Spec PyProof.Rows
open L2 (Hp HO V RelV Vals SqL SqT Rd upd upd_same upd_ne OpR R2 Inv Cx EP VK TE TT TA TS WX XK PE PT PA PS PSs Ends CallR frs)

/-- what the making of a lambda does to the tracked heap -/
inductive LamStep (F H : Hp) (P : Addr) (q : Str) (c : Addr) : Hp → Prop
  | old : F c = some (LamX.CodeO c q) → LamStep F H P q c H
  | new {ps more : Array Value} : H c = none → H P = some (.tbl ps) → TriplesOk (ps ++ more).toList → (∀ (pos : Pos) (cv : Value), codeAmong pos (ps ++ more).toList = some cv → codeAmong pos ps.toList = some cv ∨ cv = .ref c) →
      LamStep F H P q c (upd (upd H P (.tbl (ps ++ more))) c (LamX.CodeO c q))
abbrev lamN : Str := "<lambda>"
/-- a lambda's object -/
abbrev lamO (X : Cx) (params : Arguments) (body : Expr) (scope : Scope) (pm : Value) (c : Addr) (ct : Value) : Obj := PySem.W.kla_obj lamN (X.env.qual ++ lamN) params body scope (L2.cloFrom X.env.cells scope.names []) pm c ct
section
variable {X : Cx} {pins : List (Addr × Obj)} {σ : L2.St} {H : Hp} {s : Shared}
theorem lam_new {F : Hp} {c P : Addr} {params : Arguments} {body : Expr} {scope : Scope} {pos : Pos} {E : Value → Shared → Prop} {Q : Value → Shared → Prop} (I : Inv X pins σ H s) (TB : LamX.TabB X.base X.mg c P) (hcode : X.env.code = .ref c)
    (hT : TbF F H (P, X.env.qual ++ lamN)) (lFH : Le F H) (hdef : defaultsOf params X.env = ([], [])) (hfree : ∀ y ∈ scope.names, y.2 = .free → ∃ c, X.env.cells.lookup y.1 = some c)
    (k : ∀ (f c' : Addr) (pm ct : Value) (H1 : Hp) (s' : Shared), Inv X pins σ H1 s' → LamStep F H P (X.env.qual ++ lamN) c' H1 → s'.heap.get? f = some (lamO X params body scope pm c' ct) → H1 f = none → f ∉ frs X.stack → Q (.ref f) s') :
    wpAny (model X.prog X.w) X.A (eval (.Lambda params body scope pos) X.env) Q E s := by
  obtain ⟨_, ps, eP, tr, among⟩ := hT
  have bP := TB.bm.keeps I.bk
  have oP : s.heap.get? P = some { cls := .none, data := .fields ps } := I.hok P _ eP
  have far : ∀ g, s.heap.objs.size ≤ g → g ∉ frs X.stack := fun g hg z => by
    rcases List.mem_cons.mp (I.stkSub _ z) with e | e
    · have := I.lt
      rw [← e] at this
      exact absurd hg (Nat.not_le.mpr this)
    · exact I.nofs hg e
  refine PySem.W.kla_eval hdef ?_
  cases hc : codeAmong pos ps.toList with
  | some cv =>
    obtain ⟨c', rfl, hF⟩ := among pos cv hc
    refine PySem.W.kla_makeFunctionHit (mg := X.mg) (c := c) (P := P) (ps := ps) (L2.closure_ok hfree) I.ok.glob (I.mod.glob.keeps I.bk) hcode (TB.code.keeps I.bk) oP tr hc bP fun ct h' tk hx hsz => ?_
    have J : Inv X pins σ H { s with heap := h'.push (lamO X params body scope ((X.mg "__name__").getD .none) c' ct), toks := tk } := I.kept fun b o e => Heap.get?_push_of_some _ (hx b o e)
    exact k _ c' _ ct H _ J (.old hF) (Heap.get?_push_size _ rfl) (I.hok.fresh hsz) (far _ hsz)
  | none =>
    refine PySem.W.kla_makeFunction (mg := X.mg) (c := c) (P := P) (ps := ps) (L2.closure_ok hfree) I.ok.glob (I.mod.glob.keeps I.bk) hcode (TB.code.keeps I.bk) oP tr hc TB.gP bP fun c' ct h' tk hx hge hlt hrec htb => ?_
    obtain ⟨c2, oc, vs, t, ec, hoc, hd, hv⟩ := hrec
    cases ec
    have hsz : s.heap.objs.size ≤ h'.objs.size := Nat.le_trans hge (Nat.le_of_lt hlt)
    have nC : H c' = none := I.hok.fresh hge
    have J := LamX.inv_table (t' := tk) (q := X.env.qual ++ lamN) (more := #[rawInt pos.line, rawInt pos.col, .ref c']) (h' := h'.push (lamO X params body scope ((X.mg "__name__").getD .none) c' ct)) I eP
      (fun b o nb e => Heap.get?_push_of_some _ (hx b o nb e)) (Heap.get?_push_of_some _ htb) hge ⟨oc, vs, t, Heap.get?_push_of_some _ hoc, hd, hv⟩
    have eL : (ps ++ #[rawInt pos.line, rawInt pos.col, .ref c']).toList = ps.toList ++ [rawInt pos.line, rawInt pos.col, .ref c'] := by simp
    refine k h'.objs.size c' _ ct _ _ J (.new nC eP ?_ fun p cv q => ?_) (Heap.get?_push_size _ rfl) ?_ (far _ hsz)
    · rw [eL]
      exact PySem.TriplesOk_snoc _ _ _ _ tr
    · rw [eL] at q
      exact LamX.among_app _ tr q
    · rw [upd_ne (Nat.ne_of_gt hlt), upd_ne (Nat.ne_of_gt (Nat.lt_of_lt_of_le (Heap.lt_size oP) hsz))]
      exact I.hok.fresh hsz
end
section
variable {C : Kx} {s : St} {σ : L2.St} {F H H1 : Hp} {P c : Addr} {q : Str}
/-- the state behind it -/
theorem SR.lam (hm : C.mono) (h : SR C s σ F H) (hT : (P, q) ∈ C.T) (hu : ∀ p ∈ C.T, p.1 = P → p.2 = q) (l : LamStep F H P q c H1) : ∃ F1, PE' C s σ F H s F1 H1 ∧ F1 c = some (LamX.CodeO c q) := by
  cases l with
  | old e => exact ⟨F, .refl h, e⟩
  | @new ps more nC eP tr am =>
    have nF : F c = none := h.le.none nC
    have le : Le F (upd F c (LamX.CodeO c q)) := upd_le nF
    have nPc : P ≠ c := fun z => by rw [z, nC] at eP; cases eP
    have at_ : ∀ {b : Addr} {o : HO}, H b = some o → NTb o → upd (upd H P (.tbl (ps ++ more))) c (LamX.CodeO c q) b = H b := fun {b o} e n => by
      have h1 : b ≠ c := fun z => by rw [z, nC] at e; cases e
      have h2 : b ≠ P := fun z => by rw [z, eP] at e; exact n ps (Option.some.inj e).symm
      rw [upd_ne h1, upd_ne h2]
    have FnP : F P = none := (h.tb _ hT).1
    have there : ∀ b, upd (upd H P (.tbl (ps ++ more))) c (LamX.CodeO c q) b = none → H b = none := fun b e => by
      by_cases z : b = c
      · rw [z]; exact nC
      · rw [upd_ne z] at e
        by_cases y : b = P
        · rw [y, upd_same] at e; cases e
        · rw [upd_ne y] at e; exact e
    have fm : ∀ {D : Kx} {f : Fr} {τ : L2.St}, D.toBk = C.toBk → D.mono → Fm D f τ F H → Fm D f τ (upd F c (LamX.CodeO c q)) (upd (upd H P (.tbl (ps ++ more))) c (LamX.CodeO c q)) := fun {D f τ} eB hm' fm => by
      refine ⟨fm.len, fun i x e => ?_, fm.ne⟩
      have r := fm.sl i x e
      cases x with
      | un => trivial
      | val d => obtain ⟨v, e, z⟩ := r; exact ⟨v, e, z.mono le⟩
      | own d =>
        obtain ⟨b, e1, e2, e3, e4⟩ := r
        obtain ⟨o, ho⟩ := e4.some
        refine ⟨b, e1, ?_, e3, e4.mono le (at_ ho (e4.ntb ho))⟩
        rw [upd_ne (fun z => by rw [z, nC] at ho; cases ho)]
        exact e2
      | exn x => obtain ⟨v, e, z⟩ := r; exact ⟨v, e, hm' _ _ _ _ le z⟩
      | clo a b => exact r
    refine ⟨upd F c (LamX.CodeO c q), ⟨⟨⟨fun b o e => ?_, fm rfl hm h.c, fm rfl C.par_mono h.p, h.dj, fun a e => h.zz a (there a e), fun a e => h.zp a (there a e), fun p hp => ?_, fun p hp => ?_⟩, ⟨le, fun b o e n _ => (at_ e n).trans e, fun b e z => ?_, there⟩, fun _ z => z, fun _ z => z⟩, fun _ d z => ⟨d, z⟩⟩, upd_same⟩
    · by_cases z : b = c
      · subst z; rw [upd_same] at e ⊢; exact e
      · rw [upd_ne z] at e
        have y : b ≠ P := fun y => by rw [y, FnP] at e; cases e
        rw [upd_ne z, upd_ne y]
        exact h.le b o e
    · have npc : p.1 ≠ c := h.tb.neN nC p hp
      refine ⟨by rw [upd_ne npc]; exact (h.tb p hp).1, ?_⟩
      by_cases y : p.1 = P
      · obtain ⟨_, ps', e1, e2, e3⟩ := h.tb p hp
        rw [y, eP] at e1
        cases e1
        refine ⟨ps ++ more, by rw [upd_ne npc, y, upd_same], tr, fun pos cv z => ?_⟩
        rcases am pos cv z with z | z
        · obtain ⟨c0, w1, w2⟩ := e3 pos cv z
          exact ⟨c0, w1, le _ _ w2⟩
        · exact ⟨c, z, by rw [hu p hp y]; exact upd_same⟩
      · obtain ⟨_, ps', e1, e2, e3⟩ := h.tb p hp
        refine ⟨ps', by rw [upd_ne npc, upd_ne y]; exact e1, e2, fun pos cv z => ?_⟩
        obtain ⟨c0, w1, w2⟩ := e3 pos cv z
        exact ⟨c0, w1, le _ _ w2⟩
    · exact le _ _ (h.cd p hp)
    · by_cases y : b = c
      · rw [y]; exact .inl nC
      · rw [upd_ne y] at z; exact absurd e z
end

/-! ### calls of what a name holds -/
section
variable {P : Pg} {R : Run} {C : Kx} {W : WX} {X : Cx}
theorem PE.or {e : Expr} {t u : TE} (h : PE X e t) (k : PE X e u) : PE X e (fun σ H Q => t σ H Q ∨ u σ H Q) := ⟨fun pins s σ H Q I q => q.elim (h.run pins s σ H Q I) (k.run pins s σ H Q I)⟩
/-- the name holds a def -/
def tFn (P : Pg) (R : Run) (C : Kx) (W : WX) (i : Nat) (ts : List E) : TE := fun σ H Q => ∃ f fd, P.fs[f]? = some fd ∧ σ[i]? = some (some (.ref (C.fa f))) ∧ tE P R C W (.call f ts) σ H Q
/-- .. a function that was handed in -/
def tClo (P : Pg) (R : Run) (C : Kx) (W : WX) (i : Nat) : TE := fun σ H Q => ∃ F s ps b, SR C s σ F H ∧ slotAt s i = .clo ps b ∧ Wp (callClo R ps b [] s) (QX C s σ F H Q) (NX C W s σ F H)
theorem slotAt_clo {s : St} {i : Nat} {ps : List Nat} {b : E} (h : slotAt s i = .clo ps b) : s.c[i]? = some (.clo ps b) := by
  unfold slotAt at h
  cases e : s.c[i]? with
  | none => rw [e] at h; cases h
  | some x => rw [e] at h; exact congrArg some h
theorem callv_r {i : Nat} {ts : List E} (σ : L2.St) (H : Hp) (Q : VK) (h : tE P R C W (.callv i ts) σ H Q) : tFn P R C W i ts σ H Q ∨ ∃ F s ps b, SR C s σ F H ∧ slotAt s i = .clo ps b ∧ Wp ((evAs P R ts s).bind fun as s => callClo R ps b as s) (QX C s σ F H Q) (NX C W s σ F H) := by
  obtain ⟨F, s, hs, hw⟩ := h
  rw [evE] at hw
  split at hw
  · rename_i f e
    split at hw
    · rename_i hf
      obtain ⟨fd, hfd⟩ := Option.isSome_iff_exists.mp hf
      obtain ⟨v, e1, r⟩ := hs.c.sl i _ (slotAt_val e)
      cases r
      exact .inl ⟨f, fd, hfd, join_some e1, F, s, hs, by rw [evE]; exact hw⟩
    · exact hw.elim
  · rename_i ps b e
    exact .inr ⟨F, s, ps, b, hs, e, hw⟩
  · exact hw.elim
/-- no functions are handed in -/
def Kx.noClo (C : Kx) : Prop := ∀ ps b v, ¬ C.cs ps b v
/-- what is known of a def -/
structure DefOk (P : Pg) (R : Run) (G : Gx) (X : Cx) (k f : Nat) : Prop where
  ex : ∃ (fdata : FuncData) (ps : List Str), L2.FnOk X.prog X.w X.K X.mg X.base (L2.CX X.prog X.w) k (G.fa f) fdata ps (spA P R G f) ∧ PySem.W.keepIn X.K (.ref (G.fa f)) = true ∧ L2.Binds X.K fdata ps []
theorem pe_fnV (hg : C.Good) {i k : Nat} {x : Str} {p pos : Pos} {e : Expr} {es : List Expr} {ts : List E} (D : ∀ f fd, P.fs[f]? = some fd → DefOk P R C.gx X k f) (hr : L2.Room k X.A)
    (hN : X.N[i]? = some x) (hv : L2.Vis X.env.scope x) (tk : L2.Takes X W) (ha : PA X (e :: es) (tAs P R C W ts)) (hs : (e :: es).all noStar = true) (hdb : (x == ("__debug__" : Str)) = false) (hcd : (x == ("__classdict__" : Str)) = false) : PE X (.Call (.Name x p) (e :: es) [] pos) (tFn P R C W i ts) := by
  rw [List.all_cons, Bool.and_eq_true] at hs
  refine ⟨fun pins s σ H Q I ⟨f, fd, hfd, hσ, ht⟩ => ?_⟩
  obtain ⟨fdata, ps, F, hk, hb⟩ := (D f fd hfd).ex
  have ht' := call_r hg hfd σ H Q ht
  refine wpAny_Call_Name_kw (L2.thn ((L2.pe_var (pos := p) hN hv hdb hcd).run pins s σ H (fun v H1 => v = .ref (C.fa f) ∧ H1 = H) I ⟨_, hσ, rfl, rfl⟩) fun u s1 ⟨v, H1, I1, r1, q1, q2⟩ => ?_)
  subst q1 q2
  cases r1
  refine PySem.W.callWith_K (h₀ := X.base) I.ok.mod.kin hk (L2.thn (ha.run pos pins s1 σ _ _ I1 ht') fun us s2 ⟨vs, H2, I2, r, q⟩ => ⟨I2.kIn, ?_⟩) (starOk hs.1 es _) (plainStars pos _ hs.2)
  exact L2.run_fnS F hr hb (L2.passAt tk σ) I2 r q
theorem pe_fnV0 (hg : C.Good) {i k : Nat} {x : Str} {p pos : Pos} (D : ∀ f fd, P.fs[f]? = some fd → DefOk P R C.gx X k f) (hr : L2.Room k X.A)
    (hN : X.N[i]? = some x) (hv : L2.Vis X.env.scope x) (tk : L2.Takes X W) (hdb : (x == ("__debug__" : Str)) = false) (hcd : (x == ("__classdict__" : Str)) = false) : PE X (.Call (.Name x p) [] [] pos) (tFn P R C W i []) := by
  refine ⟨fun pins s σ H Q I ⟨f, fd, hfd, hσ, ht⟩ => ?_⟩
  obtain ⟨fdata, ps, F, hk, hb⟩ := (D f fd hfd).ex
  have ht' := tAs_nil _ _ _ (call_r hg hfd σ H Q ht)
  refine wpAny_Call_Name_kw (L2.thn ((L2.pe_var (pos := p) hN hv hdb hcd).run pins s σ H (fun v H1 => v = .ref (C.fa f) ∧ H1 = H) I ⟨_, hσ, rfl, rfl⟩) fun u s1 ⟨v, H1, I1, r1, q1, q2⟩ => ?_)
  subst q1 q2
  cases r1
  exact PySem.W.callWith_K0 I1.kIn hk (L2.run_fnS (us := []) F hr hb (L2.passAt tk σ) I1 .nil ht')
/-- .. where none is handed in -/
theorem be_callv (hg : C.Good) (hn : C.noClo) {i k : Nat} {x : Str} {p pos : Pos} {e : Expr} {es : List Expr} {ts : List E} (D : ∀ f fd, P.fs[f]? = some fd → DefOk P R C.gx X k f) (hr : L2.Room k X.A)
    (hN : X.N[i]? = some x) (hv : L2.Vis X.env.scope x) (tk : L2.Takes X W) (ha : PA X (e :: es) (tAs P R C W ts)) (hs : (e :: es).all noStar = true) (hdb : (x == ("__debug__" : Str)) = false) (hcd : (x == ("__classdict__" : Str)) = false) : BE P R C W X (.Call (.Name x p) (e :: es) [] pos) (.callv i ts) :=
  .of (PE.imp (pe_fnV hg D hr hN hv tk ha hs hdb hcd) fun σ H Q h => (callv_r σ H Q h).elim id fun ⟨F, s, ps, b, hs, e, _⟩ => by
    obtain ⟨v, _, c⟩ := hs.c.sl i _ (slotAt_clo e)
    exact (hn _ _ _ c).elim) rfl
theorem be_callv0 (hg : C.Good) {i k : Nat} {x : Str} {p pos : Pos} (D : ∀ f fd, P.fs[f]? = some fd → DefOk P R C.gx X k f) (hr : L2.Room k X.A)
    (hN : X.N[i]? = some x) (hv : L2.Vis X.env.scope x) (tk : L2.Takes X W) (hdb : (x == ("__debug__" : Str)) = false) (hcd : (x == ("__classdict__" : Str)) = false) (hc : PE X (.Call (.Name x p) [] [] pos) (tClo P R C W i)) : BE P R C W X (.Call (.Name x p) [] [] pos) (.callv i []) :=
  .of (PE.imp (PE.or (pe_fnV0 hg D hr hN hv tk hdb hcd) hc) fun σ H Q h => (callv_r σ H Q h).imp id fun ⟨F, s, ps, b, hs, e, hw⟩ => ⟨F, s, ps, b, hs, e, by rw [evAs] at hw; exact hw⟩) rfl
end

/-! ### a function that was handed in is called -/
/-- the context of a def that got a function -/
abbrev Kx.fnc (C : Kx) (H1 : Hp) (σ : L2.St) (cs : List Nat → E → V → Prop) (cd : List (Addr × Str)) : Kx := { C.toBk with Z := fun a => H1 a = none, σp := σ, Zp := C.Z, cs := cs, xs := C.xs, xr := C.xr, fx := [], cd := cd }
/-- .. of the function's body -/
abbrev Kx.lam (C : Kx) : Kx := { C.toBk with Z := C.Zp, σp := [], Zp := fun _ => True, cs := fun _ _ _ => False, xs := C.xs, xr := C.xr, fx := [], cd := [] }
/-- no errors are held -/
def Kx.noX (C : Kx) : Prop := ∀ x v F, ¬ C.xs x v F
section
variable {C : Kx} {s : St} {σ : L2.St} {F H F' H' : Hp}
theorem SR.toLam (h : SR C s σ F H) : SR C.lam ⟨s.p, []⟩ C.σp F H := by
  refine ⟨h.le, ⟨h.p.len, fun i x e => ?_, h.p.ne⟩, ⟨rfl, fun i x e => by simp at e, fun i j d e a z => by simp at z⟩, fun a _ ⟨i, d, z, _⟩ => by simp at z, h.zp, fun _ _ => trivial, h.tb, fun p hp => by cases hp⟩
  have r := h.p.sl i x e
  cases x with
  | exn x => obtain ⟨v, _, z⟩ := r; exact z.elim
  | clo ps b => obtain ⟨v, _, z⟩ := r; exact z.elim
  | _ => exact r
theorem lam_back (hm : C.mono) (hx : C.noX) (h : SR C s σ F H) {t : St} (p : Post C.lam ⟨s.p, []⟩ C.σp F H t F' H') : PE' C s σ F H ⟨s.c, t.c⟩ F' H' := by
  have no2 : ∀ a, ¬ Own ([] : Fr) ([] : L2.St) a := fun a ⟨i, d, z, _⟩ => by simp at z
  have nOw : ∀ a, Own s.c σ a → ¬ Ow C.lam ⟨s.p, []⟩ C.σp a := fun a z q => q.elim (h.dj a z) (no2 a)
  refine ⟨⟨⟨p.sr.le, ⟨h.c.len, fun i x e => ?_, h.c.ne⟩, ⟨p.sr.c.len, fun i x e => ?_, p.sr.c.ne⟩, fun a z q => h.dj a z (p.oc a q), fun a e => h.zz a (p.st.there a e), fun a e => h.zp a (p.st.there a e), p.sr.tb, fun q hq => p.st.le _ _ (h.cd q hq)⟩,
    p.st.weak fun a z => z.elim .inr fun q => (no2 a q).elim, fun _ z => z, p.oc⟩, fun _ d z => ⟨d, z⟩⟩
  · have r := h.c.sl i x e
    cases x with
    | un => trivial
    | val d => obtain ⟨v, e, z⟩ := r; exact ⟨v, e, z.mono p.st.le⟩
    | own d =>
      obtain ⟨a, e1, e2, e3, e4⟩ := r
      obtain ⟨o, ho⟩ := e4.some
      have no := nOw a ⟨i, d, e, join_some e1⟩
      refine ⟨a, e1, ?_, e3, e4.mono p.st.le (by rw [p.st.keep a o ho (e4.ntb ho) no, ho])⟩
      cases q : F' a with
      | none => rfl
      | some u =>
        rcases p.st.new a e2 (by rw [q]; simp) with z | z
        · rw [ho] at z; cases z
        · exact absurd z no
    | exn x => obtain ⟨v, e, z⟩ := r; exact (hx _ _ _ z).elim
    | clo ps b => exact r
  · have r := p.sr.c.sl i x e
    cases x with
    | exn x => obtain ⟨v, _, z⟩ := r; exact (hx _ _ _ z).elim
    | clo ps b => obtain ⟨v, _, z⟩ := r; exact z.elim
    | _ => exact r
end
section
variable {P : Pg} {C : Kx} {W : WX} {X : Cx} {pins : List (Addr × Obj)} {σ : L2.St} {H : Hp} {s : Shared}
theorem run_clo {n : Nat} {b : E} {p : Fr} : run P (n + 1) (.clo [] b [] p) = match (evE P (run P n) b ⟨p, []⟩).bind fun w s => take s w with
      | .ok d s => .ret (.val d) s.c []
      | .exc x s => .exc x s.c []
      | .stk m => .stk m := by
  rw [run]
  rfl
/-- its reading, from the call's -/
theorem clo_r {n : Nat} (hm : C.mono) (hx : C.noX) {σZ : L2.St} {HZ F : Hp} {st : St} {b : E} {Q : VK} (hs : SR C st σZ F HZ) (hw : Wp (callClo (run P (n + 1)) [] b [] st) (QX C st σZ F HZ Q) (NX C W st σZ F HZ)) :
    tE P (run P n) C.lam (fun cls d _ H => L2.WE W σZ cls d H) b C.σp HZ Q := by
  refine ⟨F, ⟨st.p, []⟩, hs.toLam, ?_⟩
  unfold callClo at hw
  simp only [argDs, run_clo] at hw
  cases he : evE P (run P n) b ⟨st.p, []⟩ with
  | stk m => rw [he] at hw; exact hw.elim
  | exc x s' =>
    rw [he] at hw
    exact fun cls dO F' H' p r => hw cls dO F' H' (lam_back hm hx hs p).toPost r
  | ok w s' =>
    rw [he] at hw
    intro v F' H' p r nw
    simp only [Out.bind] at hw
    have ht : Wp (take s' w) (fun d s2 => QX C st σZ F HZ Q (.val d) ⟨st.c, s2.c⟩) (fun _ _ => True) := by
      cases q : take s' w with
      | stk m => rw [q] at hw; exact hw.elim
      | exc x s2 => trivial
      | ok d s2 => rw [q] at hw; exact hw
    have hm' : C.lam.mono := hm
    obtain ⟨d, s2, F2, p2, dv, q⟩ := take_ok hm' p r nw ht
    exact q v F2 H' (lam_back hm hx hs p2.toPost) dv .val
theorem pe_clo {CXg : L2.CXT} {Eg : XK} {Ng : List Str} {qg : Str} {sg : Scope} {g f c' : Addr} {cdg pm ct : Value} {params : Arguments} {body : Expr} {scope : Scope} {k i n : Nat} {a : Str} {pn : List (Addr × Obj)} {xe : Value → Shared → Prop} {b : E} {p1 p2 : Pos}
    (I : Inv X pins σ H s) (L : LamX.LamS X.env.scope scope) (hf : s.heap.get? f = some (lamO X params body scope pm c' ct)) (hfn : H f = none) (hfr : f ∉ frs X.stack)
    (hbind : bindArgs (PySem.W.kla_fn lamN (X.env.qual ++ lamN) params body scope (L2.cloFrom X.env.cells scope.names []) pm (.ref c') ct) ⟨[], []⟩ = pure [])
    (tk : L2.Takes ((L2.cxOf CXg X.prog X.w X.K X.mg X.base Ng qg sg g cdg X.A X.stack s H Eg).tr pn xe) W) (hr : L2.Room (k + 1) (X.A.deeper (envOfC qg sg s.heap.objs.size g cdg)))
    (hm : C.mono) (hx : C.noX) (hσ : C.σp = σ) (hcs : ∀ ps e v, C.cs ps e v → ps = [] ∧ e = b ∧ v = .ref f) (hcd : (c', X.env.qual ++ lamN) ∈ C.cd)
    (hbody : ∀ (A : Around) (outer : List Env) (s : Shared) (H : Hp) (E : XK), L2.Room k (A.deeper (LamX.lamEnv X scope s.heap.objs.size f c')) → PE (LamX.lamCx X A outer s H E scope f c') body (tE P (run P n) C.lam (fun cls d _ H => E cls d H) b))
    (hN : Ng[i]? = some a) (hv : L2.Vis sg a) (hd : (a == ("__debug__" : Str)) = false) (hcd' : (a == ("__classdict__" : Str)) = false) :
    PE ((L2.cxOf CXg X.prog X.w X.K X.mg X.base Ng qg sg g cdg X.A X.stack s H Eg).tr pn xe) (.Call (.Name a p1) [] [] p2) (tClo P (run P (n + 1)) C W i) := by
  refine ⟨fun pinsZ sZ σZ HZ Q IZ ⟨F, st, ps, e, hs, he, hw⟩ => ?_⟩
  obtain ⟨v, hv1, hc1⟩ := hs.c.sl i _ (slotAt_clo he)
  obtain ⟨rfl, rfl, rfl⟩ := hcs _ _ _ hc1
  have hcode : HZ c' = some (LamX.CodeO c' (X.env.qual ++ lamN)) := hs.le _ _ (hs.cd _ hcd)
  refine wpAny_Call_Name_kw (L2.thn ((L2.pe_var (pos := p1) (i := i) hN hv hd hcd').run pinsZ sZ σZ HZ (fun v H1 => v = .ref f ∧ H1 = HZ) IZ ⟨.ref f, join_some hv1, rfl, rfl⟩) fun u s1 ⟨v, H1, I1, r1, q1, q2⟩ => ?_)
  subst q1 q2
  obtain rfl : u = Value.ref f := r1
  have there : s1.heap.get? f = some (lamO X params body scope pm c' ct) := I1.base.keep f _ hf hfn hfr (fun z => nomatch (show f ∈ ([] : List Addr) from z))
  refine PySem.W.callWith_F0 ⟨_, _, _, _, there⟩ ?_
  have un : L2.Un (frs X.stack) [] H H1 s.heap s1.heap := I1.base
  obtain ⟨⟨oc, vs, t, hoc, hdc, hvc⟩, _, _⟩ := I1.hok c' _ hcode
  have rc : codeAny (model X.prog X.w) (X.A.deeper (envOfC qg sg s.heap.objs.size g cdg)) (.call (.ref f) ⟨[], []⟩) (L2.CR (L2.CX X.prog X.w) (envOfC qg sg s.heap.objs.size g cdg :: X.stack) X.prog X.w H1 s1 Q (L2.WE W σZ)) s1 := by
    refine PySem.W.kla_callFunE hr.depth there rfl L.co L.gen rfl ⟨c', oc, vs, t, rfl, hoc, hdc, hvc⟩ ?_
    rw [hbind]
    refine wpAny_pure (wpAny_newFunctionEnv (fun y hy => (L.own y hy).2) (fun y hy => absurd hy (by simp)) (fun h₁ hns hsb => ⟨I1.nolimit.fresh _ hsb, ?_⟩) L.kind)
    have kp : ∀ b o, s1.heap.get? b = some o → h₁.get? b = some o := fun b o e => hsb.extBut b o (Nat.ne_of_lt (Heap.lt_size e)) (Heap.get?_push_of_some _ e)
    have J := LamX.lam_start2 (E := L2.WE W σZ) (f := f) (c' := c') (tk := s1.toks + ([] : List (Str × Value)).length) I L I1.env0 hr.hd un hns kp
    refine PySem.W.kla_codeExpr (wpAny_mono ((hbody _ _ s1 H1 (L2.WE W σZ) (hr.deeper _)).run [] _ _ H1 Q J ?_) (fun v s' hq => ?_) fun e s' hq => hq)
    · rw [← hσ]
      exact clo_r hm hx hs hw
    · obtain ⟨w', H', J', rv, q⟩ := hq
      exact ⟨w', H', J'.os, J'.bare, J'.base, J'.hok, rv, q⟩
  refine wpAny_call (codeAny_mono rc fun r s' hq => ?_)
  cases r with
  | error e => exact L2.passAt tk σZ pinsZ _ s1 e s' I1 hq
  | ok fl =>
    cases fl with
    | ret u => exact I1.after hq
    | _ => exact False.elim hq
end

/-! ### a function is handed over -/
theorem keepsP_at : ∀ {c p : Fr}, keepsP c p = true → p.length = c.length ∧ ∀ (i : Nat) (x : Slot), c[i]? = some x → ∃ y, p[i]? = some y ∧ plainSl y = true ∧ (heldSl x = true → heldSl y = true)
  | [], [], _ => ⟨rfl, fun i x e => by simp at e⟩
  | [], _ :: _, h => by simp [keepsP] at h
  | _ :: _, [], h => by simp [keepsP] at h
  | x :: r, y :: q, h => by
    simp only [keepsP, Bool.and_eq_true, Bool.or_eq_true, Bool.not_eq_true'] at h
    obtain ⟨⟨h1, h2⟩, h3⟩ := h
    obtain ⟨l, k⟩ := keepsP_at h3
    refine ⟨by rw [List.length_cons, List.length_cons, l], fun i z e => ?_⟩
    cases i with
    | zero =>
      rw [List.getElem?_cons_zero, Option.some.injEq] at e
      subst e
      exact ⟨y, rfl, h1, fun hh => h2.resolve_left fun w => by rw [hh] at w; cases w⟩
    | succ i => rw [List.getElem?_cons_succ] at e ⊢; exact k i z e
theorem heldSl_iff {x : Slot} : heldSl x = true ↔ ∃ d, x = .own d ∨ x = .val d := by
  cases x <;> simp [heldSl]
section
variable {C : Kx} {st : St} {σ : L2.St} {F H : Hp} {cs : List Nat → E → V → Prop} {cd : List (Addr × Str)}
theorem SR.toFnc {b : E} {m : Nat} {fl : Addr} {τ : L2.St} (h : SR C st σ F H) (hp : st.c.all plainSl = true) (hc : cs [] b (.ref fl)) (hcd : ∀ p ∈ cd, F p.1 = some (LamX.CodeO p.1 p.2)) (hτ : τ[0]? = some (some (.ref fl))) (hl : τ.length = m + 1) :
    SR (C.fnc H σ cs cd) ⟨Slot.clo [] b :: List.replicate m .un, st.c⟩ τ F H := by
  have at_ : ∀ {i : Nat} {x : Slot}, (Slot.clo [] b :: List.replicate m .un)[i]? = some x → (i = 0 ∧ x = .clo [] b) ∨ x = .un := fun {i x} e => by
    cases i with
    | zero => rw [List.getElem?_cons_zero, Option.some.injEq] at e; exact .inl ⟨rfl, e.symm⟩
    | succ i =>
      rw [List.getElem?_cons_succ, List.getElem?_replicate] at e
      split at e
      · cases e; exact .inr rfl
      · cases e
  refine ⟨h.le, ⟨by rw [hl, List.length_cons, List.length_replicate], fun i x e => ?_, fun i j d e a h1 _ _ _ => ?_⟩, ⟨h.c.len, fun i x e => ?_, h.c.ne⟩, fun a ⟨i, d, h1, _⟩ => ?_, fun _ z => z, h.zz, h.tb, hcd⟩
  · rcases at_ e with ⟨rfl, rfl⟩ | rfl
    · exact ⟨.ref fl, by rw [hτ]; rfl, hc⟩
    · trivial
  · rcases at_ h1 with ⟨_, z⟩ | z <;> cases z
  · have r := h.c.sl i x e
    have pl := List.all_eq_true.mp hp x (List.mem_of_getElem? e)
    cases x with
    | exn x => cases pl
    | clo ps b => cases pl
    | _ => exact r
  · rcases at_ h1 with ⟨_, z⟩ | z <;> cases z
theorem fnc_back {s0 s' : St} {τ τ' : L2.St} {F' H' : Hp} (h : SR C st σ F H) (h0 : s0.p = st.c) (p : PostS (C.fnc H σ cs cd) s0 τ F H s' τ' F' H') (kp : keepsP st.c s'.p = true) : PE' C st σ F H ⟨s'.p, st.p⟩ F' H' := by
  obtain ⟨hl, hk⟩ := keepsP_at kp
  have op : ∀ a, Own s'.p σ a → Own st.c σ a := fun a z => by have := p.op a z; rwa [h0] at this
  have nO : ∀ a o, H a = some o → Own st.p C.σp a → ¬ (H a = none ∨ Own s0.p σ a) := fun a o e z q => by
    rcases q with q | q
    · rw [e] at q; cases q
    · rw [h0] at q; exact h.dj a q z
  refine ⟨⟨⟨p.sr.le, ⟨p.sr.p.len, fun i x e => ?_, p.sr.p.ne⟩, ⟨h.p.len, fun i x e => ?_, h.p.ne⟩, fun a z => h.dj a (op a z), fun a e => h.zz a (p.st.there a e), fun a e => h.zp a (p.st.there a e), p.sr.tb, fun q hq => p.st.le _ _ (h.cd q hq)⟩,
    ⟨p.st.le, fun a o e t n => p.st.keep a o e t fun z => ?_, fun a e q => ?_, p.st.there⟩, op, fun _ z => z⟩, fun i d z => ?_⟩
  · have r := p.sr.p.sl i x e
    cases x with
    | exn x => obtain ⟨v, _, z⟩ := r; exact z.elim
    | clo ps b => obtain ⟨v, _, z⟩ := r; exact z.elim
    | _ => exact r
  · have r := h.p.sl i x e
    cases x with
    | un => trivial
    | val d => obtain ⟨v, e, z⟩ := r; exact ⟨v, e, z.mono p.st.le⟩
    | own d =>
      obtain ⟨a, e1, e2, e3, e4⟩ := r
      obtain ⟨o, ho⟩ := e4.some
      have no := nO a o ho ⟨i, d, e, join_some e1⟩
      refine ⟨a, e1, ?_, e3, e4.mono p.st.le (by rw [p.st.keep a o ho (e4.ntb ho) no, ho])⟩
      cases q : F' a with
      | none => rfl
      | some u =>
        rcases p.st.new a e2 (by rw [q]; simp) with z | z
        · rw [ho] at z; cases z
        · exact absurd z no
    | exn x => obtain ⟨v, _, z⟩ := r; exact z.elim
    | clo ps b => obtain ⟨v, _, z⟩ := r; exact z.elim
  · rcases z with z | z
    · rw [show H a = none from z] at e; cases e
    · rw [h0] at z; exact n (.inl z)
  · rcases p.st.new a e q with z | z | z
    · exact .inl z
    · exact .inl z
    · rw [h0] at z; exact .inr (.inl z)
  · have : ∃ x, st.c[i]? = some x ∧ heldSl x = true := by
      rcases z with z | z
      · exact ⟨_, z, rfl⟩
      · exact ⟨_, z, rfl⟩
    obtain ⟨x, e, hx⟩ := this
    obtain ⟨y, e2, _, hy⟩ := hk i x e
    obtain ⟨d', w⟩ := heldSl_iff.mp (hy hx)
    exact ⟨d', w.imp (fun w => by rw [← w]; exact e2) fun w => by rw [← w]; exact e2⟩
theorem fnc_ret {s0 s' : St} {τ τ' : L2.St} {F' H' : Hp} {v : V} {w : Mid.W} (h : SR C st σ F H) (h0 : s0.p = st.c) (p : PostS (C.fnc H σ cs cd) s0 τ F H s' τ' F' H') (r : RT (C.fnc H σ cs cd) s' τ' F' H' v w) : RW C ⟨s'.p, st.p⟩ σ F' H' v w ∧ NW H v w := by
  cases w with
  | val d => exact ⟨r, .val⟩
  | own d =>
    obtain ⟨a, rfl, nf, no, hz, od⟩ := r
    have hn : H a = none := hz
    refine ⟨⟨a, rfl, nf, fun z => ?_, h.zz a hn, h.zp a hn, od⟩, fun _ _ b e => by cases e; exact hn⟩
    rcases z with z | z
    · exact no (.inr z)
    · obtain ⟨o, ho⟩ := Own.some h.p z
      rw [hn] at ho; cases ho
  | pl i => exact r.elim
end
section
variable {P : Pg} {C : Kx} {W : WX} {X : Cx}
theorem run_call {n f : Nat} {fd : Fd} {sl : List Slot} {p : Fr} (hfd : P.fs[f]? = some fd) : run P (n + 1) (.call f sl p) = match evSs P (run P n) fd.body ⟨sl ++ List.replicate (fd.ns - fd.np) .un, p⟩ with
      | .ok (.rt w) s => .ret w s.c s.p
      | .ok .nx s => .ret (.val .non) s.c s.p
      | .ok _ _ => .stk "flow"
      | .exc x s => .exc x s.c s.p
      | .stk m => .stk (m ++ " <f" ++ toString f) := by
  rw [run]
  simp only [hfd]
  all_goals cases evSs P (run P n) fd.body ⟨sl ++ List.replicate (fd.ns - fd.np) .un, p⟩ with
  | ok a s => cases a <;> rfl
  | exc x s => rfl
  | stk m => rfl
/-- what the call's reading gives -/
theorem lamcall_r {n f : Nat} {fd : Fd} {b : E} (hfd : P.fs[f]? = some fd) (hnp : fd.np = 1) {st : St} {Q : Mid.W → St → Prop} {N : Mid.X → St → Prop} (hw : Wp (evE P (run P (n + 1)) (.call f [.clo [] b]) st) Q N) :
    st.c.all plainSl = true ∧ Wp (evSs P (run P n) fd.body ⟨Slot.clo [] b :: List.replicate (fd.ns - 1) .un, st.c⟩) (fun fl s' => match fl with
      | .nx => keepsP st.c s'.p = true ∧ Q (.val .non) ⟨s'.p, st.p⟩
      | .rt w => keepsP st.c s'.p = true ∧ Q w ⟨s'.p, st.p⟩
      | _ => False) (fun x s' => keepsP st.c s'.p = true ∧ N x ⟨s'.p, st.p⟩) := by
  rw [evE, evAs, evAs] at hw
  simp only [Out.bind, callOf, hfd, List.any_cons, A.isClo, Bool.true_or, if_true, frzAs, callB, argSlots, Option.map_some] at hw
  split at hw
  · rename_i hc
    refine ⟨hc.2.2, ?_⟩
    rw [run_call hfd, hnp] at hw
    show Wp (evSs P (run P n) fd.body ⟨[Slot.clo [] b] ++ List.replicate (fd.ns - 1) .un, st.c⟩) _ _
    cases he : evSs P (run P n) fd.body ⟨[Slot.clo [] b] ++ List.replicate (fd.ns - 1) .un, st.c⟩ with
    | stk m => rw [he] at hw; exact hw.elim
    | exc x s' =>
      rw [he] at hw
      simp only at hw
      split at hw
      · rename_i k; exact ⟨k, hw⟩
      · exact hw.elim
    | ok fl s' =>
      rw [he] at hw
      cases fl with
      | nx =>
        simp only at hw
        split at hw
        · rename_i k; exact ⟨k, hw⟩
        · exact hw.elim
      | rt w =>
        cases w with
        | pl i => exact hw.elim
        | val d =>
          simp only at hw
          split at hw
          · rename_i k; exact ⟨k, hw⟩
          · exact hw.elim
        | own d =>
          simp only at hw
          split at hw
          · rename_i k; exact ⟨k, hw⟩
          · exact hw.elim
      | bk => exact hw.elim
      | ct => exact hw.elim
  · exact hw.elim
end

section
variable {P : Pg} {C : Kx} {W : WX} {X : Cx}
/-- x(lambda: body) -/
theorem pe_lamcall {n k f : Nat} {fd : Fd} {b : E} {x a name qual : Str} {cO Pt : Addr} {pg : Arguments} {bg : List Stmt} {sg : Scope} {dV kV doc pm cdv ctv oc : Value} {an od : Option Addr} {osl : Array (Option Value)} {Ng : List Str}
    {params : Arguments} {body : Expr} {scope : Scope} {p lpos pos : Pos} (hfd : P.fs[f]? = some fd) (hnp : fd.np = 1) (hns : fd.ns = Ng.length)
    (lk : X.K.lookup (C.fa f) = some ⟨oc, od, .func (PySem.W.fnOf name qual pg bg sg dV kV doc pm an cdv ctv), osl⟩) (hcg : PySem.W.codeIn X.K cdv qual = true) (hb : L2.Binds X.K (PySem.W.fnOf name qual pg bg sg dV kV doc pm an cdv ctv) [a] []) (Sg : L2.FnScope Ng [a] sg)
    (hgl : L2.Gl X x) (hmg : X.mg x = some (.ref (C.fa f))) (hk : PySem.W.keepIn X.K (.ref (C.fa f)) = true) (hdb : (x == ("__debug__" : Str)) = false)
    (TB : LamX.TabB X.base X.mg cO Pt) (hcode : X.env.code = .ref cO) (hT : (Pt, X.env.qual ++ lamN) ∈ C.T) (hu : ∀ p ∈ C.T, p.1 = Pt → p.2 = X.env.qual ++ lamN) (hr : L2.Room (k + 2) X.A) (L : LamX.LamS X.env.scope scope) (hdef : defaultsOf params X.env = ([], []))
    (hbind : ∀ (q : Str) (cl : List (Str × Addr)) (pm cv ct : Value), bindArgs (PySem.W.kla_fn lamN q params body scope cl pm cv ct) ⟨[], []⟩ = pure []) (tk : L2.Takes X W) (hm : C.mono) (hx : C.noX)
    (hF : ∀ (s1 : Shared) (H1 : Hp) (E : XK) (C' : Kx), C'.gx = C.gx → C'.fx = [] → L2.Room (k + 1) (X.A.deeper (envOfC qual sg s1.heap.objs.size (C.fa f) cdv)) →
      (∀ (pn : List (Addr × Obj)) (xe : Value → Shared → Prop) (W : WX) (i : Nat) (a' : Str) (p1 p2 : Pos), L2.Takes ((L2.cxOf (L2.CX X.prog X.w) X.prog X.w X.K X.mg X.base Ng qual sg (C.fa f) cdv X.A X.stack s1 H1 E).tr pn xe) W → Ng[i]? = some a' → L2.Vis sg a' → (a' == ("__debug__" : Str)) = false → (a' == ("__classdict__" : Str)) = false →
        PE ((L2.cxOf (L2.CX X.prog X.w) X.prog X.w X.K X.mg X.base Ng qual sg (C.fa f) cdv X.A X.stack s1 H1 E).tr pn xe) (.Call (.Name a' p1) [] [] p2) (tClo P (run P n) C' W i)) →
      PSs (L2.cxOf (L2.CX X.prog X.w) X.prog X.w X.K X.mg X.base Ng qual sg (C.fa f) cdv X.A X.stack s1 H1 E) bg (tS P (run P n) C' (fun cls d _ H => E cls d H) fd.body))
    (hL : ∀ (A : Around) (outer : List Env) (s : Shared) (H : Hp) (E : XK) (fl c' : Addr) (C' : Kx) (l : Nat), C'.gx = C.gx → C'.noClo → C'.fx = [] → n = l + 1 → L2.Room k (A.deeper (LamX.lamEnv X scope s.heap.objs.size fl c')) →
      PE (LamX.lamCx X A outer s H E scope fl c') body (tE P (run P l) C' (fun cls d _ H => E cls d H) b)) :
    PE X (.Call (.Name x p) [.Lambda params body scope lpos] [] pos) (tE P (run P (n + 1)) C W (.call f [.clo [] b])) := by
  refine ⟨fun pins s σ H Q I ⟨F, st, hs, hw⟩ => ?_⟩
  refine wpAny_Call_Name_kw (L2.ld_glob I hgl hmg ?_ hdb)
  refine PySem.W.callWith_K (h₀ := X.base) I.ok.mod.kin hk ?_ (by rfl) (by rfl)
  show wpAny _ _ (spliced ((false, eval (.Lambda params body scope lpos) X.env) :: backTo pos (starEach [] X.env))) _ _ s
  refine Calls.spliced_cons (lam_new I TB hcode (hs.tb _ hT) hs.le hdef (L.has I.ok) fun fl c' pm' ct' H1 s' I1 ls hfl hfn hfr => ?_)
  refine Calls.spliced_nil ⟨I1.kIn, ?_⟩
  obtain ⟨F1, p1, hco⟩ := hs.lam hm hT hu ls
  have hb' := hb s' [.ref fl] I1.kIn (by rfl)
  obtain ⟨hpl, hw1⟩ := lamcall_r hfd hnp hw
  have hs1 := p1.sr
  -- the def's context
  let cs : List Nat → E → V → Prop := fun ps e v => ps = [] ∧ e = b ∧ v = .ref fl
  let cd : List (Addr × Str) := [(c', X.env.qual ++ lamN)]
  let C' : Kx := C.fnc H1 σ cs cd
  have hst : (L2.start Ng [V.ref fl])[0]? = some (some (V.ref fl)) := start_at (i := 0) rfl
  have hstl : (L2.start Ng [V.ref fl]).length = (fd.ns - 1) + 1 := by
    have : 1 ≤ Ng.length := by
      have := congrArg List.length Sg.pre
      rw [List.length_take] at this
      simp only [List.length_cons, List.length_nil] at this
      omega
    unfold L2.start
    simp only [List.length_append, List.length_map, List.length_replicate, List.length_cons, List.length_nil]
    omega
  have hs0 : SR C' ⟨Slot.clo [] b :: List.replicate (fd.ns - 1) .un, st.c⟩ (L2.start Ng [V.ref fl]) F1 H1 :=
    hs1.toFnc hpl ⟨rfl, rfl, rfl⟩ (fun p hp => by
      rcases List.mem_cons.mp hp with z | z
      · subst z; exact hco
      · cases z) hst hstl
  have rc : codeAny (model X.prog X.w) X.A (.call (.ref (C.fa f)) ⟨[.ref fl], []⟩) (L2.CR (L2.CX X.prog X.w) X.stack X.prog X.w H1 s' Q (L2.WE W σ)) s' := by
    refine LamX.run_ofS (N := Ng) (ps := [a]) (us := [.ref fl]) (vs := [.ref fl]) (k := k + 1) lk hcg Sg hr I1.env0 hb' (.cons rfl .nil) rfl fun hr' => ?_
    refine ⟨tS P (run P n) C' (fun cls d _ H => L2.WE W σ cls d H) fd.body, hF s' H1 (L2.WE W σ) C' rfl rfl hr' (fun pn xe W' i a' q1 q2 tk' hN hv hd1 hd2 => ?_), F1, _, hs0, Wp.mono hw1 (fun fl' s2 hq σ' F' H' p => ?_) fun x s2 hq cls dO σ' F' H' p r => ?_⟩
    · cases n with
      | zero => exact ⟨fun pins s σ H Q I ⟨F, st, ps, e, _, _, hz⟩ => by
          unfold callClo at hz
          simp only [argDs] at hz
          exact (show False from hz).elim⟩
      | succ l =>
        exact pe_clo (k := k) I1 L hfl hfn hfr (hbind _ _ _ _ _) tk' hr' hm hx rfl (fun ps e v z => z) (List.mem_cons_self ..)
          (fun A outer s H E hr2 => hL A outer s H E fl c' _ l rfl (fun _ _ _ z => z) rfl rfl hr2) hN hv hd1 hd2
    · cases fl' with
      | nx =>
        obtain ⟨kp, q⟩ := hq
        exact q .non F' H' (p1.trans (fnc_back hs1 rfl p kp)) .non .val
      | rt w =>
        obtain ⟨kp, q⟩ := hq
        intro v r
        obtain ⟨r1, r2⟩ := fnc_ret hs1 rfl p r
        exact q v F' H' (p1.trans (fnc_back hs1 rfl p kp)) r1 (r2.back fun a h => p1.st.there a h)
      | bk => exact hq.elim
      | ct => exact hq.elim
    · obtain ⟨kp, q⟩ := hq
      exact q cls dO F' H' (p1.trans (fnc_back hs1 rfl p kp)).toPost r
  refine wpAny_call (codeAny_mono rc fun r s2 hq => ?_)
  cases r with
  | error e => exact L2.passAt tk σ pins _ s' e s2 I1 hq
  | ok fl' =>
    cases fl' with
    | ret u => exact I1.after hq
    | _ => exact False.elim hq
end
end Mid
set_option Elab.async false
set_option linter.all false
set_option maxRecDepth 100000
set_option maxHeartbeats 4000000
/-! Errors of one's own: classes over ValueError, their __init__ by super().__init__(..). -/
namespace Mid
open PySem PySem.Spec PyProof.Rows
open L2 (Hp HO V RelV Vals SqL SqT Rd upd upd_same upd_ne OpR R2 Inv Cx EP VK TE TT TA TS WX XK PE PT PA PS PSs Ends CallR frs exo exd OexC)

/-- the frame of an __init__ that says super() -/
abbrev initEnv (qual : Str) (scope : Scope) (L f : Addr) (cd : Value) (cc : Addr) : Env := PySem.W.ksEnv qual scope L f cd cc
def initX (CX : L2.CXT) (P : Program) (w : World) (K : PySem.W.Frag) (mg : Str → Option Value) (base : Heap) (N : List Str) (qual : Str) (scope : Scope) (f : Addr) (cd : Value) (cc : Addr) (A : Around) (outer : List Env) (s : Shared) (H : Hp) (E : XK) : Cx where
  prog := P
  w := w
  K := K
  mg := mg
  base := base
  A := A.deeper (initEnv qual scope s.heap.objs.size f cd cc)
  N := N
  s_0 := s
  H_0 := H
  env := initEnv qual scope s.heap.objs.size f cd cc
  outer := outer
  stack := initEnv qual scope s.heap.objs.size f cd cc :: outer
  ex := []
  calm := true
  fn := fun _ => false
  pn := []
  xe := fun e s' => wpAny (model P w) (A.deeper (initEnv qual scope s.heap.objs.size f cd cc)) (leaving (initEnv qual scope s.heap.objs.size f cd cc) e) (fun _ s'' => CX outer H s E e s'') (fun e' s'' => CX outer H s E e' s'') s'
/-- its names -/
structure InitS (N : List Str) (sc : Scope) : Prop where
  kind : sc.kind = .function
  co : sc.isCoroutine = false
  gen : sc.isGenerator = false
  nd : N.Nodup
  par : ∀ x ∈ N, sc.names.lookup x = some .local
  nocell : ∀ y ∈ sc.names, y.2 ≠ .cell
  free : ∀ y ∈ sc.names, y.2 = .free → y.1 = "__class__"
section
variable {CX : L2.CXT} {P : Program} {w : World} {K : PySem.W.Frag} {mg : Str → Option Value} {base : Heap} {N : List Str} {qual : Str} {scope : Scope} {f cc : Addr} {cd : Value} {A : Around} {outer : List Env} {s : Shared} {H : Hp} {E : XK} {us : List Value} {vs : List V}
theorem rev_look {us : List Value} : ∀ {N : List Str} {i : Nat} {x : Str} {u : Value}, N.Nodup → N.length = us.length → N[i]? = some x → us[i]? = some u → (N.zip us).reverse.lookup x = some u := by
  intro N
  have key : ∀ {l : List (Str × Value)} {x : Str} {u : Value}, (l.map (·.1)).Nodup → (x, u) ∈ l → l.lookup x = some u := by
    intro l
    induction l with
    | nil => intro x u _ h; cases h
    | cons p r ih =>
      intro x u nd h
      obtain ⟨y, v⟩ := p
      rw [List.map_cons, List.nodup_cons] at nd
      rw [List.lookup_cons]
      rcases List.mem_cons.mp h with z | z
      · cases z; simp
      · have ne : (x == y) = false := by
          rw [beq_eq_false_iff_ne]
          intro e
          subst e
          exact nd.1 (List.mem_map.mpr ⟨_, z, rfl⟩)
        rw [ne]
        exact ih nd.2 z
  intro i x u nd hl h1 h2
  refine key ?_ (List.mem_reverse.mpr ?_)
  · rw [List.map_reverse, List.map_fst_zip (Nat.le_of_eq hl)]
    exact (List.reverse_perm _).nodup_iff.mpr nd
  · exact List.mem_of_getElem? (List.getElem?_zip_eq_some.mpr ⟨h1, h2⟩)
theorem init_start (S : InitS N scope) (hd : A.handled = none) (e0 : L2.Env0 P w K mg base A outer s H) (hl : vs.length = N.length) (r : Vals vs us) (hcc : ∃ o v, K.lookup cc = some o ∧ o.data = .cell v) {h₁ : Heap} {tk : Nat}
    (hns : h₁.Ns s.heap.objs.size fun y => (N.zip us).reverse.lookup y) (kp : ∀ b o, s.heap.get? b = some o → h₁.get? b = some o) :
    Inv (initX CX P w K mg base N qual scope f cd cc A outer s H E) [] (vs.map some) H { s with heap := h₁, toks := tk } := by
  obtain ⟨oc, vc, hc1, hc2⟩ := hcc
  have bc := e0.mod.kin _ _ hc1
  have noA : ∀ b : Addr, b ∉ (initX CX P w K mg base N qual scope f cd cc A outer s H E).ex := fun b z => absurd (show b ∈ ([] : List Addr) from z) (by simp)
  have one : ∀ {y : Str} {c : Addr}, (initX CX P w K mg base N qual scope f cd cc A outer s H E).env.cells.lookup y = some c → y = "__class__" ∧ c = cc := fun {y c} e => by
    have e : ([("__class__", cc)] : List (Str × Addr)).lookup y = some c := e
    rw [List.lookup_cons] at e
    split at e
    · rename_i q
      cases e
      exact ⟨beq_iff_eq.mp q, rfl⟩
    · simp at e
  have hcell : ∀ {c : Addr}, c = cc → (s.heap.get? c = some oc ∧ H c = none) := fun {c} e => by subst e; exact e0.bs _ _ bc
  refine ⟨⟨e0.mod, S.kind, rfl, rfl, Nat.le_refl _, fun y z c h1 h2 => by rw [(one h1).1, (one h2).1], fun y hy => ?_, fun y c z _ => absurd (show false = true from z) Bool.false_ne_true, fun _ => hd, Around.frames_deeper e0.frames, .inr ⟨rfl, rfl⟩, fun b z => absurd z (noA b), e0.bs, e0.bsz, fun b _ _ => noA b, fun b z => absurd z (noA b), e0.funs, e0.frf⟩,
    rfl, e0.bare, L2.Un.kept kp, ⟨_, hns, fun i y v h1 h2 h3 => ?_⟩, fun y c h => ?_, e0.hok.fresh (Nat.le_refl _), fun y c h => (hcell (one h).2).2, fun p hp => absurd (show p ∈ ([] : List (Addr × Obj)) from hp) (by simp), e0.hok.kept kp, by rw [List.length_map]; exact hl⟩
  · have hy : scope.names.lookup y = some .cell ∨ scope.names.lookup y = some .free := hy
    rcases hy with hy | hy
    · exact absurd rfl (S.nocell _ (PySem.mem_of_lookup hy))
    · have := S.free _ (PySem.mem_of_lookup hy) rfl
      simp only at this
      subst this
      exact ⟨cc, by show ([("__class__", cc)] : List (Str × Addr)).lookup _ = _; simp [List.lookup]⟩
  · have ha : vs[i]? = some v := by
      rw [List.getElem?_map] at h2
      cases e : vs[i]? with
      | none => rw [e] at h2; cases h2
      | some a => rw [e] at h2; cases h2; rfl
    obtain ⟨u, hu, rv⟩ := r.get ha
    exact ⟨u, rv, .inl ⟨S.par y (List.mem_of_getElem? h1), rev_look S.nd (by rw [← hl]; exact r.length) h1 hu⟩⟩
  · obtain ⟨_, e⟩ := one h
    exact ⟨vc, oc, kp _ _ (hcell e).1, hc2⟩
end

/-! ### super().__init__(..) -/
theorem backStar (pos : Pos) (env : Env) : ∀ {es : List Expr}, es.all noStar = true → (backTo pos (starEach es env)).all (fun x => !x.1) = true
  | [], _ => rfl
  | e :: r, h => by
    rw [List.all_cons, Bool.and_eq_true] at h
    rw [starOk h.1]
    have ih := backStar pos env h.2
    simp only [backTo, List.map_cons, List.all_cons, Bool.and_eq_true] at ih ⊢
    exact ⟨rfl, ih⟩
/-- a method's call on one line, few arguments -/
theorem eval_mcall {o : Expr} {name : Str} {apos pos : Pos} {args : List Expr} {env : Env} (hs : args.all noStar = true) (hn : args.length < 30) (hl : (apos.endLine == pos.line) = true) :
    eval (.Call (.Attribute o name apos) args [] pos) env = (do
      let ov ← attributeBase o name env (eval o env)
      standAt apos.atName
      let (f, first) ← holding [ov] (getMethod ov name (L2.plainOf o env))
      callWith pos f first (backTo pos (starEach args env)) []) := by
  have e1 : eval (.Call (.Attribute o name apos) args [] pos) env = (do
      let ov ← attributeBase o name env (eval o env)
      standAt apos.atName
      methodCall o name apos pos env ov (args.length + ([] : List Keyword).length) (backTo pos (starEach args env)) (backToKw pos (keywordEach [] env))) := by rfl
  have hf : methodCallForm (args.length + ([] : List Keyword).length) (backTo pos (starEach args env)) (backToKw pos (keywordEach [] env)) = true := by
    unfold methodCallForm
    rw [backStar pos env hs]
    show (true && true && decide (args.length + 0 + 0 < 30)) = true
    simp only [Nat.add_zero, Bool.and_self, Bool.true_and, decide_eq_true_eq]
    exact hn
  rw [e1]
  simp only [L2.mcall_line hf hl]
  rfl
/-- what the written part says of the class -/
structure SupC (K : PySem.W.Frag) (mg : Str → Option Value) (C : Addr) : Prop where
  T : OexC K C
  sup : PySem.W.ks_superIn K C C "__init__" = some (some (.builtin "ValueError.__init__"))
  ve : PySem.W.subIn K (.ref C) (.type "ValueError") = some true
  self : PySem.W.mroIn K C (.ref C) = some true
  opq : PySem.W.nsIn K cStatics "thirdparty.any" = some none
  ms : mg "super" = none
section
variable {CX : L2.CXT} {P : Program} {w : World} {K : PySem.W.Frag} {mg : Str → Option Value} {base : Heap} {N : List Str} {qual : Str} {scope : Scope} {f cc cda : Addr} {A : Around} {outer : List Env} {s0 s : Shared} {H0 H : Hp} {E : XK} {σ : L2.St} {pins : List (Addr × Obj)}
/-- a method-wrapper's call -/
theorem call_mw {X : Cx} {C e u : Addr} {rest : List Value} {A : Around} {E : Value → Shared → Prop} {Q : Value → Shared → Prop} (T : OexC X.K C) (I : Inv X pins σ H s) (he : H e = some (exo e C none)) (hu : s.heap.get? u = some (PySem.W.kxs_mw "ValueError.__init__" e)) (hl : rest.length ≤ sizeLine)
    (k : ∀ s', Inv X pins σ H s' → Q .none s') : wpAny (model X.prog X.w) A (call (.ref u) rest) Q E s := by
  obtain ⟨nm, q, N, bs, bm, sn, sub, ab, col, dd, k0, k1, k2, k3, k5, hC, hbm⟩ := T.cls
  obtain ⟨t1, ho⟩ := L2.exo_at I.hok he
  have hCh := I.kIn _ _ hC
  obtain ⟨hp, g, d, tk, os⟩ := s
  refine wpAny_call (codeAny_of_tree ?_)
  show wpAny _ A.in1 (callAny (.ref u) ⟨rest, []⟩) _ _ _
  simp only [callAny]
  refine wpAny_bind (wpAny_load hu ?_)
  simp only [PySem.W.kxs_mw, show (Value.type "method-wrapper" == Value.type "method" || Value.type "method-wrapper" == Value.type "builtin_function_or_method" || Value.type "method-wrapper" == Value.type "method-wrapper") = true by decide, if_true]
  refine PySem.W.KFB.if_so (by decide) ?_
  refine wpAny_bind (PySem.W.check_bound_init F.excBase_ValueError.toExcCallFacts hCh ho rfl ?_)
  refine wpAny_bind (wpAny_pure (wpAny_pure ?_))
  refine ⟨plainId_quiet F.excBase_ValueError.init.plain _, codeAny_builtin F.excBase_ValueError.initEntry ?_⟩
  refine PySem.W.exc_init_tree (cls := .ref C) (t0 := t1) (dv := none) (c2 := .none) (c3 := .none) (b4 := .bool false) ho hl fun h' kp hx _ => ?_
  have J := I.write (t' := tk) (x := e) (e := e) (o := exo e C none) (by rw [he]; exact True.intro) (.inl rfl) kp ⟨_, hx⟩ (L2.exo_ok hx)
  have eu : upd H e (exo e C none) = H := by
    funext b
    by_cases hb : b = e
    · rw [hb, upd_same, he]
    · rw [upd_ne hb]
  rw [eu] at J
  exact k _ J
theorem super_ok {C e : Addr} {name : Str} {params : Arguments} {fbody body : List Stmt} {dV kV doc pm ct oc cl1 ccl : Value} {an od od1 od2 : Option Addr} {osl osl1 osl2 : Array (Option Value)} {vs : Array Value} {file : Str} {tf : Tok} {ar : Arg}
    {p0 p1 p2 pos pos' : Pos} {a1 : Expr} {as : List Expr} {ta : TA} {Q : Hp → Prop}
    (I : Inv (initX CX P w K mg base N qual scope f (.ref cda) cc A outer s0 H0 E) pins σ H s) (S : SupC K mg C) (IS : InitS N scope)
    (lk : K.lookup f = some ⟨oc, od, .func (PySem.W.ksFn name qual params fbody scope dV kV doc pm an (.ref cda) ct cc), osl⟩) (hp : (params.posonlyargs ++ params.args).head? = some ar) (hN : N[0]? = some ar.arg)
    (hcell : K.lookup cc = some ⟨cl1, od1, .cell (some (.ref C)), osl1⟩) (hcode : K.lookup cda = some ⟨ccl, od2, .fields vs, osl2⟩) (hvs : vs[2]? = some (.str file tf)) (hfile : ((P.main.file : Str) == file) = true) (htop : (P.main.scope.names.lookup ("super" : Str)).isSome = false)
    (hks : scope.names.lookup ("super" : Str) = some .globalImplicit) (hkc : scope.names.lookup ("__class__" : Str) = some .free)
    (hσ : σ[0]? = some (some (.ref e))) (he : H e = some (exo e C none))
    (ha : PA (initX CX P w K mg base N qual scope f (.ref cda) cc A outer s0 H0 E) (a1 :: as) ta) (hs1 : noStar a1 = true) (hs2 : as.all noStar = true) (hlen : as.length < 29) (hln : (p2.endLine == pos.line) = true)
    (h : ta σ H fun vs H1 => vs.length ≤ 1000 ∧ H1 e = some (exo e C none) ∧ Q H1) :
    _root_.PySem.wpAt (model P w) (A.deeper (initEnv qual scope s0.heap.objs.size f (.ref cda) cc)) (.func body (initEnv qual scope s0.heap.objs.size f (.ref cda) cc))
      (exec (.Expr (.Call (.Attribute (.Call (.Name "super" p0) [] [] p1) "__init__" p2) (a1 :: as) [] pos) pos') (initEnv qual scope s0.heap.objs.size f (.ref cda) cc))
      (fun fl s' => fl = .next ∧ ∃ H', Inv (initX CX P w K mg base N qual scope f (.ref cda) cc A outer s0 H0 E) pins σ H' s' ∧ Q H')
      (initX CX P w K mg base N qual scope f (.ref cda) cc A outer s0 H0 E).xe s := by
  have kin : K.In s.heap := I.kIn
  obtain ⟨nm, q, Nn, bs, bm, sn, sub, ab, col, dd, k0, k1, k2, k3, k5, hC, hbm⟩ := S.T.cls
  have hcl : PySem.W.clsIn K C = some { name := nm, bases := bs, mro := .ref C :: bm, ns := Nn, qualname := q, hasDict := true, slotNames := sn, subclasses := sub, abstract := ab, collection := col, hasDel := false } := by unfold PySem.W.clsIn; rw [hC] <;> rfl
  obtain ⟨t1, ho⟩ := L2.exo_at I.hok he
  obtain ⟨m, hns, hloc⟩ := I.loc
  have hself : scope.names.lookup ar.arg = some .local := IS.par _ (List.mem_of_getElem? hN)
  obtain ⟨us, hus, hlk⟩ := hloc 0 ar.arg (.ref e) hN hσ (.inl hself)
  obtain rfl : us = Value.ref e := hus
  have hm : m ar.arg = some (.ref e) := by
    rcases hlk with ⟨_, z⟩ | ⟨z, _⟩
    · exact z
    · rcases z with z | z <;> rw [show scope.names.lookup ar.arg = _ from z] at hself <;> cases hself
  obtain ⟨mb, hb1, hb2⟩ := I.mod.blt
  have xC : e ≠ C := fun z => by
    subst z
    have := kin _ _ hC
    rw [ho] at this
    cases this
  have hi : interactive (initEnv qual scope s0.heap.objs.size f (.ref cda) cc) = false := by
    unfold interactive
    show (scope.kind == .module && _) = false
    rw [IS.kind]
    rfl
  refine PySem.ks_wpAt_Expr_any ?_ hi rfl
  refine PySem.ks_wpAt_MethodCall (pl := L2.plainOf (.Call (.Name "super" p0) [] [] p1) (initEnv qual scope s0.heap.objs.size f (.ref cda) cc)) ?_ (eval_mcall (by rw [List.all_cons, hs1, hs2]; rfl) (by rw [List.length_cons]; omega) hln)
  refine PySem.ks_wpAt_super_base (env := initEnv qual scope s0.heap.objs.size f (.ref cda) cc) hks hkc (by decide) rfl (kin _ _ lk) rfl hp rfl (kin _ _ hcode) rfl hvs hfile htop ?_
  refine PySem.W.ks_loadName_global IS.kind hks (Calls.loadGlobal_builtin (env := initEnv qual scope s0.heap.objs.size f (.ref cda) cc) (I.mod.glob.keeps I.bk) S.ms (hb1.keeps I.bk) ((hb2 _ (by decide)).trans (show bootBuiltins "super" = some (.type "super") by decide +kernel)) ⟨rfl, ?_⟩)
  refine wpAny_loadName_free IS.kind hkc (c := cc) (by show ([("__class__", cc)] : List (Str × Addr)).lookup _ = _; simp [List.lookup]) ⟨_, kin _ _ hcell, rfl⟩ ?_
  refine wpAny_loadName_local IS.kind hself hns hm ?_
  refine PySem.ks_wpAny_isType_cls (kin _ _ hC) rfl ⟨rfl, ?_⟩
  obtain ⟨hh, g, d, tk, os⟩ := s
  refine PySem.ks_wpAny_call_super (kin _ _ hC) rfl ho rfl (fun c z => by cases z) (PySem.W.looks_mroIn kin S.self) fun h' e1 kp => ?_
  have I1 := I.kept (h' := h') (t' := tk) kp
  have kin1 : K.In h' := I1.kIn
  have sI : ∀ {hz : Heap}, K.In hz → hz.get? e = some ({ cls := .ref C, dict := none, data := .fields #[.ref t1, .none, .none, .none, .bool false, .none] } : Obj) → PySem.W.Looks (model P w) hz (isInstance (.ref e) (.type "ValueError")) true := fun {hz} kz ez =>
    (PySem.W.InstAt.type (show PySem.W.InstAt hz e _ C none from ⟨ez, rfl, rfl, trivial⟩)).andThen (PySem.W.looks_subIn kz S.ve)
  have hsup := S.sup
  unfold PySem.W.ks_superIn at hsup
  rw [hcl, Option.bind_some] at hsup
  refine PySem.W.kxs_getMethod PySem.W.kxs_ValueError e1 (PySem.W.looks_opaque kin1 S.opq) (l₀ := .ref C :: bm) (fun A Q E s k q => wpAny_bind ((PySem.W.looks_clsIn kin1 hcl) A _ E s k (wpAny_pure q))) rfl kin1 hsup (sI kin1 (kp _ _ ho)) xC (by decide) ?_
  have up : ∀ b o, h'.get? b = some o → (h'.push (PySem.W.kxs_mw "ValueError.__init__" e)).get? b = some o := fun b o z => Heap.get?_push_of_some _ z
  have I2 := I1.kept (h' := h'.push (PySem.W.kxs_mw "ValueError.__init__" e)) (t' := tk + 1) up
  have hu : (h'.push (PySem.W.kxs_mw "ValueError.__init__" e)).get? h'.objs.size = some (PySem.W.kxs_mw "ValueError.__init__" e) := Heap.get?_push_at rfl rfl
  have hsz : hh.objs.size ≤ h'.objs.size := Nat.le_of_lt (Heap.lt_size e1)
  have nL : h'.objs.size ≠ s0.heap.objs.size := fun z => by
    have := I1.lt
    rw [show (initX CX P w K mg base N qual scope f (.ref cda) cc A outer s0 H0 E).env.locals = s0.heap.objs.size from rfl, ← z] at this
    exact Nat.lt_irrefl _ this
  let Xi := initX CX P w K mg base N qual scope f (.ref cda) cc A outer s0 H0 E
  have I3 : Inv Xi ((h'.objs.size, PySem.W.kxs_mw "ValueError.__init__" e) :: pins) σ H ⟨h'.push (PySem.W.kxs_mw "ValueError.__init__" e), g, d, tk + 1, os⟩ := I2.pins_of fun p hp => by
    rcases List.mem_cons.mp hp with z | z
    · subst z
      exact ⟨hu, I1.hok.fresh (Nat.le_refl _), nL, fun z => I1.nofs (Nat.le_refl _) z, fun v z => by cases z⟩
    · exact I2.pin p (List.mem_append_right _ z)
  refine PySem.W.kxs_callWith (i := "ValueError.__init__") (x := e) (by rw [starOk hs1]; exact plainStars pos _ (es := as) hs2) ?_
  have hrun := ha.run pos _ _ σ H _ I3 h
  rw [starOk hs1] at hrun ⊢
  refine Calls.evalArgs_plain (L2.thn hrun fun us s2 hz => ?_)
  · obtain ⟨vs2, H1, J, r, hl, he1, q1⟩ := hz
    have hu2 : s2.heap.get? h'.objs.size = some (PySem.W.kxs_mw "ValueError.__init__" e) := (J.pin (h'.objs.size, PySem.W.kxs_mw "ValueError.__init__" e) (List.mem_append_right _ (List.mem_cons_self ..))).1
    refine ⟨hu2, ?_⟩
    refine call_mw (X := Xi) S.T J he1 hu2 (by rw [List.nil_append, ← r.length, sizeLine_eq]; omega) fun s3 J3 => ?_
    exact ⟨rfl, H1, J3.pins_of fun p hp => J3.pin p (List.mem_append_right _ (List.mem_cons_of_mem _ hp)), q1⟩
end

/-! ### the fields stored -/
/-- the statements self.f = f, for the names f -/
def chkStores (slf : Str) : List Str → List Stmt → Bool
  | [], [] => true
  | g :: r, .Assign [.Attribute (.Name x _) f _] (.Name y _) _ :: q => decide (x = slf) && decide (f = g) && decide (y = g) && isPlainN x && isPlainN g && chkStores slf r q
  | _, _ => false
where isPlainN (x : Str) : Bool := !(x == ("__debug__" : Str)) && !(x == ("__classdict__" : Str))
def tStores (K : PySem.W.Frag) : Nat → List Str → TS
  | _, [] => L2.tNext
  | i, g :: r => L2.tSeq (L2.tOst K g (L2.tVar 0) (L2.tVar i)) (tStores K (i + 1) r)
theorem pss_stores {X : Cx} {slf : Str} {N : List Str} (hN : X.N = N) (hp : ∀ x ∈ N, X.env.scope.names.lookup x = some .local) (h0 : N[0]? = some slf) : ∀ (l : List Str) (i : Nat) (q : List Stmt), (∀ (j : Nat) (x : Str), l[j]? = some x → N[i + j]? = some x) → chkStores slf l q = true → PSs X q (tStores X.K i l)
  | [], _, [], _, _ => L2.pss_nil
  | [], _, _ :: _, _, h => by simp [chkStores] at h
  | g :: r, i, q, hl, h => by
    unfold chkStores at h
    split at h
    · rename_i heq; cases heq
    · rename_i g' r' x p1 f p2 y p3 p4 q' e1
      cases e1
      simp only [Bool.and_eq_true, decide_eq_true_eq, chkStores.isPlainN, Bool.not_eq_true'] at h
      obtain ⟨⟨⟨⟨⟨rfl, rfl⟩, rfl⟩, n1, n2⟩, n3, n4⟩, h6⟩ := h
      have hy := hl 0 _ rfl
      refine L2.pss_cons (L2.ps_ost (L2.pe_var (by rw [hN]; exact h0) (.inl (hp _ (List.mem_of_getElem? h0))) n1 n2) (L2.pe_var (by rw [hN]; exact hy) (.inl (hp _ (List.mem_of_getElem? hy))) n3 n4)) ?_
      exact pss_stores hN hp h0 _ _ _ (fun j x e => by have := hl (j + 1) x e; rwa [show i + 1 + j = i + (j + 1) by omega]) h6
    · cases h
section
variable {K : PySem.W.Frag} {σ : L2.St} {D : Ends} {a C d : Addr}
theorem stores_old (T : OexC K C) (h0 : σ[0]? = some (some (.ref a))) (da : d ≠ a) : ∀ (l : List Str) (i : Nat) (ws : List V) (fs : List (Str × V)) (H : Hp), ws.length = l.length → (∀ (j : Nat) (v : V), ws[j]? = some v → σ[i + j]? = some (some v)) → (∀ g ∈ l, PySem.W.findIn K (.ref C) g = some none) → fs.length + l.length ≤ 900 →
    H a = some (exo a C (some d)) → H d = some (exd d fs) → (∀ H', H' a = some (exo a C (some d)) → H' d = some (exd d ((l.zip ws).reverse ++ fs)) → (∀ b, b ≠ a → b ≠ d → H' b = H b) → D.nx σ H') → tStores K i l D σ H
  | [], i, [], fs, H, _, _, _, _, ha, hd, k => k H ha hd fun _ _ _ => rfl
  | g :: r, i, w :: ws, fs, H, hl, hσ, hf, hn, ha, hd, k => by
    refine ⟨w, hσ 0 w rfl, .ref a, h0, a, C, rfl, T, hf g (List.mem_cons_self ..), .inr ⟨d, fs, ha, hd, by rw [List.length_cons] at hn; omega, ?_⟩⟩
    refine stores_old T h0 da r (i + 1) ws ((g, w) :: fs) _ (by simpa using hl) (fun j v e => by have := hσ (j + 1) v e; rwa [show i + 1 + j = i + (j + 1) by omega]) (fun x hx => hf x (List.mem_cons_of_mem _ hx)) (by rw [List.length_cons] at hn ⊢; omega) (by rw [upd_ne (Ne.symm da)]; exact ha) upd_same fun H' h1 h2 h3 => ?_
    refine k H' h1 ?_ fun b n1 n2 => by rw [h3 b n1 n2, upd_ne n2]
    rw [h2, List.zip_cons_cons, List.reverse_cons, List.append_assoc]
    rfl
theorem stores_new (T : OexC K C) (h0 : σ[0]? = some (some (.ref a))) {g : Str} {l : List Str} {i : Nat} {w : V} {ws : List V} {H : Hp} (hl : ws.length = l.length) (hw : σ[i]? = some (some w)) (hσ : ∀ (j : Nat) (v : V), ws[j]? = some v → σ[i + 1 + j]? = some (some v)) (hf : ∀ x ∈ g :: l, PySem.W.findIn K (.ref C) x = some none) (hn : l.length ≤ 800)
    (ha : H a = some (exo a C none)) (k : ∀ d H', H d = none → d ≠ a → H' a = some (exo a C (some d)) → H' d = some (exd d (((g :: l).zip (w :: ws)).reverse)) → (∀ b, b ≠ a → b ≠ d → H' b = H b) → D.nx σ H') : tStores K i (g :: l) D σ H := by
  refine ⟨w, hw, .ref a, h0, a, C, rfl, T, hf g (List.mem_cons_self ..), .inl ⟨ha, fun d nd da => ?_⟩⟩
  refine stores_old T h0 da l (i + 1) ws [(g, w)] _ hl hσ (fun x hx => hf x (List.mem_cons_of_mem _ hx)) (by simp; omega) upd_same (by rw [upd_ne da, upd_same]) fun H' h1 h2 h3 => ?_
  refine k d H' nd da h1 ?_ fun b n1 n2 => by rw [h3 b n1 n2, upd_ne n1, upd_ne n2]
  rw [h2, List.zip_cons_cons, List.reverse_cons]
end
/-- the promise of such an __init__ -/
def spI (C : Addr) (gs : List Str) : L2.Sp := fun vs H Q _ => ∃ a ws, vs = .ref a :: ws ∧ ws.length = gs.length ∧ H a = some (exo a C none) ∧ ∀ d H', H d = none → d ≠ a → H' a = some (exo a C (some d)) → H' d = some (exd d ((gs.zip ws).reverse)) → (∀ b, b ≠ a → b ≠ d → H' b = H b) → Q .non H'
/-- the names as arguments -/
def chkNames : List Str → List Expr → Bool
  | [], [] => true
  | g :: r, .Name x _ :: q => decide (x = g) && chkStores.isPlainN g && chkNames r q
  | _, _ => false
def tNames (i n : Nat) : TA := fun σ H Q => ∃ ws : List V, ws.length = n ∧ (∀ (j : Nat) (v : V), ws[j]? = some v → σ[i + j]? = some (some v)) ∧ Q ws H
theorem pa_names {X : Cx} {N : List Str} (hN : X.N = N) (hp : ∀ x ∈ N, X.env.scope.names.lookup x = some .local) : ∀ (l : List Str) (i : Nat) (q : List Expr), (∀ (j : Nat) (x : Str), l[j]? = some x → N[i + j]? = some x) → chkNames l q = true → q.all noStar = true ∧ q.length = l.length ∧ PA X q (tNames i l.length)
  | [], i, [], _, _ => ⟨rfl, rfl, PA.imp L2.pa_nil fun σ H Q ⟨ws, h1, _, h2⟩ => by
    have : ws = [] := List.length_eq_zero_iff.mp h1
    subst this
    exact h2⟩
  | [], _, _ :: _, _, h => by simp [chkNames] at h
  | g :: r, i, q, hl, h => by
    unfold chkNames at h
    split at h
    · rename_i heq; cases heq
    · rename_i g' r' x p q' e1
      cases e1
      simp only [Bool.and_eq_true, decide_eq_true_eq, chkStores.isPlainN, Bool.not_eq_true'] at h
      obtain ⟨⟨rfl, n1, n2⟩, h6⟩ := h
      have hy := hl 0 _ rfl
      obtain ⟨a1, a2, a3⟩ := pa_names hN hp _ (i + 1) _ (fun j x e => by have := hl (j + 1) x e; rwa [show i + 1 + j = i + (j + 1) by omega]) h6
      refine ⟨by rw [List.all_cons, a1]; rfl, by rw [List.length_cons, List.length_cons, a2], PA.imp (L2.pa_cons (L2.pe_var (by rw [hN]; exact hy) (.inl (hp _ (List.mem_of_getElem? hy))) n1 n2) a3 rfl) fun σ H Q ⟨ws, h1, h2, h3⟩ => ?_⟩
      cases ws with
      | nil => simp at h1
      | cons w ws => exact ⟨w, h2 0 w rfl, ws, by simpa using h1, fun j v e => by have := h2 (j + 1) v e; rwa [show i + 1 + j = i + (j + 1) by omega], h3⟩
    · cases h
/-- the body of such an __init__ -/
def chkInit : List Str → List Stmt → Bool
  | slf :: g :: gs, .Expr (.Call (.Attribute (.Call (.Name su _) [] [] _) ini p2) as [] pos) _ :: rest => decide (su = "super") && decide (ini = "__init__") && (p2.endLine == pos.line) && decide (gs.length < 20) && chkNames (g :: gs) as && chkStores slf (g :: gs) rest
  | _, _ => false
/-- what is known of the __init__ -/
structure InitOk (P : Program) (K : PySem.W.Frag) (mg : Str → Option Value) (C f : Addr) (slf : Str) (gs : List Str) (fd : FuncData) : Prop where
  S : SupC K mg C
  fs : ∀ x ∈ gs, PySem.W.findIn K (.ref C) x = some none
  ex : ∃ (name qual : Str) (params : Arguments) (body : List Stmt) (scope : Scope) (dV kV doc pm ct oc cl1 ccl : Value) (an od od1 od2 : Option Addr) (osl osl1 osl2 : Array (Option Value)) (vs : Array Value) (file : Str) (tf : Tok) (ar : Arg) (cc cda : Addr),
    fd = PySem.W.ksFn name qual params body scope dV kV doc pm an (.ref cda) ct cc ∧ K.lookup f = some ⟨oc, od, .func fd, osl⟩ ∧ PySem.W.codeIn K (.ref cda) qual = true ∧ InitS (slf :: gs) scope ∧ (params.posonlyargs ++ params.args).head? = some ar ∧ ar.arg = slf ∧
    K.lookup cc = some ⟨cl1, od1, .cell (some (.ref C)), osl1⟩ ∧ K.lookup cda = some ⟨ccl, od2, .fields vs, osl2⟩ ∧ vs[2]? = some (.str file tf) ∧ ((P.main.file : Str) == file) = true ∧ (P.main.scope.names.lookup ("super" : Str)).isSome = false ∧
    scope.names.lookup ("super" : Str) = some .globalImplicit ∧ scope.names.lookup ("__class__" : Str) = some .free ∧ chkInit (slf :: gs) body = true
theorem init_ok {P : Program} {w : World} {K : PySem.W.Frag} {mg : Str → Option Value} {base : Heap} {CX : L2.CXT} {C f : Addr} {slf : Str} {gs : List Str} {fd : FuncData} (h : InitOk P K mg C f slf gs fd) : L2.FnOk P w K mg base CX 1 f fd (slf :: gs) (spI C gs) := by
  obtain ⟨name, qual, params, body, scope, dV, kV, doc, pm, ct, oc, cl1, ccl, an, od, od1, od2, osl, osl1, osl2, vs, file, tf, ar, cc, cda, rfl, lk, hcd, IS, hp, har, hcell, hcode, hvs, hfile, htop, hks, hkc, hchk⟩ := h.ex
  refine ⟨fun vs H Q E ⟨a, ws, e, hl, _⟩ => by rw [e, List.length_cons, List.length_cons, hl], fun A outer s H args us vsA Q E hr e0 hb rv hsp => ?_⟩
  obtain ⟨a, ws, rfl, hl, ha, hk⟩ := hsp
  have KX : K.In s.heap := e0.mod.kin.keeps fun b o e => (e0.bs b o e).1
  have lim : s.heap.NoLimit := e0.mod.nolimit.keeps fun b o e => (e0.bs b o e).1
  have hlen : (V.ref a :: ws).length = (slf :: gs).length := by rw [List.length_cons, List.length_cons, hl]
  unfold chkInit at hchk
  split at hchk
  · rename_i slf' g gs' su q1 q2 ini p2 as pos q3 rest heq
    cases heq
    simp only [Bool.and_eq_true, decide_eq_true_eq] at hchk
    obtain ⟨⟨⟨⟨⟨rfl, rfl⟩, hln⟩, hgl⟩, hn⟩, hst⟩ := hchk
    refine PySem.ks_codeAny_call_defAt (fd := PySem.W.ksFn name qual params _ scope dV kV doc pm an (.ref cda) ct cc) (binds := (slf :: g :: gs').zip us) hr.depth (KX _ _ lk) rfl lim (PySem.W.codeRec_of KX hcd) rfl hb IS.nocell (fun x hx => IS.par _ (List.of_mem_zip (show (x.1, x.2) ∈ (slf :: g :: gs').zip us from hx)).1) (fun h₁ hns kp => ?_) IS.co IS.gen IS.kind
    let X := initX CX P w K mg base (slf :: g :: gs') qual scope f (.ref cda) cc A outer s H E
    have I : Inv X [] ((V.ref a :: ws).map some) H { s with heap := h₁, toks := s.toks + ((slf :: g :: gs').zip us).length } := init_start IS hr.hd e0 hlen rv ⟨_, _, hcell, rfl⟩ hns kp
    have hpar : ∀ x ∈ slf :: g :: gs', X.env.scope.names.lookup x = some .local := IS.par
    obtain ⟨hns1, hla, pa⟩ := pa_names (X := X) (N := slf :: g :: gs') rfl hpar (g :: gs') 1 as (fun j x e => by rw [Nat.add_comm]; exact e) hn
    have hσ0 : ((V.ref a :: ws).map some)[0]? = some (some (V.ref a)) := rfl
    have hσ : ∀ (j : Nat) (v : V), ws[j]? = some v → ((V.ref a :: ws).map some)[1 + j]? = some (some v) := fun j v e => by
      rw [Nat.add_comm, List.getElem?_map, List.getElem?_cons_succ, e]
      rfl
    cases as with
    | nil => simp at hla
    | cons a1 as =>
      rw [List.all_cons, Bool.and_eq_true] at hns1
      refine PySem.ks_wpAt_execs_cons (PySem.ks_wpAt_mono (super_ok (E := E) (Q := fun H1 => H1 = H) I h.S IS lk hp (by rw [har]; rfl) hcell hcode hvs hfile htop hks hkc hσ0 ha pa hns1.1 hns1.2 (by rw [List.length_cons, List.length_cons] at hla; omega) hln ⟨ws, hl, hσ, by rw [hl]; rw [List.length_cons]; omega, ha, rfl⟩) (fun fl s' hq => ?_) fun e s' z => z)
      obtain ⟨rfl, H', J, eH⟩ := hq
      rw [eH] at J
      have ps := pss_stores (X := X) (N := slf :: g :: gs') rfl hpar rfl (g :: gs') 1 rest (fun j x e => by rw [Nat.add_comm]; exact e) hst
      cases ws with
      | nil => simp at hl
      | cons w0 ws =>
        refine wpAt_of_wpAny (wpAny_mono (ps.run [] s' _ H { nx := fun _ H2 => Q .non H2, rt := Q } J (stores_new h.S.T hσ0 (by simpa using hl) (hσ 0 w0 rfl) (fun j v e => by have := hσ (j + 1) v e; rwa [show 1 + 1 + j = 1 + (j + 1) by omega]) h.fs (by omega) ha fun d H2 n1 n2 n3 n4 n5 => hk d H2 n1 n2 n3 n4 n5)) (fun fl s2 hs => ?_) fun e s2 z => z)
        have fin : ∀ {σ' : L2.St} {H' : Hp} {v : V} {u : Value}, Inv X [] σ' H' s2 → RelV v u → Q v H' → L2.CE outer P w H s Q u s2 := fun {σ' H' v u} J rv q => ⟨v, H', J.os, J.bare, J.base, J.hok, rv, q⟩
        cases fl with
        | next =>
          obtain ⟨σ', H2, J2, q⟩ := hs
          exact fin (v := V.non) (u := Value.none) J2 rfl q
        | ret u =>
          obtain ⟨v, σ', H2, J2, rv, q⟩ := hs
          exact fin J2 rv q
        | brk =>
          obtain ⟨_, _, _, q⟩ := hs
          exact False.elim q
        | cont =>
          obtain ⟨_, _, _, q⟩ := hs
          exact False.elim q
  · cases hchk
end Mid
set_option Elab.async false
set_option linter.all false
set_option maxRecDepth 100000
set_option maxHeartbeats 4000000
/-! Errors raised and caught. -/
namespace Mid
open PySem PySem.Spec PyProof.Rows
open L2 (Hp HO V RelV Vals SqL SqT Rd upd upd_same upd_ne OpR R2 Inv Cx EP VK TE TT TA TS WX XK PE PT PA PS PSs Ends CallR frs exo exd OexC)

/-- the classes of errors, by their numbers: where they stand, their fields -/
abbrev Errs := Nat → Option (Addr × List Str)
/-- what a raised error is -/
structure XR (B : Bk) (ex : Errs) (x : X) (cls : Value) (dO : Option Addr) (F : Hp) : Prop where
  ex : ∃ (C : Addr) (gs : List Str) (d : Addr) (vs : List V) (fs : List (Str × V)), ex x.c = some (C, gs) ∧ cls = .ref C ∧ dO = some d ∧ F d = some (.xd fs) ∧ vs.length = gs.length ∧ (∀ (k : Nat) (g : Str) (v : V), gs[k]? = some g → vs[k]? = some v → fs.lookup g = some v) ∧ DVs B F vs x.as
def xrOf (B : Bk) (ex : Errs) : X → Value → Option Addr → Hp → Prop := fun x cls dO F => XR B ex x cls dO F
theorem XR.mono {B : Bk} {ex : Errs} {x : X} {cls : Value} {dO : Option Addr} {F F' : Hp} (l : Le F F') (h : XR B ex x cls dO F) : XR B ex x cls dO F' := by
  obtain ⟨C, gs, d, vs, fs, h1, h2, h3, h4, h5, h6, h7⟩ := h.ex
  exact ⟨C, gs, d, vs, fs, h1, h2, h3, l _ _ h4, h5, h6, h7.mono l⟩
theorem XR.cut {B : Bk} {ex : Errs} {x : X} {cls : Value} {dO : Option Addr} {F : Hp} {K : Addr → Prop} (hf : D.flats x.as = true) (nt : NoTup F K) (h : XR B ex x cls dO F) : XR B ex x cls dO (cut F K) := by
  obtain ⟨C, gs, d, vs, fs, h1, h2, h3, h4, h5, h6, h7⟩ := h.ex
  exact ⟨C, gs, d, vs, fs, h1, h2, h3, by rw [cut_out fun k => (nt d k []).2.2 fs h4]; exact h4, h5, h6, flats_cut nt hf h7⟩
/-- the context of all defs -/
abbrev gxOf (B : Bk) (ex : Errs) : Gx := ⟨B, fun _ _ _ => False, xrOf B ex⟩
theorem good_of {C : Kx} {ex : Errs} (h : C.gx = gxOf C.toBk ex) : C.Good := by
  have h1 : C.xs = fun _ _ _ => False := congrArg Gx.xs h
  have h2 : C.xr = xrOf C.toBk ex := congrArg Gx.xr h
  refine ⟨fun x v F F' _ z => ?_, fun x v d F F' l z => ?_, fun x v d F K hf nt z => ?_⟩
  · rw [h1] at z; exact z.elim
  · rw [h2] at z ⊢; exact XR.mono l z
  · rw [h2] at z ⊢; exact XR.cut hf nt z
theorem noX_of {C : Kx} {ex : Errs} (h : C.gx = gxOf C.toBk ex) : C.noX := fun x v F z => by
  have h1 : C.xs = fun _ _ _ => False := congrArg Gx.xs h
  rw [h1] at z
  exact z
theorem mono_of {C : Kx} {ex : Errs} (h : C.gx = gxOf C.toBk ex) : C.mono := (good_of h).s
theorem zip_look {gs : List Str} {vs : List V} (nd : gs.Nodup) (hl : vs.length = gs.length) {k : Nat} {g : Str} {v : V} (h1 : gs[k]? = some g) (h2 : vs[k]? = some v) : ((gs.zip vs).reverse).lookup g = some v := by
  have key : ∀ {l : List (Str × V)} {x : Str} {u : V}, (l.map (·.1)).Nodup → (x, u) ∈ l → l.lookup x = some u := by
    intro l
    induction l with
    | nil => intro x u _ h; cases h
    | cons p r ih =>
      intro x u nd h
      obtain ⟨y, v⟩ := p
      rw [List.map_cons, List.nodup_cons] at nd
      rw [List.lookup_cons]
      rcases List.mem_cons.mp h with z | z
      · cases z; simp
      · have ne : (x == y) = false := by
          rw [beq_eq_false_iff_ne]
          intro e
          subst e
          exact nd.1 (List.mem_map.mpr ⟨_, z, rfl⟩)
        rw [ne]
        exact ih nd.2 z
  refine key ?_ (List.mem_reverse.mpr (List.mem_of_getElem? (List.getElem?_zip_eq_some.mpr ⟨h1, h2⟩)))
  rw [List.map_reverse, List.map_fst_zip (Nat.le_of_eq hl.symm)]
  exact (List.reverse_perm _).nodup_iff.mpr nd
section
variable {P : Pg} {R : Run} {C : Kx} {W : WX} {X : Cx} {ex : Errs}
/-- raise c(..) -/
theorem raise_r (hg : C.gx = gxOf C.toBk ex) {c : Nat} {Ca : Addr} {gs : List Str} {ts : List E} (he : ex c = some (Ca, gs)) (nd : gs.Nodup) (hl : ts.length = gs.length) (hsm : gs.length ≤ 1000) (D : Ends) (σ : L2.St) (H : Hp) (h : tS1 P R C W (.raise c ts) D σ H) :
    L2.tMkO Ca (spI Ca gs) [] (tTs P R C W ts) σ H fun cls d H' => W cls d σ H' := by
  obtain ⟨F, s, hs, hw⟩ := h
  rw [evS] at hw
  refine ⟨F, s, hs, Wp.mono (evTs_len ts s (Wp_bind.mp hw)) (fun ds s1 ⟨hd, q⟩ vs F1 H1 p dvs => ?_) fun _ _ z => z.nx hs⟩
  have hv : vs.length = gs.length := by rw [dvs.length, hd, hl]
  refine ⟨by rw [hv]; exact hsm, fun a na => ?_⟩
  refine ⟨a, vs, by rw [List.append_nil], hv, upd_same, fun d H2 nd1 da h1 h2 h3 => ?_⟩
  have n1 : H1 d = none := by rw [upd_ne da] at nd1; exact nd1
  refine ⟨rfl, d, _, h1, h2, n1, ?_⟩
  have e3 : upd (L2.del H2 a) d (.xd ((gs.zip vs).reverse)) = upd H1 d (.xd ((gs.zip vs).reverse)) := by
    funext b
    by_cases z : b = d
    · rw [z, upd_same, upd_same]
    · rw [upd_ne z, upd_ne z]
      by_cases y : b = a
      · rw [y, L2.del_same, na]
      · rw [L2.del_ne y, h3 b y z, upd_ne y]
  rw [e3]
  have al : Al F1 H1 (upd F1 d (.xd ((gs.zip vs).reverse))) (upd H1 d (.xd ((gs.zip vs).reverse))) := .frz p.sr.le n1
  have pp := p.trans (p.sr.alP (mono_of hg) al)
  have hx : C.xr ⟨c, ds⟩ (.ref Ca) (some d) (upd F1 d (.xd ((gs.zip vs).reverse))) := by
    rw [show C.xr = xrOf C.toBk ex from congrArg Gx.xr hg]
    exact ⟨Ca, gs, d, vs, _, he, rfl, rfl, upd_same, hv, fun k g v e1 e2 => zip_look nd hv e1 e2, dvs.mono al.le⟩
  exact q (.ref Ca) (some d) σ _ _ (pp.toPost.toS hs) hx
/-- what is known of a class of errors -/
structure ErrOk (X : Cx) (Ca : Addr) (gs : List Str) : Prop where
  ex : ∃ (fI : Addr) (slf : Str) (fd : FuncData), InitOk X.prog X.K X.mg Ca fI slf gs fd ∧ PySem.W.findIn X.K (.ref Ca) "__init__" = some (some (.ref fI)) ∧ PySem.W.typeIn X.K (.ref fI) = some (.type "function") ∧ L2.Binds X.K fd (slf :: gs) []
theorem ps_raiseM (hg : C.gx = gxOf C.toBk ex) {c : Nat} {Ca : Addr} {gs : List Str} {ts : List E} {x : Str} {p pos pos' : Pos} {e : Expr} {es : List Expr} (he : ex c = some (Ca, gs)) (nd : gs.Nodup) (hl : ts.length = gs.length) (hsm : gs.length ≤ 1000)
    (K : ErrOk X Ca gs) (hr : L2.Room 2 X.A) (hc : X.calm = true) (tk : L2.Takes X W) (hgl : L2.Gl X x) (hm : X.mg x = some (.ref Ca)) (ha : PA X (e :: es) (tTs P R C W ts)) (hs : (e :: es).all noStar = true) (hdb : (x == ("__debug__" : Str)) = false) :
    PS X (.Raise (some (.Call (.Name x p) (e :: es) [] pos)) none pos') (tS1 P R C W (.raise c ts)) := by
  obtain ⟨fI, slf, fd, I, h1, h2, h3⟩ := K.ex
  rw [List.all_cons, Bool.and_eq_true] at hs
  have F1 : L2.FnOk X.prog X.w X.K X.mg X.base (L2.CX X.prog X.w) 1 fI fd (slf :: gs) (spI Ca gs) := init_ok I
  refine PS.imp (L2.ps_raise hc tk (L2.pmk_oex I.S.T h1 h2 F1 hr h3 .nil (L2.passes_call tk fun _ _ _ _ z => z.elim) hgl hm ha hdb (starOk hs.1 es _) (plainStars pos _ hs.2))) fun D σ H h => raise_r hg he nd hl hsm D σ H h
end

/-! ### several except clauses, with names or without -/
abbrev HdT := Value × Option Nat × (Addr → Value → Option Addr → TS)
/-- the ends of a suite whose name goes -/
abbrev goneD (i : Nat) (D : Ends) : Ends := { nx := fun σ H => D.nx (σ.set i none) H, rt := D.rt, bk := fun σ H => D.bk (σ.set i none) H, ct := fun σ H => D.ct (σ.set i none) H }
def wHds (K : PySem.W.Frag) (n : Nat) (Wout : WX) (D : Ends) : List HdT → WX
  | [] => Wout
  | (c, nm, ts) :: r => fun cls d σ H => ∃ b, PySem.W.exmOne K cls c = some b ∧ (b = true → ∀ a, H a = none → (match nm with
      | none => σ.length = n → ts a cls d D σ H
      | some i => ts a cls d (goneD i D) (σ.set i (some (.ref a))) H)) ∧ (b = false → wHds K n Wout D r cls d σ H)
/-- a clause's name -/
def NmOk (X : Cx) : Option Str → Option Nat → Prop
  | none, none => True
  | some n, some i => X.N[i]? = some n ∧ X.env.kindOf n = some .local
  | _, _ => False
inductive Hds (X : Cx) : List ExceptHandler → List HdT → Prop
  | nil : Hds X [] []
  | cons {x : Str} {c : Value} {ts : Addr → Value → Option Addr → TS} {b₀ : Stmt} {suite : List Stmt} {np pp : Pos} {n : Option Str} {i : Option Nat} {hs : List ExceptHandler} {l : List HdT} : L2.Names X x c → NmOk X n i →
      (∀ (a : Addr) (oe : Obj) (cls : Value) (d : Option Addr) (pn : List (Addr × Obj)), L2.Zc cls d oe → (∃ vs, oe.data = .fields vs) → PSs (X.suite a ((a, oe) :: pn)) (b₀ :: suite) (ts a cls d)) → Hds X hs l →
      Hds X (.ExceptHandler (some (.Name x np)) n (b₀ :: suite) pp :: hs) ((c, i, ts) :: l)
section
variable {X : Cx} {body : List Stmt} {h₀ : ExceptHandler} {hs : List ExceptHandler} {l : List HdT} {pos : Pos} {tb : WX → TS} {Wout : WX}
theorem ps_tryM (hst : X.stack = X.env :: X.outer) (hfr : X.env.frame = some X.env.locals) (hN : X.N.Nodup) (tk : L2.Takes X Wout)
    (hb : ∀ (W : WX) (pn : List (Addr × Obj)) (xe : Value → Shared → Prop), L2.Takes (X.tr pn xe) W → PassesOwn (model X.prog X.w) X.A X.env xe → PSs (X.tr pn xe) body (tb W))
    (hh : Hds X (h₀ :: hs) l) : PS X (.Try body (h₀ :: hs) [] [] pos) (fun D σ H => tb (wHds X.K X.N.length Wout D l) D σ H) := by
  refine ⟨fun pins s σ H D I h => ?_⟩
  have ok := I.ok
  have fra : X.A.frames = some (X.env :: X.outer) := by rw [ok.frames, hst]
  refine wpAny_Try_except (wpAny_mono ((hb (wHds X.K X.N.length Wout D l) (X.pn ++ pins) (fun e s₁ => wpAny (model X.prog X.w) X.A (noteFrame e X.env) (fun _ s₂ => wpAny (model X.prog X.w) X.A (setFlight e none) (fun _ s₃ =>
    wpAny (model X.prog X.w) X.A (handleBy e X.env (h₀ :: hs)) (L2.SP X pins D) X.xe s₃) X.xe s₂) X.xe s₁) (fun u s' xx => ?_) PassesOwn.looking).run [] s σ H D (I.toTry _) h) (fun f s1 hsp => ?_) fun e s1 he => he)
  · obtain ⟨a, B, sI, pins', σ', H', cls, d, rfl, J', nb, up, sky, na, os, ag, w⟩ := xx
    have J : Inv X pins σ' H' sI := J'.ofTry ok
    have sky' : L2.Sky B (X.env :: X.outer) a (L2.Zc cls d) X.env.locals s'.heap := by rw [← hst]; exact sky
    refine L2.Sky.land L2.Zc.steady fra hfr sky' fun h3 fl3 up3 => ?_
    have J3 : Inv X pins σ' H' { s' with heap := h3 } := J.landed nb fl3.1 (up.trans up3) os ag
    obtain ⟨oe3, vs3, he3, hz3, hd3⟩ := fl3.there
    have nfr : a ∉ frs (X.env :: X.outer) := fun hm => by
      obtain ⟨_, o', e', hnf⟩ := fl3.2.2.1.mem hm
      rw [he3] at e'
      cases e'
      exact hnf _ hd3
    have nL : a ≠ X.env.locals := fun z => nfr (List.mem_filterMap.mpr ⟨X.env, List.mem_cons_self, by rw [hfr, z]⟩)
    have nF : a ∉ X.fs := fun hm => by
      obtain ⟨e, he, q⟩ := List.mem_filterMap.mp hm
      exact nfr (List.mem_filterMap.mpr ⟨e, List.mem_cons_of_mem _ he, q⟩)
    have S3 := J3.suite he3 hd3 na nL nF
    have go : ∀ {hs' : List ExceptHandler} {l' : List HdT}, Hds X hs' l' → wHds X.K X.N.length Wout D l' cls d σ' H' → wpAny (model X.prog X.w) X.A (handleBy (.ref a) X.env hs') (L2.SP X pins D) X.xe { s' with heap := h3 } := by
      intro hs' l' hk
      induction hk with
      | nil =>
        intro w
        refine wpAny_handleBy_nil ?_
        obtain ⟨_, _, _, oe, vs, T, oT, ts', he, hz, hd, h1, hr⟩ := id fl3
        unfold PySem.passOn
        refine wpAny_bind (wpAny_field he hd h1 ?_)
        rw [if_neg (show ¬ ((Value.ref T == Value.none) = true) from by simp)]
        have fin : wpAny (model X.prog X.w) X.A (setFlight (.ref a) X.env.frame) (fun _ s4 => wpAny (model X.prog X.w) X.A (throw (.ref a) : Sem Flow) (L2.SP X pins D) X.xe s4) X.xe { s' with heap := h3 } := by
          rw [hfr]
          refine HandSPX.setFlight_upZ fl3 fun h4 hh4 up4 => wpAny_throw (tk _ _ ?_)
          exact ⟨a, B, sI, pins, σ', H', cls, d, rfl, J, nb, (up.trans up3).trans up4, .inr (.inr (by rw [hst]; exact hh4)), na, os, ag, w⟩
        first
          | exact wpAny_bind (wpAny_pure (wpAny_bind fin))
          | exact wpAny_bind fin
      | @cons x c ts b₀ suite np pp n i hs2 l2 hc hnm hsu r ih =>
        intro w
        obtain ⟨b, hb1, hyes, hno⟩ := w
        refine wpAny_handleBy_cons (codeAny_handlers_test ?_) (by intro q; cases q)
        have LT : PySem.W.Looks (model X.prog X.w) h3 (typeOf (.ref a)) cls := fun A Q E s k q => wpAny_typeOf_ref (k _ _ he3) (by rw [hz3.1]; exact q)
        have LM := PySem.W.exm_one (M := model X.prog X.w) (J3.kIn) LT hb1
        have test : ∀ {Q : Value → Shared → Prop} {E : Value → Shared → Prop}, Q c { s' with heap := h3 } → wpAny (model X.prog X.w) (X.A.mark (some (.ref a))) (eval (.Name x np) X.env) Q E { s' with heap := h3 } := fun {Q E} q => by
          obtain ⟨hg, hdbg, hm | ⟨hm, hv, hnn⟩⟩ := hc
          · exact L2.ld_glob (X := X.suite a ((a, oe3) :: (X.pn ++ pins))) S3 hg hm q hdbg
          · exact L2.ld_blt (X := X.suite a ((a, oe3) :: (X.pn ++ pins))) S3 hg hm hv q hnn hdbg
        refine test (LM.here ?_)
        cases b with
        | false => exact ih (hno rfl)
        | true =>
          cases n with
          | none =>
            cases i with
            | some i => exact hnm.elim
            | none =>
              refine codeAny_handlers_suite (HandSPX.lands_againZ fl3 fun h4 fl4 up4 => ?_)
              have J4 : Inv X pins σ' H' { s' with heap := h4 } := J.landed nb fl4.1 ((up.trans up3).trans up4) os ag
              obtain ⟨oe4, vs4, he4, hz4, hd4⟩ := fl4.there
              have S4 := J4.suite he4 hd4 na nL nF
              refine wpAny_mono ((hsu a oe4 cls d (X.pn ++ pins) hz4 ⟨_, hd4⟩).run [] _ _ H' _ S4 (hyes rfl a na J.len)) (fun f s6 hsp => ?_) (fun _ _ z => False.elim z)
              cases f with
              | ret u =>
                obtain ⟨v6, σ6, H6, S6, r6, q6⟩ := hsp
                exact ⟨_, _, _, S6.unsuite ok, r6, q6⟩
              | _ =>
                obtain ⟨σ6, H6, S6, q6⟩ := hsp
                exact ⟨_, _, S6.unsuite ok, q6⟩
          | some n =>
            cases i with
            | none => exact hnm.elim
            | some i =>
              obtain ⟨hi, hln⟩ := hnm
              refine codeAny_handlers_suite_as (HandSPX.lands_againZ fl3 fun h4 fl4 up4 => ?_)
              have J4 : Inv X pins σ' H' { s' with heap := h4 } := J.landed nb fl4.1 ((up.trans up3).trans up4) os ag
              obtain ⟨oe4, vs4, he4, hz4, hd4⟩ := fl4.there
              have S4 := J4.suite he4 hd4 na nL nF
              refine L2.store_ok (X := X.suite a ((a, oe4) :: (X.pn ++ pins))) (v := .ref a) S4 hN hi (.inl hln) rfl (fun s5 S5 => ?_) (.inr hln)
              refine wpAny_mono ((hsu a oe4 cls d (X.pn ++ pins) hz4 ⟨_, hd4⟩).run [] s5 _ H' _ S5 (hyes rfl a na)) (fun f s6 hsp => ?_) (fun _ _ z => False.elim z)
              have end_ : ∀ {σ6 : L2.St} {H6 : Hp} {Q : Shared → Prop}, Inv (X.suite a ((a, oe4) :: (X.pn ++ pins))) [] σ6 H6 s6 → (∀ s7, Inv X pins (σ6.set i none) H6 s7 → Q s7) →
                  wpAny (model X.prog X.w) X.A (do bindName X.env n .none; unbindBehindTheSuite X.env n pp) (fun _ s7 => Q s7) X.xe s6 := fun {σ6 H6 Q} S6 hq => L2.gone_ok (S6.unsuite ok) hN hi hln hq
              cases f with
              | ret u =>
                obtain ⟨v6, σ6, H6, S6, r6, q6⟩ := hsp
                exact end_ S6 fun s7 J7 => ⟨_, _, _, J7, r6, q6⟩
              | _ =>
                obtain ⟨σ6, H6, S6, q6⟩ := hsp
                exact end_ S6 fun s7 J7 => ⟨_, _, J7, q6⟩
    exact go hh w
  · cases f with
    | next =>
      obtain ⟨σ', H', J', q⟩ := hsp
      exact wpAny_execs_nil ⟨σ', H', J'.ofTry ok, q⟩
    | ret u =>
      obtain ⟨v, σ', H', J', r, q⟩ := hsp
      exact ⟨v, σ', H', J'.ofTry ok, r, q⟩
    | _ =>
      obtain ⟨σ', H', J', q⟩ := hsp
      exact ⟨σ', H', J'.ofTry ok, q⟩
end

/-! ### clauses that hand back -/
abbrev Kx.hot (C : Kx) (a : Addr) (cls : Value) (d : Option Addr) : Kx := { C with xs := fun x v F => v = .ref a ∧ C.xr x cls d F }
/-- a clause: the class's number, the name's slot, whether it has one, what it hands back -/
structure Cl where
  k : Nat
  i : Nat
  nm : Bool
  e : E
def catchM (P : Pg) (R : Run) : List Cl → X → St → Out Fl
  | [], x, s => .exc x s
  | c :: r, x, s => if x.c = c.k then (evSs P R [.ret c.e] (s.set c.i (.exn x))).bind (goneX c.i) else catchM P R r x s
def cvOf (ex : Errs) (k : Nat) : Value := match ex k with
  | some (Ck, _) => .ref Ck
  | none => .none
def hdOf (P : Pg) (R : Run) (C : Kx) (ex : Errs) (c : Cl) : HdT := (cvOf ex c.k, if c.nm then some c.i else none, fun a cls d D σ H => cls = cvOf ex c.k ∧ tS1 P R (C.hot a cls d) W0 (.ret c.e) D σ H)
section
variable {P : Pg} {R : Run} {C : Kx} {W : WX} {X : Cx} {ex : Errs}
theorem SR.toHot (hx : C.noX) {s : St} {σ : L2.St} {F H : Hp} (h : SR C s σ F H) (a : Addr) (cls : Value) (d : Option Addr) : SR (C.hot a cls d) s σ F H :=
  ⟨h.le, ⟨h.c.len, fun i x e => by
    have r := h.c.sl i x e
    cases x with
    | exn x => obtain ⟨v, _, z⟩ := r; exact (hx _ _ _ z).elim
    | _ => exact r, h.c.ne⟩, ⟨h.p.len, h.p.sl, h.p.ne⟩, h.dj, h.zz, h.zp, h.tb, h.cd⟩
theorem SR.ofHot {s : St} {σ : L2.St} {F H : Hp} {a : Addr} {cls : Value} {d : Option Addr} (h : SR (C.hot a cls d) s σ F H) (n : s.c.all noExn = true) : SR C s σ F H :=
  ⟨h.le, ⟨h.c.len, fun i x e => by
    have r := h.c.sl i x e
    have q := List.all_eq_true.mp n x (List.mem_of_getElem? e)
    cases x with
    | exn x => cases q
    | _ => exact r, h.c.ne⟩, ⟨h.p.len, h.p.sl, h.p.ne⟩, h.dj, h.zz, h.zp, h.tb, h.cd⟩
mutual
/-- what raises nothing -/
def hotE : E → Bool
  | .cst _ => true
  | .var _ => true
  | .glo _ => true
  | .xat _ _ => true
  | .tup es => hotEs es
  | _ => false
def hotEs : List E → Bool
  | [] => true
  | e :: r => hotE e && hotEs r
end
def NoExc {α : Type} (m : Out α) : Prop := ∀ x s, m ≠ .exc x s
theorem NoExc.bind {α β : Type} {m : Out α} {f : α → St → Out β} (h : NoExc m) (k : ∀ a s, NoExc (f a s)) : NoExc (m.bind f) := by
  cases m with
  | ok a s => exact k a s
  | exc x s => exact absurd rfl (h x s)
  | stk m => exact fun x s z => by cases z
theorem take_noexc (s : St) (w : Mid.W) : NoExc (take s w) := fun x s' z => by
  cases w with
  | pl i =>
    unfold take at z
    simp only at z
    split at z <;> cases z
  | _ => cases z
mutual
theorem hot_noexc : ∀ (e : E) (s : St), hotE e = true → NoExc (evE P R e s)
  | .cst d, s, _ => fun x s' z => by rw [evE] at z; cases z
  | .var i, s, _ => fun x s' z => by rw [evE] at z; split at z <;> cases z
  | .glo i, s, _ => fun x s' z => by rw [evE] at z; split at z <;> cases z
  | .xat i k, s, _ => fun x s' z => by
    rw [evE] at z
    split at z
    · split at z <;> cases z
    · cases z
  | .tup es, s, h => by
    rw [evE]
    exact (hots_noexc es s (by simpa only [hotE] using h)).bind fun a s x s' z => by cases z
theorem hots_noexc : ∀ (es : List E) (s : St), hotEs es = true → NoExc (evTs P R es s)
  | [], s, _ => fun x s' z => by rw [evTs] at z; cases z
  | e :: r, s, h => by
    simp only [hotEs, Bool.and_eq_true] at h
    rw [evTs]
    exact (hot_noexc e s h.1).bind fun w s => (take_noexc s w).bind fun d s => (hots_noexc r s h.2).bind fun ds s x s' z => by cases z
end
theorem catch_r (hg : C.gx = gxOf C.toBk ex) {K : PySem.W.Frag} (hexm : ∀ c k Cc Ck gc gk, ex c = some (Cc, gc) → ex k = some (Ck, gk) → PySem.W.exmOne K (.ref Cc) (.ref Ck) = some (decide (c = k))) {n : Nat} {D : Ends} {s s1 : St} {σ σ' : L2.St} {F H F' H' : Hp} {x : Mid.X} {cls : Value} {dO : Option Addr} (p : PostS C s σ F H s1 σ' F' H') (hx : C.xr x cls dO F') :
    ∀ (cl : List Cl), (∀ c ∈ cl, hotE c.e = true ∧ (∃ Ck gk, ex c.k = some (Ck, gk)) ∧ c.i ∉ C.fx ∧ (c.nm = false → n ≤ c.i)) → Wp (catchM P R cl x s1) (QS C s σ F H D) (NS C W s σ F H) → wHds K n W D (cl.map (hdOf P R C ex)) cls dO σ' H'
  | [], _, hw => hw cls dO σ' F' H' p hx
  | c :: r, hc, hw => by
    obtain ⟨hh, ⟨Ck, gk, hk⟩, hfx, hnm⟩ := hc c (List.mem_cons_self ..)
    have hx' := hx
    rw [show C.xr = xrOf C.toBk ex from congrArg Gx.xr hg] at hx'
    obtain ⟨Ca, gs, d, vs, fs, h1, rfl, h3, _⟩ := hx'.ex
    have key : ∀ (a : Addr) (σx : L2.St), (σx = σ'.set c.i (some (.ref a))) → x.c = c.k → tS1 P R (C.hot a (.ref Ca) dO) W0 (.ret c.e) D σx H' ∧ tS1 P R (C.hot a (.ref Ca) dO) W0 (.ret c.e) (goneD c.i D) σx H' := fun a σx eσ ex' => by
      subst eσ
      unfold catchM at hw
      rw [if_pos ex'] at hw
      have hs1 := p.sr.toHot (noX_of hg) a (.ref Ca) dO
      have hs2 : SR (C.hot a (.ref Ca) dO) (s1.set c.i (.exn x)) (σ'.set c.i (some (.ref a))) F' H' := hs1.set (x := .exn x) (o := some (.ref a)) c.i ⟨_, rfl, rfl, hx⟩ fun d b z => by cases z
      have hw1 : Wp (evS P R (.ret c.e) (s1.set c.i (.exn x))) (fun f s3 => Wp (goneX c.i f s3) (QS C s σ F H D) (NS C W s σ F H) ∧ ∃ w, f = .rt w) (fun _ _ => False) := by
        have hw2 := Wp_bind.mp hw
        rw [evSs] at hw2
        have ne : NoExc (evS P R (.ret c.e) (s1.set c.i (.exn x))) := by
          rw [evS]
          refine (hot_noexc c.e _ hh).bind fun w s => ?_
          intro y s' z
          cases w with
          | pl i => simp only at z; split at z <;> cases z
          | _ => cases z
        have rt : ∀ f s', evS P R (.ret c.e) (s1.set c.i (.exn x)) = .ok f s' → ∃ w, f = .rt w := fun f s' z => by
          rw [evS] at z
          cases q : evE P R c.e (s1.set c.i (.exn x)) with
          | stk m => rw [q] at z; cases z
          | exc y s => rw [q] at z; cases z
          | ok w s =>
            rw [q] at z
            simp only [Out.bind] at z
            cases w with
            | pl i => simp only at z; split at z <;> first | (cases z; exact ⟨_, rfl⟩) | cases z
            | _ => cases z; exact ⟨_, rfl⟩
        cases q : evS P R (.ret c.e) (s1.set c.i (.exn x)) with
        | stk m => rw [q] at hw2; exact hw2.elim
        | exc y s' => exact absurd q (ne y s')
        | ok f s' =>
          obtain ⟨w, rfl⟩ := rt f s' q
          rw [q] at hw2
          exact ⟨hw2, w, rfl⟩
      have fin : ∀ (D' : Ends), D'.rt = D.rt → tS1 P R (C.hot a (.ref Ca) dO) W0 (.ret c.e) D' (σ'.set c.i (some (.ref a))) H' := fun D' eD => by
        refine ⟨F', _, hs2, Wp.mono hw1 (fun f s3 ⟨q, w, ef⟩ σ3 F3 H3 p3 => ?_) fun _ _ z => z.elim⟩
        subst ef
        unfold goneX at q
        split at q
        · rename_i hn
          intro v r
          rw [eD]
          have u3 : SR C (s3.set c.i .un) σ3 F3 H3 := (p3.sr.un c.i).ofHot hn
          have pp : PostS C s σ F H (s3.set c.i .un) σ3 F3 H3 := by
            have st2 := p3.st
            refine ⟨u3, p.st.trans st2 fun x z => .inl (z.imp id fun z => p.op x z), fun b z => p.op b (p3.op b z), fun j hj => ?_⟩
            rw [p3.fx j hj, List.getElem?_set_ne (fun e => hfx (by rw [e]; exact hj))]
            exact p.fx j hj
          refine q σ3 F3 H3 pp v ?_
          cases w with
          | val d => exact r
          | own d =>
            obtain ⟨b, e1, e2, e3, e4, e5⟩ := r
            refine ⟨b, e1, e2, fun z => e3 (z.imp (fun ⟨j, y, z1, z2⟩ => ?_) id), e4, e5⟩
            rcases List.set_get? z1 with ⟨_, z⟩ | ⟨_, z⟩
            · cases z
            · exact ⟨j, y, z, z2⟩
          | pl i => exact r.elim
        · exact q.elim
      exact ⟨fin D rfl, fin (goneD c.i D) rfl⟩
    refine ⟨decide (x.c = c.k), by rw [show cvOf ex c.k = .ref Ck by unfold cvOf; rw [hk]]; exact hexm _ _ _ _ _ _ h1 hk, fun hb a na => ?_, fun hb => ?_⟩
    · have ec := of_decide_eq_true hb
      have eC : Value.ref Ca = cvOf ex c.k := by
        unfold cvOf
        rw [← ec, h1]
      cases hn : c.nm with
      | true =>
        simp only [hdOf, hn, if_true]
        exact ⟨eC, (key a _ rfl ec).2⟩
      | false =>
        simp only [hdOf, hn, Bool.false_eq_true, if_false]
        intro hlen
        have e : σ'.set c.i (some (.ref a)) = σ' := List.set_eq_of_length_le (by rw [hlen]; exact hnm hn)
        have := (key a _ rfl ec).1
        rw [e] at this
        exact ⟨eC, this⟩
    · have ec := of_decide_eq_false hb
      unfold catchM at hw
      rw [if_neg ec] at hw
      exact catch_r hg hexm p hx r (fun c h => hc c (List.mem_cons_of_mem _ h)) hw
theorem try_eq {b : List S} {k i : Nat} {e : E} {s : St} {n : Bool} : evS P R (.try_ b [k] i [.ret e]) s = match evSs P R b s with
    | .exc x s => catchM P R [⟨k, i, n, e⟩] x s
    | r => r := by
  rw [evS]
  cases evSs P R b s with
  | exc x s =>
    simp only [catchM, List.contains_cons, List.contains_nil, Bool.or_false, beq_iff_eq]
  | _ => rfl
theorem try2_eq {b : List S} {k i k2 i2 : Nat} {e e2 : E} {s : St} {n n2 : Bool} : evS P R (.try2 b [k] i [.ret e] [k2] i2 [.ret e2]) s = match evSs P R b s with
    | .exc x s => catchM P R [⟨k, i, n, e⟩, ⟨k2, i2, n2, e2⟩] x s
    | r => r := by
  rw [evS]
  cases evSs P R b s with
  | exc x s =>
    simp only [catchM, List.contains_cons, List.contains_nil, Bool.or_false, beq_iff_eq]
  | _ => rfl
/-- a try, by its clauses -/
theorem try_r (hg : C.gx = gxOf C.toBk ex) {K : PySem.W.Frag} (hexm : ∀ c k Cc Ck gc gk, ex c = some (Cc, gc) → ex k = some (Ck, gk) → PySem.W.exmOne K (.ref Cc) (.ref Ck) = some (decide (c = k))) {n : Nat} {b : List S} {t : S} {cl : List Cl} (hc : ∀ c ∈ cl, hotE c.e = true ∧ (∃ Ck gk, ex c.k = some (Ck, gk)) ∧ c.i ∉ C.fx ∧ (c.nm = false → n ≤ c.i))
    (ht : ∀ s, evS P R t s = match evSs P R b s with
      | .exc x s => catchM P R cl x s
      | r => r) (D : Ends) (σ : L2.St) (H : Hp) (h : tS1 P R C W t D σ H) : tS P R C (wHds K n W D (cl.map (hdOf P R C ex))) b D σ H := by
  obtain ⟨F, s, hs, hw⟩ := h
  rw [ht] at hw
  refine ⟨F, s, hs, ?_⟩
  cases q : evSs P R b s with
  | stk m => rw [q] at hw; exact hw.elim
  | ok f s1 => rw [q] at hw; exact hw
  | exc x s1 =>
    rw [q] at hw
    exact fun cls dO σ' F' H' p hx => catch_r hg hexm p hx cl hc hw
theorem ps_tryMM (hg : C.gx = gxOf C.toBk ex) (hexm : ∀ c k Cc Ck gc gk, ex c = some (Cc, gc) → ex k = some (Ck, gk) → PySem.W.exmOne X.K (.ref Cc) (.ref Ck) = some (decide (c = k))) {body : List Stmt} {h₀ : ExceptHandler} {hs : List ExceptHandler} {pos : Pos} {b : List S} {t : S} {cl : List Cl} (hc : ∀ c ∈ cl, hotE c.e = true ∧ (∃ Ck gk, ex c.k = some (Ck, gk)) ∧ c.i ∉ C.fx ∧ (c.nm = false → X.N.length ≤ c.i))
    (ht : ∀ s, evS P R t s = match evSs P R b s with
      | .exc x s => catchM P R cl x s
      | r => r) (hst : X.stack = X.env :: X.outer) (hfr : X.env.frame = some X.env.locals) (hN : X.N.Nodup) (tk : L2.Takes X W)
    (hb : ∀ (W : WX) (pn : List (Addr × Obj)) (xe : Value → Shared → Prop), L2.Takes (X.tr pn xe) W → PassesOwn (model X.prog X.w) X.A X.env xe → PSs (X.tr pn xe) body (tS P R C W b))
    (hh : Hds X (h₀ :: hs) (cl.map (hdOf P R C ex))) : PS X (.Try body (h₀ :: hs) [] [] pos) (tS1 P R C W t) :=
  PS.imp (ps_tryM hst hfr hN tk hb hh) fun D σ H h => try_r hg hexm hc ht D σ H h
/-- a field of a caught error -/
theorem pe_xat {i k : Nat} {a Ca : Addr} {oe : Obj} {cls : Value} {d : Option Addr} {pn : List (Addr × Obj)} {x g : Str} {p pos : Pos} {gs : List Str} (hg : C.gx = gxOf C.toBk ex) (hcls : cls = .ref Ca) (hex : ∀ c gc, ex c = some (Ca, gc) → gc = gs) (T : L2.XfC X.K Ca) (hno : PySem.W.findIn X.K (.ref Ca) g = some none)
    (hgs : gs[k]? = some g) (hz : L2.Zc cls d oe) (hf : ∃ vs, oe.data = .fields vs) (hN : X.N[i]? = some x) (hv : L2.Vis X.env.scope x) (hd : (x == ("__debug__" : Str)) = false) (hcd : (x == ("__classdict__" : Str)) = false) :
    PE (X.suite a ((a, oe) :: pn)) (.Attribute (.Name x p) g pos) (tE P R (C.hot a cls d) W0 (.xat i k)) := by
  subst hcls
  refine PE.imp (L2.pe_xf T hno hz hf (L2.pe_var (X := X.suite a ((a, oe) :: pn)) (i := i) hN hv hd hcd) (by rfl)) fun σ H Q ⟨F, s, hs, hw⟩ => ?_
  rw [evE] at hw
  split at hw
  · rename_i y ey
    have e0 : s.c[i]? = some (.exn y) := by
      unfold slotAt at ey
      cases q : s.c[i]? with
      | none => rw [q] at ey; cases ey
      | some z => rw [q] at ey; exact congrArg some ey
    obtain ⟨v, e1, rfl, e3⟩ := hs.c.sl i _ e0
    rw [show C.xr = xrOf C.toBk ex from congrArg Gx.xr hg] at e3
    obtain ⟨C2, gs2, d2, vs, fs, r1, r2, r3, r4, r5, r6, r7⟩ := e3.ex
    cases r2
    obtain rfl := hex _ _ r1
    split at hw
    · rename_i dv hdv
      obtain ⟨v, hv1, hv2⟩ := r7.get hdv
      refine ⟨.ref a, join_some e1, rfl, rfl, d2, fs, v, r3, hs.le _ _ r4, r6 k g v hgs hv1, ?_⟩
      exact QX.now (w := .val dv) hs hw hv2 .val
    · exact hw.elim
  · exact hw.elim
end
end Mid
set_option Elab.async false
set_option linter.all false
set_option maxRecDepth 100000
set_option maxHeartbeats 4000000
/-! The checker: a written text against the middle level's program. -/
namespace Mid
open PySem PySem.Spec PyProof.Rows

/-- the names of a module, of a def -/
structure Ck where
  N : List Str
  gn : List Str
  fn : List Str
  cn : List Str
def isVis (sc : Scope) (x : Str) : Bool := match sc.names.lookup x with
  | some .local => true
  | some .cell => true
  | some .free => true
  | _ => false
def isGl (sc : Scope) (x : Str) : Bool := decide (sc.names.lookup x = some .globalImplicit)
def isPlainName (x : Str) : Bool := !(x == ("__debug__" : Str)) && !(x == ("__classdict__" : Str)) && !(x == ("__name__" : Str))
def asName : Expr → Option Str
  | .Name x _ => some x
  | _ => none
theorem asName_ok {e : Expr} {x : Str} (h : asName e = some x) : ∃ p, e = .Name x p := by
  cases e <;> simp only [asName, Option.some.injEq, reduceCtorEq] at h
  subst h
  exact ⟨_, rfl⟩
def Cop.of : CmpOp → Option Cop
  | .Eq => some .eq | .NotEq => some .ne | .Lt => some .lt | .LtE => some .le | .Gt => some .gt | .GtE => some .ge | .In => some .isin | .NotIn => some .notin
  | _ => none
theorem Cop.of_ok {o : CmpOp} {c : Cop} (h : Cop.of o = some c) : o = c.py := by
  cases o <;> simp only [Cop.of, Option.some.injEq, reduceCtorEq] at h <;> subst h <;> rfl
def constOk : Const → D → Bool
  | .none, .non => true
  | .bool b, .bl c => b == c
  | .int i, .int j => decide (i = j)
  | .str s, .str t => decide (s.cps.toList = t)
  | _, _ => false
theorem constOk_ok {c : Const} {d : D} (h : constOk c d = true) : (c = .none ∧ d = .non) ∨ (∃ b, c = .bool b ∧ d = .bl b) ∨ (∃ i, c = .int i ∧ d = .int i) ∨ ∃ s, c = .str s ∧ d = .str s.cps.toList := by
  cases c <;> cases d <;> simp_all [constOk]
end Mid
namespace Mid
open PySem PySem.Spec PyProof.Rows
/-- the parts of an expression, by its head -/
def asBin : Expr → Option (Expr × Operator × Expr)
  | .BinOp a o b _ => some (a, o, b)
  | _ => none
def asCmp : Expr → Option (Expr × CmpOp × Expr)
  | .Compare a [o] [b] _ => some (a, o, b)
  | _ => none
def asCmp2 : Expr → Option (Expr × CmpOp × Expr × CmpOp × Expr)
  | .Compare a [o, p] [b, c] _ => some (a, o, b, p, c)
  | _ => none
def asCall : Expr → Option (Str × List Expr)
  | .Call (.Name x _) es [] _ => some (x, es)
  | _ => none
theorem asBin_ok {e a b : Expr} {o : Operator} (h : asBin e = some (a, o, b)) : ∃ p, e = .BinOp a o b p := by
  cases e <;> simp only [asBin, Option.some.injEq, reduceCtorEq, Prod.mk.injEq] at h
  obtain ⟨rfl, rfl, rfl⟩ := h
  exact ⟨_, rfl⟩
theorem asCmp_ok {e a b : Expr} {o : CmpOp} (h : asCmp e = some (a, o, b)) : ∃ p, e = .Compare a [o] [b] p := by
  unfold asCmp at h
  split at h
  · cases h; exact ⟨_, rfl⟩
  · cases h
theorem asCmp2_ok {e a b c : Expr} {o p : CmpOp} (h : asCmp2 e = some (a, o, b, p, c)) : ∃ q, e = .Compare a [o, p] [b, c] q := by
  unfold asCmp2 at h
  split at h
  · cases h; exact ⟨_, rfl⟩
  · cases h
theorem asCall_ok {e : Expr} {x : Str} {es : List Expr} (h : asCall e = some (x, es)) : ∃ p q, e = .Call (.Name x p) es [] q := by
  unfold asCall at h
  split at h
  · cases h; exact ⟨_, _, rfl⟩
  · cases h
end Mid
namespace Mid
open PySem PySem.Spec PyProof.Rows
/-- which names a suite or a block may store -/
def mayStore (ws : Scope) (x : Str) : Bool := match ws.names.lookup x with
  | some .local => true
  | some .cell => true
  | _ => false
mutual
/-- targets -/
def chkT (K : Ck) (ws : Scope) : T → Expr → Bool
  | .nm i, e => match asName e with
    | some x => decide (K.N[i]? = some x) && mayStore ws x
    | none => false
  | .pr ts, e => match e with
    | .Tuple es _ _ => chkTs K ws ts es
    | _ => false
def chkTs (K : Ck) (ws : Scope) : List T → List Expr → Bool
  | [], [] => true
  | t :: r, e :: q => chkT K ws t e && chkTs K ws r q
  | _, _ => false
end
/-- a block's own names, by their places -/
def ownN (K : Ck) (own : List Nat) : List (Str × Nat) := own.map fun i => (K.N.getD i Str.empty, i)
theorem ownN_snd (K : Ck) (own : List Nat) : (ownN K own).map (·.2) = own := by
  unfold ownN
  rw [List.map_map]
  exact List.map_id _
end Mid
set_option Elab.async false
set_option linter.all false
set_option maxRecDepth 100000
set_option maxHeartbeats 4000000
/-! The checker is right: targets. -/
namespace Mid
open PySem PySem.Spec PyProof.Rows
open L2 (Cx PG PGs)
/-- a name or a pattern -/
def tgE : Expr → Bool
  | .Name _ _ => true
  | .Tuple _ _ _ => true
  | _ => false
theorem asEach {e : Expr} (h : tgE e = true) (es : List Expr) (env : Env) : assignEach (e :: es) env = (false, assign e env) :: assignEach es env := by
  cases e <;> first | rfl | (simp [tgE] at h)
section
variable {K : Ck} {ws : Scope} {X : Cx}
/-- what may be stored may be stored -/
def Stb (X : Cx) (ws : Scope) : Prop := ∀ x, mayStore ws x = true → L2.Loc X.env.scope x ∧ (X.fn x = true ∨ X.env.scope.names.lookup x = some .local)
mutual
theorem chkT_tg : ∀ (t : T) (e : Expr), chkT K ws t e = true → tgE e = true
  | .nm i, e, h => by
    simp only [chkT] at h
    split at h
    · rename_i x hx
      obtain ⟨p, rfl⟩ := asName_ok hx
      rfl
    · cases h
  | .pr ts, e, h => by
    simp only [chkT] at h
    split at h
    · rfl
    · cases h
end
theorem chkTs_each : ∀ (ts : List T) (es : List Expr) (env : Env), chkTs K ws ts es = true → (assignEach es env).length = ts.length ∧ (assignEach es env).findIdx? (fun x => x.1) = none
  | [], [], _, _ => ⟨rfl, rfl⟩
  | [], _ :: _, _, h => by simp [chkTs] at h
  | _ :: _, [], _, h => by simp [chkTs] at h
  | t :: r, e :: q, env, h => by
    simp only [chkTs, Bool.and_eq_true] at h
    obtain ⟨h1, h2⟩ := chkTs_each r q env h.2
    rw [asEach (chkT_tg t e h.1)]
    refine ⟨by simp [h1], ?_⟩
    rw [List.findIdx?_cons, h2]
    rfl
mutual
theorem chkT_ok (hN : X.N = K.N) (nd : X.N.Nodup) (hs : Stb X ws) (hc : X.calm = true) : ∀ (t : T) (e : Expr), chkT K ws t e = true → PG X e (gT X.K t)
  | .nm i, e, h => by
    simp only [chkT] at h
    split at h
    · rename_i x hx
      obtain ⟨p, rfl⟩ := asName_ok hx
      rw [Bool.and_eq_true, decide_eq_true_eq] at h
      obtain ⟨h1, h2⟩ := hs x h.2
      exact L2.pg_name nd (by rw [hN]; exact h.1) h1 h2
    · cases h
  | .pr ts, e, h => by
    simp only [chkT] at h
    split at h
    · rename_i es k p
      obtain ⟨h1, h2⟩ := chkTs_each ts es X.env h
      exact L2.pg_tup (n := ts.length) hc (chkTs_ok hN nd hs hc ts es h) h1 h2
    · cases h
theorem chkTs_ok (hN : X.N = K.N) (nd : X.N.Nodup) (hs : Stb X ws) (hc : X.calm = true) : ∀ (ts : List T) (es : List Expr), chkTs K ws ts es = true → PGs X es (gTs X.K ts)
  | [], [], _ => L2.pgs_nil
  | [], _ :: _, h => by simp [chkTs] at h
  | _ :: _, [], h => by simp [chkTs] at h
  | t :: r, e :: q, h => by
    simp only [chkTs, Bool.and_eq_true] at h
    exact L2.pgs_cons (chkT_ok hN nd hs hc t e h.1) (chkTs_ok hN nd hs hc r q h.2) (by rw [asEach (chkT_tg t e h.1)]; rfl)
end
end
end Mid
set_option Elab.async false
set_option linter.all false
set_option maxRecDepth 100000
set_option maxHeartbeats 4000000
/-! The checker: expressions, statements. -/
namespace Mid
open PySem PySem.Spec PyProof.Rows

/-- what is the same in a def: the names, the modes -/
structure Cm extends Ck where
  /-- functions may have been handed in -/
  clo : Bool
  /-- lambdas may be made -/
  lam : Bool
  /-- the defs that functions are handed to -/
  cls : List Nat
  /-- the fields of the classes of errors -/
  ef : List (List Str)
abbrev Cm.inLam (K : Cm) : Cm := { K with clo := false, lam := false }
abbrev Cm.inBlk (K : Cm) : Cm := { K with lam := false }
/-- a built-in's name, whether it is a type -/
def Blt.py : Blt → Option (String × Bool)
  | .len => some ("len", false)
  | .tuple => some ("tuple", true)
  | .list => some ("list", true)
  | .dict => some ("dict", true)
  | .all => some ("all", false)
  | .any => some ("any", false)
  | .sum => some ("sum", false)
  | .int => some ("int", true)
  | .abs => some ("abs", false)
  | .str => some ("str", true)
  | _ => none
def plainIx : Expr → Bool
  | .Name _ _ => true
  | .Constant _ _ _ => true
  | .BinOp _ _ _ _ => true
  | .UnaryOp _ _ _ => true
  | .Call _ _ _ _ => true
  | .Subscript _ _ _ => true
  | .Tuple _ _ _ => true
  | _ => false
def okN (x : Str) : Bool := !(x == ("__debug__" : Str)) && !(x == ("__classdict__" : Str)) && !decide (x = "__name__")
/-- a global name -/
def gName (sc : Scope) (x : Str) : Bool := isGl sc x && okN x
/-- a block's names -/
def chkBlk (K : Cm) (sc scope : Scope) (own : List Nat) : Bool :=
  decide (scope.kind = .function) && scope.names.all (fun y => decide (scope.names.lookup y.1 = some y.2)) && (ownN K.toCk own).all (fun p => decide (K.N[p.2]? = some p.1)) &&
  scope.names.all (fun y => !decide (y.2 = .free) || decide (sc.names.lookup y.1 = some .cell) || decide (sc.names.lookup y.1 = some .free)) &&
  scope.names.all (fun y => !(decide (y.2 = .local) || decide (y.2 = .cell)) || decide (y.1 ∈ (ownN K.toCk own).map (·.1)) || decide (y.1 ∉ K.N))
/-- a lambda's parameters: none -/
def noPars (a : Arguments) : Bool := a.posonlyargs.isEmpty && a.args.isEmpty && a.vararg.isNone && a.kwonlyargs.isEmpty && a.kwarg.isNone && a.defaults.isEmpty && a.kw_defaults.isEmpty
def isT : E → Bool
  | .cst (.bl true) => true
  | _ => false
def E.isNon : E → Bool
  | .cst .non => true
  | _ => false
def T.isPr : T → Bool
  | .pr _ => true
  | _ => false
/-- no value -/
def E.np : E → Bool
  | .clo _ _ => true
  | .rng _ => true
  | .rng2 _ _ => true
  | .enu _ => true
  | .zip _ _ => true
  | _ => false
def E.isL : E → Bool
  | .clo _ _ => true
  | _ => false
def srcT (t : T) : E → Bool
  | .enu _ => t.isPr
  | .zip _ _ => t.isPr
  | _ => true
mutual
def chkE : E → Cm → Scope → Expr → Bool
  | .cst d, _, _, e => match e with
    | .Constant c _ _ => constOk c d
    | _ => false
  | .var i, K, sc, e => match e with
    | .Name x _ => decide (K.N[i]? = some x) && isVis sc x && okN x
    | _ => false
  | .glo g, K, sc, e => match e with
    | .Name x _ => decide (K.gn[g]? = some x) && gName sc x
    | _ => false
  | .fnv f, K, sc, e => match e with
    | .Name x _ => decide (K.fn[f]? = some x) && gName sc x
    | _ => false
  | .tup ts, K, sc, e => match e with
    | .Tuple es _ _ => chkEs ts K sc es && es.all noStar && !ts.any E.np && decide (ts.length ≤ 1000)
    | _ => false
  | .lst ts, K, sc, e => match e with
    | .List es _ => chkEs ts K sc es && es.all noStar && !ts.any E.np && decide (ts.length ≤ 1000)
    | _ => false
  | .dict0, _, _, e => match e with
    | .Dict [] [] _ => true
    | _ => false
  | .bin o a b, K, sc, e => match e with
    | .BinOp ea op eb _ => decide (op = o.py) && chkE a K sc ea && chkE b K sc eb && !a.np && !b.np
    | _ => false
  | .neg a, K, sc, e => match e with
    | .UnaryOp .USub ea _ => chkE a K sc ea && !a.np
    | _ => false
  | .not a, K, sc, e => match e with
    | .UnaryOp .Not ea _ => chkE a K sc ea && !a.np
    | _ => false
  | .cmp o a b, K, sc, e => match e with
    | .Compare ea [op] [eb] _ => decide (op = o.py) && !behindInMarks o.py eb && chkE a K sc ea && chkE b K sc eb && !a.np && !b.np
    | _ => false
  | .chain o p a b c, K, sc, e => match e with
    | .Compare ea [op, op2] [eb, ec] _ => decide (op = o.py) && decide (op2 = p.py) && !behindInMarks p.py ec && chkE a K sc ea && chkE b K sc eb && chkE c K sc ec && !a.np && !b.np && !c.np
    | _ => false
  | .isn a, K, sc, e => match e with
    | .Compare ea [.Is] [.Constant .none _ _] _ => chkE a K sc ea && !a.np
    | _ => false
  | .nisn a, K, sc, e => match e with
    | .Compare ea [.IsNot] [.Constant .none _ _] _ => chkE a K sc ea && !a.np
    | _ => false
  | .and a b, K, sc, e => match e with
    | .BoolOp .And [ea, eb] _ => chkE a K sc ea && chkE b K sc eb && !a.np && !b.np
    | .BoolOp .And (ea :: eb :: ec :: es) pos => chkE a K sc ea && chkE b K sc (.BoolOp .And (eb :: ec :: es) pos) && !a.np && !b.np
    | _ => false
  | .or a b, K, sc, e => match e with
    | .BoolOp .Or [ea, eb] _ => chkE a K sc ea && chkE b K sc eb && !a.np && !b.np
    | .BoolOp .Or (ea :: eb :: ec :: es) pos => chkE a K sc ea && chkE b K sc (.BoolOp .Or (eb :: ec :: es) pos) && !a.np && !b.np
    | _ => false
  | .ite c a b, K, sc, e => match e with
    | .IfExp ec ea eb _ => chkE c K sc ec && chkE a K sc ea && chkE b K sc eb && !c.np && !a.np && !b.np
    | _ => false
  | .isi a t, K, sc, e => match e with
    | .Call (.Name x _) [ea, .Name y _] [] _ => decide (x = "isinstance") && isGl sc x && decide (y = Str.ofString t.nm) && isGl sc y && chkE a K sc ea && noStar ea && !a.np
    | _ => false
  | .ix a b, K, sc, e => match e with
    | .Subscript ea eb _ => plainIx eb && chkE a K sc ea && chkE b K sc eb && !a.np && !b.np
    | _ => false
  | .slc a lo hi st, K, sc, e => match e with
    | .Subscript ea (.Slice elo ehi est _) _ => chkE a K sc ea && !a.np && !lo.np && !hi.np && (match st with
      | .cst .non => est.isNone && (match elo with
        | none => lo.isNon
        | some el => chkE lo K sc el && !lo.isNon) && (match ehi with
        | none => hi.isNon
        | some eh => chkE hi K sc eh && !hi.isNon)
      | .neg (.cst (.int 1)) => elo.isNone && lo.isNon && ehi.isNone && hi.isNon && (match est with
        | some (.UnaryOp .USub (.Constant (.int 1) _ _) _) => true
        | _ => false)
      | _ => false)
    | _ => false
  | .call f ts, K, sc, e => match e with
    | .Call (.Name x _) es [] _ => decide (K.fn[f]? = some x) && gName sc x && chkEs ts K sc es && es.all noStar && (!ts.any E.np || (K.lam && decide (ts.length = 1) && ts.all E.isL && K.cls.contains f))
    | _ => false
  | .callv i ts, K, sc, e => match e with
    | .Call (.Name x _) es [] _ => decide (K.N[i]? = some x) && isVis sc x && okN x && chkEs ts K sc es && es.all noStar && !ts.any E.np && (!K.clo || es.isEmpty)
    | _ => false
  | .clo ps b, K, sc, e => match e with
    | .Lambda params body scope _ => ps.isEmpty && noPars params && LamX.lamSB sc scope && chkE b K.inLam scope body && !b.np
    | _ => false
  | .blt b a, K, sc, e => match e with
    | .Call (.Name x _) [ea] [] _ => (match b.py with
      | some (s, _) => decide (x = Str.ofString s)
      | none => false) && isGl sc x && chkE a K sc ea && noStar ea && !a.np
    | _ => false
  | .lc k t src c own, K, sc, e => match e with
    | .ListComp ek [⟨tg, iter, ifs, 0⟩] scope _ => !K.clo && chkBlk K sc scope own && t.nms.all (own.contains ·) && chkT K.toCk scope t tg && srcT t src && chkE src K sc iter && !src.isL && noSet iter && chkE k K.inBlk (L2.relS scope sc) ek && !k.np && (match ifs with
      | [] => isT c
      | [ei] => chkE c K.inBlk (L2.relS scope sc) ei && !c.np
      | _ => false)
    | _ => false
  | .dc k v t src c own, K, sc, e => match e with
    | .DictComp ek ev [⟨tg, iter, ifs, 0⟩] scope _ => !K.clo && chkBlk K sc scope own && t.nms.all (own.contains ·) && chkT K.toCk scope t tg && srcT t src && chkE src K sc iter && !src.isL && noSet iter && chkE k K.inBlk (L2.relS scope sc) ek && !k.np && chkE v K.inBlk (L2.relS scope sc) ev && !v.np && (match ifs with
      | [] => isT c
      | [ei] => chkE c K.inBlk (L2.relS scope sc) ei && !c.np
      | _ => false)
    | _ => false
  | .rng a, K, sc, e => match e with
    | .Call (.Name x _) [ea] [] _ => decide (x = "range") && isGl sc x && chkE a K sc ea && noStar ea && !a.np
    | _ => false
  | .rng2 a b, K, sc, e => match e with
    | .Call (.Name x _) [ea, eb] [] _ => decide (x = "range") && isGl sc x && chkE a K sc ea && chkE b K sc eb && noStar ea && noStar eb && !a.np && !b.np
    | _ => false
  | .enu a, K, sc, e => match e with
    | .Call (.Name x _) [ea] [] _ => decide (x = "enumerate") && isGl sc x && chkE a K sc ea && noStar ea && !a.np
    | _ => false
  | .zip a b, K, sc, e => match e with
    | .Call (.Name x _) [ea, eb] [] _ => decide (x = "zip") && isGl sc x && chkE a K sc ea && chkE b K sc eb && noStar ea && noStar eb && !a.np && !b.np
    | _ => false
  | _, _, _, _ => false
def chkEs : List E → Cm → Scope → List Expr → Bool
  | [], _, _, [] => true
  | t :: r, K, sc, e :: q => chkE t K sc e && chkEs r K sc q
  | _, _, _, _ => false
end

/-! ### statements -/
def isComp : Expr → Bool
  | .ListComp _ _ _ _ => true
  | .SetComp _ _ _ _ => true
  | .DictComp _ _ _ _ _ => true
  | _ => false
def compScope : Expr → Scope
  | .ListComp _ _ s _ => s
  | .SetComp _ _ s _ => s
  | .DictComp _ _ _ s _ => s
  | _ => default
/-- whether the name is stored within the comprehension's own making -/
def swp (sc : Scope) (y : Str) (py : Pos) (val : Expr) : Bool := isComp val && decide (sc.names.lookup y = some .local) && (py.line == val.pos.line) && !((compScope val).names.any fun (n, k) => n == y && (k == .local || k == .cell))
def isTupE : Expr → Bool
  | .Tuple _ _ _ => true
  | _ => false
def isSlice : Expr → Bool
  | .Slice _ _ _ _ => true
  | _ => false
/-- how a value may be stored under a name -/
def asgC (val : Expr) : E → Bool
  | .lc _ _ _ _ _ => true
  | .dc _ _ _ _ _ _ => true
  | _ => !isComp val
mutual
/-- what is handed back of a caught error -/
def chkH : E → Cm → Scope → Nat → Nat → Expr → Bool
  | .cst d, _, _, _, _, e => match e with
    | .Constant c _ _ => constOk c d
    | _ => false
  | .var i, K, sc, _, _, e => match e with
    | .Name x _ => decide (K.N[i]? = some x) && isVis sc x && okN x
    | _ => false
  | .tup ts, K, sc, c, j, e => match e with
    | .Tuple es _ _ => chkHs ts K sc c j es && es.all noStar && decide (ts.length ≤ 1000)
    | _ => false
  | .xat i k, K, sc, c, j, e => match e with
    | .Attribute (.Name x _) g _ => i == j && decide (K.N[i]? = some x) && isVis sc x && okN x && decide ((K.ef[c]?).bind (·[k]?) = some g)
    | _ => false
  | _, _, _, _, _, _ => false
def chkHs : List E → Cm → Scope → Nat → Nat → List Expr → Bool
  | [], _, _, _, _, [] => true
  | t :: r, K, sc, c, j, e :: q => chkH t K sc c j e && chkHs r K sc c j q
  | _, _, _, _, _, _ => false
end
/-- a clause -/
def chkC (K : Cm) (sc : Scope) (fx : List Nat) (k i : Nat) (e : E) : ExceptHandler → Bool
  | .ExceptHandler (some (.Name x _)) nm [.Return (some er) _] _ => decide (K.cn[k]? = some x) && gName sc x && hotE e && !fx.contains i && decide (K.ef[k]? ≠ some []) && decide (K.ef[k]? ≠ none) && chkH e K sc k i er && (match nm with
    | none => decide (K.N.length ≤ i)
    | some n => decide (K.N[i]? = some n) && decide (sc.names.lookup n = some .local))
  | _ => false
def chkK (K : Cm) (sc : Scope) (fx : List Nat) (cs : List Nat) (i : Nat) (hh : List S) (h : ExceptHandler) : Bool := match cs, hh with
  | [k], [.ret e] => chkC K sc fx k i e h
  | _, _ => false
theorem chkK_ok {K : Cm} {sc : Scope} {fx : List Nat} {cs : List Nat} {i : Nat} {hh : List S} {h : ExceptHandler} (hc : chkK K sc fx cs i hh h = true) : ∃ k e, cs = [k] ∧ hh = [.ret e] ∧ chkC K sc fx k i e h = true := by
  unfold chkK at hc
  split at hc
  · exact ⟨_, _, rfl, rfl, hc⟩
  · cases hc
def hasNm : ExceptHandler → Bool
  | .ExceptHandler _ nm _ _ => nm.isSome
mutual
def chkS : S → Cm → Scope → List Nat → Stmt → Bool
  | .asg (.nm i) e, K, sc, fx, st => match st with
    | .Assign [.Name y py] val _ => !fx.contains i && decide (K.N[i]? = some y) && mayStore sc y && chkE e K sc val && !e.np && asgC val e
    | _ => false
  | .asg t e, K, sc, fx, st => match st with
    | .Assign [tg] val _ => t.isPr && t.nms.all (fun i => !fx.contains i) && chkT K.toCk sc t tg && chkE e K sc val && !e.np && !isTupE val
    | _ => false
  | .par ts es, K, sc, fx, st => match ts, es, st with
    | [i, j], [a, b], .Assign [.Tuple [.Name x px, .Name y py] _ _] (.Tuple [ea, eb] _ _) _ => !fx.contains i && !fx.contains j && i != j && decide (K.N[i]? = some x) && decide (K.N[j]? = some y) && decide (sc.names.lookup x = some .local) && decide (sc.names.lookup y = some .local) && (px.line == py.line) &&
      x != y && !isComp ea && noStar ea && noStar eb && chkE a K sc ea && chkE b K sc eb && !a.np && !b.np && !([ea, eb].all (foldedForSure 8)) && !([ea, eb].all (constantsAlone 8))
    | _, _, _ => false
  | .seti i k v, K, sc, _, st => match st with
    | .Assign [.Subscript (.Name x _) ek _] ev _ => decide (K.N[i]? = some x) && isVis sc x && okN x && plainIx ek && chkE k K sc ek && chkE v K sc ev && !k.np && !v.np
    | _ => false
  | .aug i o e, K, sc, fx, st => match st with
    | .AugAssign (.Name x _) op ev _ => decide (op = o.py) && !fx.contains i && decide (K.N[i]? = some x) && mayStore sc x && chkE e K sc ev && !e.np
    | _ => false
  | .augi i k o e, K, sc, _, st => match st with
    | .AugAssign (.Subscript (.Name x _) ek _) op ev _ => decide (op = o.py) && decide (K.N[i]? = some x) && isVis sc x && okN x && plainIx ek && chkE k K sc ek && chkE e K sc ev && !k.np && !e.np
    | _ => false
  | .expr e, K, sc, _, st => match st with
    | .Expr ev _ => chkE e K sc ev && !e.np && !isComp ev
    | _ => false
  | .app i e, K, sc, _, st => match st with
    | .Expr (.Call (.Attribute (.Name x _) m ap) [ev] [] cp) _ => decide (m = "append") && (ap.endLine == cp.line) && decide (K.N[i]? = some x) && isVis sc x && okN x && chkE e K sc ev && noStar ev && !e.np
    | _ => false
  | .ext i e, K, sc, _, st => match st with
    | .Expr (.Call (.Attribute (.Name x _) m ap) [ev] [] cp) _ => decide (m = "extend") && (ap.endLine == cp.line) && decide (K.N[i]? = some x) && isVis sc x && okN x && chkE e K sc ev && noStar ev && !e.np
    | _ => false
  | .ret e, K, sc, _, st => match st with
    | .Return (some ev) _ => chkE e K sc ev && !e.np
    | .Return none _ => e.isNon
    | _ => false
  | .ite c a b, K, sc, fx, st => match st with
    | .If test b1 b2 _ => chkE c K sc test && !c.np && chkSs a K sc fx b1 && chkSs b K sc fx b2
    | _ => false
  | .for_ t src b, K, sc, fx, st => match st with
    | .For tg iter body [] _ => t.nms.all (fun i => !(lockS src ++ fx).contains i) && chkT K.toCk sc t tg && srcT t src && chkE src K sc iter && !src.isL && noSet iter && chkSs b K sc (lockS src ++ fx) body
    | _ => false
  | .while_ c b, K, sc, fx, st => match st with
    | .While test body [] _ => chkE c K sc test && !c.np && chkSs b K sc fx body
    | _ => false
  | .raise c ts, K, sc, _, st => match st with
    | .Raise (some (.Call (.Name x _) es [] _)) none _ => decide (K.cn[c]? = some x) && gName sc x && chkEs ts K sc es && es.all noStar && !ts.any E.np && !es.isEmpty && decide ((K.ef[c]?).map List.length = some ts.length)
    | _ => false
  | .try_ b cs i hh, K, sc, fx, st => match st with
    | .Try body [h] [] [] _ => chkSs b K sc fx body && chkK K sc fx cs i hh h
    | _ => false
  | .try2 b cs i hh cs2 i2 hh2, K, sc, fx, st => match st with
    | .Try body [h, h2] [] [] _ => chkSs b K sc fx body && chkK K sc fx cs i hh h && chkK K sc fx cs2 i2 hh2 h2
    | _ => false
  | .pass, _, _, _, st => match st with
    | .Pass _ => true
    | _ => false
  | .cont, _, _, _, st => match st with
    | .Continue _ => true
    | _ => false
  | .brk, _, _, _, st => match st with
    | .Break _ => true
    | _ => false
  | _, _, _, _, _ => false
def chkSs : List S → Cm → Scope → List Nat → List Stmt → Bool
  | [], _, _, _, [] => true
  | a :: r, K, sc, fx, st :: q => chkS a K sc fx st && chkSs r K sc fx q
  | _, _, _, _, _ => false
end
end Mid
set_option Elab.async false
set_option linter.all false
set_option maxRecDepth 100000
set_option maxHeartbeats 4000000
/-! The checker is right: expressions. -/
namespace Mid
open PySem PySem.Spec PyProof.Rows
open L2 (Hp HO V RelV Vals SqL SqT Rd upd upd_same upd_ne OpR R2 Inv Cx EP VK TE TT TA TS WX XK PE PT PA PS PSs PI PG Ends CallR frs)

abbrev bltNames : List String := ["len", "tuple", "list", "dict", "all", "any", "sum", "int", "abs", "str", "isinstance", "bool", "range", "enumerate", "zip"]
structure XOk (P : Pg) (ex : Errs) (m : Nat) (K : Cm) (C : Kx) (W : WX) (X : Cx) : Prop where
  hK : X.K = C.K
  hw : X.w = C.w
  hg : C.gx = gxOf C.toBk ex
  hN : X.N = K.N
  nd : X.N.Nodup
  calm : X.calm = true
  knd : X.env.scope.kind = .function
  room : L2.Room (m + 3) X.A
  tk : L2.Takes X W
  mgB : ∀ s ∈ bltNames, X.mg (Str.ofString s) = none
  mgG : ∀ (g : Nat) (x : Str), K.gn[g]? = some x → ∃ (u : Value) (v : V), X.mg x = some u ∧ RelV v u ∧ ∀ d, P.gs[g]? = some d → ∀ F, DV C.toBk F v d
  mgF : ∀ (f : Nat) (x : Str), K.fn[f]? = some x → X.mg x = some (.ref (C.fa f))
  fnl : ∀ (f : Nat) (x : Str), K.fn[f]? = some x → ∃ fd, P.fs[f]? = some fd
  D : ∀ (f : Nat) (fd : Fd), P.fs[f]? = some fd → DefOk P (run P m) C.gx X (m + 3) f
  noclo : K.clo = false → C.noClo
  act : K.clo = true → ∀ (pn : List (Addr × Obj)) (xe : Value → Shared → Prop) (W' : WX) (l : List Nat), L2.Takes (X.tr pn xe) W' → ∀ (i : Nat) (x : Str) (p q : Pos), X.N[i]? = some x → L2.Vis X.env.scope x → (x == ("__debug__" : Str)) = false → (x == ("__classdict__" : Str)) = false →
    PE (X.tr pn xe) (.Call (.Name x p) [] [] q) (tClo P (run P m) { C with fx := l } W' i)
  lam : K.lam = true → ∀ (pn : List (Addr × Obj)) (xe : Value → Shared → Prop) (W' : WX) (l : List Nat), L2.Takes (X.tr pn xe) W' → ∀ (f : Nat) (fd : Fd) (x : Str) (b : E) (params : Arguments) (body : Expr) (scope : Scope) (p lp q : Pos), P.fs[f]? = some fd → K.cls.contains f = true → K.fn[f]? = some x → L2.Gl X x → (x == ("__debug__" : Str)) = false →
    noPars params = true → LamX.lamSB X.env.scope scope = true → chkE b K.inLam scope body = true → b.np = false →
    PE (X.tr pn xe) (.Call (.Name x p) [.Lambda params body scope lp] [] q) (tE P (run P m) { C with fx := l } W' (.call f [.clo [] b]))
  mgE : ∀ (c : Nat) (x : Str) (gs : List Str), K.cn[c]? = some x → K.ef[c]? = some gs → gs ≠ [] → ∃ Ca, ex c = some (Ca, gs) ∧ X.mg x = some (.ref Ca) ∧ ErrOk X Ca gs ∧ gs.Nodup ∧ gs.length ≤ 1000 ∧ L2.XfC X.K Ca ∧ ∀ g ∈ gs, PySem.W.findIn X.K (.ref Ca) g = some none
  exm : ∀ (c k : Nat) (Cc Ck : Addr) (gc gk : List Str), ex c = some (Cc, gc) → ex k = some (Ck, gk) → PySem.W.exmOne X.K (.ref Cc) (.ref Ck) = some (decide (c = k))
  exi : ∀ (c c' : Nat) (Ca : Addr) (g g' : List Str), ex c = some (Ca, g) → ex c' = some (Ca, g') → g = g'
section
variable {P : Pg} {ex : Errs} {m : Nat} {K : Cm} {C : Kx} {W : WX} {X : Cx}
theorem XOk.hm (h : XOk P ex m K C W X) : C.mono := mono_of h.hg
theorem XOk.hu (h : XOk P ex m K C W X) : X.A.units + 100 < cLine := by have := h.room.un; omega
theorem XOk.tr (h : XOk P ex m K C W X) {pn : List (Addr × Obj)} {xe : Value → Shared → Prop} {W' : WX} (tk : L2.Takes (X.tr pn xe) W') : XOk P ex m K C W' (X.tr pn xe) :=
  ⟨h.hK, h.hw, h.hg, h.hN, h.nd, h.calm, h.knd, h.room, tk, h.mgB, h.mgG, h.mgF, h.fnl, fun f fd e => ⟨(h.D f fd e).ex⟩, h.noclo, h.act, h.lam, fun c x gs a b d => (h.mgE c x gs a b d).imp fun Ca q => ⟨q.1, q.2.1, ⟨q.2.2.1.ex⟩, q.2.2.2⟩, h.exm, h.exi⟩
theorem XOk.lock (h : XOk P ex m K C W X) (l : List Nat) : XOk P ex m K { C with fx := l } W X :=
  ⟨h.hK, h.hw, h.hg, h.hN, h.nd, h.calm, h.knd, h.room, h.tk, h.mgB, h.mgG, h.mgF, h.fnl, h.D, h.noclo, h.act, h.lam, h.mgE, h.exm, h.exi⟩
theorem XOk.blk (h : XOk P ex m K C W X) (hc : K.clo = false) {s : Shared} {H : Hp} {scope : Scope} {cl : List (Str × Addr)} {Ca : Addr} {fp : List Addr} (hk : scope.kind = .function) : XOk P ex m K.inBlk C W0 (X.blk s H scope (compEnvC scope cl Ca X.env) fp) :=
  ⟨h.hK, h.hw, h.hg, h.hN, h.nd, h.calm, hk, h.room, L2.takes_none5, h.mgB, h.mgG, h.mgF, h.fnl, fun f fd e => ⟨(h.D f fd e).ex⟩, h.noclo, fun z => (by rw [show K.inBlk.clo = K.clo from rfl, hc] at z; cases z), fun z => (by cases z), fun c x gs a b d => (h.mgE c x gs a b d).imp fun Ca q => ⟨q.1, q.2.1, ⟨q.2.2.1.ex⟩, q.2.2.2⟩, h.exm, h.exi⟩
end

/-! ### names -/
theorem vis_of {sc : Scope} {x : Str} (h : isVis sc x = true) : L2.Vis sc x := by
  unfold isVis at h
  split at h <;> first | (rename_i e; first | exact .inl e | exact .inr (.inl e) | exact .inr (.inr e)) | cases h
theorem gl_of {X : Cx} {sc : Scope} (e : X.env.scope = sc) {x : Str} (h : isGl sc x = true) : L2.Gl X x := by
  unfold isGl at h
  have := of_decide_eq_true h
  show X.env.scope.names.lookup x = _
  rw [e]
  exact this
theorem okN_of {x : Str} (h : okN x = true) : (x == ("__debug__" : Str)) = false ∧ (x == ("__classdict__" : Str)) = false ∧ x ≠ "__name__" := by
  unfold okN at h
  simp only [Bool.and_eq_true, Bool.not_eq_true', decide_eq_false_iff_not] at h
  exact ⟨h.1.1, h.1.2, h.2⟩
theorem plainIx_ok {e : Expr} (h : plainIx e = true) : L2.PlainIx e := by
  cases e <;> first | (exact fun _ _ => rfl) | cases h
theorem blk_of {K : Cm} {sc scope : Scope} {own : List Nat} (h : chkBlk K sc scope own = true) : L2.BlkOk K.N sc scope (ownN K.toCk own) := by
  unfold chkBlk at h
  simp only [Bool.and_eq_true, Bool.or_eq_true, Bool.not_eq_true', decide_eq_true_eq, decide_eq_false_iff_not, List.all_eq_true, Bool.or_eq_false_iff] at h
  obtain ⟨⟨⟨⟨h1, h2⟩, h3⟩, h4⟩, h5⟩ := h
  refine ⟨h1, h2, h3, fun y hy e => ?_, fun y hy e => ?_⟩
  · rcases h4 y hy with (z | z) | z
    · exact absurd e z
    · exact .inl z
    · exact .inr z
  · rcases h5 y hy with (z | z) | z
    · exact e.elim (fun w => absurd w z.1) fun w => absurd w z.2
    · exact .inl z
    · exact .inr z
theorem stb_blk {X : Cx} {s : Shared} {H : Hp} {scope : Scope} {cl : List (Str × Addr)} {Ca : Addr} {fp : List Addr} : Stb (X.blk s H scope (compEnvC scope cl Ca X.env) fp) scope := fun x hx => by
  unfold mayStore at hx
  have look : ∀ {k : NameKind}, scope.names.lookup x = some k → k ≠ .free → (L2.relS scope X.env.scope).names.lookup x = some k := fun {k} e nk => by
    have : ∀ l : List (Str × NameKind), l.lookup x = some k → (l.map fun (n, k) => if (k == .free && X.env.scope.kind == .function && X.env.scope.names.lookup n == some .cell) then (n, NameKind.cell) else (n, k)).lookup x = some k := by
      intro l
      induction l with
      | nil => intro h; cases h
      | cons p r ih =>
        obtain ⟨n, j⟩ := p
        intro h
        rw [List.map_cons]
        cases q : (x == n) with
        | true =>
          rw [List.lookup_cons, q] at h
          cases h
          have hj : (k == NameKind.free) = false := by cases k <;> first | rfl | exact absurd rfl nk
          simp only [hj, Bool.false_and, Bool.false_eq_true, if_false]
          rw [List.lookup_cons, q]
        | false =>
          rw [List.lookup_cons, q] at h
          dsimp only
          split
          · rw [List.lookup_cons, q]; exact ih h
          · rw [List.lookup_cons, q]; exact ih h
    exact this _ e
  split at hx
  · rename_i e
    have := look e (by intro z; cases z)
    exact ⟨.inl this, .inr this⟩
  · rename_i e
    have := look e (by intro z; cases z)
    refine ⟨.inr this, .inl ?_⟩
    show (scope.names.lookup x == some .cell) = true
    rw [e]
    rfl
  · cases hx

/-! ### what the check tells -/
def Snd (P : Pg) (ex : Errs) (t : E) (K : Cm) (sc : Scope) (e : Expr) : Prop :=
  match t with
  | .clo ps b => ∃ params body scope p, e = .Lambda params body scope p ∧ ps = [] ∧ noPars params = true ∧ LamX.lamSB sc scope = true ∧ chkE b K.inLam scope body = true ∧ b.np = false
  | .rng a => ∀ m C W X tg (T : T) own, XOk P ex m K C W X → X.env.scope = sc → PI X tg e (tSrc P (run P m) C W own T (.rng a))
  | .rng2 a b => ∀ m C W X tg (T : T) own, XOk P ex m K C W X → X.env.scope = sc → PI X tg e (tSrc P (run P m) C W own T (.rng2 a b))
  | .enu a => ∀ m C W X es k p (ts : List T) own, XOk P ex m K C W X → X.env.scope = sc → PI X (.Tuple es k p) e (tSrc P (run P m) C W own (.pr ts) (.enu a))
  | .zip a b => ∀ m C W X es k p (ts : List T) own, XOk P ex m K C W X → X.env.scope = sc → PI X (.Tuple es k p) e (tSrc P (run P m) C W own (.pr ts) (.zip a b))
  | t => ∀ m C W X, XOk P ex m K C W X → X.env.scope = sc → BE P (run P m) C W X e t
section
variable {P : Pg} {ex : Errs} {K : Cm} {sc : Scope}
theorem Snd.be {t : E} {e : Expr} (h : Snd P ex t K sc e) (hp : t.np = false) {m : Nat} {C : Kx} {W : WX} {X : Cx} (h2 : XOk P ex m K C W X) (hs : X.env.scope = sc) : BE P (run P m) C W X e t := by
  cases t <;> first | (cases hp; done) | exact h m C W X h2 hs
theorem Snd.of {t : E} {e : Expr} (hp : t.np = false) (h : ∀ m C W X, XOk P ex m K C W X → X.env.scope = sc → BE P (run P m) C W X e t) : Snd P ex t K sc e := by
  cases t <;> first | (cases hp; done) | exact h
/-- a source -/
theorem Snd.src {t : E} {e tg : Expr} {T : T} (h : Snd P ex t K sc e) (hL : t.isL = false) (hT : srcT T t = true) (K' : Ck) (ws : Scope) (ht : chkT K' ws T tg = true) {m : Nat} {C : Kx} {W : WX} {X : Cx} (h2 : XOk P ex m K C W X) (hs : X.env.scope = sc) (own : List Nat) : PI X tg e (tSrc P (run P m) C W own T t) := by
  have gen : t.np = false → PI X tg e (tSrc P (run P m) C W own T t) := fun np =>
    ⟨fun pins s σ H Q I q => (pi_any (h.be np h2 hs).pe).run pins s σ H Q I (by rw [h2.hK]; exact src_r h2.hm σ H Q q)⟩
  have prT : T.isPr = true → ∃ ts es k p, T = .pr ts ∧ tg = .Tuple es k p := fun hp => by
    cases T with
    | nm i => cases hp
    | pr ts =>
      simp only [chkT] at ht
      split at ht
      · exact ⟨ts, _, _, _, rfl, rfl⟩
      · cases ht
  cases t with
  | clo ps b => cases hL
  | rng a => exact h m C W X tg T own h2 hs
  | rng2 a b => exact h m C W X tg T own h2 hs
  | enu a =>
    obtain ⟨ts, es, k, p, rfl, rfl⟩ := prT hT
    exact h m C W X es k p ts own h2 hs
  | zip a b =>
    obtain ⟨ts, es, k, p, rfl, rfl⟩ := prT hT
    exact h m C W X es k p ts own h2 hs
  | _ => exact gen rfl
def SndL (P : Pg) (ex : Errs) (K : Cm) (sc : Scope) : List E → List Expr → Prop
  | [], [] => True
  | t :: r, e :: q => Snd P ex t K sc e ∧ SndL P ex K sc r q
  | _, _ => False
theorem np_clo {t : E} (h : t.np = false) : t.isClo = false := by cases t <;> first | rfl | cases h
theorem SndL.pa {m : Nat} {C : Kx} {W : WX} {X : Cx} (h2 : XOk P ex m K C W X) (hs : X.env.scope = sc) : ∀ {ts : List E} {es : List Expr}, SndL P ex K sc ts es → ts.any E.np = false → es.all noStar = true → PA X es (tTs P (run P m) C W ts) ∧ PA X es (tAs P (run P m) C W ts) ∧ ts.length = es.length
  | [], [], _, _, _ => ⟨pa_nil', paA_nil, rfl⟩
  | [], _ :: _, h, _, _ => h.elim
  | _ :: _, [], h, _, _ => h.elim
  | t :: r, e :: q, ⟨h, hr⟩, n, st => by
    rw [List.any_cons, Bool.or_eq_false_iff] at n
    rw [List.all_cons, Bool.and_eq_true] at st
    obtain ⟨a1, a2, a3⟩ := SndL.pa h2 hs hr n.2 st.2
    have he := h.be n.1 h2 hs
    exact ⟨pa_cons' h2.hm he a1 st.1, paA_cons he a2 st.1 (np_clo n.1), by rw [List.length_cons, List.length_cons, a3]⟩
end
end Mid
set_option Elab.async false
set_option linter.all false
set_option maxRecDepth 100000
set_option maxHeartbeats 4000000
namespace Mid
open PySem PySem.Spec PyProof.Rows
open L2 (Hp HO V RelV Vals SqL SqT Rd upd upd_same upd_ne OpR R2 Inv Cx EP VK TE TT TA TS WX XK PE PT PA PS PSs PI PG Ends CallR frs)
section
variable {P : Pg} {ex : Errs} {m : Nat} {K : Cm} {C : Kx} {W : WX} {X : Cx} {sc : Scope}
theorem be_constM {c : Const} {d : D} {k : Nat} {p : Pos} (h : constOk c d = true) : BE P (run P m) C W X (.Constant c k p) (.cst d) := by
  rcases constOk_ok h with ⟨rfl, rfl⟩ | ⟨b, rfl, rfl⟩ | ⟨i, rfl, rfl⟩ | ⟨s, rfl, rfl⟩
  · exact be_cst (v := .non) L2.pe_non (fun F => .non) rfl
  · exact be_cst (v := .bl b) L2.pe_bl (fun F => .bl b) rfl
  · exact be_cst (v := .int i) L2.pe_int (fun F => .int i) rfl
  · exact be_cst (v := .str s) L2.pe_str (fun F => by have := DV.str (B := C.toBk) (F := F) s.cps.toList; rwa [txt_cps] at this) rfl
theorem bw_of_be {op : BoolOp} {es : List Expr} {pos : Pos} {t : E} {R : Run} (h : BE P R C W X (.BoolOp op es pos) t) : BW P R C W X (.BoolOp op es pos) t :=
  ⟨h.pe, ⟨fun wh pins s σ H Q I q => by
    have := h.pt.run pins s σ H Q I q
    exact this⟩⟩
theorem be_bltAll (h : XOk P ex m K C W X) (hs : X.env.scope = sc) {b : Blt} {s : String} {ty : Bool} {x : Str} {p pos : Pos} {ea : Expr} {a : E} (hb : b.py = some (s, ty)) (hx : x = Str.ofString s) (hg : isGl sc x = true) (ha : BE P (run P m) C W X ea a) (hn : noStar ea = true) :
    BE P (run P m) C W X (.Call (.Name x p) [ea] [] pos) (.blt b a) := by
  subst hx
  have gl := gl_of hs hg
  have none_ : ∀ s ∈ bltNames, X.mg (Str.ofString s) = none := h.mgB
  cases b <;> simp only [Blt.py, Option.some.injEq, Prod.mk.injEq, reduceCtorEq] at hb
  · obtain ⟨rfl, _⟩ := hb; exact be_bltB h.hm (cr_len h.hK) gl (none_ _ (by decide)) (by decide +kernel) ha hn (by decide) (by decide)
  · obtain ⟨rfl, _⟩ := hb; exact be_bltT h.hm (cr_tuple h.hK) gl (none_ _ (by decide)) (by decide +kernel) ha hn (by decide) (by decide)
  · obtain ⟨rfl, _⟩ := hb; exact be_bltT h.hm (cr_list h.hK) gl (none_ _ (by decide)) (by decide +kernel) ha hn (by decide) (by decide)
  · obtain ⟨rfl, _⟩ := hb; exact be_bltT h.hm (cr_dict h.hK h.hw h.hu h.calm) gl (none_ _ (by decide)) (by decide +kernel) ha hn (by decide) (by decide)
  · obtain ⟨rfl, _⟩ := hb; exact be_bltB h.hm (cr_all h.calm) gl (none_ _ (by decide)) (by decide +kernel) ha hn (by decide) (by decide)
  · obtain ⟨rfl, _⟩ := hb; exact be_bltB h.hm (cr_any h.calm) gl (none_ _ (by decide)) (by decide +kernel) ha hn (by decide) (by decide)
  · obtain ⟨rfl, _⟩ := hb; exact be_bltB h.hm (cr_sum h.calm) gl (none_ _ (by decide)) (by decide +kernel) ha hn (by decide) (by decide)
  · obtain ⟨rfl, _⟩ := hb; exact be_bltT h.hm cr_int gl (none_ _ (by decide)) (by decide +kernel) ha hn (by decide) (by decide)
  · obtain ⟨rfl, _⟩ := hb; exact be_bltB h.hm cr_abs gl (none_ _ (by decide)) (by decide +kernel) ha hn (by decide) (by decide)
  · obtain ⟨rfl, _⟩ := hb; exact be_bltT h.hm cr_str gl (none_ _ (by decide)) (by decide +kernel) ha hn (by decide) (by decide)
theorem be_isiAll (h : XOk P ex m K C W X) (hs : X.env.scope = sc) {t : Ty} {p p2 pos : Pos} {ea : Expr} {a : E} (hg : isGl sc (Str.ofString "isinstance") = true) (hg2 : isGl sc (Str.ofString t.nm) = true) (ha : BE P (run P m) C W X ea a) (hn : noStar ea = true) :
    BE P (run P m) C W X (.Call (.Name "isinstance" p) [ea, .Name (Str.ofString t.nm) p2] [] pos) (.isi a t) := by
  refine be_isi h.hm h.hK (gl_of hs hg) (h.mgB _ (by decide)) (by decide +kernel) (gl_of hs hg2) (h.mgB _ (by cases t <;> decide)) (by cases t <;> decide +kernel) ha hn (by decide) (by decide) (by cases t <;> decide) (by cases t <;> decide)
/-- xs[::-1] -/
theorem be_rev (h : XOk P ex m K C W X) {k : Nat} {p1 p2 p3 pos : Pos} {ea : Expr} {a : E} (ha : BE P (run P m) C W X ea a) : BE P (run P m) C W X (.Subscript ea (.Slice none none (some (.UnaryOp .USub (.Constant (.int 1) k p1) p2)) p3) pos) (.slc a (.cst .non) (.cst .non) (.neg (.cst (.int 1)))) := be_revM h.hm h.hK ha
theorem ifs_ok {c : E} {ifs : List Expr} {Yy : Cx → Prop} {sc : Scope} (hc : (match ifs with
      | [] => isT c
      | [ei] => chkE c K sc ei && !c.np
      | _ => false) = true) (hb : ∀ Y, Yy Y → ∀ ei, chkE c K sc ei = true → c.np = false → BE P (run P m) C W Y ei c) : ∃ tt, (∀ σ H Q, tT P (run P m) C W c σ H Q → tt σ H Q) ∧ ∀ Y, Yy Y → L2.PTs Y ifs tt := by
  split at hc
  · refine ⟨L2.tYes, fun σ H Q ⟨F, s, hs, hw⟩ => ?_, fun Y _ => L2.pts_nil⟩
    have : c = .cst (.bl true) := by
      unfold isT at hc
      split at hc
      · rfl
      · cases hc
    subst this
    rw [evE] at hw
    obtain ⟨b, e, q⟩ := hw
    simp only [peek, Option.some.injEq, D.bl.injEq] at e
    subst e
    exact q F H (.refl hs)
  · rename_i ei
    rw [Bool.and_eq_true, Bool.not_eq_true'] at hc
    exact ⟨_, fun σ H Q z => z, fun Y hY => L2.pts_one (hb Y hY ei hc.1 hc.2).pt⟩
  · cases hc
end
/-- a lambda that is handed over -/
theorem be_lamcall {P : Pg} {ex : Errs} {m : Nat} {K : Cm} {C : Kx} {W : WX} {X : Cx} (h : XOk P ex m K C W X) {f : Nat} {x : Str} {b : E} {params : Arguments} {body : Expr} {scope : Scope} {p lp q : Pos} (hl : K.lam = true) (hcl : K.cls.contains f = true) (hf : K.fn[f]? = some x) (hg : L2.Gl X x) (hd : (x == ("__debug__" : Str)) = false)
    (h1 : noPars params = true) (h2 : LamX.lamSB X.env.scope scope = true) (h3 : chkE b K.inLam scope body = true) (h4 : b.np = false) : BE P (run P m) C W X (.Call (.Name x p) [.Lambda params body scope lp] [] q) (.call f [.clo [] b]) := by
  refine .of ?_ rfl
  cases hfd : P.fs[f]? with
  | some fd => exact h.lam hl X.pn X.xe W C.fx h.tk f fd x b params body scope p lp q hfd hcl hf hg hd h1 h2 h3 h4
  | none =>
    refine ⟨fun pins s σ H Q I ⟨F, st, hs, hw⟩ => ?_⟩
    rw [evE, evAs, evAs] at hw
    simp only [Out.bind, callOf, hfd] at hw
    exact hw.elim
end Mid
set_option Elab.async false
set_option linter.all false
set_option maxRecDepth 100000
set_option maxHeartbeats 4000000
/-! Every expression that the checker takes is read rightly. -/
namespace Mid
open PySem PySem.Spec PyProof.Rows
open L2 (Hp HO V RelV Vals SqL SqT Rd upd upd_same upd_ne OpR R2 Inv Cx EP VK TE TT TA TS WX XK PE PT PA PS PSs PI PG Ends CallR frs)
variable {P : Pg} {ex : Errs}
theorem any_np {ts : List E} {K : Cm} {sc : Scope} {es : List Expr} (h : SndL P ex K sc ts es) (hl : ts.length = 1) (ha : ts.all E.isL = true) : ∃ t e, ts = [t] ∧ es = [e] ∧ t.isL = true ∧ Snd P ex t K sc e := by
  match ts, es, h, hl with
  | [t], [e], h, _ => exact ⟨t, e, rfl, rfl, by simpa using ha, h.1⟩
  | [t], [], h, _ => exact h.elim
  | [t], _ :: _ :: _, h, _ => exact h.2.elim
mutual
theorem snd : ∀ (t : E) (K : Cm) (sc : Scope) (e : Expr), chkE t K sc e = true → Snd P ex t K sc e
  | .cst d, K, sc, e, h => .of rfl fun m C W X hx hs => by
    simp only [chkE] at h
    split at h
    · exact be_constM h
    · cases h
  | .var i, K, sc, e, h => .of rfl fun m C W X hx hs => by
    simp only [chkE] at h
    split at h
    · simp only [Bool.and_eq_true, decide_eq_true_eq] at h
      obtain ⟨h1, h2, _⟩ := okN_of h.2
      exact be_var (by rw [hx.hN]; exact h.1.1) (by rw [hs]; exact vis_of h.1.2) h1 h2
    · cases h
  | .glo g, K, sc, e, h => .of rfl fun m C W X hx hs => by
    simp only [chkE] at h
    split at h
    · simp only [Bool.and_eq_true, decide_eq_true_eq, gName] at h
      obtain ⟨h1, h2, _⟩ := okN_of h.2.2
      obtain ⟨u, v, e1, e2, e3⟩ := hx.mgG _ _ h.1
      exact be_glo (gl_of hs h.2.1) e1 e2 h1 e3
    · cases h
  | .fnv f, K, sc, e, h => .of rfl fun m C W X hx hs => by
    simp only [chkE] at h
    split at h
    · simp only [Bool.and_eq_true, decide_eq_true_eq, gName] at h
      obtain ⟨h1, h2, _⟩ := okN_of h.2.2
      exact be_fnv (gl_of hs h.2.1) (hx.mgF _ _ h.1) h1
    · cases h
  | .tup ts, K, sc, e, h => .of rfl fun m C W X hx hs => by
    simp only [chkE] at h
    split at h
    · simp only [Bool.and_eq_true, decide_eq_true_eq, Bool.not_eq_true'] at h
      exact be_tup hx.hm ((snds ts K sc _ h.1.1.1).pa hx hs h.1.2 h.1.1.2).1 (by have := h.2; unfold line; omega)
    · cases h
  | .lst ts, K, sc, e, h => .of rfl fun m C W X hx hs => by
    simp only [chkE] at h
    split at h
    · simp only [Bool.and_eq_true, decide_eq_true_eq, Bool.not_eq_true'] at h
      exact be_lst hx.hm ((snds ts K sc _ h.1.1.1).pa hx hs h.1.2 h.1.1.2).1 (by have := h.2; unfold line; omega)
    · cases h
  | .dict0, K, sc, e, h => .of rfl fun m C W X hx hs => by
    simp only [chkE] at h
    split at h
    · exact be_dict0 hx.hm pe_dnewM
    · cases h
  | .bin o a b, K, sc, e, h => .of rfl fun m C W X hx hs => by
    simp only [chkE] at h
    split at h
    · simp only [Bool.and_eq_true, decide_eq_true_eq, Bool.not_eq_true'] at h
      obtain ⟨⟨⟨⟨rfl, h1⟩, h2⟩, h3⟩, h4⟩ := h
      exact be_bin hx.hm hx.hK ((snd a K sc _ h1).be h3 hx hs) ((snd b K sc _ h2).be h4 hx hs)
    · cases h
  | .neg a, K, sc, e, h => .of rfl fun m C W X hx hs => by
    simp only [chkE] at h
    split at h
    · simp only [Bool.and_eq_true, Bool.not_eq_true'] at h
      exact be_neg hx.hm ((snd a K sc _ h.1).be h.2 hx hs)
    · cases h
  | .not a, K, sc, e, h => .of rfl fun m C W X hx hs => by
    simp only [chkE] at h
    split at h
    · simp only [Bool.and_eq_true, Bool.not_eq_true'] at h
      exact be_not ((snd a K sc _ h.1).be h.2 hx hs)
    · cases h
  | .cmp o a b, K, sc, e, h => .of rfl fun m C W X hx hs => by
    simp only [chkE] at h
    split at h
    · simp only [Bool.and_eq_true, decide_eq_true_eq, Bool.not_eq_true'] at h
      obtain ⟨⟨⟨⟨⟨rfl, h0⟩, h1⟩, h2⟩, h3⟩, h4⟩ := h
      exact be_cmp hx.hm hx.hK hx.hw hx.hu ((snd a K sc _ h1).be h3 hx hs) ((snd b K sc _ h2).be h4 hx hs) h0
    · cases h
  | .chain o p a b c, K, sc, e, h => .of rfl fun m C W X hx hs => by
    simp only [chkE] at h
    split at h
    · simp only [Bool.and_eq_true, decide_eq_true_eq, Bool.not_eq_true'] at h
      obtain ⟨⟨⟨⟨⟨⟨⟨⟨rfl, rfl⟩, h0⟩, h1⟩, h2⟩, h3⟩, h4⟩, h5⟩, h6⟩ := h
      exact be_chain hx.hK hx.hw hx.hu ((snd a K sc _ h1).be h4 hx hs) ((snd b K sc _ h2).be h5 hx hs) ((snd c K sc _ h3).be h6 hx hs) h0
    · cases h
  | .isn a, K, sc, e, h => .of rfl fun m C W X hx hs => by
    simp only [chkE] at h
    split at h
    · simp only [Bool.and_eq_true, Bool.not_eq_true'] at h
      exact be_isn false ((snd a K sc _ h.1).be h.2 hx hs)
    · cases h
  | .nisn a, K, sc, e, h => .of rfl fun m C W X hx hs => by
    simp only [chkE] at h
    split at h
    · simp only [Bool.and_eq_true, Bool.not_eq_true'] at h
      exact be_isn true ((snd a K sc _ h.1).be h.2 hx hs)
    · cases h
  | .and a b, K, sc, e, h => .of rfl fun m C W X hx hs => by
    simp only [chkE] at h
    split at h
    · simp only [Bool.and_eq_true, Bool.not_eq_true'] at h
      obtain ⟨⟨⟨h1, h2⟩, h3⟩, h4⟩ := h
      exact (bw_and ((snd a K sc _ h1).be h3 hx hs) (bw_and1 ((snd b K sc _ h2).be h4 hx hs))).be
    · simp only [Bool.and_eq_true, Bool.not_eq_true'] at h
      obtain ⟨⟨⟨h1, h2⟩, h3⟩, h4⟩ := h
      exact (bw_and ((snd a K sc _ h1).be h3 hx hs) (bw_of_be ((snd b K sc _ h2).be h4 hx hs))).be
    · cases h
  | .or a b, K, sc, e, h => .of rfl fun m C W X hx hs => by
    simp only [chkE] at h
    split at h
    · simp only [Bool.and_eq_true, Bool.not_eq_true'] at h
      obtain ⟨⟨⟨h1, h2⟩, h3⟩, h4⟩ := h
      exact (bw_or ((snd a K sc _ h1).be h3 hx hs) (bw_or1 ((snd b K sc _ h2).be h4 hx hs))).be
    · simp only [Bool.and_eq_true, Bool.not_eq_true'] at h
      obtain ⟨⟨⟨h1, h2⟩, h3⟩, h4⟩ := h
      exact (bw_or ((snd a K sc _ h1).be h3 hx hs) (bw_of_be ((snd b K sc _ h2).be h4 hx hs))).be
    · cases h
  | .ite c a b, K, sc, e, h => .of rfl fun m C W X hx hs => by
    simp only [chkE] at h
    split at h
    · simp only [Bool.and_eq_true, Bool.not_eq_true'] at h
      obtain ⟨⟨⟨⟨⟨h1, h2⟩, h3⟩, h4⟩, h5⟩, h6⟩ := h
      exact be_iteB ((snd c K sc _ h1).be h4 hx hs) ((snd a K sc _ h2).be h5 hx hs) ((snd b K sc _ h3).be h6 hx hs)
    · cases h
  | .isi a t, K, sc, e, h => .of rfl fun m C W X hx hs => by
    simp only [chkE] at h
    split at h
    · simp only [Bool.and_eq_true, decide_eq_true_eq, Bool.not_eq_true'] at h
      obtain ⟨⟨⟨⟨⟨⟨rfl, h1⟩, rfl⟩, h2⟩, h3⟩, h4⟩, h5⟩ := h
      exact be_isiAll hx hs h1 h2 ((snd a K sc _ h3).be h5 hx hs) h4
    · cases h
  | .ix a b, K, sc, e, h => .of rfl fun m C W X hx hs => by
    simp only [chkE] at h
    split at h
    · simp only [Bool.and_eq_true, Bool.not_eq_true'] at h
      obtain ⟨⟨⟨⟨h1, h2⟩, h3⟩, h4⟩, h5⟩ := h
      exact be_ix hx.hm hx.hK hx.hw hx.hu ((snd a K sc _ h2).be h4 hx hs) ((snd b K sc _ h3).be h5 hx hs) (plainIx_ok h1)
    · cases h
  | .slc a lo hi st, K, sc, e, h => .of rfl fun m C W X hx hs => by
    simp only [chkE] at h
    split at h
    · simp only [Bool.and_eq_true, Bool.not_eq_true'] at h
      obtain ⟨⟨⟨⟨h1, h2⟩, h3⟩, h4⟩, h5⟩ := h
      have ha := (snd a K sc _ h1).be h2 hx hs
      split at h5
      · simp only [Bool.and_eq_true, Option.isNone_iff_eq_none] at h5
        obtain ⟨⟨rfl, h6⟩, h7⟩ := h5
        have part : ∀ (x : E) (ox : Option Expr), (∀ ex', chkE x K sc ex' = true → BE P (run P m) C W X ex' x) → (match ox with
            | none => x.isNon
            | some el => chkE x K sc el && !x.isNon) = true → ∃ tl, L2.PO X ox tl ∧ PRd P (run P m) C W x tl := fun x ox hb hh => by
          cases ox with
          | none =>
            have : x = .cst .non := by
              cases x <;> try (cases hh; done)
              rename_i d
              cases d <;> first | rfl | cases hh
            subst this
            exact ⟨_, L2.po_none, pRd_none⟩
          | some el =>
            rw [Bool.and_eq_true, Bool.not_eq_true'] at hh
            exact ⟨_, L2.po_some (hb el hh.1).pe, pRd_some fun z => by rw [z] at hh; cases hh.2⟩
        obtain ⟨tl, l1, l2⟩ := part lo _ (fun ex' z => (snd lo K sc ex' z).be h3 hx hs) h6
        obtain ⟨th, g1, g2⟩ := part hi _ (fun ex' z => (snd hi K sc ex' z).be h4 hx hs) h7
        exact be_slc hx.hm hx.hK ha l1 g1 l2 g2
      · simp only [Bool.and_eq_true, Option.isNone_iff_eq_none] at h5
        obtain ⟨⟨⟨⟨rfl, h6⟩, rfl⟩, h7⟩, h8⟩ := h5
        have nn : ∀ {x : E}, x.isNon = true → x = .cst .non := fun {x} hh => by
          cases x <;> try (cases hh; done)
          rename_i d
          cases d <;> first | rfl | cases hh
        obtain rfl := nn h6
        obtain rfl := nn h7
        split at h8
        · exact be_rev hx ha
        · cases h8
      · cases h5
    · cases h
  | .call f ts, K, sc, e, h => .of rfl fun m C W X hx hs => by
    simp only [chkE] at h
    split at h
    · rename_i x p es q
      simp only [Bool.and_eq_true, decide_eq_true_eq, gName, Bool.or_eq_true, Bool.not_eq_true'] at h
      obtain ⟨⟨⟨⟨h1, h2, h3⟩, h4⟩, h5⟩, h6⟩ := h
      obtain ⟨n1, n2, _⟩ := okN_of h3
      have hl := snds ts K sc _ h4
      rcases h6 with h6 | ⟨⟨⟨h6, h7⟩, h8⟩, h9⟩
      · obtain ⟨_, pa, hlen⟩ := hl.pa hx hs h6 h5
        refine .of ?_ rfl
        obtain ⟨fd, hfd⟩ := hx.fnl f x h1
        · obtain ⟨fdata, ps, F, hk, hb⟩ := (hx.D f fd hfd).ex
          cases es with
          | nil =>
            cases ts with
            | nil => exact pe_callM0 (good_of hx.hg) hfd F hx.room (gl_of hs h2) (hx.mgF _ _ h1) hk hb hx.tk n1
            | cons t r => cases hlen
          | cons e es => exact pe_callM (good_of hx.hg) hfd F hx.room (gl_of hs h2) (hx.mgF _ _ h1) hk hb hx.tk pa h5 n1
      · obtain ⟨t, e, rfl, rfl, hL, hS⟩ := any_np hl h7 h8
        cases t <;> try (cases hL; done)
        rename_i ps b
        obtain ⟨params, body, scope, lp, rfl, rfl, e1, e2, e3, e4⟩ := hS
        exact be_lamcall hx h6 h9 h1 (gl_of hs h2) n1 e1 (by rw [hs]; exact e2) e3 e4
    · cases h
  | .callv i ts, K, sc, e, h => .of rfl fun m C W X hx hs => by
    simp only [chkE] at h
    split at h
    · rename_i x p es q
      simp only [Bool.and_eq_true, decide_eq_true_eq, Bool.or_eq_true, Bool.not_eq_true'] at h
      obtain ⟨⟨⟨⟨⟨⟨h1, h2⟩, h3⟩, h4⟩, h5⟩, h6⟩, h7⟩ := h
      obtain ⟨n1, n2, _⟩ := okN_of h3
      obtain ⟨_, pa, hlen⟩ := (snds ts K sc _ h4).pa hx hs h6 h5
      have hN : X.N[i]? = some x := by rw [hx.hN]; exact h1
      have hv : L2.Vis X.env.scope x := by rw [hs]; exact vis_of h2
      cases es with
      | nil =>
        cases ts with
        | cons t r => cases hlen
        | nil =>
          refine be_callv0 (good_of hx.hg) hx.D hx.room hN hv hx.tk n1 n2 ?_
          cases hc : K.clo with
          | true => exact hx.act hc X.pn X.xe W C.fx hx.tk i x p q hN hv n1 n2
          | false => exact ⟨fun pins s σ H Q I ⟨F, st, ps, b, hs', e, _⟩ => by
              obtain ⟨v, _, c⟩ := hs'.c.sl i _ (slotAt_clo e)
              exact (hx.noclo hc _ _ _ c).elim⟩
      | cons e es =>
        rcases h7 with h7 | h7
        · exact be_callv (good_of hx.hg) (hx.noclo h7) hx.D hx.room hN hv hx.tk pa h5 n1 n2
        · cases h7
    · cases h
  | .clo ps b, K, sc, e, h => by
    simp only [chkE] at h
    split at h
    · simp only [Bool.and_eq_true, Bool.not_eq_true', List.isEmpty_iff] at h
      obtain ⟨⟨⟨⟨rfl, h1⟩, h2⟩, h3⟩, h4⟩ := h
      exact ⟨_, _, _, _, rfl, rfl, h1, h2, h3, h4⟩
    · cases h
  | .blt b a, K, sc, e, h => .of rfl fun m C W X hx hs => by
    simp only [chkE] at h
    split at h
    · simp only [Bool.and_eq_true, Bool.not_eq_true'] at h
      obtain ⟨⟨⟨⟨h1, h2⟩, h3⟩, h4⟩, h5⟩ := h
      split at h1
      · rename_i s ty hb
        exact be_bltAll hx hs hb (of_decide_eq_true h1) h2 ((snd a K sc _ h3).be h5 hx hs) h4
      · cases h1
    · cases h
  | .lc k t src c own, K, sc, e, h => .of rfl fun m C W X hx hs => by
    simp only [chkE] at h
    split at h
    · rename_i ek tg iter ifs scope pos
      simp only [Bool.and_eq_true, Bool.not_eq_true', List.all_eq_true] at h
      obtain ⟨⟨⟨⟨⟨⟨⟨⟨⟨⟨h1, h2⟩, h3⟩, h4⟩, h5⟩, h6⟩, h7⟩, h8⟩, h9⟩, h10⟩, h11⟩ := h
      have ok := blk_of h2
      have hY : ∀ (s : Shared) (H : Hp) (Ca : Addr) (cl : List (Str × Addr)) (fp : List Addr), XOk P ex m K.inBlk C W0 (X.blk s H scope (compEnvC scope cl Ca X.env) fp) := fun s H Ca cl fp => hx.blk h1 ok.kind
      have hsY : ∀ (s : Shared) (H : Hp) (Ca : Addr) (cl : List (Str × Addr)) (fp : List Addr), (X.blk s H scope (compEnvC scope cl Ca X.env) fp).env.scope = L2.relS scope sc := fun s H Ca cl fp => by rw [← hs]; rfl
      obtain ⟨tt, t1, t2⟩ := ifs_ok (Yy := fun Y => XOk P ex m K.inBlk C W0 Y ∧ Y.env.scope = L2.relS scope sc) (m := m) (P := P) (C := C) (W := W0) h11 fun Y hY' ei z1 z2 => (snd c K.inBlk (L2.relS scope sc) ei z1).be z2 hY'.1 hY'.2
      have hlo : ∀ j ∈ t.nms, j ∈ own := fun j hj => by have := h3 j hj; simpa using this
      have p := L2.pe_lc (X := X) (g := gT X.K t) (pos := pos) (own := ownN K.toCk own) hx.calm hx.nd ((snd src K sc _ h6).src h7 h5 K.toCk scope h4 hx hs own) (by rw [hx.hN, hs]; exact ok)
        (fun s H Ca cl fp => chkT_ok (K := K.toCk) (ws := scope) (X := X.blk s H scope (compEnvC scope cl Ca X.env) fp) hx.hN hx.nd stb_blk hx.calm t tg h4) (fun s H Ca cl fp => t2 _ ⟨hY s H Ca cl fp, hsY s H Ca cl fp⟩)
        (fun s H Ca cl fp => ((snd k K.inBlk (L2.relS scope sc) ek h9).be h10 (hY s H Ca cl fp) (hsY s H Ca cl fp)).pe) (fun x => noFold h8 _ x)
      refine .of (PE.imp p fun σ H Q q => ?_) rfl
      rw [ownN_snd]
      have := lc_r hx.hm t1 hlo σ H Q q
      rw [hx.hK]
      exact this
    · cases h
  | .dc k v t src c own, K, sc, e, h => .of rfl fun m C W X hx hs => by
    simp only [chkE] at h
    split at h
    · rename_i ek ev tg iter ifs scope pos
      simp only [Bool.and_eq_true, Bool.not_eq_true', List.all_eq_true] at h
      obtain ⟨⟨⟨⟨⟨⟨⟨⟨⟨⟨⟨⟨h1, h2⟩, h3⟩, h4⟩, h5⟩, h6⟩, h7⟩, h8⟩, h9⟩, h10⟩, h12⟩, h13⟩, h11⟩ := h
      have ok := blk_of h2
      have hY : ∀ (s : Shared) (H : Hp) (Ca : Addr) (cl : List (Str × Addr)) (fp : List Addr), XOk P ex m K.inBlk C W0 (X.blk s H scope (compEnvC scope cl Ca X.env) fp) := fun s H Ca cl fp => hx.blk h1 ok.kind
      have hsY : ∀ (s : Shared) (H : Hp) (Ca : Addr) (cl : List (Str × Addr)) (fp : List Addr), (X.blk s H scope (compEnvC scope cl Ca X.env) fp).env.scope = L2.relS scope sc := fun s H Ca cl fp => by rw [← hs]; rfl
      obtain ⟨tt, t1, t2⟩ := ifs_ok (Yy := fun Y => XOk P ex m K.inBlk C W0 Y ∧ Y.env.scope = L2.relS scope sc) (m := m) (P := P) (C := C) (W := W0) h11 fun Y hY' ei z1 z2 => (snd c K.inBlk (L2.relS scope sc) ei z1).be z2 hY'.1 hY'.2
      have hlo : ∀ j ∈ t.nms, j ∈ own := fun j hj => by have := h3 j hj; simpa using this
      have p := pe_dcM (B := C.toBk) (X := X) (g := gT X.K t) (pos := pos) (own := ownN K.toCk own) hx.hK hx.hw hx.hu hx.calm hx.nd ((snd src K sc _ h6).src h7 h5 K.toCk scope h4 hx hs own) (by rw [hx.hN, hs]; exact ok)
        (fun s H Ca cl fp => chkT_ok (K := K.toCk) (ws := scope) (X := X.blk s H scope (compEnvC scope cl Ca X.env) fp) hx.hN hx.nd stb_blk hx.calm t tg h4) (fun s H Ca cl fp => t2 _ ⟨hY s H Ca cl fp, hsY s H Ca cl fp⟩)
        (fun s H Ca cl fp => ((snd k K.inBlk (L2.relS scope sc) ek h9).be h10 (hY s H Ca cl fp) (hsY s H Ca cl fp)).pe) (fun s H Ca cl fp => ((snd v K.inBlk (L2.relS scope sc) ev h12).be h13 (hY s H Ca cl fp) (hsY s H Ca cl fp)).pe) (fun x => noFold h8 _ x)
      refine .of (PE.imp p fun σ H Q q => ?_) rfl
      rw [ownN_snd]
      have := dc_r hx.hm t1 hlo σ H Q q
      rw [hx.hK]
      exact this
    · cases h
  | .rng a, K, sc, e, h => by
    simp only [chkE] at h
    split at h
    · simp only [Bool.and_eq_true, decide_eq_true_eq, Bool.not_eq_true'] at h
      obtain ⟨⟨⟨⟨rfl, h1⟩, h2⟩, h3⟩, h4⟩ := h
      intro m C W X tg T own hx hs
      have pa := L2.pa_cons ((snd a K sc _ h2).be h4 hx hs).pe L2.pa_nil (starOk h3 [] _)
      exact ⟨fun pins s σ H Q I q => (L2.pi_range1 (gl_of hs h1) (hx.mgB _ (by decide)) pa (starOk h3 [] _)).run pins s σ H Q I (rng_r σ H Q q)⟩
    · cases h
  | .rng2 a b, K, sc, e, h => by
    simp only [chkE] at h
    split at h
    · simp only [Bool.and_eq_true, decide_eq_true_eq, Bool.not_eq_true'] at h
      obtain ⟨⟨⟨⟨⟨⟨⟨rfl, h1⟩, h2⟩, h3⟩, h4⟩, h5⟩, h6⟩, h7⟩ := h
      intro m C W X tg T own hx hs
      have pa := L2.pa_cons ((snd a K sc _ h2).be h6 hx hs).pe (L2.pa_cons ((snd b K sc _ h3).be h7 hx hs).pe L2.pa_nil (starOk h5 [] _)) (starOk h4 _ _)
      exact ⟨fun pins s σ H Q I q => (L2.pi_range2 (gl_of hs h1) (hx.mgB _ (by decide)) pa (by rw [starOk h4, starOk h5]; rfl) (starOk h5 [] _)).run pins s σ H Q I (rng2_r σ H Q q)⟩
    · cases h
  | .enu a, K, sc, e, h => by
    simp only [chkE] at h
    split at h
    · simp only [Bool.and_eq_true, decide_eq_true_eq, Bool.not_eq_true'] at h
      obtain ⟨⟨⟨⟨rfl, h1⟩, h2⟩, h3⟩, h4⟩ := h
      intro m C W X es k p ts own hx hs
      have pa := L2.pa_cons ((snd a K sc _ h2).be h4 hx hs).pe L2.pa_nil (starOk h3 [] _)
      exact ⟨fun pins s σ H Q I q => (L2.pi_enum (gl_of hs h1) (hx.mgB _ (by decide)) pa (starOk h3 [] _)).run pins s σ H Q I (by rw [hx.hK]; exact enu_r hx.hm σ H Q q)⟩
    · cases h
  | .zip a b, K, sc, e, h => by
    simp only [chkE] at h
    split at h
    · simp only [Bool.and_eq_true, decide_eq_true_eq, Bool.not_eq_true'] at h
      obtain ⟨⟨⟨⟨⟨⟨⟨rfl, h1⟩, h2⟩, h3⟩, h4⟩, h5⟩, h6⟩, h7⟩ := h
      intro m C W X es k p ts own hx hs
      have pa := L2.pa_cons ((snd a K sc _ h2).be h6 hx hs).pe (L2.pa_cons ((snd b K sc _ h3).be h7 hx hs).pe L2.pa_nil (starOk h5 [] _)) (starOk h4 _ _)
      exact ⟨fun pins s σ H Q I q => (RZ.pi_zipA (gl_of hs h1) (hx.mgB _ (by decide)) pa (starOk h4 _ _) (by rw [starOk h5]; rfl)).run pins s σ H Q I (by rw [hx.hK]; exact zip_r hx.hm σ H Q q)⟩
    · cases h
  | .req a b, K, sc, e, h => by simp [chkE] at h
  | .ist a, K, sc, e, h => by simp [chkE] at h
  | .nist a, K, sc, e, h => by simp [chkE] at h
  | .srtf a f, K, sc, e, h => by simp [chkE] at h
  | .srtl a i b, K, sc, e, h => by simp [chkE] at h
  | .mth mm a es, K, sc, e, h => by simp [chkE] at h
  | .lc2 a t b t1 c d own, K, sc, e, h => by simp [chkE] at h
  | .dc2 a v t b t1 c d own, K, sc, e, h => by simp [chkE] at h
  | .xat i k, K, sc, e, h => by simp [chkE] at h
  | .pop i, K, sc, e, h => by simp [chkE] at h
  | .setd i k v, K, sc, e, h => by simp [chkE] at h
  | .itm a, K, sc, e, h => by simp [chkE] at h
  | .vals a, K, sc, e, h => by simp [chkE] at h
  | .dmerge a b, K, sc, e, h => by simp [chkE] at h
theorem snds : ∀ (ts : List E) (K : Cm) (sc : Scope) (es : List Expr), chkEs ts K sc es = true → SndL P ex K sc ts es
  | [], K, sc, [], _ => trivial
  | [], K, sc, _ :: _, h => by simp [chkEs] at h
  | _ :: _, K, sc, [], h => by simp [chkEs] at h
  | t :: r, K, sc, e :: q, h => by
    simp only [chkEs, Bool.and_eq_true] at h
    exact ⟨snd t K sc e h.1, snds r K sc q h.2⟩
end
end Mid
set_option Elab.async false
set_option linter.all false
set_option maxRecDepth 100000
set_option maxHeartbeats 4000000
/-! Every statement that the checker takes is read rightly. -/
namespace Mid
open PySem PySem.Spec PyProof.Rows
open L2 (Hp HO V RelV Vals SqL SqT Rd upd upd_same upd_ne OpR R2 Inv Cx EP VK TE TT TA TS WX XK PE PT PA PS PSs PI PG Ends CallR frs)
variable {P : Pg} {ex : Errs}
structure SOk (P : Pg) (ex : Errs) (m : Nat) (K : Cm) (C : Kx) (W : WX) (X : Cx) : Prop extends XOk P ex m K C W X where
  po : PassesOwn (model X.prog X.w) X.A X.env X.xe
  stk : X.stack = X.env :: X.outer
  frm : X.env.frame = some X.env.locals
  stb : Stb X X.env.scope
section
variable {m : Nat} {K : Cm} {C : Kx} {W : WX} {X : Cx} {sc : Scope}
theorem SOk.lock (h : SOk P ex m K C W X) (l : List Nat) : SOk P ex m K { C with fx := l } W X := ⟨h.toXOk.lock l, h.po, h.stk, h.frm, h.stb⟩
theorem SOk.tr (h : SOk P ex m K C W X) {pn : List (Addr × Obj)} {xe : Value → Shared → Prop} {W' : WX} (tk : L2.Takes (X.tr pn xe) W') (po : PassesOwn (model X.prog X.w) X.A X.env xe) : SOk P ex m K C W' (X.tr pn xe) := ⟨h.toXOk.tr tk, po, h.stk, h.frm, h.stb⟩
/-- a list comprehension's parts -/
theorem lc_parts {k src c : E} {t : T} {own : List Nat} {e : Expr} (h : chkE (.lc k t src c own) K sc e = true) : ∃ ek tg iter ifs scope pos, e = .ListComp ek [⟨tg, iter, ifs, 0⟩] scope pos ∧ noSet iter = true ∧ (∀ j ∈ t.nms, j ∈ own) ∧
    ∀ {m C W X}, XOk P ex m K C W X → X.env.scope = sc → ∃ tt, (∀ σ H Q, tT P (run P m) C W0 c σ H Q → tt σ H Q) ∧ PI X tg iter (tSrc P (run P m) C W own t src) ∧ L2.BlkOk X.N X.env.scope scope (ownN K.toCk own) ∧ InBlk X scope (fun Y => PG Y tg (gT X.K t)) ∧ InBlk X scope (fun Y => L2.PTs Y ifs tt) ∧ InBlk X scope (fun Y => PE Y ek (tE P (run P m) C W0 k)) := by
  simp only [chkE] at h
  split at h
  · rename_i ek tg iter ifs scope pos
    simp only [Bool.and_eq_true, Bool.not_eq_true', List.all_eq_true] at h
    obtain ⟨⟨⟨⟨⟨⟨⟨⟨⟨⟨h1, h2⟩, h3⟩, h4⟩, h5⟩, h6⟩, h7⟩, h8⟩, h9⟩, h10⟩, h11⟩ := h
    have ok := blk_of h2
    refine ⟨ek, tg, iter, ifs, scope, pos, rfl, h8, fun j hj => by have := h3 j hj; simpa using this, fun {m C W X} hx hs => ?_⟩
    have hY : ∀ (s : Shared) (H : Hp) (Ca : Addr) (cl : List (Str × Addr)) (fp : List Addr), XOk P ex m K.inBlk C W0 (X.blk s H scope (compEnvC scope cl Ca X.env) fp) := fun s H Ca cl fp => hx.blk h1 ok.kind
    have hsY : ∀ (s : Shared) (H : Hp) (Ca : Addr) (cl : List (Str × Addr)) (fp : List Addr), (X.blk s H scope (compEnvC scope cl Ca X.env) fp).env.scope = L2.relS scope sc := fun s H Ca cl fp => by rw [← hs]; rfl
    obtain ⟨tt, t1, t2⟩ := ifs_ok (Yy := fun Y => XOk P ex m K.inBlk C W0 Y ∧ Y.env.scope = L2.relS scope sc) (m := m) (P := P) (C := C) (W := W0) h11 fun Y hY' ei z1 z2 => (snd c K.inBlk (L2.relS scope sc) ei z1).be z2 hY'.1 hY'.2
    exact ⟨tt, t1, (snd src K sc _ h6).src h7 h5 K.toCk scope h4 hx hs own, by rw [hx.hN, hs]; exact ok, fun s H Ca cl fp => chkT_ok (K := K.toCk) (ws := scope) (X := X.blk s H scope (compEnvC scope cl Ca X.env) fp) hx.hN hx.nd stb_blk hx.calm t tg h4,
      fun s H Ca cl fp => t2 _ ⟨hY s H Ca cl fp, hsY s H Ca cl fp⟩, fun s H Ca cl fp => ((snd k K.inBlk (L2.relS scope sc) ek h9).be h10 (hY s H Ca cl fp) (hsY s H Ca cl fp)).pe⟩
  · cases h
theorem dc_parts {k v src c : E} {t : T} {own : List Nat} {e : Expr} (h : chkE (.dc k v t src c own) K sc e = true) : ∃ ek ev tg iter ifs scope pos, e = .DictComp ek ev [⟨tg, iter, ifs, 0⟩] scope pos ∧ noSet iter = true ∧ (∀ j ∈ t.nms, j ∈ own) ∧
    ∀ {m C W X}, XOk P ex m K C W X → X.env.scope = sc → ∃ tt, (∀ σ H Q, tT P (run P m) C W0 c σ H Q → tt σ H Q) ∧ PI X tg iter (tSrc P (run P m) C W own t src) ∧ L2.BlkOk X.N X.env.scope scope (ownN K.toCk own) ∧ InBlk X scope (fun Y => PG Y tg (gT X.K t)) ∧ InBlk X scope (fun Y => L2.PTs Y ifs tt) ∧ InBlk X scope (fun Y => PE Y ek (tE P (run P m) C W0 k)) ∧ InBlk X scope (fun Y => PE Y ev (tE P (run P m) C W0 v)) := by
  simp only [chkE] at h
  split at h
  · rename_i ek ev tg iter ifs scope pos
    simp only [Bool.and_eq_true, Bool.not_eq_true', List.all_eq_true] at h
    obtain ⟨⟨⟨⟨⟨⟨⟨⟨⟨⟨⟨⟨h1, h2⟩, h3⟩, h4⟩, h5⟩, h6⟩, h7⟩, h8⟩, h9⟩, h10⟩, h12⟩, h13⟩, h11⟩ := h
    have ok := blk_of h2
    refine ⟨ek, ev, tg, iter, ifs, scope, pos, rfl, h8, fun j hj => by have := h3 j hj; simpa using this, fun {m C W X} hx hs => ?_⟩
    have hY : ∀ (s : Shared) (H : Hp) (Ca : Addr) (cl : List (Str × Addr)) (fp : List Addr), XOk P ex m K.inBlk C W0 (X.blk s H scope (compEnvC scope cl Ca X.env) fp) := fun s H Ca cl fp => hx.blk h1 ok.kind
    have hsY : ∀ (s : Shared) (H : Hp) (Ca : Addr) (cl : List (Str × Addr)) (fp : List Addr), (X.blk s H scope (compEnvC scope cl Ca X.env) fp).env.scope = L2.relS scope sc := fun s H Ca cl fp => by rw [← hs]; rfl
    obtain ⟨tt, t1, t2⟩ := ifs_ok (Yy := fun Y => XOk P ex m K.inBlk C W0 Y ∧ Y.env.scope = L2.relS scope sc) (m := m) (P := P) (C := C) (W := W0) h11 fun Y hY' ei z1 z2 => (snd c K.inBlk (L2.relS scope sc) ei z1).be z2 hY'.1 hY'.2
    exact ⟨tt, t1, (snd src K sc _ h6).src h7 h5 K.toCk scope h4 hx hs own, by rw [hx.hN, hs]; exact ok, fun s H Ca cl fp => chkT_ok (K := K.toCk) (ws := scope) (X := X.blk s H scope (compEnvC scope cl Ca X.env) fp) hx.hN hx.nd stb_blk hx.calm t tg h4,
      fun s H Ca cl fp => t2 _ ⟨hY s H Ca cl fp, hsY s H Ca cl fp⟩, fun s H Ca cl fp => ((snd k K.inBlk (L2.relS scope sc) ek h9).be h10 (hY s H Ca cl fp) (hsY s H Ca cl fp)).pe, fun s H Ca cl fp => ((snd v K.inBlk (L2.relS scope sc) ev h12).be h13 (hY s H Ca cl fp) (hsY s H Ca cl fp)).pe⟩
  · cases h
/-- whether a name is stored within the making -/
theorem swp_ok {y : Str} {py : Pos} {val : Expr} {line : Nat} {env : Env} (hk : env.scope.kind = .function) (hv : isComp val = true) : swapsWith val (some (.Name y py)) line env = pure (swp env.scope y py val) := by
  have hb : env.blockKind = .function := by unfold Env.blockKind; rw [hk]; rfl
  cases val <;> first | (cases hv; done) | skip
  all_goals
    unfold swapsWith swp
    simp only [hb, isComp, compScope, Bool.true_and]
    have e : (env.kindOf y == some NameKind.local) = decide (env.scope.names.lookup y = some .local) := by
      show (env.scope.names.lookup y == some NameKind.local) = _
      by_cases q : env.scope.names.lookup y = some .local
      · rw [q]; rfl
      · rw [decide_eq_false q]; exact beq_eq_false_iff_ne.mpr q
    rw [e]
    rfl
theorem noswap {val : Expr} {tg : Option Expr} {line : Nat} {env : Env} (h : isComp val = false) : swapsWith val tg line env = pure false := by
  cases val <;> first | rfl | cases h
theorem noswap2 {val : Expr} {es : List Expr} {k : Nat} {p : Pos} {line : Nat} {env : Env} : swapsWith val (some (.Tuple es k p)) line env = pure false := by
  cases val <;> rfl
theorem ps_setM (hx : SOk P ex m K C W X) (hs : X.env.scope = sc) {i : Nat} {e : E} {y : Str} {py pos : Pos} {val : Expr} (hfx : i ∉ C.fx) (hi : K.N[i]? = some y) (hy : mayStore sc y = true) (he : chkE e K sc val = true) (hn : e.np = false) (hc : asgC val e = true) : PS X (.Assign [.Name y py] val pos) (tS1 P (run P m) C W (.asg (.nm i) e)) := by
  obtain ⟨l1, l2⟩ := hx.stb y (by rw [hs]; exact hy)
  have hN : X.N[i]? = some y := by rw [hx.hN]; exact hi
  have plain : swapsWith val (some (.Name y py)) pos.line X.env = pure false → PS X (.Assign [.Name y py] val pos) (tS1 P (run P m) C W (.asg (.nm i) e)) := fun hsw =>
    PS.imp (L2.ps_set hx.nd hN l1 ((snd e K sc val he).be hn hx.toXOk hs).pe hsw l2) (asg_r hx.hm hfx)
  have dec : (∃ (hv : isComp val = true), swp X.env.scope y py val = true → PS X (.Assign [.Name y py] val pos) (tS1 P (run P m) C W (.asg (.nm i) e))) → PS X (.Assign [.Name y py] val pos) (tS1 P (run P m) C W (.asg (.nm i) e)) := fun ⟨hv, k⟩ => by
    have := swp_ok (y := y) (py := py) (line := pos.line) hx.knd hv
    cases q : swp X.env.scope y py val with
    | true => exact k q
    | false => exact plain (by rw [this, q])
  cases e with
  | lc k t src c own =>
    obtain ⟨ek, tg, iter, ifs, scope, pos', rfl, hns, hlo, parts⟩ := lc_parts (P := P) (ex := ex) he
    refine dec ⟨rfl, fun q => ?_⟩
    obtain ⟨tt, t1, p1, p2, p3, p4, p5⟩ := parts hx.toXOk hs
    have hsw := swp_ok (y := y) (py := py) (line := pos.line) (val := .ListComp ek [⟨tg, iter, ifs, 0⟩] scope pos') hx.knd rfl
    rw [q] at hsw
    have hl : X.env.scope.names.lookup y = some .local := by
      unfold swp at q
      simp only [Bool.and_eq_true, decide_eq_true_eq] at q
      exact q.1.1.2
    refine PS.imp (L2.ps_setLc (X := X) (g := gT X.K t) hx.calm hx.nd hN hl hsw p1 p2 p3 p4 p5 (fun x => noFold hns _ x)) fun D σ H h => ?_
    have := asg_r hx.hm hfx D σ H h
    rw [ownN_snd, hx.hK]
    exact lc_r hx.hm t1 hlo σ H _ this
  | dc k v t src c own =>
    obtain ⟨ek, ev, tg, iter, ifs, scope, pos', rfl, hns, hlo, parts⟩ := dc_parts (P := P) (ex := ex) he
    refine dec ⟨rfl, fun q => ?_⟩
    obtain ⟨tt, t1, p1, p2, p3, p4, p5, p6⟩ := parts hx.toXOk hs
    have hsw := swp_ok (y := y) (py := py) (line := pos.line) (val := .DictComp ek ev [⟨tg, iter, ifs, 0⟩] scope pos') hx.knd rfl
    rw [q] at hsw
    have hl : X.env.scope.names.lookup y = some .local := by
      unfold swp at q
      simp only [Bool.and_eq_true, decide_eq_true_eq] at q
      exact q.1.1.2
    refine PS.imp (ps_setDcM (X := X) (B := C.toBk) (g := gT X.K t) hx.hK hx.hw hx.hu hx.calm hx.nd hN hl hsw p1 p2 p3 p4 p5 p6 (fun x => noFold hns _ x)) fun D σ H h => ?_
    have := asg_r hx.hm hfx D σ H h
    rw [ownN_snd, hx.hK]
    exact dc_r hx.hm t1 hlo σ H _ this
  | _ =>
    have hc' : (!isComp val) = true := hc
    rw [Bool.not_eq_true'] at hc'
    exact plain (noswap hc')
end
end Mid
set_option Elab.async false
set_option linter.all false
set_option maxRecDepth 100000
set_option maxHeartbeats 4000000
namespace Mid
open PySem PySem.Spec PyProof.Rows
open L2 (Hp HO V RelV Vals SqL SqT Rd upd upd_same upd_ne OpR R2 Inv Cx EP VK TE TT TA TS WX XK PE PT PA PS PSs PI PG Ends CallR frs)
variable {P : Pg} {ex : Errs}
section
variable {m : Nat} {K : Cm} {C : Kx} {W : WX} {X : Cx} {sc : Scope}
theorem ps_asgP (hx : SOk P ex m K C W X) (hs : X.env.scope = sc) {ts : List T} {e : E} {tg val : Expr} {pos : Pos} (hfx : ∀ j ∈ (T.pr ts).nms, j ∉ C.fx) (ht : chkT K.toCk sc (.pr ts) tg = true) (he : BE P (run P m) C W X val e) (hv : isTupE val = false) : PS X (.Assign [tg] val pos) (tS1 P (run P m) C W (.asg (.pr ts) e)) := by
  have pg := chkT_ok (K := K.toCk) (ws := sc) (X := X) hx.hN hx.nd (by rw [← hs]; exact hx.stb) hx.calm (.pr ts) tg ht
  have htg := ht
  simp only [chkT] at ht
  split at ht
  · rename_i es k p
    refine PS.imp (L2.ps_asg he.pe pg ?_ ?_ (by rw [asEach rfl]; rfl)) fun D σ H h => ?_
    · show swapsWith val (some (.Tuple es k p)) pos.line X.env = pure false
      exact noswap2
    · cases val <;> first | rfl | cases hv
    · rw [hx.hK]
      exact asgp_r hx.hm hfx D σ H h
  · cases ht
theorem stores2 {env : Env} {x y : Str} {px py pt pt2 : Pos} {kt k2 : Nat} {a b : Expr} (hk : env.scope.kind = .function) (hx : env.scope.names.lookup x = some .local) (hy : env.scope.names.lookup y = some .local) (hl : (px.line == py.line) = true) (hxy : (x != y) = true) (ha : noStar a = true) (hb : noStar b = true)
    (h1 : [a, b].all (foldedForSure 8) = false) (h2 : [a, b].all (constantsAlone 8) = false) : swappedStores [.Tuple [.Name x px, .Name y py] kt pt] (.Tuple [a, b] k2 pt2) env = pure (some [x, y]) := by
  have hb' : env.blockKind = .function := by unfold Env.blockKind; rw [hk]; rfl
  have e1 : (env.kindOf x == some NameKind.local) = true := by show (env.scope.names.lookup x == some NameKind.local) = true; rw [hx]; rfl
  have e2 : (env.kindOf y == some NameKind.local) = true := by show (env.scope.names.lookup y == some NameKind.local) = true; rw [hy]; rfl
  have hl2 : (py.line == px.line) = true := by rw [beq_iff_eq] at hl ⊢; exact hl.symm
  have hd : (Option.map (fun x : Expr => x.pos.line) [Expr.Name x px, Expr.Name y py].head?).getD 0 = px.line := rfl
  have dd : ([x, y] : List Str).eraseDups.length = 2 := by
    have : (y == x) = false := by
      rw [beq_eq_false_iff_ne]
      intro z
      rw [z] at hxy
      simp at hxy
    simp [List.eraseDups_cons, this]
  unfold swappedStores
  simp only [hb', hd, h1, h2, List.length_cons, List.length_nil, bne_self_eq_false, Bool.or_false, Bool.false_eq_true, if_false, List.filterMap_cons, List.filterMap_nil, e1, e2, hl2, beq_self_eq_true, Bool.and_self, if_true]
  refine (if_neg (by decide)).trans ((if_neg ?_).trans ((if_neg ?_).trans rfl))
  · cases a <;> first | (cases ha; done) | skip
    all_goals (cases b <;> first | (cases hb; done) | exact fun z => by cases z)
  · rw [dd]
    decide
theorem ps_parM (hx : SOk P ex m K C W X) (hs : X.env.scope = sc) {i j : Nat} {a b : E} {x y : Str} {px py pt pt2 pos : Pos} {kt k2 : Nat} {ea eb : Expr} (hi : i ∉ C.fx) (hj : j ∉ C.fx) (hij : i ≠ j) (h1 : K.N[i]? = some x) (h2 : K.N[j]? = some y) (lx : sc.names.lookup x = some .local) (ly : sc.names.lookup y = some .local)
    (hl : (px.line == py.line) = true) (hxy : (x != y) = true) (ha : BE P (run P m) C W X ea a) (hb : BE P (run P m) C W X eb b) (na : noStar ea = true) (nb : noStar eb = true) (f1 : [ea, eb].all (foldedForSure 8) = false) (f2 : [ea, eb].all (constantsAlone 8) = false) :
    PS X (.Assign [.Tuple [.Name x px, .Name y py] kt pt] (.Tuple [ea, eb] k2 pt2) pos) (tS1 P (run P m) C W (.par [i, j] [a, b])) := by
  subst hs
  exact PS.imp (L2.ps_par hx.calm hx.nd (by rw [hx.hN]; exact h1) (by rw [hx.hN]; exact h2) hij lx ly (L2.pa_cons ha.pe (L2.pa_cons hb.pe L2.pa_nil (starOk nb [] _)) (starOk na _ _)) (stores2 hx.knd lx ly hl hxy na nb f1 f2) rfl) (par_r hx.hm hi hj)
theorem ps_setiM (hx : SOk P ex m K C W X) {i : Nat} {k v : E} {x : Str} {p p2 pos : Pos} {ek ev : Expr} (hN : X.N[i]? = some x) (hv : L2.Vis X.env.scope x) (n1 : (x == ("__debug__" : Str)) = false) (n2 : (x == ("__classdict__" : Str)) = false) (hp : plainIx ek = true) (hk : BE P (run P m) C W X ek k) (he : BE P (run P m) C W X ev v) :
    PS X (.Assign [.Subscript (.Name x p) ek p2] ev pos) (tS1 P (run P m) C W (.seti i k v)) := by
  refine PS.imp (L2.ps_asg he.pe (L2.pg_sub (L2.pe_var hN hv n1 n2) hk.pe (pset_m (B := C.toBk) hx.hK hx.hw hx.hu) ?_) ?_ ?_ rfl) (seti_r hx.hm)
  · intro u
    cases ek <;> first | rfl | cases hp
  · show swapsWith ev (some (.Subscript (.Name x p) ek p2)) pos.line X.env = pure false
    cases ev <;> rfl
  · cases ev <;> rfl
theorem ps_augM (hx : SOk P ex m K C W X) (hs : X.env.scope = sc) {i : Nat} {o : Bop} {e : E} {x : Str} {p pos : Pos} {ev : Expr} (hfx : i ∉ C.fx) (hN : X.N[i]? = some x) (hy : mayStore sc x = true) (he : BE P (run P m) C W X ev e) : PS X (.AugAssign (.Name x p) o.py ev pos) (tS1 P (run P m) C W (.aug i o e)) := by
  obtain ⟨l1, l2⟩ := hx.stb x (by rw [hs]; exact hy)
  exact PS.imp (L2.ps_aug hx.nd hN l1 he.pe (pip_m (B := C.toBk) o) l2) (aug_r hfx)
theorem ps_augiM (hx : SOk P ex m K C W X) {i : Nat} {o : Bop} {k e : E} {x : Str} {p p2 pos : Pos} {ek ev : Expr} (hN : X.N[i]? = some x) (hv : L2.Vis X.env.scope x) (n1 : (x == ("__debug__" : Str)) = false) (n2 : (x == ("__classdict__" : Str)) = false) (hp : plainIx ek = true) (hk : BE P (run P m) C W X ek k) (he : BE P (run P m) C W X ev e) :
    PS X (.AugAssign (.Subscript (.Name x p) ek p2) o.py ev pos) (tS1 P (run P m) C W (.augi i k o e)) := by
  refine PS.imp (L2.ps_augS (L2.pe_var hN hv n1 n2) hk.pe (pget_m (B := C.toBk) hx.hK) he.pe (pip_m (B := C.toBk) o) L2.set_list ?_) (augi_r hx.hm)
  intro ov iv new
  cases ek <;> first | rfl | cases hp
theorem few1 {pos : Pos} {e : Expr} {env : Env} (h : noStar e = true) : ((backTo pos (starEach [e] env)).all (fun x => !x.1) && (backToKw pos (keywordEach [] env)).all (fun x => x.1.isSome) && decide (([e] : List Expr).length + ([] : List Keyword).length + (if ([] : List Keyword).isEmpty then 0 else 1) < 30)) = true := by
  rw [backStar pos env (es := [e]) (by rw [List.all_cons, h]; rfl)]
  rfl
theorem ps_appM (hx : SOk P ex m K C W X) {i : Nat} {e : E} {x : Str} {p ap cp pos : Pos} {ev : Expr} (hN : X.N[i]? = some x) (hv : L2.Vis X.env.scope x) (n1 : (x == ("__debug__" : Str)) = false) (n2 : (x == ("__classdict__" : Str)) = false) (hl : (ap.endLine == cp.line) = true) (he : BE P (run P m) C W X ev e) (ns : noStar ev = true) :
    PS X (.Expr (.Call (.Attribute (.Name x p) "append" ap) [ev] [] cp) pos) (tS1 P (run P m) C W (.app i e)) := by
  refine PS.imp (L2.ps_expr (L2.pe_bm PySem.F.plainAttrs_list PySem.F.slot_list_append PySem.F.type_list_append L2.mt_append (L2.pe_var hN hv n1 n2) (L2.pa_cons he.pe L2.pa_nil (starOk ns [] _)) rfl (few1 ns) hl (starOk ns [] _) rfl) rfl) fun D σ H h => ?_
  rw [hx.hK]
  exact app_r hx.hm D σ H h
theorem ps_extM (hx : SOk P ex m K C W X) {i : Nat} {e : E} {x : Str} {p ap cp pos : Pos} {ev : Expr} (hN : X.N[i]? = some x) (hv : L2.Vis X.env.scope x) (n1 : (x == ("__debug__" : Str)) = false) (n2 : (x == ("__classdict__" : Str)) = false) (hl : (ap.endLine == cp.line) = true) (he : BE P (run P m) C W X ev e) (ns : noStar ev = true) :
    PS X (.Expr (.Call (.Attribute (.Name x p) "extend" ap) [ev] [] cp) pos) (tS1 P (run P m) C W (.ext i e)) := by
  refine PS.imp (L2.ps_expr (L2.pe_bm PySem.F.plainAttrs_list PySem.F.slot_list_extend PySem.F.type_list_extend mt_ext (L2.pe_var hN hv n1 n2) (L2.pa_cons he.pe L2.pa_nil (starOk ns [] _)) rfl (few1 ns) hl (starOk ns [] _) rfl) rfl) fun D σ H h => ?_
  rw [hx.hK]
  exact ext_r hx.hm D σ H h
/-- what is handed back of a caught error -/
structure HotOk (X : Cx) (C : Kx) (cls : Value) (c j : Nat) (Ca : Addr) (gs : List Str) (sc : Scope) (K : Cm) (ex : Errs) : Prop where
  hg : C.gx = gxOf C.toBk ex
  hN : X.N = K.N
  hs : X.env.scope = sc
  hc : cls = .ref Ca
  ef : K.ef[c]? = some gs
  exi : ∀ (c : Nat) (gc : List Str), ex c = some (Ca, gc) → gc = gs
  T : L2.XfC X.K Ca
  no : ∀ g ∈ gs, PySem.W.findIn X.K (.ref Ca) g = some none
theorem hot_mono (h : C.gx = gxOf C.toBk ex) {a : Addr} {cls : Value} {d : Option Addr} : (C.hot a cls d).mono := fun x v F F' l ⟨z1, z2⟩ => ⟨z1, (good_of h).x _ _ _ _ _ l z2⟩
end
mutual
theorem hot_be {X : Cx} {C : Kx} {cls : Value} {c j : Nat} {Ca : Addr} {gs : List Str} {sc : Scope} {K : Cm} {R : Run} {a : Addr} {oe : Obj} {d : Option Addr} {pn : List (Addr × Obj)} (h : HotOk X C cls c j Ca gs sc K ex) (hz : L2.Zc cls d oe) (hf : ∃ vs, oe.data = .fields vs) : ∀ (t : E) (e : Expr), chkH t K sc c j e = true → PE (X.suite a ((a, oe) :: pn)) e (tE P R (C.hot a cls d) W0 t)
  | .cst d, e, hc => by
    simp only [chkH] at hc
    split at hc
    · rcases constOk_ok hc with ⟨rfl, rfl⟩ | ⟨b, rfl, rfl⟩ | ⟨i, rfl, rfl⟩ | ⟨s, rfl, rfl⟩
      · exact (be_cst (v := .non) L2.pe_non (fun F => .non) rfl).pe
      · exact (be_cst (v := .bl b) L2.pe_bl (fun F => .bl b) rfl).pe
      · exact (be_cst (v := .int i) L2.pe_int (fun F => .int i) rfl).pe
      · exact (be_cst (v := .str s) L2.pe_str (fun F => by have := DV.str (B := C.toBk) (F := F) s.cps.toList; rwa [txt_cps] at this) rfl).pe
    · cases hc
  | .var i, e, hc => by
    simp only [chkH] at hc
    split at hc
    · simp only [Bool.and_eq_true, decide_eq_true_eq] at hc
      obtain ⟨h1, h2, _⟩ := okN_of hc.2
      exact (be_var (X := X.suite a ((a, oe) :: pn)) (by show X.N[i]? = _; rw [h.hN]; exact hc.1.1) (by show L2.Vis X.env.scope _; rw [h.hs]; exact vis_of hc.1.2) h1 h2).pe
    · cases hc
  | .tup ts, e, hc => by
    simp only [chkH] at hc
    split at hc
    · simp only [Bool.and_eq_true, decide_eq_true_eq] at hc
      exact (be_tup (hot_mono h.hg) (hots_pa h hz hf ts _ hc.1.1 hc.1.2) (by have := hc.2; unfold line; omega)).pe
    · cases hc
  | .xat i k, e, hc => by
    simp only [chkH] at hc
    split at hc
    · rename_i x p g pos
      simp only [Bool.and_eq_true, decide_eq_true_eq] at hc
      obtain ⟨⟨⟨⟨h1, h2⟩, h3⟩, h4⟩, h5⟩ := hc
      obtain ⟨n1, n2, _⟩ := okN_of h4
      rw [h.ef] at h5
      have hg : gs[k]? = some g := h5
      exact pe_xat h.hg h.hc h.exi h.T (h.no g (List.mem_of_getElem? hg)) hg hz hf (by rw [h.hN]; exact h2) (by rw [h.hs]; exact vis_of h3) n1 n2
    · cases hc
  | .glo g, e, hc => by simp [chkH] at hc
  | .fnv f, e, hc => by simp [chkH] at hc
  | .lst ts, e, hc => by simp [chkH] at hc
  | .dict0, e, hc => by simp [chkH] at hc
  | .bin o a b, e, hc => by simp [chkH] at hc
  | .neg a, e, hc => by simp [chkH] at hc
  | .not a, e, hc => by simp [chkH] at hc
  | .cmp o a b, e, hc => by simp [chkH] at hc
  | .chain o p a b c, e, hc => by simp [chkH] at hc
  | .isn a, e, hc => by simp [chkH] at hc
  | .nisn a, e, hc => by simp [chkH] at hc
  | .and a b, e, hc => by simp [chkH] at hc
  | .or a b, e, hc => by simp [chkH] at hc
  | .ite c a b, e, hc => by simp [chkH] at hc
  | .isi a t, e, hc => by simp [chkH] at hc
  | .ix a b, e, hc => by simp [chkH] at hc
  | .slc a b c d, e, hc => by simp [chkH] at hc
  | .call f ts, e, hc => by simp [chkH] at hc
  | .callv f ts, e, hc => by simp [chkH] at hc
  | .clo ps b, e, hc => by simp [chkH] at hc
  | .blt b a, e, hc => by simp [chkH] at hc
  | .lc k t src c own, e, hc => by simp [chkH] at hc
  | .dc k v t src c own, e, hc => by simp [chkH] at hc
  | .rng a, e, hc => by simp [chkH] at hc
  | .rng2 a b, e, hc => by simp [chkH] at hc
  | .enu a, e, hc => by simp [chkH] at hc
  | .zip a b, e, hc => by simp [chkH] at hc
  | .req a b, e, hc => by simp [chkH] at hc
  | .ist a, e, hc => by simp [chkH] at hc
  | .nist a, e, hc => by simp [chkH] at hc
  | .srtf a f, e, hc => by simp [chkH] at hc
  | .srtl a i b, e, hc => by simp [chkH] at hc
  | .mth mm a es, e, hc => by simp [chkH] at hc
  | .lc2 a t b t1 c d own, e, hc => by simp [chkH] at hc
  | .dc2 a v t b t1 c d own, e, hc => by simp [chkH] at hc
  | .pop i, e, hc => by simp [chkH] at hc
  | .setd i k v, e, hc => by simp [chkH] at hc
  | .itm a, e, hc => by simp [chkH] at hc
  | .vals a, e, hc => by simp [chkH] at hc
  | .dmerge a b, e, hc => by simp [chkH] at hc
theorem hots_pa {X : Cx} {C : Kx} {cls : Value} {c j : Nat} {Ca : Addr} {gs : List Str} {sc : Scope} {K : Cm} {R : Run} {a : Addr} {oe : Obj} {d : Option Addr} {pn : List (Addr × Obj)} (h : HotOk X C cls c j Ca gs sc K ex) (hz : L2.Zc cls d oe) (hf : ∃ vs, oe.data = .fields vs) : ∀ (ts : List E) (es : List Expr), chkHs ts K sc c j es = true → es.all noStar = true → PA (X.suite a ((a, oe) :: pn)) es (tTs P R (C.hot a cls d) W0 ts)
  | [], [], _, _ => pa_nil'
  | [], _ :: _, hc, _ => by simp [chkHs] at hc
  | _ :: _, [], hc, _ => by simp [chkHs] at hc
  | t :: r, e :: q, hc, hn => by
    simp only [chkHs, Bool.and_eq_true] at hc
    rw [List.all_cons, Bool.and_eq_true] at hn
    exact PA.imp (L2.pa_cons (hot_be h hz hf t e hc.1) (hots_pa h hz hf r q hc.2 hn.2) (starOk hn.1 q _)) (tTs_cons (hot_mono h.hg))
end
end Mid
set_option Elab.async false
set_option linter.all false
set_option maxRecDepth 100000
set_option maxHeartbeats 4000000
namespace Mid
open PySem PySem.Spec PyProof.Rows
open L2 (Hp HO V RelV Vals SqL SqT Rd upd upd_same upd_ne OpR R2 Inv Cx EP VK TE TT TA TS WX XK PE PT PA PS PSs PI PG Ends CallR frs)
variable {P : Pg} {ex : Errs}
/-- a clause is sound -/
theorem chkC_ok {m : Nat} {K : Cm} {C : Kx} {W : WX} {X : Cx} {sc : Scope} (hx : SOk P ex m K C W X) (hs : X.env.scope = sc) {k i : Nat} {e : E} {h : ExceptHandler} (hc : chkC K sc C.fx k i e h = true) :
    ∃ nm : Bool, hotE e = true ∧ (∃ Ck gk, ex k = some (Ck, gk)) ∧ i ∉ C.fx ∧ (nm = false → X.N.length ≤ i) ∧
      ∀ {hs' : List ExceptHandler} {l : List HdT}, Hds X hs' l → Hds X (h :: hs') (hdOf P (run P m) C ex ⟨k, i, nm, e⟩ :: l) := by
  unfold chkC at hc
  split at hc
  · rename_i x np nm er rp pp
    simp only [Bool.and_eq_true, decide_eq_true_eq, gName, Bool.not_eq_true'] at hc
    obtain ⟨⟨⟨⟨⟨⟨⟨h1, h2, h3⟩, h4⟩, h5⟩, h6⟩, h7⟩, h8⟩, h9⟩ := hc
    obtain ⟨n1, n2, n3⟩ := okN_of h3
    obtain ⟨gs, hef⟩ : ∃ gs, K.ef[k]? = some gs := by
      cases q : K.ef[k]? with
      | none => exact absurd q h7
      | some gs => exact ⟨gs, rfl⟩
    have hne : gs ≠ [] := fun z => h6 (by rw [hef, z])
    obtain ⟨Ca, e1, e2, e3, e4, e5, e6, e7⟩ := hx.mgE k x gs h1 hef hne
    have hfx : i ∉ C.fx := by simpa using h5
    have cv : cvOf ex k = .ref Ca := by unfold cvOf; rw [e1]
    have suite : ∀ (a : Addr) (oe : Obj) (cls : Value) (d : Option Addr) (pn : List (Addr × Obj)), L2.Zc cls d oe → (∃ vs, oe.data = .fields vs) → PSs (X.suite a ((a, oe) :: pn)) [.Return (some er) rp] (fun D σ H => cls = cvOf ex k ∧ tS1 P (run P m) (C.hot a cls d) W0 (.ret e) D σ H) := fun a oe cls d pn hz hf => by
      by_cases ec : cls = .ref Ca
      · have hot : HotOk X C cls k i Ca gs sc K ex := ⟨hx.hg, hx.hN, hs, ec, hef, fun c gc z => hx.exi c k Ca gc gs z e1, e6, e7⟩
        exact L2.pss_one (PS.imp (L2.ps_ret (hot_be hot hz hf e er h8)) fun D σ H q => ret_r (hot_mono hx.hg) D σ H q.2)
      · exact ⟨fun pins s σ H D I q => absurd (q.1.trans cv) ec⟩
    have names : L2.Names X x (cvOf ex k) := ⟨gl_of hs h2, n1, .inl (by rw [cv]; exact e2)⟩
    cases nm with
    | none =>
      refine ⟨false, h4, ⟨Ca, gs, e1⟩, hfx, fun _ => (by rw [hx.hN]; exact of_decide_eq_true h9), fun {hs' l} q => ?_⟩
      exact .cons (i := none) names trivial suite q
    | some n =>
      simp only [Bool.and_eq_true, decide_eq_true_eq] at h9
      refine ⟨true, h4, ⟨Ca, gs, e1⟩, hfx, fun z => (by cases z), fun {hs' l} q => ?_⟩
      exact .cons (i := some i) names ⟨by rw [hx.hN]; exact h9.1, by show X.env.scope.names.lookup n = _; rw [hs]; exact h9.2⟩ suite q
  · cases hc
mutual
theorem sndS : ∀ (t : S) (K : Cm) (sc : Scope) (fx : List Nat) (st : Stmt), chkS t K sc fx st = true → ∀ (m : Nat) (C : Kx) (W : WX) (X : Cx), SOk P ex m K C W X → X.env.scope = sc → C.fx = fx → PS X st (tS1 P (run P m) C W t)
  | .asg (.nm i) e, K, sc, fx, st, h, m, C, W, X, hx, hs, hf => by
    subst hf
    simp only [chkS] at h
    split at h
    · simp only [Bool.and_eq_true, decide_eq_true_eq, Bool.not_eq_true'] at h
      obtain ⟨⟨⟨⟨⟨h1, h2⟩, h3⟩, h4⟩, h5⟩, h6⟩ := h
      exact ps_setM hx hs (by simpa using h1) h2 h3 h4 h5 h6
    · cases h
  | .asg (.pr ts) e, K, sc, fx, st, h, m, C, W, X, hx, hs, hf => by
    subst hf
    simp only [chkS] at h
    split at h
    · simp only [Bool.and_eq_true, Bool.not_eq_true', List.all_eq_true] at h
      obtain ⟨⟨⟨⟨⟨_, h1⟩, h2⟩, h3⟩, h4⟩, h5⟩ := h
      exact ps_asgP hx hs (fun j hj => by simpa using h1 j hj) h2 ((snd e K sc _ h3).be h4 hx.toXOk hs) h5
    · cases h
  | .par ts es, K, sc, fx, st, h, m, C, W, X, hx, hs, hf => by
    subst hf
    simp only [chkS] at h
    split at h
    · rename_i i j a b x px y py k1 q1 ea eb k2 q2 q3
      simp only [Bool.and_eq_true, decide_eq_true_eq, Bool.not_eq_true', bne_iff_ne] at h
      obtain ⟨⟨⟨⟨⟨⟨⟨⟨⟨⟨⟨⟨⟨⟨⟨⟨⟨h1, h2⟩, h3⟩, h4⟩, h5⟩, h6⟩, h7⟩, h8⟩, h9⟩, h10⟩, h11⟩, h12⟩, h13⟩, h14⟩, h15⟩, h16⟩, h17⟩, h18⟩ := h
      exact ps_parM hx hs (by simpa using h1) (by simpa using h2) h3 h4 h5 h6 h7 h8 (bne_iff_ne.mpr h9) ((snd a K sc _ h13).be h15 hx.toXOk hs) ((snd b K sc _ h14).be h16 hx.toXOk hs) h11 h12 h17 h18
    · cases h
  | .seti i k v, K, sc, fx, st, h, m, C, W, X, hx, hs, hf => by
    simp only [chkS] at h
    split at h
    · simp only [Bool.and_eq_true, decide_eq_true_eq, Bool.not_eq_true'] at h
      obtain ⟨⟨⟨⟨⟨⟨⟨h1, h2⟩, h3⟩, h4⟩, h5⟩, h6⟩, h7⟩, h8⟩ := h
      obtain ⟨n1, n2, _⟩ := okN_of h3
      exact ps_setiM hx (by rw [hx.hN]; exact h1) (by rw [hs]; exact vis_of h2) n1 n2 h4 ((snd k K sc _ h5).be h7 hx.toXOk hs) ((snd v K sc _ h6).be h8 hx.toXOk hs)
    · cases h
  | .aug i o e, K, sc, fx, st, h, m, C, W, X, hx, hs, hf => by
    subst hf
    simp only [chkS] at h
    split at h
    · simp only [Bool.and_eq_true, decide_eq_true_eq, Bool.not_eq_true'] at h
      obtain ⟨⟨⟨⟨⟨rfl, h1⟩, h2⟩, h3⟩, h4⟩, h5⟩ := h
      exact ps_augM hx hs (by simpa using h1) (by rw [hx.hN]; exact h2) h3 ((snd e K sc _ h4).be h5 hx.toXOk hs)
    · cases h
  | .augi i k o e, K, sc, fx, st, h, m, C, W, X, hx, hs, hf => by
    simp only [chkS] at h
    split at h
    · simp only [Bool.and_eq_true, decide_eq_true_eq, Bool.not_eq_true'] at h
      obtain ⟨⟨⟨⟨⟨⟨⟨⟨rfl, h1⟩, h2⟩, h3⟩, h4⟩, h5⟩, h6⟩, h7⟩, h8⟩ := h
      obtain ⟨n1, n2, _⟩ := okN_of h3
      exact ps_augiM hx (by rw [hx.hN]; exact h1) (by rw [hs]; exact vis_of h2) n1 n2 h4 ((snd k K sc _ h5).be h7 hx.toXOk hs) ((snd e K sc _ h6).be h8 hx.toXOk hs)
    · cases h
  | .expr e, K, sc, fx, st, h, m, C, W, X, hx, hs, hf => by
    simp only [chkS] at h
    split at h
    · simp only [Bool.and_eq_true, Bool.not_eq_true'] at h
      exact PS.imp (L2.ps_expr ((snd e K sc _ h.1.1).be h.1.2 hx.toXOk hs).pe (noswap h.2)) expr_r
    · cases h
  | .app i e, K, sc, fx, st, h, m, C, W, X, hx, hs, hf => by
    simp only [chkS] at h
    split at h
    · simp only [Bool.and_eq_true, decide_eq_true_eq, Bool.not_eq_true'] at h
      obtain ⟨⟨⟨⟨⟨⟨⟨rfl, h1⟩, h2⟩, h3⟩, h4⟩, h5⟩, h6⟩, h7⟩ := h
      obtain ⟨n1, n2, _⟩ := okN_of h4
      exact ps_appM hx (by rw [hx.hN]; exact h2) (by rw [hs]; exact vis_of h3) n1 n2 h1 ((snd e K sc _ h5).be h7 hx.toXOk hs) h6
    · cases h
  | .ext i e, K, sc, fx, st, h, m, C, W, X, hx, hs, hf => by
    simp only [chkS] at h
    split at h
    · simp only [Bool.and_eq_true, decide_eq_true_eq, Bool.not_eq_true'] at h
      obtain ⟨⟨⟨⟨⟨⟨⟨rfl, h1⟩, h2⟩, h3⟩, h4⟩, h5⟩, h6⟩, h7⟩ := h
      obtain ⟨n1, n2, _⟩ := okN_of h4
      exact ps_extM hx (by rw [hx.hN]; exact h2) (by rw [hs]; exact vis_of h3) n1 n2 h1 ((snd e K sc _ h5).be h7 hx.toXOk hs) h6
    · cases h
  | .ret e, K, sc, fx, st, h, m, C, W, X, hx, hs, hf => by
    simp only [chkS] at h
    split at h
    · simp only [Bool.and_eq_true, Bool.not_eq_true'] at h
      exact ps_retM hx.hm ((snd e K sc _ h.1).be h.2 hx.toXOk hs)
    · have : e = .cst .non := by
        cases e <;> try (cases h; done)
        rename_i d
        cases d <;> first | rfl | cases h
      subst this
      refine PS.imp L2.ps_retN fun D σ H q => ?_
      obtain ⟨F, s, hs', hw⟩ := q
      rw [evS, evE] at hw
      exact hw σ F H (.refl hs') .non .non
    · cases h
  | .ite c a b, K, sc, fx, st, h, m, C, W, X, hx, hs, hf => by
    simp only [chkS] at h
    split at h
    · simp only [Bool.and_eq_true, Bool.not_eq_true'] at h
      obtain ⟨⟨⟨h1, h2⟩, h3⟩, h4⟩ := h
      exact ps_ifM ((snd c K sc _ h1).be h2 hx.toXOk hs) (sndSs a K sc fx _ h3 m C W X hx hs hf) (sndSs b K sc fx _ h4 m C W X hx hs hf)
    · cases h
  | .for_ t src b, K, sc, fx, st, h, m, C, W, X, hx, hs, hf => by
    subst hf
    simp only [chkS] at h
    split at h
    · simp only [Bool.and_eq_true, Bool.not_eq_true', List.all_eq_true] at h
      obtain ⟨⟨⟨⟨⟨⟨h1, h2⟩, h3⟩, h4⟩, h5⟩, h6⟩, h7⟩ := h
      have pg := chkT_ok (K := K.toCk) (ws := sc) (X := X) hx.hN hx.nd (by rw [← hs]; exact hx.stb) hx.calm t _ h2
      refine ps_forM hx.hm hx.hK hx.po hx.calm ((snd src K sc _ h4).src h5 h3 K.toCk sc h2 hx.toXOk hs []) (by rw [← hx.hK]; exact pg) (sndSs b K sc _ _ h7 m (C.lock (lockS src)) W X (hx.lock _) hs rfl) (fun i hi => by simpa using h1 i hi) h6
    · cases h
  | .while_ c b, K, sc, fx, st, h, m, C, W, X, hx, hs, hf => by
    simp only [chkS] at h
    split at h
    · simp only [Bool.and_eq_true, Bool.not_eq_true'] at h
      exact ps_whileM hx.po ((snd c K sc _ h.1.1).be h.1.2 hx.toXOk hs) (sndSs b K sc fx _ h.2 m C W X hx hs hf)
    · cases h
  | .raise c ts, K, sc, fx, st, h, m, C, W, X, hx, hs, hf => by
    simp only [chkS] at h
    split at h
    · rename_i x p es q q2
      simp only [Bool.and_eq_true, decide_eq_true_eq, gName, Bool.not_eq_true'] at h
      obtain ⟨⟨⟨⟨⟨⟨h1, h2, h3⟩, h4⟩, h5⟩, h6⟩, h7⟩, h8⟩ := h
      obtain ⟨n1, n2, n3⟩ := okN_of h3
      obtain ⟨gs, hef⟩ : ∃ gs, K.ef[c]? = some gs := by
        cases q : K.ef[c]? with
        | none => rw [q] at h8; cases h8
        | some gs => exact ⟨gs, rfl⟩
      rw [hef] at h8
      have hl : ts.length = gs.length := (Option.some.inj h8).symm
      obtain ⟨pa, _, hlen⟩ := (snds ts K sc _ h4).pa hx.toXOk hs h6 h5
      cases es with
      | nil => cases h7
      | cons e es =>
        have hne : gs ≠ [] := fun z => by rw [z, hlen] at hl; cases hl
        obtain ⟨Ca, e1, e2, e3, e4, e5, e6, e7⟩ := hx.mgE c x gs h1 hef hne
        exact ps_raiseM hx.hg e1 e4 hl e5 e3 (hx.room.mono (by omega)) hx.calm hx.tk (gl_of hs h2) e2 pa h5 n1
    · cases h
  | .pass, K, sc, fx, st, h, m, C, W, X, hx, hs, hf => by
    simp only [chkS] at h
    split at h
    · exact PS.imp L2.ps_pass pass_r
    · cases h
  | .cont, K, sc, fx, st, h, m, C, W, X, hx, hs, hf => by
    simp only [chkS] at h
    split at h
    · exact PS.imp L2.ps_continue cont_r
    · cases h
  | .brk, K, sc, fx, st, h, m, C, W, X, hx, hs, hf => by
    simp only [chkS] at h
    split at h
    · exact PS.imp L2.ps_break brk_r
    · cases h
  | .upd i e, K, sc, fx, st, h, m, C, W, X, hx, hs, hf => by simp [chkS] at h
  | .ins i k e, K, sc, fx, st, h, m, C, W, X, hx, hs, hf => by simp [chkS] at h
  | .setdapp i k e, K, sc, fx, st, h, m, C, W, X, hx, hs, hf => by simp [chkS] at h
  | .try_ b cs i hh, K, sc, fx, st, h, m, C, W, X, hx, hs, hf => by
    subst hf
    simp only [chkS] at h
    split at h
    · rw [Bool.and_eq_true] at h
      obtain ⟨k, e, rfl, rfl, hk⟩ := chkK_ok h.2
      obtain ⟨nm, c1, c2, c3, c4, c5⟩ := chkC_ok hx hs hk
      exact ps_tryMM (cl := [⟨k, i, nm, e⟩]) hx.hg hx.exm (fun c hc => by
          rcases List.mem_cons.mp hc with rfl | hc
          · exact ⟨c1, c2, c3, c4⟩
          · cases hc) (fun s => try_eq) hx.stk hx.frm hx.nd hx.tk (fun W' pn xe tk po => sndSs b K sc C.fx _ h.1 m C W' _ (hx.tr tk po) hs rfl) (c5 .nil)
    · cases h
  | .try2 b cs i hh cs2 i2 hh2, K, sc, fx, st, h, m, C, W, X, hx, hs, hf => by
    subst hf
    simp only [chkS] at h
    split at h
    · simp only [Bool.and_eq_true] at h
      obtain ⟨k, e, rfl, rfl, hk⟩ := chkK_ok h.1.2
      obtain ⟨k2, e2, rfl, rfl, hk2⟩ := chkK_ok h.2
      obtain ⟨nm, c1, c2, c3, c4, c5⟩ := chkC_ok hx hs hk
      obtain ⟨nm2, d1, d2, d3, d4, d5⟩ := chkC_ok hx hs hk2
      exact ps_tryMM (cl := [⟨k, i, nm, e⟩, ⟨k2, i2, nm2, e2⟩]) hx.hg hx.exm (fun c hc => by
          rcases List.mem_cons.mp hc with rfl | hc
          · exact ⟨c1, c2, c3, c4⟩
          · rcases List.mem_cons.mp hc with rfl | hc
            · exact ⟨d1, d2, d3, d4⟩
            · cases hc) (fun s => try2_eq) hx.stk hx.frm hx.nd hx.tk (fun W' pn xe tk po => sndSs b K sc C.fx _ h.1.1 m C W' _ (hx.tr tk po) hs rfl) (c5 (d5 .nil))
    · cases h
theorem sndSs : ∀ (ts : List S) (K : Cm) (sc : Scope) (fx : List Nat) (sts : List Stmt), chkSs ts K sc fx sts = true → ∀ (m : Nat) (C : Kx) (W : WX) (X : Cx), SOk P ex m K C W X → X.env.scope = sc → C.fx = fx → PSs X sts (tS P (run P m) C W ts)
  | [], K, sc, fx, [], _, m, C, W, X, hx, hs, hf => bs_nil
  | [], K, sc, fx, _ :: _, h, m, C, W, X, hx, hs, hf => by simp [chkSs] at h
  | _ :: _, K, sc, fx, [], h, m, C, W, X, hx, hs, hf => by simp [chkSs] at h
  | a :: r, K, sc, fx, st :: q, h, m, C, W, X, hx, hs, hf => by
    simp only [chkSs, Bool.and_eq_true] at h
    exact bs_cons (sndS a K sc fx st h.1 m C W X hx hs hf) (sndSs r K sc fx q h.2 m C W X hx hs hf)
end
end Mid
set_option Elab.async false
set_option linter.all false
set_option maxRecDepth 100000
set_option maxHeartbeats 4000000
/-! All defs keep their promises, level by level. -/
namespace Mid
open PySem PySem.Spec PyProof.Rows
open L2 (Hp HO V RelV Vals SqL SqT Rd upd upd_same upd_ne OpR R2 Inv Cx EP VK TE TT TA TS WX XK PE PT PA PS PSs PI PG Ends CallR frs)
/-- a text's names -/
structure Tx where
  nms : List (List Str)
  gn : List Str
  fn : List Str
  cn : List Str
  cls : List Nat
  lams : List Nat
  ef : List (List Str)
def Tx.cm (t : Tx) (f : Nat) : Cm := ⟨⟨t.nms.getD f [], t.gn, t.fn, t.cn⟩, t.cls.contains f, t.lams.contains f, t.cls, t.ef⟩
abbrev lamQ (qual : Str) : Str := (qual ++ ".<locals>.") ++ lamN
/-- what the end must show of a def -/
structure DefF (K : PySem.W.Frag) (mg : Str → Option Value) (base : Heap) (T : List (Addr × Str)) (P : Pg) (fa : Nat → Addr) (f : Nat) (Kf : Cm) : Prop where
  ex : ∃ (name qual : Str) (params : Arguments) (body : List Stmt) (scope : Scope) (dV kV doc pm cdv ct oc : Value) (an od : Option Addr) (osl : Array (Option Value)) (ps : List Str) (fd : Fd),
    K.lookup (fa f) = some ⟨oc, od, .func (PySem.W.fnOf name qual params body scope dV kV doc pm an cdv ct), osl⟩ ∧ PySem.W.codeIn K cdv qual = true ∧ L2.FnScope Kf.N ps scope ∧ L2.Binds K (PySem.W.fnOf name qual params body scope dV kV doc pm an cdv ct) ps [] ∧ PySem.W.keepIn K (.ref (fa f)) = true ∧
    P.fs[f]? = some fd ∧ fd.np = ps.length ∧ fd.ns = Kf.N.length ∧ chkSs fd.body Kf scope fd.io body = true ∧
    (Kf.lam = true → ∃ cO Pt, cdv = .ref cO ∧ LamX.TabB base mg cO Pt ∧ (Pt, lamQ qual) ∈ T ∧ ∀ p ∈ T, p.1 = Pt → p.2 = lamQ qual)
/-- .. of a class of errors -/
structure ErrF (Pm : Program) (K : PySem.W.Frag) (mg : Str → Option Value) (x : Str) (Ca : Addr) (gs : List Str) : Prop where
  ex : ∃ (fI : Addr) (slf : Str) (fd : FuncData), InitOk Pm K mg Ca fI slf gs fd ∧ PySem.W.findIn K (.ref Ca) "__init__" = some (some (.ref fI)) ∧ PySem.W.typeIn K (.ref fI) = some (.type "function") ∧ L2.Binds K fd (slf :: gs) []
  nd : gs.Nodup
  len : gs.length ≤ 1000
  xf : L2.XfC K Ca
  mgx : mg x = some (.ref Ca)
/-- .. of the text -/
structure TxF (Pm : Program) (w : World) (B : Bk) (mg : Str → Option Value) (base : Heap) (P : Pg) (ex : Errs) (t : Tx) : Prop where
  df : ∀ f fd, P.fs[f]? = some fd → DefF B.K mg base B.T P B.fa f (t.cm f)
  hw : w = B.w
  mgB : ∀ s ∈ bltNames, mg (Str.ofString s) = none
  mgG : ∀ (g : Nat) (x : Str), t.gn[g]? = some x → ∃ (u : Value) (v : V), mg x = some u ∧ RelV v u ∧ ∀ d, P.gs[g]? = some d → ∀ F, DV B F v d
  mgF : ∀ (f : Nat) (x : Str), t.fn[f]? = some x → mg x = some (.ref (B.fa f))
  fnl : ∀ (f : Nat) (x : Str), t.fn[f]? = some x → ∃ fd, P.fs[f]? = some fd
  mgE : ∀ (c : Nat) (x : Str) (gs : List Str), t.cn[c]? = some x → t.ef[c]? = some gs → gs ≠ [] → ∃ Ca, ex c = some (Ca, gs) ∧ ErrF Pm B.K mg x Ca gs
  exm : ∀ (c k : Nat) (Cc Ck : Addr) (gc gk : List Str), ex c = some (Cc, gc) → ex k = some (Ck, gk) → PySem.W.exmOne B.K (.ref Cc) (.ref Ck) = some (decide (c = k))
  exi : ∀ (c c' : Nat) (Ca : Addr) (g g' : List Str), ex c = some (Ca, g) → ex c' = some (Ca, g') → g = g'
/-- a context of the text: what does not change -/
structure Same (Pm : Program) (w : World) (B : Bk) (mg : Str → Option Value) (base : Heap) (X : Cx) : Prop where
  p : X.prog = Pm
  w : X.w = w
  K : X.K = B.K
  mg : X.mg = mg
  b : X.base = base
section
variable {Pm : Program} {w : World} {B : Bk} {mg : Str → Option Value} {base : Heap} {P : Pg} {ex : Errs} {t : Tx}
/-- all defs, at the level n -/
def FnP (Pm : Program) (w : World) (B : Bk) (mg : Str → Option Value) (base : Heap) (P : Pg) (ex : Errs) (n : Nat) : Prop := ∀ f fd, P.fs[f]? = some fd → ∃ (fdata : FuncData) (ps : List Str), L2.FnOk Pm w B.K mg base (L2.CX Pm w) (n + 3) (B.fa f) fdata ps (spA P (run P n) (gxOf B ex) f) ∧ PySem.W.keepIn B.K (.ref (B.fa f)) = true ∧ L2.Binds B.K fdata ps []
/-- the tables of the maker -/
structure Maker (B : Bk) (mg : Str → Option Value) (base : Heap) (X : Cx) : Prop where
  ex : ∃ cO Pt, X.env.code = .ref cO ∧ LamX.TabB base mg cO Pt ∧ (Pt, X.env.qual ++ lamN) ∈ B.T ∧ ∀ p ∈ B.T, p.1 = Pt → p.2 = X.env.qual ++ lamN
/-- lambdas handed over, at the level n -/
def LamP (Pm : Program) (w : World) (B : Bk) (mg : Str → Option Value) (base : Heap) (P : Pg) (ex : Errs) (t : Tx) (n : Nat) : Prop :=
  ∀ (X : Cx) (C : Kx) (W : WX) (K : Cm), Same Pm w B mg base X → C.toBk = B → C.gx = gxOf B ex → L2.Takes X W → L2.Room (n + 3) X.A → X.N = K.N → X.N.Nodup → Maker B mg base X → K.gn = t.gn → K.fn = t.fn → K.cn = t.cn → K.cls = t.cls → K.ef = t.ef →
    ∀ (f : Nat) (fd : Fd) (x : Str) (b : E) (params : Arguments) (body : Expr) (scope : Scope) (p lp q : Pos), P.fs[f]? = some fd → t.cls.contains f = true → t.fn[f]? = some x → L2.Gl X x → (x == ("__debug__" : Str)) = false →
    noPars params = true → LamX.lamSB X.env.scope scope = true → chkE b K.inLam scope body = true → b.np = false →
    PE X (.Call (.Name x p) [.Lambda params body scope lp] [] q) (tE P (run P n) C W (.call f [.clo [] b]))
/-- what all contexts have -/
theorem xok_of (h : TxF Pm w B mg base P ex t) {m : Nat} (fnp : FnP Pm w B mg base P ex m) {K : Cm} {C : Kx} {W : WX} {X : Cx} (sm : Same Pm w B mg base X) (hB : C.toBk = B) (hg : C.gx = gxOf B ex) (k1 : K.gn = t.gn) (k2 : K.fn = t.fn) (k3 : K.cn = t.cn) (k5 : K.ef = t.ef)
    (hN : X.N = K.N) (nd : X.N.Nodup) (calm : X.calm = true) (knd : X.env.scope.kind = .function) (room : L2.Room (m + 3) X.A) (tk : L2.Takes X W) (noclo : K.clo = false → C.noClo)
    (act : K.clo = true → ∀ (pn : List (Addr × Obj)) (xe : Value → Shared → Prop) (W' : WX) (l : List Nat), L2.Takes (X.tr pn xe) W' → ∀ (i : Nat) (x : Str) (p q : Pos), X.N[i]? = some x → L2.Vis X.env.scope x → (x == ("__debug__" : Str)) = false → (x == ("__classdict__" : Str)) = false →
      PE (X.tr pn xe) (.Call (.Name x p) [] [] q) (tClo P (run P m) { C with fx := l } W' i))
    (lam : K.lam = true → ∀ (pn : List (Addr × Obj)) (xe : Value → Shared → Prop) (W' : WX) (l : List Nat), L2.Takes (X.tr pn xe) W' → ∀ (f : Nat) (fd : Fd) (x : Str) (b : E) (params : Arguments) (body : Expr) (scope : Scope) (p lp q : Pos), P.fs[f]? = some fd → K.cls.contains f = true → K.fn[f]? = some x → L2.Gl X x → (x == ("__debug__" : Str)) = false →
      noPars params = true → LamX.lamSB X.env.scope scope = true → chkE b K.inLam scope body = true → b.np = false →
      PE (X.tr pn xe) (.Call (.Name x p) [.Lambda params body scope lp] [] q) (tE P (run P m) { C with fx := l } W' (.call f [.clo [] b]))) : XOk P ex m K C W X := by
  obtain ⟨s1, s2, s3, s4, s5⟩ := sm
  have hK : C.K = B.K := congrArg Bk.K hB
  have hw : C.w = B.w := congrArg Bk.w hB
  have hfa : C.fa = B.fa := congrArg Bk.fa hB
  refine ⟨s3.trans hK.symm, s2.trans (h.hw.trans hw.symm), by rw [hg, hB], hN, nd, calm, knd, room, tk, by rw [s4]; exact h.mgB, ?_, ?_, ?_, fun f fd e => ⟨?_⟩, noclo, act, lam, fun c x gs a b d => ?_, by rw [s3]; exact h.exm, h.exi⟩
  · rw [k1, s4, hB]; exact h.mgG
  · rw [k2, s4, hfa]; exact h.mgF
  · rw [k2]; exact h.fnl
  · obtain ⟨fdata, ps, F, kp, bd⟩ := fnp f fd e
    refine ⟨fdata, ps, ?_, ?_, ?_⟩
    · rw [s1, s2, s3, s4, s5, hg]
      exact F
    · rw [s3]
      exact (by rw [hg]; exact kp)
    · rw [s3]; exact bd
  · rw [k3] at a
    rw [k5] at b
    obtain ⟨Ca, e1, E⟩ := h.mgE c x gs a b d
    obtain ⟨fI, slf, fdI, i1, i2, i3, i4⟩ := E.ex
    refine ⟨Ca, e1, by rw [s4]; exact E.mgx, ⟨fI, slf, fdI, by rw [s1, s3, s4]; exact i1, by rw [s3]; exact i2, by rw [s3]; exact i3, by rw [s3]; exact i4⟩, E.nd, E.len, by rw [s3]; exact E.xf, by rw [s3]; exact i1.fs⟩
theorem lam_args {params : Arguments} (h : noPars params = true) : params = ⟨[], [], none, [], [], none, []⟩ := by
  obtain ⟨a, b, c, d, e, f, g⟩ := params
  unfold noPars at h
  simp only [Bool.and_eq_true, List.isEmpty_iff, Option.isNone_iff_eq_none] at h
  obtain ⟨⟨⟨⟨⟨⟨rfl, rfl⟩, rfl⟩, rfl⟩, rfl⟩, rfl⟩, rfl⟩ := h
  rfl
/-- what is fixed of the slots does not matter to expressions -/
theorem SR.refx {C : Kx} {l : List Nat} {s : St} {σ : L2.St} {F H : Hp} (h : SR { C with fx := l } s σ F H) : SR C s σ F H := ⟨h.le, ⟨h.c.len, h.c.sl, h.c.ne⟩, ⟨h.p.len, h.p.sl, h.p.ne⟩, h.dj, h.zz, h.zp, h.tb, h.cd⟩
theorem SR.refx' {C : Kx} {l : List Nat} {s : St} {σ : L2.St} {F H : Hp} (h : SR C s σ F H) : SR { C with fx := l } s σ F H := ⟨h.le, ⟨h.c.len, h.c.sl, h.c.ne⟩, ⟨h.p.len, h.p.sl, h.p.ne⟩, h.dj, h.zz, h.zp, h.tb, h.cd⟩
theorem tClo_fx {R : Run} {C : Kx} {l : List Nat} {W : WX} {i : Nat} (σ : L2.St) (H : Hp) (Q : VK) (h : tClo P R { C with fx := l } W i σ H Q) : tClo P R C W i σ H Q := by
  obtain ⟨F, s, ps, b, hs, e, hw⟩ := h
  refine ⟨F, s, ps, b, hs.refx, e, Wp.mono hw (fun w s' q v F' H' p r n => ?_) fun x s' q cls dO F' H' p r => ?_⟩
  · exact q v F' H' ⟨⟨p.sr.refx', p.st, p.oc, p.op⟩, p.ks⟩ r n
  · exact q cls dO F' H' ⟨p.sr.refx', p.st, p.oc, p.op⟩ r
theorem call0 {f : Nat} {b : E} {st : St} {n : Nat} {Q : Mid.W → St → Prop} {N : Mid.X → St → Prop} {fd : Fd} (hfd : P.fs[f]? = some fd) (hbad : n = 0 ∨ fd.np ≠ 1 ∨ fd.io ≠ []) (hw : Wp (evE P (run P n) (.call f [.clo [] b]) st) Q N) : False := by
  rw [evE, evAs, evAs] at hw
  simp only [Out.bind, callOf, hfd, List.any_cons, A.isClo, Bool.true_or, if_true, frzAs, callB, argSlots, Option.map_some] at hw
  split at hw
  · rename_i hc
    rcases hbad with rfl | h | h
    · rw [run] at hw; exact hw.elim
    · exact h hc.1.symm
    · exact h hc.2.1
  · exact hw.elim
theorem stb_fn {X : Cx} (hf : ∀ x, X.fn x = true) : Stb X X.env.scope := fun y hy => by
  unfold mayStore at hy
  split at hy
  · rename_i e; exact ⟨.inl e, .inl (hf y)⟩
  · rename_i e; exact ⟨.inr e, .inl (hf y)⟩
  · cases hy
/-- a def's context -/
theorem sok_fn (h : TxF Pm w B mg base P ex t) {m : Nat} (fnp : FnP Pm w B mg base P ex m) (lmp : LamP Pm w B mg base P ex t m) {f : Nat} {qual : Str} {sg : Scope} {ps : List Str} {cdv : Value} {C : Kx} {A : Around} {outer : List Env} {s : Shared} {H : Hp} {E : XK} {g : Addr} (hB : C.toBk = B) (hg : C.gx = gxOf B ex) (Sg : L2.FnScope (t.cm f).N ps sg)
    (hr : L2.Room (m + 3) (A.deeper (envOfC qual sg s.heap.objs.size g cdv))) (noclo : (t.cm f).clo = false → C.noClo)
    (act : (t.cm f).clo = true → ∀ (pn : List (Addr × Obj)) (xe : Value → Shared → Prop) (W' : WX) (i : Nat) (x : Str) (p q : Pos), L2.Takes ((L2.cxOf (L2.CX Pm w) Pm w B.K mg base (t.cm f).N qual sg g cdv A outer s H E).tr pn xe) W' → (t.cm f).N[i]? = some x → L2.Vis sg x → (x == ("__debug__" : Str)) = false → (x == ("__classdict__" : Str)) = false →
      PE ((L2.cxOf (L2.CX Pm w) Pm w B.K mg base (t.cm f).N qual sg g cdv A outer s H E).tr pn xe) (.Call (.Name x p) [] [] q) (tClo P (run P m) C W' i))
    (hlm : (t.cm f).lam = true → ∃ cO Pt, cdv = .ref cO ∧ LamX.TabB base mg cO Pt ∧ (Pt, lamQ qual) ∈ B.T ∧ ∀ p ∈ B.T, p.1 = Pt → p.2 = lamQ qual) :
    SOk P ex m (t.cm f) C (fun cls d _ H => E cls d H) (L2.cxOf (L2.CX Pm w) Pm w B.K mg base (t.cm f).N qual sg g cdv A outer s H E) := by
  have xo : XOk P ex m (t.cm f) C (fun cls d _ H => E cls d H) (L2.cxOf (L2.CX Pm w) Pm w B.K mg base (t.cm f).N qual sg g cdv A outer s H E) := by
    refine xok_of h fnp ⟨rfl, rfl, rfl, rfl, rfl⟩ hB hg rfl rfl rfl rfl rfl Sg.nd rfl Sg.kind hr (L2.takes_of rfl rfl rfl rfl) noclo ?_ ?_
    · intro hc pn xe W' l tk' i x p q e1 e2 e3 e4
      exact PE.imp (act hc pn xe W' i x p q tk' e1 e2 e3 e4) fun σ H Q z => tClo_fx σ H Q z
    · intro hl pn xe W' l tk' f2 fd2 x2 b2 params2 body2 scope2 p2 lp2 q2 z1 z2 z3 z4 z5 z6 z7 z8 z9
      obtain ⟨cO2, Pt2, y1, y2, y3, y4⟩ := hlm hl
      exact lmp ((L2.cxOf (L2.CX Pm w) Pm w B.K mg base (t.cm f).N qual sg g cdv A outer s H E).tr pn xe) { C with fx := l } W' (t.cm f) ⟨rfl, rfl, rfl, rfl, rfl⟩ hB hg tk' hr rfl Sg.nd ⟨⟨cO2, Pt2, y1, y2, y3, y4⟩⟩ rfl rfl rfl rfl rfl f2 fd2 x2 b2 params2 body2 scope2 p2 lp2 q2 z1 z2 z3 z4 z5 z6 z7 z8 z9
  exact ⟨xo, L2.passes_of rfl, rfl, rfl, stb_fn fun _ => rfl⟩
theorem lamP (h : TxF Pm w B mg base P ex t) (n : Nat) (ih : ∀ j, j < n → FnP Pm w B mg base P ex j ∧ LamP Pm w B mg base P ex t j) : LamP Pm w B mg base P ex t n := by
  intro X C W K sm hB hg tk room hN nd mk k1 k2 k3 k4 k5 f fd x b params body scope p lp q hfd hcls hfn hgl hdb hnp hlam hb hbn
  by_cases hbad : n = 0 ∨ fd.np ≠ 1 ∨ fd.io ≠ []
  · exact ⟨fun pins s σ H Q I ⟨F, st, hs, hw⟩ => (call0 hfd hbad hw).elim⟩
  · simp only [not_or, ne_eq, Decidable.not_not] at hbad
    obtain ⟨hn, np1, hio⟩ := hbad
    obtain ⟨n', rfl⟩ : ∃ n', n = n' + 1 := ⟨n - 1, by omega⟩
    obtain ⟨fnp, lmp⟩ := ih n' (Nat.lt_succ_self _)
    obtain ⟨name, qual, pg, bg, sg, dV, kV, doc, pm, cdv, ct, oc, an, od, osl, ps, fd', lk, hcg, Sg, hbd, hk, hfd', hnps, hns, hchk, hlm⟩ := (h.df f fd hfd).ex
    rw [hfd] at hfd'
    cases hfd'
    obtain ⟨a, rfl⟩ : ∃ a, ps = [a] := List.length_eq_one_iff.mp (by rw [← hnps]; exact np1)
    subst hB
    obtain ⟨s1, s2, s3, s4, s5⟩ := sm
    obtain ⟨Xp, Xw, XK, Xmg, Xb, XA, XN, Xs0, XH0, Xenv, Xouter, Xstack, Xex, Xfn, Xcalm, Xpn, Xxe⟩ := X
    dsimp only at s1 s2 s3 s4 s5
    subst s1 s2 s3 s4 s5
    obtain ⟨cO, Pt, m1, m2, m3, m4⟩ := mk.ex
    have L := LamX.lamS_by hlam
    obtain rfl := lam_args hnp
    have hmf := h.mgF f x hfn
    refine pe_lamcall (n := n') (k := n' + 2) (Ng := (t.cm f).N) (a := a) hfd np1 hns lk hcg hbd Sg hgl hmf hk hdb m2 m1 m3 m4 room L rfl (fun q cl pm cv ct => rfl) tk (mono_of hg) (noX_of hg) ?_ ?_
    · intro s1' H1 E C' g1 g2 hr act
      have so := sok_fn h fnp lmp (f := f) (qual := qual) (sg := sg) (cdv := cdv) (C := C') (A := XA) (outer := Xstack) (s := s1') (H := H1) (E := E) (g := C.fa f) (congrArg Gx.toBk g1) (g1.trans hg) Sg hr (fun z => by rw [show (t.cm f).clo = t.cls.contains f from rfl, hcls] at z; cases z) (fun _ => act) hlm
      exact sndSs fd.body (t.cm f) sg fd.io bg hchk n' C' _ _ so rfl (g2.trans hio.symm)
    · intro A outer s H E fl c' C' l g1 g2 g3 el hr
      subst el
      obtain ⟨fnl, _⟩ := ih l (by omega)
      have xo := xok_of h fnl (K := K.inLam) (C := C') (W := fun cls d _ H => E cls d H) (X := LamX.lamCx ⟨Xp, Xw, C.K, Xmg, Xb, XA, XN, Xs0, XH0, Xenv, Xouter, Xstack, Xex, Xfn, Xcalm, Xpn, Xxe⟩ A outer s H E scope fl c') ⟨rfl, rfl, rfl, rfl, rfl⟩ (congrArg Gx.toBk g1) (g1.trans hg) k1 k2 k3 k5 hN nd rfl L.kind hr (L2.takes_of rfl rfl rfl rfl) (fun _ => g2) (fun z => by cases z) (fun z => by cases z)
      exact ((snd b K.inLam scope body hb).be hbn xo rfl).pe
/-- one def, its data at hand -/
theorem fnP1 (h : TxF Pm w B mg base P ex t) (n : Nat) (ih : ∀ j, j < n → FnP Pm w B mg base P ex j ∧ LamP Pm w B mg base P ex t j) {f : Nat} {fd : Fd} (hfd : P.fs[f]? = some fd)
    {name qual : Str} {pg : Arguments} {bg : List Stmt} {sg : Scope} {dV kV doc pm cdv ct oc : Value} {an od : Option Addr} {osl : Array (Option Value)} {ps : List Str}
    (lk : B.K.lookup (B.fa f) = some ⟨oc, od, .func (PySem.W.fnOf name qual pg bg sg dV kV doc pm an cdv ct), osl⟩) (hcg : PySem.W.codeIn B.K cdv qual = true) (Sg : L2.FnScope (t.cm f).N ps sg) (hnps : fd.np = ps.length) (hns : fd.ns = (t.cm f).N.length) (hchk : chkSs fd.body (t.cm f) sg fd.io bg = true)
    (hlm : (t.cm f).lam = true → ∃ cO Pt, cdv = .ref cO ∧ LamX.TabB base mg cO Pt ∧ (Pt, lamQ qual) ∈ B.T ∧ ∀ p ∈ B.T, p.1 = Pt → p.2 = lamQ qual) :
    L2.FnOk Pm w B.K mg base (L2.CX Pm w) (n + 3) (B.fa f) (PySem.W.fnOf name qual pg bg sg dV kV doc pm an cdv ct) ps (spA P (run P n) (gxOf B ex) f) := by
  cases n with
  | zero =>
    have no : ∀ vs H Q E, ¬ spA P (run P 0) (gxOf B ex) f vs H Q E := fun vs H Q E ⟨F, sl, fd, _, _, _, _, q⟩ => by
      rw [run] at q
      exact q
    exact ⟨fun vs H Q E z => (no _ _ _ _ z).elim, fun A outer s H args us vs Q E _ _ _ _ z => (no _ _ _ _ z).elim⟩
  | succ n' =>
    obtain ⟨fnp, lmp⟩ := ih n' (Nat.lt_succ_self _)
    refine fn_ok (G := gxOf B ex) (k := n' + 3) (N := (t.cm f).N) lk hcg Sg hfd hnps hns fun A outer s H H0 sl vs E hr => ?_
    have ncl : (Kx.fn (gxOf B ex) H sl vs fd.io).noClo := fun _ _ _ z => z
    have so := sok_fn h fnp lmp (f := f) (qual := qual) (sg := sg) (cdv := cdv) (C := Kx.fn (gxOf B ex) H sl vs fd.io) (A := A) (outer := outer) (s := s) (H := H) (E := E) (g := B.fa f) rfl rfl Sg hr (fun _ => ncl)
      (fun _ pn xe W' i x p q _ _ _ _ _ => ⟨fun pins s σ H Q I ⟨F, st, ps, b, hs', e, _⟩ => by
          obtain ⟨v0, _, c⟩ := hs'.c.sl i _ (slotAt_clo e)
          exact (ncl _ _ v0 c).elim⟩) hlm
    exact sndSs fd.body (t.cm f) sg fd.io bg hchk n' _ _ _ so rfl rfl
theorem fnP (h : TxF Pm w B mg base P ex t) (n : Nat) (ih : ∀ j, j < n → FnP Pm w B mg base P ex j ∧ LamP Pm w B mg base P ex t j) : FnP Pm w B mg base P ex n := by
  intro f fd hfd
  obtain ⟨name, qual, pg, bg, sg, dV, kV, doc, pm, cdv, ct, oc, an, od, osl, ps, fd', lk, hcg, Sg, hbd, hk, hfd', hnps, hns, hchk, hlm⟩ := (h.df f fd hfd).ex
  rw [hfd] at hfd'
  cases hfd'
  exact ⟨_, ps, fnP1 h n ih hfd lk hcg Sg hnps hns hchk hlm, hk, hbd⟩
/-- every def keeps its promise, at every level -/
theorem all_ok (h : TxF Pm w B mg base P ex t) (n : Nat) : FnP Pm w B mg base P ex n ∧ LamP Pm w B mg base P ex t n := by
  induction n using Nat.strongRecOn with
  | _ n ih => exact ⟨fnP h n ih, lamP h n ih⟩
end
end Mid
set_option Elab.async false
set_option linter.all false
set_option maxRecDepth 100000
set_option maxHeartbeats 4000000
/-! The end of a law: the head's facts, the text's data. -/
namespace Mid
open PySem PySem.Spec PyProof.Rows He
open L2 (Hp HO V RelV Vals SqL SqT Rd)
/-! ### constants of the module -/
mutual
def dvB (K : PySem.W.Frag) (d : D) (u : Value) : Bool :=
  match d with
  | .non => (match u with
    | .none => true
    | _ => false)
  | .bl b => (match u with
    | .bool c => b == c
    | _ => false)
  | .int i => (match u with
    | .int j _ => decide (i = j)
    | _ => false)
  | .str s => (match u with
    | .str y _ => decide (txt s = y)
    | _ => false)
  | .tup ds => (match u with
    | .ref a => (match K.lookup a with
      | some ⟨.type c, none, .seq its _, sl⟩ => decide (c = "tuple") && (sl.isEmpty && (decide (its.size ≤ sizeLine) && dvsB K ds its.toList))
      | _ => false)
    | _ => false)
  | .lst _ => false
  | .dic _ => false
  | .fn _ => false
def dvsB (K : PySem.W.Frag) (ds : List D) (us : List Value) : Bool :=
  match ds with
  | [] => us.isEmpty
  | d :: ds => (match us with
    | u :: us => dvB K d u && dvsB K ds us
    | [] => false)
end
mutual
theorem dvB_ok {K : PySem.W.Frag} : ∀ (d : D) (u : Value), dvB K d u = true → ∃ v, RelV v u ∧ ∀ (B : Bk), B.K = K → ∀ F, DV B F v d
  | .non, u, h => by
    unfold dvB at h
    cases u with
    | none => exact ⟨.non, rfl, fun B _ F => .non⟩
    | _ => cases h
  | .bl b, u, h => by
    unfold dvB at h
    cases u with
    | bool c =>
      have e : b = c := eq_of_beq h
      exact ⟨.bl b, by rw [e]; rfl, fun B _ F => .bl b⟩
    | _ => cases h
  | .int i, u, h => by
    unfold dvB at h
    cases u with
    | int j t =>
      have e : i = j := of_decide_eq_true h
      exact ⟨.int i, ⟨t, by rw [e]⟩, fun B _ F => .int i⟩
    | _ => cases h
  | .str s, u, h => by
    unfold dvB at h
    cases u with
    | str y t =>
      have e : txt s = y := of_decide_eq_true h
      exact ⟨.str (txt s), ⟨t, by rw [e]⟩, fun B _ F => .str s⟩
    | _ => cases h
  | .tup ds, u, h => by
    unfold dvB at h
    cases u with
    | ref a =>
      dsimp only at h
      cases q : K.lookup a with
      | none => rw [q] at h; cases h
      | some o =>
        obtain ⟨oc, od, dt, osl⟩ := o
        rw [q] at h
        cases oc with
        | type c =>
          cases od with
          | none =>
            cases dt with
            | seq its n =>
              simp only [Bool.and_eq_true, decide_eq_true_eq] at h
              obtain ⟨h1, h2, h3, h4⟩ := h
              obtain ⟨vs, r, hd⟩ := dvsB_ok ds its.toList h4
              refine ⟨.ref a, rfl, fun B e F => .tup (.inr ⟨_, its, n, by rw [e]; exact q, by rw [h1], ⟨rfl, Array.isEmpty_iff.mp h2⟩, rfl, h3, r⟩) (hd B e F)⟩
            | _ => cases h
          | some x => cases dt <;> cases h
        | _ => cases od <;> cases dt <;> cases h
    | _ => cases h
  | .lst _, u, h => by unfold dvB at h; cases h
  | .dic _, u, h => by unfold dvB at h; cases h
  | .fn _, u, h => by unfold dvB at h; cases h
theorem dvsB_ok {K : PySem.W.Frag} : ∀ (ds : List D) (us : List Value), dvsB K ds us = true → ∃ vs, Vals vs us ∧ ∀ (B : Bk), B.K = K → ∀ F, DVs B F vs ds
  | [], us, h => by
    unfold dvsB at h
    obtain rfl := List.isEmpty_iff.mp h
    exact ⟨[], .nil, fun B _ F => .nil⟩
  | d :: ds, us, h => by
    unfold dvsB at h
    cases us with
    | nil => cases h
    | cons u us =>
      obtain ⟨h1, h2⟩ := ba h
      obtain ⟨v, r, hv⟩ := dvB_ok d u h1
      obtain ⟨vs, rs, hvs⟩ := dvsB_ok ds us h2
      exact ⟨v :: vs, .cons r rs, fun B e F => .cons (hv B e F) (hvs B e F)⟩
end
def gsB (K : PySem.W.Frag) : List Str → List D → Bool
  | [], [] => true
  | x :: xs, d :: ds => (match PySem.W.nsIn K mainGlobals x with
    | some (some u) => dvB K d u
    | _ => false) && gsB K xs ds
  | _, _ => false
theorem gsB_ok {K : PySem.W.Frag} {h : Heap} {mg : Str → Option Value} (X : K.In h) (G : h.Ns mainGlobals mg) : ∀ {xs : List Str} {ds : List D}, gsB K xs ds = true → ∀ (g : Nat) (x : Str), xs[g]? = some x → ∃ (u : Value) (v : V), mg x = some u ∧ RelV v u ∧ ∀ d, ds[g]? = some d → ∀ (B : Bk), B.K = K → ∀ F, DV B F v d
  | [], [], _, g, x, e => by simp at e
  | [], _ :: _, h, _, _, _ => by cases h
  | _ :: _, [], h, _, _, _ => by cases h
  | y :: xs, d :: ds, h, g, x, e => by
    obtain ⟨h1, h2⟩ := ba (show ((match PySem.W.nsIn K mainGlobals y with
      | some (some u) => dvB K d u
      | _ => false) && gsB K xs ds) = true from h)
    cases g with
    | succ g =>
      obtain ⟨u, v, a, b, c⟩ := gsB_ok X G h2 g x (by simpa using e)
      exact ⟨u, v, a, b, fun d' e' => c d' (by simpa using e')⟩
    | zero =>
      have e' : y = x := by simpa using e
      subst e'
      cases q : PySem.W.nsIn K mainGlobals y with
      | none => rw [q] at h1; cases h1
      | some o =>
        rw [q] at h1
        cases o with
        | none => cases h1
        | some u =>
          obtain ⟨v, r, c⟩ := dvB_ok d u h1
          exact ⟨u, v, PySem.W.mg_of X G q, r, fun d' e' => by
            have : d = d' := by simpa using e'
            subst this
            exact c⟩
/-! ### classes of errors -/
structure InD where
  cls : Str
  slf : Str
  gs : List Str
  name : Str
  qual : Str
  params : Arguments
  body : List Stmt
  scope : Scope
abbrev FnI : Type := Option (Str × Str × Arguments × FuncBody × Scope × Addr × Value × Addr)
def InD.val (d : InD) : FnI := some (d.name, d.qual, d.params, .stmts d.body, d.scope, mainGlobals, .none, builtinsNs)
def inA (K : PySem.W.Frag) (d : InD) : Addr := ma K (ga K d.cls) "__init__"
def inW (K : PySem.W.Frag) (d : InD) : FnI := match K.lookup (inA K d) with
  | some ⟨_, _, .func fd, _⟩ => some (fd.name, fd.qualname, fd.params, fd.body, fd.scope, fd.globals, fd.defaults, fd.builtins)
  | _ => none
def oexB (K : PySem.W.Frag) (C : Addr) : Bool := (match K.lookup C with
  | some ⟨.type t, _, .cls cd, sl⟩ => (match cd.mro, sl.toList with
    | .ref C' :: bm, [_, _, _, _, some (.builtin n), _] => decide (t = "type") && (decide (C' = C) && (decide (n = "ValueError.__new__") && (!cd.hasDel && (cd.hasDict && PySem.HandSPX.refsVE bm))))
    | _, _ => false)
  | _ => false) && (eqO (PySem.W.findIn K (.ref C) "__setattr__") (some (some (.builtin "object.__setattr__"))) && (decide (PySem.W.subIn K (.ref C) (.type "BaseException") = some true) && (decide (PySem.W.typeIn K (.ref C) = some (.type "type")) && PySem.W.keepIn K (.ref C))))
theorem oexB_ok {K : PySem.W.Frag} {C : Addr} (h : oexB K C = true) : L2.OexC K C := by
  obtain ⟨h1, h⟩ := ba h
  obtain ⟨h2, h⟩ := ba h
  obtain ⟨h3, h⟩ := ba h
  obtain ⟨h4, h5⟩ := ba h
  refine ⟨?_, eqO_ok h2, of_decide_eq_true h3, of_decide_eq_true h4, h5⟩
  split at h1
  · rename_i t dd cd sl ho
    split at h1
    · rename_i C' bm k0 k1 k2 k3 n k5 hm hs
      simp only [Bool.and_eq_true, decide_eq_true_eq, Bool.not_eq_true'] at h1
      obtain ⟨rfl, rfl, rfl, hdel, hdict, hve⟩ := h1
      obtain ⟨nm, bs, mro, ns, qn, hd, sn, sub, ab, col, del⟩ := cd
      dsimp only at hm hdel hdict
      subst hm hdel hdict
      have hsl : sl = #[k0, k1, k2, k3, some (.builtin "ValueError.__new__"), k5] := by
        obtain ⟨l⟩ := sl
        simp only at hs
        rw [hs]
      subst hsl
      exact ⟨nm, qn, ns, bs, bm, sn, sub, ab, col, dd, k0, k1, k2, k3, k5, ho, hve⟩
    · cases h1
  · cases h1
def inB (K : PySem.W.Frag) (file : Str) (d : InD) : Bool :=
  oexB K (ga K d.cls) && (decide (PySem.W.ks_superIn K (ga K d.cls) (ga K d.cls) "__init__" = some (some (.builtin "ValueError.__init__"))) && (decide (PySem.W.subIn K (.ref (ga K d.cls)) (.type "ValueError") = some true) && (decide (PySem.W.mroIn K (ga K d.cls) (.ref (ga K d.cls)) = some true) &&
  (d.gs.all (fun x => eqO (PySem.W.findIn K (.ref (ga K d.cls)) x) (some none)) && (L2.xfB K (ga K d.cls) && ((Fa.glo d.cls).ok K && (eqO (PySem.W.findIn K (.ref (ga K d.cls)) "__init__") (some (some (.ref (inA K d)))) && (decide (PySem.W.typeIn K (.ref (inA K d)) = some (.type "function")) &&
  (match K.lookup (inA K d) with
    | some ⟨_, _, .func fd, _⟩ => PySem.W.codeIn K fd.code d.qual && ((match fd.closure with
      | [(nm, cc)] => decide (nm = "__class__") && (match K.lookup cc with
        | some ⟨_, _, .cell (some (.ref C')), _⟩ => decide (C' = ga K d.cls)
        | _ => false)
      | _ => false) && (match fd.code with
      | .ref cda => (match K.lookup cda with
        | some ⟨_, _, .fields vs, _⟩ => (match (vs[2]? : Option Value) with
          | some (.str f _) => decide (file = f)
          | _ => false)
        | _ => false)
      | _ => false))
    | _ => false)))))))))
/-- what the text says of an __init__ -/
structure InChk (P : Program) (d : InD) : Prop where
  is : InitS (d.slf :: d.gs) d.scope
  ar : ∃ ar, (d.params.posonlyargs ++ d.params.args).head? = some ar ∧ ar.arg = d.slf
  s1 : d.scope.names.lookup ("super" : Str) = some .globalImplicit
  s2 : d.scope.names.lookup ("__class__" : Str) = some .free
  chk : chkInit (d.slf :: d.gs) d.body = true
  bd : ∀ (kV doc pm : Value) (an : Option Addr) (cdv ct : Value) (cc : Addr) (us : List Value), us.length = (d.slf :: d.gs).length → bindArgs (PySem.W.ksFn d.name d.qual d.params d.body d.scope .none kV doc pm an cdv ct cc) ⟨us, []⟩ = pure ((d.slf :: d.gs).zip us)
  nd : d.gs.Nodup
  len : d.gs.length ≤ 1000
theorem errF_of {Pm : Program} {K : PySem.W.Frag} {h : Heap} {mg : Str → Option Value} {d : InD} (X : K.In h) (G : h.Ns mainGlobals mg) (c : inB K Pm.main.file d = true) (e : inW K d = d.val) (ic : InChk Pm d) (htop : (Pm.main.scope.names.lookup ("super" : Str)).isSome = false) (ms : mg "super" = none) (opq : PySem.W.nsIn K cStatics "thirdparty.any" = some none) :
    ErrF Pm K mg d.cls (ga K d.cls) d.gs := by
  obtain ⟨c1, c⟩ := ba c
  obtain ⟨c2, c⟩ := ba c
  obtain ⟨c3, c⟩ := ba c
  obtain ⟨c4, c⟩ := ba c
  obtain ⟨c5, c⟩ := ba c
  obtain ⟨c6, c⟩ := ba c
  obtain ⟨c7, c⟩ := ba c
  obtain ⟨c8, c⟩ := ba c
  obtain ⟨c9, c⟩ := ba c
  obtain ⟨ar, a1, a2⟩ := ic.ar
  have S : SupC K mg (ga K d.cls) := ⟨oexB_ok c1, of_decide_eq_true c2, of_decide_eq_true c3, of_decide_eq_true c4, opq, ms⟩
  unfold inW at e
  cases q : K.lookup (inA K d) with
  | none => rw [q] at c; cases c
  | some o =>
    obtain ⟨oc, od, dt, osl⟩ := o
    rw [q] at c e
    cases dt with
    | func fd =>
      obtain ⟨n1, n2, n3, n4, n5, n6, n7, n8, n9, n10, n11, n12, n13, n14, n15⟩ := fd
      have e2 : (some (n1, n2, n3, n4, n5, n6, n8, n15) : FnI) = some (d.name, d.qual, d.params, .stmts d.body, d.scope, mainGlobals, .none, builtinsNs) := e
      simp only [Option.some.injEq, Prod.mk.injEq] at e2
      obtain ⟨h1, h2, h3, h4, h5, h6, h7, h8⟩ := e2
      subst h1 h2 h3 h4 h5 h6 h7 h8
      obtain ⟨k1, c'⟩ := ba c
      clear c
      obtain ⟨k2, k3⟩ := ba c'
      clear c' e
      dsimp only at k2 k3 k1
      split at k2
      · rename_i nm cc
        obtain ⟨k4, k5⟩ := ba k2
        have e4 : nm = ("__class__" : Str) := of_decide_eq_true k4
        subst e4
        split at k5
        · rename_i cl1 od1 C' osl1 hc
          have e5 : C' = ga K d.cls := of_decide_eq_true k5
          subst e5
          split at k3
          · rename_i cda
            split at k3
            · rename_i ccl od2 vs osl2 hv
              split at k3
              · rename_i f tf hf
                have e6 : Pm.main.file = f := of_decide_eq_true k3
                refine ⟨⟨inA K d, d.slf, _, ⟨S, fun x hx => eqO_ok (List.all_eq_true.mp c5 x hx), _, _, _, _, _, _, _, _, _, _, _, _, _, _, _, _, _, _, _, _, _, _, _, _, _, _, rfl, q, k1, ic.is, a1, a2, hc, hv, hf, beq_iff_eq.mpr e6, htop, ic.s1, ic.s2, ic.chk⟩, eqO_ok c8, of_decide_eq_true c9, .all fun us hl => ic.bd _ _ _ _ _ _ _ us hl⟩, ic.nd, ic.len, L2.xfB_ok c6, glo_ok X G c7⟩
              · cases k3
            · cases k3
          · cases k3
        · cases k5
      · cases k2
    | _ => cases c
end Mid
set_option Elab.async false
set_option linter.all false
set_option maxRecDepth 100000
set_option maxHeartbeats 4000000
/-! The end of a law: the Hook, all that the end must show, the law's row. -/
namespace Mid
open PySem PySem.Spec PyProof.Rows He
open L2 (Hp HO V RelV Vals SqL SqT Rd)
/-! ### the Hook -/
def lstOb (o : Obj) : Bool := match o.cls with
  | .type c => decide (c = "list")
  | _ => false
def frM (g : Addr → Option Obj) (as : List Addr) : PySem.W.Frag := (frT g as).filter fun q => !lstOb q.2
theorem frM_mem {g : Addr → Option Obj} {as : List Addr} {a : Addr} {o : Obj} (h : (frM g as).lookup a = some o) : g a = some o ∧ emptyTab o = false ∧ lstOb o = false := by
  obtain ⟨h1, h2⟩ := List.mem_filter.mp (lookup_mem h)
  obtain ⟨h3, h4⟩ := List.mem_filter.mp h1
  exact ⟨frG_mem h3, by simpa using h4, by simpa using h2⟩
theorem frM_in {as : List Addr} {h : Heap} : (frM h.get? as).In h := fun _ _ e => (frM_mem e).1
theorem frM_none {g : Addr → Option Obj} {as : List Addr} {a : Addr} {o : Obj} (h : g a = some o) (ht : emptyTab o = true) : (frM g as).lookup a = none := by
  cases e : (frM g as).lookup a with
  | none => rfl
  | some u =>
    obtain ⟨h1, h2, _⟩ := frM_mem e
    rw [h] at h1
    rw [← Option.some.inj h1, ht] at h2
    cases h2
/-- what is looked at: the statics too -/
def asM (g : Addr → Option Obj) (n : Nat) : List Addr := asD g n ++ [cStatics]
/-- what is told -/
structure SaysM (fn : List DefD) (ins : List InD) (tf : List Defn) (ex : PySem.W.Frag → Bool) (h : Heap) (K : PySem.W.Frag) : Prop where
  d : SaysD [] fn K
  i : ins.map (inW K) = ins.map InD.val
  more : ex K = true
  hd : ∀ p ∈ tf, PySem.W.codeHdIn K (cT K p).1 (cT K p).2 = true
  out : ∀ p ∈ tf, K.lookup (cT K p).2 = none
  empty : ∀ p ∈ tf, h.get? (cT K p).2 = some { cls := .none, data := .fields #[] }
  nol : ∀ a o, K.lookup a = some o → lstOb o = false
abbrev AlM : Type := (AlD × List FnI) × Bool
def obsM (n : Nat) (fn : List DefD) (ins : List InD) (tf : List Defn) (ex : PySem.W.Frag → Bool) (g : Addr → Option Obj) : AlM := ((obsD [] fn (frM g (asM g n)), ins.map (inW (frM g (asM g n)))), ex (frM g (asM g n)) && tabsB g tf (frM g (asM g n)))
def valM (fn : List DefD) (ins : List InD) : AlM := ((valD fn, ins.map InD.val), true)
theorem saysM_of {n : Nat} {fn : List DefD} {ins : List InD} {tf : List Defn} {ex : PySem.W.Frag → Bool} {h : Heap} (e : obsM n fn ins tf ex h.get? = valM fn ins) : SaysM fn ins tf ex h (frM h.get? (asM h.get? n)) := by
  have e1 : obsD [] fn (frM h.get? (asM h.get? n)) = valD fn := congrArg (fun z : AlM => z.1.1) e
  have e3 : ins.map (inW (frM h.get? (asM h.get? n))) = ins.map InD.val := congrArg (fun z : AlM => z.1.2) e
  have e2 : (ex (frM h.get? (asM h.get? n)) && tabsB h.get? tf (frM h.get? (asM h.get? n))) = true := congrArg (fun z : AlM => z.2) e
  obtain ⟨h1, h2⟩ := ba e2
  have key : ∀ p ∈ tf, PySem.W.codeHdIn (frM h.get? (asM h.get? n)) (cT (frM h.get? (asM h.get? n)) p).1 (cT (frM h.get? (asM h.get? n)) p).2 = true ∧ ∃ o, h.get? (cT (frM h.get? (asM h.get? n)) p).2 = some o ∧ emptyTab o = true := fun p hp => by
    obtain ⟨h3, h4⟩ := ba (List.all_eq_true.mp h2 p hp)
    refine ⟨h3, ?_⟩
    cases q : h.get? (cT (frM h.get? (asM h.get? n)) p).2 with
    | none =>
      rw [q] at h4
      cases h4
    | some o =>
      rw [q] at h4
      exact ⟨o, rfl, h4⟩
  exact ⟨e1, e3, h1, fun p hp => (key p hp).1, fun p hp => by
    obtain ⟨_, o, q, z⟩ := key p hp
    exact frM_none q z, fun p hp => by
    obtain ⟨_, o, q, z⟩ := key p hp
    rw [q, emptyTab_eq z], fun a o e => (frM_mem e).2.2⟩
def hookM (n : Nat) (fn : List DefD) (ins : List InD) (tf : List Defn) (ex : PySem.W.Frag → Bool) : PySem.W.Hook where
  α := AlM
  obs := fun s => obsM n fn ins tf ex s.heap.get?
  val := fun _ => valM fn ins
  says := fun _ h => ∃ K : PySem.W.Frag, K.In h ∧ SaysM fn ins tf ex h K
  of := fun _ _ e => ⟨_, frM_in, saysM_of e⟩
  keeps := fun _ _ _ ⟨K, hK, c⟩ k => ⟨K, PySem.W.Frag.In.keeps hK k, ⟨c.d, c.i, c.more, c.hd, c.out, fun p hp => k _ _ (c.empty p hp), c.nol⟩⟩
theorem obsM_eq {n : Nat} {fn : List DefD} {ins : List InD} {tf : List Defn} {ex : PySem.W.Frag → Bool} {g : Addr → Option Obj} {s : Shared} (h : ∀ a, g a = s.heap.get? a) : obsM n fn ins tf ex g = (hookM n fn ins tf ex).obs s := by
  have e : g = s.heap.get? := funext h
  rw [e] <;> rfl
/-! ### the text's data -/
structure DefChk (K : Cm) (x : Str) (fd : Fd) (d : DefD) (ps : List Str) : Prop where
  at_ : d.at_ = (x, none)
  dfl : d.dfl = []
  kwd : d.kwd = []
  sc : L2.FnScope K.N ps d.scope
  bd : ∀ (kV doc pm : Value) (an : Option Addr) (cdv ct : Value) (us : List Value), us.length = ps.length → bindArgs (PySem.W.fnOf d.name d.qual d.params d.body d.scope .none kV doc pm an cdv ct) ⟨us, []⟩ = pure (ps.zip us)
  np : fd.np = ps.length
  ns : fd.ns = K.N.length
  chk : chkSs fd.body K d.scope fd.io d.body = true
inductive DCs (t : Tx) : Nat → List Fd → List DefD → List Str → List (List Str) → Prop
  | nil (n : Nat) : DCs t n [] [] [] []
  | cons {n : Nat} {fd : Fd} {fds : List Fd} {d : DefD} {ds : List DefD} {x : Str} {xs : List Str} {ps : List Str} {pss : List (List Str)} : DefChk (t.cm n) x fd d ps → DCs t (n + 1) fds ds xs pss → DCs t n (fd :: fds) (d :: ds) (x :: xs) (ps :: pss)
theorem DCs.at_ {t : Tx} : ∀ {n : Nat} {fds : List Fd} {ds : List DefD} {xs : List Str} {pss : List (List Str)}, DCs t n fds ds xs pss → ∀ (f : Nat) (fd : Fd), fds[f]? = some fd → ∃ d x ps, ds[f]? = some d ∧ xs[f]? = some x ∧ pss[f]? = some ps ∧ DefChk (t.cm (n + f)) x fd d ps
  | _, _, _, _, _, .nil _, f, fd, e => by simp at e
  | n, _, _, _, _, .cons h r, 0, fd, e => by
    have e' := Option.some.inj e
    subst e'
    exact ⟨_, _, _, rfl, rfl, rfl, h⟩
  | n, _, _, _, _, .cons h r, f + 1, fd, e => by
    obtain ⟨d, x, ps, a, b, c, k⟩ := DCs.at_ r f fd (by simpa using e)
    exact ⟨d, x, ps, by simpa using a, by simpa using b, by simpa using c, by rw [Nat.add_assoc, Nat.add_comm 1 f] at k; exact k⟩
theorem DCs.fd {t : Tx} : ∀ {n : Nat} {fds : List Fd} {ds : List DefD} {xs : List Str} {pss : List (List Str)}, DCs t n fds ds xs pss → ∀ (f : Nat) (x : Str), xs[f]? = some x → ∃ fd, fds[f]? = some fd
  | _, _, _, _, _, .nil _, f, x, e => by simp at e
  | n, _, _, _, _, .cons h r, 0, x, e => ⟨_, rfl⟩
  | n, _, _, _, _, .cons h r, f + 1, x, e => by
    obtain ⟨fd, a⟩ := DCs.fd r f x (by simpa using e)
    exact ⟨fd, by simpa using a⟩
inductive AllP {α : Type} (p : α → Prop) : List α → Prop
  | nil : AllP p []
  | cons {a : α} {l : List α} : p a → AllP p l → AllP p (a :: l)
theorem AllP.at_ {α : Type} {p : α → Prop} {a : α} : ∀ {l : List α}, AllP p l → a ∈ l → p a
  | _, .cons h r, m => by
    rcases List.mem_cons.mp m with e | m
    · rw [e]; exact h
    · exact r.at_ m
/-- the makers of lambdas -/
def mkT (mk : List DefD) (K : PySem.W.Frag) : List (Addr × Str) := mk.map fun d => ((cT K d.at_).2, lamQ d.qual)
def bkOf (t : Tx) (mk : List DefD) (w : World) (K : PySem.W.Frag) : Bk := ⟨K, w, fun f => ga K (t.fn.getD f default), mkT mk K⟩
def exOf (t : Tx) (K : PySem.W.Frag) : Errs := fun c => match t.cn[c]?, t.ef[c]? with
  | some x, some gs => if gs.isEmpty then none else some (ga K x, gs)
  | _, _ => none
def exB (t : Tx) (gs : List D) (file : Str) (ins : List InD) (mk : List DefD) (K : PySem.W.Frag) : Bool :=
  gsB K t.gn gs && (bltNames.all (fun s => (Fa.free (Str.ofString s)).ok K) && ((Fa.free "super").ok K && (eqO (PySem.W.nsIn K cStatics "thirdparty.any") (some none) && (t.fn.all (fun x => (Fa.glo x).ok K) &&
  (ins.all (inB K file) && (ins.all (fun c => ins.all fun k => (Fa.exm c.cls k.cls (decide (c.cls = k.cls))).ok K) &&
  (mk.all fun d => mk.all fun e => !(decide ((cT K d.at_).2 = (cT K e.at_).2)) || decide (lamQ d.qual = lamQ e.qual))))))))
structure TextOk (Pm : Program) (P : Pg) (t : Tx) (defs : List DefD) (pss : List (List Str)) (ins : List InD) (mk : List DefD) : Prop where
  dc : DCs t 0 P.fs defs t.fn pss
  ic : AllP (InChk Pm) ins
  top : (Pm.main.scope.names.lookup ("super" : Str)).isSome = false
  cn : t.cn.Nodup
  ef : ∀ (c : Nat) (x : Str) (gs : List Str), t.cn[c]? = some x → t.ef[c]? = some gs → gs ≠ [] → ∃ d ∈ ins, d.cls = x ∧ d.gs = gs
  mkr : ∀ (f : Nat) (d : DefD), defs[f]? = some d → t.lams.contains f = true → d ∈ mk
theorem exOf_some {t : Tx} {K : PySem.W.Frag} {c : Nat} {Ca : Addr} {g : List Str} (h : exOf t K c = some (Ca, g)) : ∃ x, t.cn[c]? = some x ∧ t.ef[c]? = some g ∧ g ≠ [] ∧ Ca = ga K x := by
  unfold exOf at h
  split at h
  · rename_i x gs h1 h2
    split at h
    · cases h
    · rename_i hne
      cases h
      exact ⟨x, h1, h2, fun z => hne (by rw [z]; rfl), rfl⟩
  · cases h
section
variable {Pm : Program} {w : World} {P : Pg} {t : Tx} {defs : List DefD} {pss : List (List Str)} {ins : List InD} {mk : List DefD} {h : Heap} {K : PySem.W.Frag} {mg : Str → Option Value} {base : Heap}
theorem nodup_get {α : Type} : ∀ {l : List α} {i j : Nat} {x : α}, l.Nodup → l[i]? = some x → l[j]? = some x → i = j
  | [], _, _, _, _, e, _ => by simp at e
  | y :: l, 0, 0, _, _, _, _ => rfl
  | y :: l, 0, j + 1, x, nd, e1, e2 => by
    have : y = x := by simpa using e1
    subst this
    exact absurd (List.mem_of_getElem? (show l[j]? = some y by simpa using e2)) (List.nodup_cons.mp nd).1
  | y :: l, i + 1, 0, x, nd, e1, e2 => by
    have : y = x := by simpa using e2
    subst this
    exact absurd (List.mem_of_getElem? (show l[i]? = some y by simpa using e1)) (List.nodup_cons.mp nd).1
  | y :: l, i + 1, j + 1, x, nd, e1, e2 => by
    rw [nodup_get (List.nodup_cons.mp nd).2 (show l[i]? = some x by simpa using e1) (show l[j]? = some x by simpa using e2)]
/-- one def's function -/
theorem def_at (T : TextOk Pm P t defs pss ins mk) (c : SaysM defs ins (mk.map DefD.at_) (exB t P.gs Pm.main.file ins mk) h K) {f : Nat} {fd : Fd} (e : P.fs[f]? = some fd) :
    ∃ d x ps, defs[f]? = some d ∧ t.fn[f]? = some x ∧ pss[f]? = some ps ∧ DefChk (t.cm f) x fd d ps ∧ d.at_ = (x, none) ∧ ∃ (oc : Value) (od : Option Addr) (kV doc pm : Value) (an : Option Addr) (cdv ct : Value) (osl : Array (Option Value)),
      K.lookup ((bkOf t mk w K).fa f) = some ⟨oc, od, .func (PySem.W.fnOf d.name d.qual d.params d.body d.scope .none kV doc pm an cdv ct), osl⟩ ∧ PySem.W.codeIn K cdv d.qual = true ∧ PySem.W.keepIn K (.ref ((bkOf t mk w K).fa f)) = true := by
  obtain ⟨d, x, ps, hd, hx, hps, k⟩ := T.dc.at_ f fd e
  rw [Nat.zero_add] at k
  obtain ⟨fdt, F⟩ := c.d.def_ f hd
  obtain ⟨oc, od, dV, kV, doc, pm, an, cdv, ct, osl, rfl, lk, hcd, hD, hK⟩ := F.ex
  have e1 : d.dvs K = [] := by unfold DefD.dvs; rw [k.dfl]; rfl
  have e2 : fAd K d.at_ = (bkOf t mk w K).fa f := by
    rw [k.at_]
    show ga K x = ga K (t.fn.getD f default)
    rw [List.getD_eq_getElem?_getD, hx]
    rfl
  rcases hD with ⟨_, rfl⟩ | ⟨ne, _⟩
  · refine ⟨d, x, ps, hd, hx, hps, k, k.at_, oc, od, kV, doc, pm, an, cdv, ct, osl, by rw [← e2]; exact lk, hcd, by rw [← e2]; exact F.kp⟩
  · exact absurd e1 ne
/-- its tables -/
theorem lam_at (T : TextOk Pm P t defs pss ins mk) (c : SaysM defs ins (mk.map DefD.at_) (exB t P.gs Pm.main.file ins mk) h K) (tb : ∀ p ∈ mk.map fun d => cT K d.at_, LamX.TabB base mg p.1 p.2) {f : Nat} {d : DefD} {x : Str} (hd : defs[f]? = some d) (hx : t.fn[f]? = some x) (ha : d.at_ = (x, none)) {oc : Value} {od : Option Addr} {kV doc pm : Value} {an : Option Addr} {cdv ct : Value} {osl : Array (Option Value)}
    (lk : K.lookup ((bkOf t mk w K).fa f) = some ⟨oc, od, .func (PySem.W.fnOf d.name d.qual d.params d.body d.scope .none kV doc pm an cdv ct), osl⟩) (hcd : PySem.W.codeIn K cdv d.qual = true) (hl : (t.cm f).lam = true) :
    ∃ cO Pt, cdv = .ref cO ∧ LamX.TabB base mg cO Pt ∧ (Pt, lamQ d.qual) ∈ (bkOf t mk w K).T ∧ ∀ p ∈ (bkOf t mk w K).T, p.1 = Pt → p.2 = lamQ d.qual := by
  have hm := T.mkr f d hd hl
  obtain ⟨_, e⟩ := ba c.more
  obtain ⟨_, e⟩ := ba e
  obtain ⟨_, e⟩ := ba e
  obtain ⟨_, e⟩ := ba e
  obtain ⟨_, e⟩ := ba e
  obtain ⟨_, e⟩ := ba e
  obtain ⟨_, e⟩ := ba e
  obtain ⟨cO, hc⟩ := codeIn_ref hcd
  have e2 : (bkOf t mk w K).fa f = fAd K d.at_ := by
    rw [ha]
    show ga K (t.fn.getD f default) = ga K x
    rw [List.getD_eq_getElem?_getD, hx]
    rfl
  rw [e2] at lk
  have ec : codeOf K d.at_ = cO := codeOf_eq lk hc
  have h1 := tb _ (List.mem_map.mpr ⟨d, hm, rfl⟩)
  refine ⟨cO, (cT K d.at_).2, hc, by rw [← ec]; exact h1, List.mem_map.mpr ⟨d, hm, rfl⟩, fun p hp q => ?_⟩
  obtain ⟨d', hm', rfl⟩ := List.mem_map.mp hp
  have z := List.all_eq_true.mp (List.all_eq_true.mp e d' hm') d hm
  rw [Bool.or_eq_true] at z
  rcases z with z | z
  · rw [Bool.not_eq_true'] at z
    exact absurd q (of_decide_eq_false z)
  · exact of_decide_eq_true z
theorem txF_of (T : TextOk Pm P t defs pss ins mk) (c : SaysM defs ins (mk.map DefD.at_) (exB t P.gs Pm.main.file ins mk) h K) {hb : Heap} (X : K.In hb) (G : hb.Ns mainGlobals mg) (tb : ∀ p ∈ mk.map fun d => cT K d.at_, LamX.TabB base mg p.1 p.2) :
    TxF Pm w (bkOf t mk w K) mg base P (exOf t K) t := by
  obtain ⟨b1, e⟩ := ba c.more
  obtain ⟨b2, e⟩ := ba e
  obtain ⟨b3, e⟩ := ba e
  obtain ⟨b4, e⟩ := ba e
  obtain ⟨b5, e⟩ := ba e
  obtain ⟨b6, e⟩ := ba e
  obtain ⟨b7, e⟩ := ba e
  have hni := c.i
  have exm : ∀ (c k : Nat) (Cc Ck : Addr) (gc gk : List Str), exOf t K c = some (Cc, gc) → exOf t K k = some (Ck, gk) → PySem.W.exmOne K (.ref Cc) (.ref Ck) = some (decide (c = k)) := by
    intro c k Cc Ck gc gk h1 h2
    obtain ⟨x, x1, x2, x3, rfl⟩ := exOf_some h1
    obtain ⟨y, y1, y2, y3, rfl⟩ := exOf_some h2
    obtain ⟨d, d1, d2, d3⟩ := T.ef c x gc x1 x2 x3
    obtain ⟨d', d1', d2', d3'⟩ := T.ef k y gk y1 y2 y3
    have z := exm_ok (List.all_eq_true.mp (List.all_eq_true.mp b7 d d1) d' d1')
    rw [d2, d2'] at z
    rw [z]
    congr 1
    refine decide_eq_decide.mpr ⟨fun q => ?_, fun q => ?_⟩
    · subst q
      exact nodup_get T.cn x1 y1
    · subst q
      rw [x1] at y1
      exact Option.some.inj y1
  refine ⟨fun f fd hf => ⟨?_⟩, rfl, fun s hs => free_ok X G (List.all_eq_true.mp b2 s hs), fun g x e => ?_, fun f x e => ?_, fun f x e => T.dc.fd f x e, fun c x gs h1 h2 h3 => ?_, exm, ?_⟩
  · obtain ⟨d, x, ps, hd, hx, hps, k, ha, oc, od, kV, doc, pm, an, cdv, ct, osl, lk, hcd, kp⟩ := def_at (w := w) T c hf
    exact ⟨d.name, d.qual, d.params, d.body, d.scope, .none, kV, doc, pm, cdv, ct, oc, an, od, osl, ps, fd, lk, hcd, k.sc, .all fun us hl => k.bd kV doc pm an cdv ct us hl, kp, hf, k.np, k.ns, k.chk, fun hl => lam_at (w := w) T c tb hd hx ha lk hcd hl⟩
  · obtain ⟨u, v, a, b, c⟩ := gsB_ok X G b1 g x e
    exact ⟨u, v, a, b, fun d hd F => c d hd _ rfl F⟩
  · show mg x = some (.ref (ga K (t.fn.getD f default)))
    rw [List.getD_eq_getElem?_getD, e]
    exact glo_ok X G (List.all_eq_true.mp b5 x (List.mem_of_getElem? e))
  · obtain ⟨d, d1, d2, d3⟩ := T.ef c x gs h1 h2 h3
    obtain ⟨i, hi, ei⟩ := List.mem_iff_getElem.mp d1
    refine ⟨ga K x, ?_, ?_⟩
    · unfold exOf
      rw [h1, h2]
      dsimp only
      rw [if_neg (by simpa using h3)]
    · have z : inW K d = d.val := by
        have z1 : (ins.map (inW K))[i]? = (ins.map InD.val)[i]? := by rw [hni]
        rw [List.getElem?_map, List.getElem?_map, List.getElem?_eq_getElem hi, ei] at z1
        exact Option.some.inj z1
      subst d2 d3
      exact errF_of X G (List.all_eq_true.mp b6 d d1) z (T.ic.at_ d1) T.top (free_ok X G b3) (eqO_ok b4)
  · intro c c' Ca g g' h1 h2
    have z1 := exm c c' _ _ _ _ h1 h2
    have z2 := exm c c _ _ _ _ h1 h1
    rw [z2] at z1
    have z3 : decide (c = c) = decide (c = c') := Option.some.inj z1
    rw [decide_eq_true rfl] at z3
    have z4 : c = c' := of_decide_eq_true z3.symm
    subst z4
    rw [h1] at h2
    cases h2
    rfl
/-! ### the law -/
theorem cx_none {w : World} {H : Hp} {s : Shared} {e : Value} {s' : Shared} (h : L2.CX Pm w [] H s (fun _ _ _ => False) e s') : False := by
  obtain ⟨_, _, _, _, _, _, _, _, _, _, _, _, z⟩ := h
  exact z
theorem dvs_ints (B : Bk) (F : Hp) : ∀ ns : List Int, DVs B F (ns.map V.int) (ns.map D.int)
  | [] => .nil
  | n :: r => .cons (.int n) (dvs_ints B F r)
/-- what the evaluator must answer -/
def LawTrue (P : Pg) (n li : Nat) (ns : List Int) : Prop := ∃ c st, run P n (.call li [.val (.lst (ns.map D.int))] []) = .ret (.val (.bl true)) c st
theorem law_at {l : PySem.W.OpenLaw} (T : TextOk l.prog P t defs pss ins mk) {n most li : Nat} {x : Str} {fa : Addr} (hli : ∃ fd, P.fs[li]? = some fd) (hps : pss[li]? = some [x]) (hname : t.fn[li]? = some d0)
    (math : ∀ ns : List Int, ns.length ≤ most → LawTrue P n li ns)
    (c : SaysM defs ins (mk.map DefD.at_) (exB t P.gs l.prog.main.file ins mk) h K) (X : K.In h) (G : h.Ns mainGlobals mg) (hmg : mg d0 = some (.ref fa)) :
    LamX.LawAtS l w K (L2.CX l.prog w) (n + 3) most x mg fa h := by
  obtain ⟨fdL, hf⟩ := hli
  obtain ⟨d, x', ps, hd, hx, hps', k, ha, oc, od, kV, doc, pm, an, cdv, ct, osl, lk, hcd, kp⟩ := def_at (w := w) T c hf
  rw [hps] at hps'
  cases hps'
  rw [hname] at hx
  cases hx
  have efa : (bkOf t mk w K).fa li = fa := by
    obtain ⟨_, e⟩ := ba c.more
    obtain ⟨_, e⟩ := ba e
    obtain ⟨_, e⟩ := ba e
    obtain ⟨_, e⟩ := ba e
    obtain ⟨b5, e⟩ := ba e
    have z := glo_ok X G (List.all_eq_true.mp b5 d0 (List.mem_of_getElem? hname))
    rw [hmg] at z
    show ga K (t.fn.getD li default) = fa
    rw [List.getD_eq_getElem?_getD, hname]
    injection z with z
    injection z with z
    exact z.symm
  refine ⟨PySem.W.fnOf d.name d.qual d.params d.body d.scope .none kV doc pm an cdv ct, mk.map fun d => cT K d.at_, spA P (run P n) (gxOf (bkOf t mk w K) (exOf t K)) li, fun p hp => ?_, fun p hp => ?_, fun p hp => ?_, fun s u => ?_, fun H a ns hl _ hT hS => ?_, fun base Xb Gb TB => ?_⟩
  rotate_left 5
  · have tf := txF_of (w := w) T c Xb Gb TB
    rw [← efa]
    exact fnP1 tf n (fun j _ => all_ok tf j) hf lk hcd k.sc k.np k.ns k.chk fun hl => lam_at (w := w) T c TB hd hname ha lk hcd hl
  · obtain ⟨d', hm, rfl⟩ := List.mem_map.mp hp
    exact c.empty _ (List.mem_map.mpr ⟨d', hm, rfl⟩)
  · obtain ⟨d', hm, rfl⟩ := List.mem_map.mp hp
    exact c.out _ (List.mem_map.mpr ⟨d', hm, rfl⟩)
  · obtain ⟨d', hm, rfl⟩ := List.mem_map.mp hp
    exact PySem.W.codeHd_of_K X (c.hd _ (List.mem_map.mpr ⟨d', hm, rfl⟩))
  · exact .of_eq (k.bd kV doc pm an cdv ct [u] rfl)
  · obtain ⟨cF, st, hr⟩ := math ns hl
    have hrd : Rd H a (.lst (ns.map V.int)) := by
      rcases hS with z | ⟨o, its, m, lk', hc, _⟩
      · exact z
      · have z := c.nol a o lk'
        unfold lstOb at z
        rw [hc] at z
        simp at z
    have notT : ∀ p ∈ mkT mk K, a ≠ p.1 := fun p hp e => by
      obtain ⟨d', hm, rfl⟩ := List.mem_map.mp hp
      have z := hT _ (List.mem_map.mpr ⟨d', hm, rfl⟩)
      dsimp only at e z
      rw [← e] at z
      rcases hrd with y | ⟨ob, y⟩ <;> rw [z] at y <;> cases y
    refine ⟨fun b => if b = a then H a else none, [.val (.lst (ns.map D.int))], fdL, hf, by rw [k.np]; rfl, fun j d e => ?_, ⟨fun b o e => ?_, rfl, fun i s v e1 e2 => ?_, fun i j d e b e1 e2 => ?_, fun p hp => ?_⟩, ?_⟩
    · cases j with
      | zero => cases e
      | succ j => simp at e
    · by_cases hb : b = a
      · rw [hb] at e ⊢
        simpa using e
      · simp [hb] at e
    · cases i with
      | succ i => simp at e1
      | zero =>
        cases e1
        cases e2
        refine .lst ?_ (dvs_ints _ _ ns)
        rcases hrd with y | ⟨ob, y⟩
        · exact .inl (by simpa using y)
        · exact .inr ⟨ob, by simpa using y⟩
    · cases i with
      | zero => cases e1
      | succ i => simp at e1
    · have na := notT p hp
      obtain ⟨d', hm, rfl⟩ := List.mem_map.mp hp
      have z := hT _ (List.mem_map.mpr ⟨d', hm, rfl⟩)
      refine ⟨if_neg fun q => na q.symm, #[], z, ?_, ?_⟩
      · first
          | trivial
          | exact rfl
          | simp [TriplesOk]
          | decide
      · intro pos cv q
        cases q
    · rw [hr]
      intro v F' H' _ e
      have e' : DV _ F' v (.bl true) := e
      cases e'
      rfl
end
end Mid
namespace Mid.k81
open Mid
/-- _wall(k) -/
def f0 : Fd := ⟨1, 1, [],
   [.while_ (.cst (.bl true)) [.pass]]⟩
/-- is_number(thing) -/
def f1 : Fd := ⟨1, 1, [],
   [.ret (.and (.isi (.var 0) .int) (.not (.isi (.var 0) .bool)))]⟩
/-- is_name(thing, sign) -/
def f2 : Fd := ⟨1, 2, [],
   [.ite (.or (.not (.isi (.var 0) .str)) (.not (.chain .le .le (.cst (.int 1)) (.blt .len (.var 0)) (.glo 2)))) [.ret (.cst (.bl false))] [],
    .ite (.or (.cmp .notin (.ix (.var 0) (.cst (.int 0))) (.glo 0)) (.cmp .isin (.var 0) (.glo 4))) [.ret (.cst (.bl false))] [],
    .ret (.blt .all (.lc (.cmp .isin (.var 1) (.bin .add (.glo 0) (.glo 1))) (.nm 1) (.var 0) (.cst (.bl true)) [1]))]⟩
/-- great(found, _figure) -/
def f3 : Fd := ⟨0, 2, [],
   [.asg (.nm 0) (.cst (.int 1)),
    .for_ (.nm 1) (.rng (.glo 3)) [.aug 0 .mul (.cst (.int 10))],
    .ret (.var 0)]⟩
/-- is_value(thing, bound) -/
def f4 : Fd := ⟨1, 2, [],
   [.ite (.call 1 [.var 0]) [.asg (.nm 1) (.call 3 []),
     .ret (.chain .lt .lt (.neg (.var 1)) (.var 0) (.var 1))] [],
    .ret (.call 2 [.var 0])]⟩
/-- is_sized(thing, many) -/
def f5 : Fd := ⟨2, 2, [],
   [.ret (.and (.isi (.var 0) .tuple) (.cmp .eq (.blt .len (.var 0)) (.var 1)))]⟩
/-- is_tuple_of(thing, is_one, one) -/
def f6 : Fd := ⟨2, 3, [],
   [.ret (.and (.isi (.var 0) .tuple) (.blt .all (.lc (.callv 1 [.var 2]) (.nm 2) (.var 0) (.cst (.bl true)) [2])))]⟩
/-- is_names(thing) -/
def f7 : Fd := ⟨1, 1, [],
   [.ret (.call 6 [.var 0, .fnv 2])]⟩
/-- is_couple(thing) -/
def f8 : Fd := ⟨1, 1, [],
   [.ret (.and (.call 5 [.var 0, .cst (.int 2)]) (.call 7 [.var 0]))]⟩
/-- is_shape(thing) -/
def f9 : Fd := ⟨1, 1, [],
   [.ret (.and (.call 5 [.var 0, .cst (.int 2)]) (.and (.call 2 [.ix (.var 0) (.cst (.int 0))]) (.call 7 [.ix (.var 0) (.cst (.int 1))])))]⟩
/-- are_unlike(things, thing) -/
def f10 : Fd := ⟨1, 2, [],
   [.ret (.cmp .eq (.blt .len (.dc (.var 1) (.cst (.bl true)) (.nm 1) (.var 0) (.cst (.bl true)) [1])) (.blt .len (.var 0)))]⟩
/-- checked_shapes(thing, one, other, name, columns) -/
def f11 : Fd := ⟨1, 5, [],
   [.ite (.not (.call 6 [.var 0, .fnv 9])) [.raise 1 [.tup [.cst (.str [115, 104, 97, 112, 101, 115])], .cst (.str [102, 111, 114, 109])]] [],
    .ite (.not (.blt .all (.lc (.cmp .lt (.ix (.var 1) (.cst (.int 0))) (.ix (.var 2) (.cst (.int 0)))) (.pr [.nm 1, .nm 2]) (.zip (.var 0) (.slc (.var 0) (.cst (.int 1)) (.cst .non) (.cst .non))) (.cst (.bl true)) [1, 2]))) [.raise 1 [.tup [.cst (.str [115, 104, 97, 112, 101, 115])], .cst (.str [111, 114, 100, 101, 114])]] [],
    .ite (.not (.blt .all (.lc (.and (.chain .le .le (.cst (.int 1)) (.blt .len (.var 4)) (.glo 7)) (.call 10 [.var 4])) (.pr [.nm 3, .nm 4]) (.var 0) (.cst (.bl true)) [3, 4]))) [.raise 1 [.tup [.cst (.str [115, 104, 97, 112, 101, 115])], .cst (.str [99, 111, 108, 117, 109, 110, 115])]] [],
    .ret (.var 0)]⟩
/-- is_grouped(thing) -/
def f12 : Fd := ⟨1, 1, [],
   [.ret (.and (.call 5 [.var 0, .cst (.int 2)]) (.and (.call 2 [.ix (.var 0) (.cst (.int 0))]) (.call 8 [.ix (.var 0) (.cst (.int 1))])))]⟩
/-- is_condition(thing) -/
def f13 : Fd := ⟨1, 1, [],
   [.ret (.and (.call 5 [.var 0, .cst (.int 2)]) (.and (.call 8 [.ix (.var 0) (.cst (.int 0))]) (.or (.call 8 [.ix (.var 0) (.cst (.int 1))]) (.call 4 [.ix (.var 0) (.cst (.int 1))]))))]⟩
/-- is_writing_form(thing) -/
def f14 : Fd := ⟨1, 1, [],
   [.ite (.or (.not (.call 5 [.var 0, .cst (.int 3)])) (.or (.not (.call 6 [.ix (.var 0) (.cst (.int 0)), .fnv 12])) (.not (.call 6 [.ix (.var 0) (.cst (.int 1)), .fnv 8])))) [.ret (.cst (.bl false))] [],
    .ret (.call 6 [.ix (.var 0) (.cst (.int 2)), .fnv 13])]⟩
/-- columns_of(shapes, sources, told, found, alias, table, name) -/
def f15 : Fd := ⟨2, 7, [],
   [.par [2, 3] [.blt .dict (.var 0), .lst []],
    .for_ (.pr [.nm 4, .nm 5]) (.var 1) [.ext 3 (.lc (.tup [.var 4, .var 6]) (.nm 6) (.ix (.var 2) (.var 5)) (.cst (.bl true)) [6])],
    .ret (.var 3)]⟩
/-- check_columns(word, rows, there, index, columns, column) -/
def f16 : Fd := ⟨3, 6, [],
   [.for_ (.pr [.nm 3, .nm 4]) (.enu (.var 1)) [.ite (.not (.blt .all (.lc (.cmp .isin (.var 5) (.var 2)) (.nm 5) (.var 4) (.cst (.bl true)) [5]))) [.raise 1 [.tup [.var 0, .var 3], .cst (.str [99, 111, 108, 117, 109, 110])]] []]]⟩
/-- checked_writing(shapes, thing, group, sources, conditions, tables, alias, table, one, other, there, column, name, condition) -/
def f17 : Fd := ⟨2, 14, [],
   [.ite (.not (.call 14 [.var 1])) [.raise 1 [.tup [], .cst (.str [102, 111, 114, 109])]] [],
    .asg (.pr [.nm 2, .nm 3, .nm 4]) (.var 1),
    .ite (.cmp .gt (.blt .len (.var 3)) (.glo 5)) [.raise 2 [.cst (.str [102, 97, 99, 116, 115]), .glo 5]] [],
    .ite (.cmp .gt (.blt .len (.var 4)) (.glo 6)) [.raise 2 [.cst (.str [99, 111, 110, 100, 105, 116, 105, 111, 110, 115]), .glo 6]] [],
    .asg (.nm 5) (.blt .dict (.var 0)),
    .ite (.or (.cmp .eq (.var 3) (.tup [])) (.not (.call 10 [.lc (.var 6) (.pr [.nm 6, .nm 7]) (.var 3) (.cst (.bl true)) [6, 7]]))) [.raise 1 [.tup [.cst (.str [115, 111, 117, 114, 99, 101, 115])], .cst (.str [102, 111, 114, 109])]] [],
    .ite (.not (.blt .all (.lc (.cmp .isin (.var 7) (.var 5)) (.pr [.nm 6, .nm 7]) (.var 3) (.cst (.bl true)) [6, 7]))) [.raise 1 [.tup [.cst (.str [115, 111, 117, 114, 99, 101, 115])], .cst (.str [102, 111, 114, 109])]] [],
    .ite (.not (.blt .all (.lc (.cmp .lt (.ix (.var 8) (.cst (.int 0))) (.ix (.var 9) (.cst (.int 0)))) (.pr [.nm 8, .nm 9]) (.zip (.var 2) (.slc (.var 2) (.cst (.int 1)) (.cst .non) (.cst .non))) (.cst (.bl true)) [8, 9]))) [.raise 1 [.tup [.cst (.str [103, 114, 111, 117, 112])], .cst (.str [111, 114, 100, 101, 114])]] [],
    .asg (.nm 10) (.dc (.var 11) (.cst (.bl true)) (.nm 11) (.call 15 [.var 0, .var 3]) (.cst (.bl true)) [11]),
    .expr (.call 16 [.cst (.str [103, 114, 111, 117, 112]), .lc (.tup [.var 11]) (.pr [.nm 12, .nm 11]) (.var 2) (.cst (.bl true)) [11, 12], .var 10]),
    .expr (.call 16 [.cst (.str [99, 111, 110, 100, 105, 116, 105, 111, 110, 115]), .lc (.lc (.var 8) (.nm 8) (.var 13) (.call 8 [.var 8]) [8]) (.nm 13) (.var 4) (.cst (.bl true)) [13], .var 10]),
    .ret (.var 1)]⟩
/-- _law_bag(script, cell) -/
def f18 : Fd := ⟨1, 2, [],
   [.ret (.lst [.cst (.int 0), .cst (.int 1234567891), .cst (.int 0), .lc (.blt .abs (.var 1)) (.nm 1) (.slc (.var 0) (.cst .non) (.cst (.int 63)) (.cst .non)) (.cst (.bl true)) [1]])]⟩
/-- _law_take(bag, many, cell, stirred, value, begin, second) -/
def f19 : Fd := ⟨2, 7, [0],
   [.ite (.cmp .eq (.ix (.var 0) (.cst (.int 0))) (.cst (.int 0))) [.asg (.nm 2) (.ix (.bin .add (.slc (.ix (.var 0) (.cst (.int 3))) (.ix (.var 0) (.cst (.int 2))) (.cst .non) (.cst .non)) (.lst [.cst (.int 0)])) (.cst (.int 0))),
     .augi 0 (.cst (.int 2)) .add (.cst (.int 1)),
     .ite (.cmp .ge (.var 2) (.bin .pow (.cst (.int 10)) (.cst (.int 18)))) [.seti 0 (.cst (.int 0)) (.var 2)] [],
     .asg (.nm 3) (.bin .add (.bin .add (.bin .mul (.ix (.var 0) (.cst (.int 1))) (.cst (.int 48271))) (.bin .mod (.blt .int (.var 2)) (.cst (.int 2147483647)))) (.bin .mul (.cst (.int 7919)) (.ix (.var 0) (.cst (.int 2))))),
     .seti 0 (.cst (.int 1)) (.bin .mod (.blt .int (.var 3)) (.cst (.int 2147483647)))] [],
    .ite (.cmp .gt (.ix (.var 0) (.cst (.int 0))) (.cst (.int 0))) [.asg (.nm 4) (.bin .mod (.blt .int (.ix (.var 0) (.cst (.int 0)))) (.var 1)),
     .seti 0 (.cst (.int 0)) (.bin .fdiv (.blt .int (.ix (.var 0) (.cst (.int 0)))) (.var 1)),
     .ret (.var 4)] [],
    .asg (.nm 5) (.bin .mod (.blt .int (.bin .mul (.bin .add (.ix (.var 0) (.cst (.int 1))) (.cst (.int 1))) (.cst (.int 39373)))) (.cst (.int 1000000007))),
    .asg (.nm 6) (.bin .mod (.blt .int (.bin .mul (.bin .mod (.blt .int (.bin .mul (.var 5) (.var 5))) (.cst (.int 998244353))) (.cst (.int 30011)))) (.cst (.int 998244353))),
    .ret (.bin .mod (.blt .int (.bin .fdiv (.var 6) (.cst (.int 7)))) (.var 1))]⟩
/-- _law_some(bag, things) -/
def f20 : Fd := ⟨2, 2, [0],
   [.ret (.ix (.var 1) (.call 19 [.var 0, .blt .len (.var 1)]))]⟩
/-- _law_shapes(bag) -/
def f21 : Fd := ⟨1, 1, [],
   [.ret (.tup [.tup [.cst (.str [114]), .tup [.cst (.str [111, 110, 101]), .cst (.str [116, 119, 111])]], .tup [.cst (.str [115]), .tup [.cst (.str [111, 110, 101])]], .tup [.cst (.str [116]), .tup [.cst (.str [108, 101, 102, 116]), .cst (.str [114, 105, 103, 104, 116])]]])]⟩
/-- _law_writing(bag, shapes, most, sources, k, columns, group, name, conditions, other) -/
def f22 : Fd := ⟨3, 10, [0],
   [.asg (.nm 3) (.blt .tuple (.lc (.tup [.bin .add (.cst (.str [97])) (.blt .str (.bin .add (.var 4) (.cst (.int 1)))), .call 20 [.var 0, .lst [.cst (.str [114]), .cst (.str [114]), .cst (.str [115]), .cst (.str [116])]]]) (.nm 4) (.rng (.bin .add (.cst (.int 1)) (.call 19 [.var 0, .var 2]))) (.cst (.bl true)) [4])),
    .asg (.nm 5) (.call 23 [.var 1, .var 3]),
    .asg (.nm 6) (.blt .tuple (.lc (.tup [.var 7, .call 20 [.var 0, .var 5]]) (.nm 7) (.call 20 [.var 0, .lst [.tup [], .tup [.cst (.str [103])], .tup [.cst (.str [103]), .cst (.str [104])]]]) (.cst (.bl true)) [7])),
    .asg (.nm 8) (.lst []),
    .for_ (.nm 4) (.rng (.call 19 [.var 0, .cst (.int 4)])) [.asg (.nm 9) (.ite (.cmp .gt (.call 19 [.var 0, .cst (.int 4)]) (.cst (.int 0))) (.call 20 [.var 0, .var 5]) (.call 20 [.var 0, .lst [.cst (.int 0), .cst (.int 1), .cst (.str [117])]])),
     .app 8 (.tup [.call 20 [.var 0, .var 5], .var 9])],
    .ret (.tup [.var 6, .var 3, .blt .tuple (.var 8)])]⟩
/-- _law_columns(shapes, sources, told, found, alias, table, name) -/
def f23 : Fd := ⟨2, 7, [],
   [.par [2, 3] [.blt .dict (.var 0), .lst []],
    .for_ (.pr [.nm 4, .nm 5]) (.var 1) [.ext 3 (.lc (.tup [.var 4, .var 6]) (.nm 6) (.ix (.var 2) (.var 5)) (.cst (.bl true)) [6])],
    .ret (.var 3)]⟩
/-- _law_raised(act, error) -/
def f24 : Fd := ⟨1, 2, [],
   [.try2 [.ret (.tup [.cst (.str [116, 111, 108, 100]), .callv 0 []])] [1] 1 [.ret (.tup [.cst (.str [98, 97, 100]), .xat 1 0, .xat 1 1])] [2] 1 [.ret (.tup [.cst (.str [108, 97, 114, 103, 101]), .xat 1 0, .xat 1 1])]]⟩
/-- law(script, bag, lap, shapes, spoilt, thing, fault, writing, group, sources, conditions, columns, here, odds, many, k, ten, odd, long, due) -/
def f25 : Fd := ⟨1, 20, [],
   [.asg (.nm 1) (.call 18 [.var 0]),
    .for_ (.nm 2) (.rng (.cst (.int 4))) [.asg (.nm 3) (.call 21 [.var 1]),
     .ite (.or (.cmp .ne (.call 24 [.clo [] (.call 11 [.var 3])]) (.tup [.cst (.str [116, 111, 108, 100]), .var 3])) (.cmp .ne (.call 11 [.tup []]) (.tup []))) [.ret (.cst (.bl false))] [],
     .asg (.nm 4) (.lst [.tup [.cst (.non), .cst (.str [102, 111, 114, 109])], .tup [.blt .list (.var 3), .cst (.str [102, 111, 114, 109])], .tup [.bin .add (.var 3) (.tup [.tup [.cst (.str [90]), .tup [.cst (.str [111, 110, 101])]]]), .cst (.str [102, 111, 114, 109])], .tup [.bin .add (.var 3) (.tup [.tup [.cst (.str [122, 122]), .cst (.str [111, 110, 101])]]), .cst (.str [102, 111, 114, 109])], .tup [.tup [.tup [.cst (.str [114]), .tup [.cst (.str [111, 110, 101]), .cst (.int 2)]]], .cst (.str [102, 111, 114, 109])], .tup [.tup [.tup [.cst (.str [114])]], .cst (.str [102, 111, 114, 109])]]),
     .ext 4 (.lst [.tup [.slc (.var 3) (.cst .non) (.cst .non) (.neg (.cst (.int 1))), .cst (.str [111, 114, 100, 101, 114])], .tup [.bin .add (.var 3) (.slc (.var 3) (.cst .non) (.cst (.int 1)) (.cst .non)), .cst (.str [111, 114, 100, 101, 114])], .tup [.tup [.tup [.cst (.str [116]), .tup []], .tup [.cst (.str [114]), .tup [.cst (.str [111, 110, 101])]]], .cst (.str [111, 114, 100, 101, 114])], .tup [.bin .add (.var 3) (.tup [.tup [.cst (.str [122, 122]), .tup []]]), .cst (.str [99, 111, 108, 117, 109, 110, 115])]]),
     .ext 4 (.lst [.tup [.bin .add (.var 3) (.tup [.tup [.cst (.str [122, 122]), .tup [.cst (.str [111, 110, 101]), .cst (.str [116, 119, 111]), .cst (.str [111, 110, 101])]]]), .cst (.str [99, 111, 108, 117, 109, 110, 115])], .tup [.bin .add (.var 3) (.tup [.tup [.cst (.str [122, 122]), .tup [.cst (.str [99, 49]), .cst (.str [99, 50]), .cst (.str [99, 51]), .cst (.str [99, 52])]]]), .cst (.str [99, 111, 108, 117, 109, 110, 115])]]),
     .for_ (.pr [.nm 5, .nm 6]) (.var 4) [.ite (.cmp .ne (.call 24 [.clo [] (.call 11 [.var 5])]) (.tup [.cst (.str [98, 97, 100]), .tup [.cst (.str [115, 104, 97, 112, 101, 115])], .var 6])) [.ret (.cst (.bl false))] []],
     .asg (.nm 7) (.call 22 [.var 1, .var 3, .cst (.int 3)]),
     .ite (.cmp .ne (.call 24 [.clo [] (.call 17 [.var 3, .var 7])]) (.tup [.cst (.str [116, 111, 108, 100]), .var 7])) [.ret (.cst (.bl false))] [],
     .asg (.pr [.nm 8, .nm 9, .nm 10]) (.var 7),
     .asg (.nm 11) (.call 23 [.var 3, .var 9]),
     .asg (.nm 12) (.ix (.var 11) (.call 19 [.var 1, .blt .len (.var 11)])),
     .asg (.nm 13) (.lst [.cst (.non), .tup [.var 8, .var 9], .blt .list (.var 7), .tup [.var 8, .blt .list (.var 9), .var 10], .tup [.var 8, .var 9, .tup [.tup [.var 12]]], .tup [.var 8, .tup [.tup [.cst (.str [97, 49])]], .tup []]]),
     .for_ (.nm 5) (.bin .add (.var 13) (.lst [.tup [.tup [.tup [.cst (.str [103]), .cst (.str [104])]], .var 9, .tup []], .tup [.var 8, .var 9, .tup [.tup [.var 12, .cst (.non)]]]])) [.ite (.cmp .ne (.call 24 [.clo [] (.call 17 [.var 3, .var 5])]) (.tup [.cst (.str [98, 97, 100]), .tup [], .cst (.str [102, 111, 114, 109])])) [.ret (.cst (.bl false))] []],
     .asg (.nm 14) (.blt .tuple (.lc (.tup [.bin .add (.cst (.str [98])) (.blt .str (.var 15)), .cst (.str [115])]) (.nm 15) (.rng (.cst (.int 11))) (.cst (.bl true)) [15])),
     .asg (.nm 16) (.blt .tuple (.lc (.tup [.bin .add (.cst (.str [98])) (.blt .str (.var 15)), .cst (.str [115])]) (.nm 15) (.rng (.cst (.int 10))) (.cst (.bl true)) [15])),
     .asg (.nm 17) (.tup [.cst (.str [97, 57]), .cst (.str [111, 110, 101])]),
     .asg (.nm 18) (.bin .mul (.tup [.tup [.var 12, .cst (.int 1)]]) (.cst (.int 21))),
     .asg (.nm 4) (.lst [.tup [.tup [.var 8, .var 14, .tup []], .tup [.cst (.str [108, 97, 114, 103, 101]), .cst (.str [102, 97, 99, 116, 115]), .cst (.int 10)]], .tup [.tup [.var 8, .var 14, .var 18], .tup [.cst (.str [108, 97, 114, 103, 101]), .cst (.str [102, 97, 99, 116, 115]), .cst (.int 10)]], .tup [.tup [.var 8, .var 9, .var 18], .tup [.cst (.str [108, 97, 114, 103, 101]), .cst (.str [99, 111, 110, 100, 105, 116, 105, 111, 110, 115]), .cst (.int 20)]]]),
     .asg (.nm 4) (.bin .add (.var 4) (.lst [.tup [.tup [.var 8, .tup [], .var 10], .tup [.cst (.str [98, 97, 100]), .tup [.cst (.str [115, 111, 117, 114, 99, 101, 115])], .cst (.str [102, 111, 114, 109])]]])),
     .ext 4 (.lst [.tup [.tup [.var 8, .bin .add (.var 9) (.slc (.var 9) (.cst .non) (.cst (.int 1)) (.cst .non)), .var 10], .tup [.cst (.str [98, 97, 100]), .tup [.cst (.str [115, 111, 117, 114, 99, 101, 115])], .cst (.str [102, 111, 114, 109])]], .tup [.tup [.var 8, .bin .add (.var 9) (.tup [.tup [.cst (.str [122, 122]), .cst (.str [122, 122, 122])]]), .var 10], .tup [.cst (.str [98, 97, 100]), .tup [.cst (.str [115, 111, 117, 114, 99, 101, 115])], .cst (.str [102, 111, 114, 109])]]]),
     .app 4 (.tup [.tup [.tup [.tup [.cst (.str [104]), .var 12], .tup [.cst (.str [103]), .var 12]], .var 9, .var 10], .tup [.cst (.str [98, 97, 100]), .tup [.cst (.str [103, 114, 111, 117, 112])], .cst (.str [111, 114, 100, 101, 114])]]),
     .app 4 (.tup [.tup [.tup [.tup [.cst (.str [103]), .var 12], .tup [.cst (.str [103]), .var 12]], .var 9, .var 10], .tup [.cst (.str [98, 97, 100]), .tup [.cst (.str [103, 114, 111, 117, 112])], .cst (.str [111, 114, 100, 101, 114])]]),
     .app 4 (.tup [.tup [.tup [.tup [.cst (.str [103]), .var 12], .tup [.cst (.str [104]), .var 17]], .var 9, .var 10], .tup [.cst (.str [98, 97, 100]), .tup [.cst (.str [103, 114, 111, 117, 112]), .cst (.int 1)], .cst (.str [99, 111, 108, 117, 109, 110])]]),
     .app 4 (.tup [.tup [.tup [.tup [.cst (.str [103]), .tup [.ix (.var 12) (.cst (.int 0)), .cst (.str [122, 122])]]], .var 9, .bin .add (.var 10) (.tup [.tup [.var 17, .cst (.int 1)]])], .tup [.cst (.str [98, 97, 100]), .tup [.cst (.str [103, 114, 111, 117, 112]), .cst (.int 0)], .cst (.str [99, 111, 108, 117, 109, 110])]]),
     .app 4 (.tup [.tup [.var 8, .var 9, .bin .add (.var 10) (.tup [.tup [.var 17, .cst (.int 1)]])], .tup [.cst (.str [98, 97, 100]), .tup [.cst (.str [99, 111, 110, 100, 105, 116, 105, 111, 110, 115]), .blt .len (.var 10)], .cst (.str [99, 111, 108, 117, 109, 110])]]),
     .app 4 (.tup [.tup [.var 8, .var 9, .bin .add (.tup [.tup [.var 12, .var 17]]) (.var 10)], .tup [.cst (.str [98, 97, 100]), .tup [.cst (.str [99, 111, 110, 100, 105, 116, 105, 111, 110, 115]), .cst (.int 0)], .cst (.str [99, 111, 108, 117, 109, 110])]]),
     .app 4 (.tup [.tup [.var 8, .var 9, .bin .add (.var 10) (.tup [.tup [.var 12, .tup [.ix (.var 12) (.cst (.int 0)), .cst (.str [122, 122])]], .tup [.var 17, .var 17]])], .tup [.cst (.str [98, 97, 100]), .tup [.cst (.str [99, 111, 110, 100, 105, 116, 105, 111, 110, 115]), .blt .len (.var 10)], .cst (.str [99, 111, 108, 117, 109, 110])]]),
     .app 4 (.tup [.tup [.tup [.tup [.cst (.str [104]), .var 12], .tup [.cst (.str [103]), .var 17]], .var 16, .var 10], .tup [.cst (.str [98, 97, 100]), .tup [.cst (.str [103, 114, 111, 117, 112])], .cst (.str [111, 114, 100, 101, 114])]]),
     .for_ (.pr [.nm 5, .nm 19]) (.var 4) [.ite (.cmp .ne (.call 24 [.clo [] (.call 17 [.var 3, .var 5])]) (.var 19)) [.ret (.cst (.bl false))] []],
     .ite (.cmp .ne (.call 17 [.var 3, .tup [.tup [], .var 16, .bin .mul (.tup [.tup [.tup [.cst (.str [98, 48]), .cst (.str [111, 110, 101])], .cst (.int 1)]]) (.cst (.int 20))]]) (.tup [.tup [], .var 16, .bin .mul (.tup [.tup [.tup [.cst (.str [98, 48]), .cst (.str [111, 110, 101])], .cst (.int 1)]]) (.cst (.int 20))])) [.ret (.cst (.bl false))] []],
    .ret (.cst (.bl true))]⟩
def gs : List D := [.str [97, 98, 99, 100, 101, 102, 103, 104, 105, 106, 107, 108, 109, 110, 111, 112, 113, 114, 115, 116, 117, 118, 119, 120, 121, 122], .str [48, 49, 50, 51, 52, 53, 54, 55, 56, 57], .int 8, .int 30, .tup [.str [97, 110, 100], .str [97, 118, 101, 114, 97, 103, 101], .str [98, 121], .str [99, 111, 117, 110, 116], .str [100, 97, 116, 97], .str [102, 97, 99, 116], .str [102, 114, 111, 109], .str [103, 114, 111, 117, 112], .str [103, 114, 101, 97, 116, 101, 115, 116], .str [107, 101, 121], .str [108, 101, 97, 115, 116], .str [108, 105, 107, 101], .str [111, 102], .str [113, 117, 101, 115, 116, 105, 111, 110], .str [114, 101, 112, 111, 114, 116], .str [115, 117, 109], .str [116, 104, 101], .str [116, 111], .str [117, 110, 108, 105, 107, 101], .str [118, 97, 114]], .int 10, .int 20, .int 3]
def nms : List (List PySem.Str) := [["k"], ["thing"], ["thing", "sign"], ["found", "_figure"], ["thing", "bound"], ["thing", "many"], ["thing", "is_one", "one"], ["thing"], ["thing"], ["thing"], ["things", "thing"], ["thing", "one", "other", "name", "columns"], ["thing"], ["thing"], ["thing"], ["shapes", "sources", "told", "found", "alias", "table", "name"], ["word", "rows", "there", "index", "columns", "column"], ["shapes", "thing", "group", "sources", "conditions", "tables", "alias", "table", "one", "other", "there", "column", "name", "condition"], ["script", "cell"], ["bag", "many", "cell", "stirred", "value", "begin", "second"], ["bag", "things"], ["bag"], ["bag", "shapes", "most", "sources", "k", "columns", "group", "name", "conditions", "other"], ["shapes", "sources", "told", "found", "alias", "table", "name"], ["act", "error"], ["script", "bag", "lap", "shapes", "spoilt", "thing", "fault", "writing", "group", "sources", "conditions", "columns", "here", "odds", "many", "k", "ten", "odd", "long", "due"]]
def gn : List PySem.Str := ["LETTERS", "DIGITS", "MOST_LETTERS", "MOST_FIGURES", "RESERVED", "MOST_SOURCES", "MOST_CONDITIONS", "MOST_COLUMNS"]
def fn : List PySem.Str := ["_wall", "is_number", "is_name", "great", "is_value", "is_sized", "is_tuple_of", "is_names", "is_couple", "is_shape", "are_unlike", "checked_shapes", "is_grouped", "is_condition", "is_writing_form", "columns_of", "check_columns", "checked_writing", "_law_bag", "_law_take", "_law_some", "_law_shapes", "_law_writing", "_law_columns", "_law_raised", "law"]
def cn : List PySem.Str := ["CountError", "BadQuestion", "TooLarge"]
def ef : List (List PySem.Str) := [[], ["where", "fault"], ["what", "limit"]]
def tops : List Nat := [0, 11, 12, 13, 14, 15, 16, 17, 22, 23, 24, 25, 26, 27, 28, 29, 30, 31, 33, 34, 35, 36, 37, 38, 39, 40]
def lamF : List Nat := [25]
def cloF : List Nat := [24]
def pg : Pg := ⟨[f0, f1, f2, f3, f4, f5, f6, f7, f8, f9, f10, f11, f12, f13, f14, f15, f16, f17, f18, f19, f20, f21, f22, f23, f24, f25], gs, 1000000⟩
end Mid.k81
set_option Elab.async false
set_option linter.all false
set_option maxRecDepth 100000
set_option maxHeartbeats 1000000
/-! The evaluator, plainly: what laws are proved with. -/
namespace Mid
/-- a call's end, its frames left out -/
def Ret.out : Ret → Option (Sum W X)
  | .ret w _ _ => some (.inl w)
  | .exc x _ _ => some (.inr x)
  | .stk _ => none
abbrev okW (w : W) : Option (Sum W X) := some (.inl w)
abbrev okD (d : D) : Option (Sum W X) := some (.inl (.val d))
abbrev okB (b : Bool) : Option (Sum W X) := some (.inl (.val (.bl b)))
abbrev exW (x : X) : Option (Sum W X) := some (.inr x)
theorem out_w {r : Ret} {w : W} (h : r.out = okW w) : ∃ c p, r = .ret w c p := by
  cases r with
  | ret w' c p =>
    have e : w' = w := by
      injection h with h
      injection h
    exact ⟨c, p, by rw [e]⟩
  | exc x c p => cases h
  | stk m => cases h
theorem out_x {r : Ret} {x : X} (h : r.out = exW x) : ∃ c p, r = .exc x c p := by
  cases r with
  | exc x' c p =>
    have e : x' = x := by
      injection h with h
      injection h
    exact ⟨c, p, by rw [e]⟩
  | ret w c p => cases h
  | stk m => cases h
theorem beq_self_D (d : D) : decide (d = d) = true := decide_eq_true rfl
section
variable {P : Pg} {R : Run}
/-! ### statements in turn -/
theorem ss_nil {s : St} : evSs P R [] s = .ok .nx s := rfl
theorem ss_cons {a : S} {r : List S} {s s' : St} (h : evS P R a s = .ok .nx s') : evSs P R (a :: r) s = evSs P R r s' := by
  rw [evSs, h]; rfl
theorem ss_rt {a : S} {r : List S} {s s' : St} {w : W} (h : evS P R a s = .ok (.rt w) s') : evSs P R (a :: r) s = .ok (.rt w) s' := by
  rw [evSs, h]; rfl
theorem ss_exc {a : S} {r : List S} {s s' : St} {x : X} (h : evS P R a s = .exc x s') : evSs P R (a :: r) s = .exc x s' := by
  rw [evSs, h]; rfl
theorem s_if {c : E} {a b : List S} {s s' : St} {k : Bool} {w : W} (h : evE P R c s = .ok w s') (hb : peek s' w = some (.bl k)) : evS P R (.ite c a b) s = if k then evSs P R a s' else evSs P R b s' := by
  rw [evS, h]
  unfold Out.bind boolOf
  dsimp only
  rw [hb]
theorem s_ifT {c : E} {a b : List S} {s s' : St} (h : evE P R c s = .ok (.val (.bl true)) s') : evS P R (.ite c a b) s = evSs P R a s' := by
  rw [s_if h rfl, if_pos rfl]
theorem s_ifF {c : E} {a b : List S} {s s' : St} (h : evE P R c s = .ok (.val (.bl false)) s') : evS P R (.ite c a b) s = evSs P R b s' := by
  rw [s_if h rfl, if_neg (by simp)]
theorem s_asg {i : Nat} {e : E} {s s' : St} {d : D} (h : evE P R e s = .ok (.val d) s') : evS P R (.asg (.nm i) e) s = .ok .nx (s'.set i (.val d)) := by
  rw [evS, h]; rfl
theorem s_asgO {i : Nat} {e : E} {s s' : St} {d : D} (h : evE P R e s = .ok (.own d) s') : evS P R (.asg (.nm i) e) s = .ok .nx (s'.set i (.own d)) := by
  rw [evS, h]; rfl
theorem s_expr {e : E} {s s' : St} {w : W} (h : evE P R e s = .ok w s') : evS P R (.expr e) s = .ok .nx s' := by
  rw [evS, h]; rfl
theorem s_exprX {e : E} {s s' : St} {x : X} (h : evE P R e s = .exc x s') : evS P R (.expr e) s = .exc x s' := by
  rw [evS, h]; rfl
theorem s_ret {e : E} {s s' : St} {d : D} (h : evE P R e s = .ok (.val d) s') : evS P R (.ret e) s = .ok (.rt (.val d)) s' := by
  rw [evS, h]; rfl
theorem s_retO {e : E} {s s' : St} {d : D} (h : evE P R e s = .ok (.own d) s') : evS P R (.ret e) s = .ok (.rt (.own d)) s' := by
  rw [evS, h]; rfl
/-! ### expressions -/
theorem e_not {a : E} {s s' : St} {b : Bool} (h : evE P R a s = .ok (.val (.bl b)) s') : evE P R (.not a) s = .ok (.val (.bl (!b))) s' := by
  rw [evE, h]; rfl
theorem e_or {a b : E} {s s' s2 : St} {x y : Bool} (h : evE P R a s = .ok (.val (.bl x)) s') (h2 : x = false → evE P R b s' = .ok (.val (.bl y)) s2) (h3 : x = true → s2 = s') : evE P R (.or a b) s = .ok (.val (.bl (x || y))) s2 := by
  rw [evE, h]
  cases x
  · exact h2 rfl
  · rw [h3 rfl]; rfl
theorem e_and {a b : E} {s s' s2 : St} {x y : Bool} (h : evE P R a s = .ok (.val (.bl x)) s') (h2 : x = true → evE P R b s' = .ok (.val (.bl y)) s2) (h3 : x = false → s2 = s') : evE P R (.and a b) s = .ok (.val (.bl (x && y))) s2 := by
  rw [evE, h]
  cases x
  · rw [h3 rfl]; rfl
  · exact h2 rfl
theorem e_cmp {o : Cop} {a b : E} {s s1 s2 : St} {x y : W} {d e : D} {k : Bool} (h1 : evE P R a s = .ok x s1) (h2 : evE P R b s1 = .ok y s2) (p1 : peek s2 x = some d) (p2 : peek s2 y = some e) (h : cmpD o d e = some k) : evE P R (.cmp o a b) s = .ok (.val (.bl k)) s2 := by
  rw [evE, h1]
  show (evE P R b s1).bind _ = _
  rw [h2]
  unfold Out.bind
  dsimp only
  rw [p1, p2]
  dsimp only
  rw [h]
theorem e_blt {b : Blt} {a : E} {s s' : St} {w v : W} {d : D} (h : evE P R a s = .ok w s') (p : peek s' w = some d) (hb : bltD b d = some v) : evE P R (.blt b a) s = .ok v s' := by
  rw [evE, h]
  unfold Out.bind
  dsimp only
  rw [p]
  dsimp only
  rw [hb] <;> rfl
/-! ### calls -/
theorem argBack_plain {c : Fr} {fl : Bool} : ∀ (as : List A) (j : Nat) (s : Fr), (∀ a ∈ as, (∃ ps b, a = .clo ps b) ∨ (∃ d, a = .w (.val d)) ∨ ∃ d, a = .w (.own d)) → argBack [] fl c j as s = some s
  | [], _, s, _ => rfl
  | a :: r, j, s, h => by
    rcases h a List.mem_cons_self with ⟨ps, b, rfl⟩ | ⟨d, rfl⟩ | ⟨d, rfl⟩ <;> exact argBack_plain r (j + 1) s fun a ha => h a (List.mem_cons_of_mem _ ha)
/-- values that nobody keeps -/
def vas (as : List D) : List A := as.map fun d => .w (.val d)
theorem argSlots_vas {s : St} : ∀ (as : List D) (j : Nat), argSlots [] s j (vas as) = some (as.map Slot.val)
  | [], _ => rfl
  | d :: r, j => by
    show (match peek s (.val d) with
      | some d => (argSlots [] s (j + 1) (vas r)).map (Slot.val d :: ·)
      | none => none) = _
    rw [argSlots_vas r (j + 1)]
    rfl
theorem vas_noclo : ∀ as : List D, (vas as).any A.isClo = false
  | [] => rfl
  | d :: r => vas_noclo r
theorem ioPls_nil : ∀ (as : List A) (j : Nat), ioPls [] j as = []
  | [], _ => rfl
  | .clo _ _ :: r, j => ioPls_nil r (j + 1)
  | .w (.val _) :: r, j => ioPls_nil r (j + 1)
  | .w (.own _) :: r, j => ioPls_nil r (j + 1)
  | .w (.pl _) :: r, j => ioPls_nil r (j + 1)
theorem apart_nil (as : List A) : apartOk [] as = true := by
  unfold apartOk
  rw [ioPls_nil]
  simp
/-- a call of a def that changes nothing of ours, on values -/
theorem c_ret {f : Nat} {fd : Fd} {as : List D} {s : St} {w : W} (hf : P.fs[f]? = some fd) (hio : fd.io = []) (hn : as.length = fd.np) (h : (R (.call f (as.map Slot.val) [])).out = okW w) (hw : ∀ i, w ≠ .pl i) : callOf P R f (vas as) s = .ok w s := by
  obtain ⟨c, p, e⟩ := out_w h
  unfold callOf
  rw [hf]
  dsimp only
  rw [vas_noclo, if_neg (by simp)]
  unfold callA
  rw [hio, argSlots_vas]
  dsimp only
  rw [if_pos ⟨by rw [List.length_map]; exact hn, apart_nil _⟩, e]
  cases w with
  | pl i => exact absurd rfl (hw i)
  | val d =>
    dsimp only
    rw [argBack_plain _ _ _ fun a ha => by
      obtain ⟨d, _, rfl⟩ := List.mem_map.mp ha
      exact .inr (.inl ⟨d, rfl⟩)] <;> rfl
  | own d =>
    dsimp only
    rw [argBack_plain _ _ _ fun a ha => by
      obtain ⟨d, _, rfl⟩ := List.mem_map.mp ha
      exact .inr (.inl ⟨d, rfl⟩)] <;> rfl
theorem c_exc {f : Nat} {fd : Fd} {as : List D} {s : St} {x : X} (hf : P.fs[f]? = some fd) (hio : fd.io = []) (hn : as.length = fd.np) (h : (R (.call f (as.map Slot.val) [])).out = exW x) (hx : D.flats x.as = true) : callOf P R f (vas as) s = .exc x s := by
  obtain ⟨c, p, e⟩ := out_x h
  unfold callOf
  rw [hf]
  dsimp only
  rw [vas_noclo, if_neg (by simp)]
  unfold callA
  rw [hio, argSlots_vas]
  dsimp only
  rw [if_pos ⟨by rw [List.length_map]; exact hn, apart_nil _⟩, e]
  dsimp only
  rw [if_pos hx, argBack_plain _ _ _ fun a ha => by
      obtain ⟨d, _, rfl⟩ := List.mem_map.mp ha
      exact .inr (.inl ⟨d, rfl⟩)] <;> rfl
theorem e_call {f : Nat} {es : List E} {fd : Fd} {as : List D} {s s' : St} {w : W} (ha : evAs P R es s = .ok (vas as) s') (hf : P.fs[f]? = some fd) (hio : fd.io = []) (hn : as.length = fd.np) (h : (R (.call f (as.map Slot.val) [])).out = okW w) (hw : ∀ i, w ≠ .pl i) : evE P R (.call f es) s = .ok w s' := by
  rw [evE, ha]
  exact c_ret hf hio hn h hw
theorem e_callX {f : Nat} {es : List E} {fd : Fd} {as : List D} {s s' : St} {x : X} (ha : evAs P R es s = .ok (vas as) s') (hf : P.fs[f]? = some fd) (hio : fd.io = []) (hn : as.length = fd.np) (h : (R (.call f (as.map Slot.val) [])).out = exW x) (hx : D.flats x.as = true) : evE P R (.call f es) s = .exc x s' := by
  rw [evE, ha]
  exact c_exc hf hio hn h hx
/-- a def's body -/
theorem run_rt {n f : Nat} {fd : Fd} {sl : List Slot} {p : Fr} {w : W} {s : St} (hf : P.fs[f]? = some fd) (h : evSs P (run P n) fd.body ⟨sl ++ List.replicate (fd.ns - fd.np) .un, p⟩ = .ok (.rt w) s) : run P (n + 1) (.call f sl p) = .ret w s.c s.p := by
  rw [run, hf]
  dsimp only
  rw [h]
theorem run_nx {n f : Nat} {fd : Fd} {sl : List Slot} {p : Fr} {s : St} (hf : P.fs[f]? = some fd) (h : evSs P (run P n) fd.body ⟨sl ++ List.replicate (fd.ns - fd.np) .un, p⟩ = .ok .nx s) : run P (n + 1) (.call f sl p) = .ret (.val .non) s.c s.p := by
  rw [run, hf]
  dsimp only
  rw [h]
theorem run_x {n f : Nat} {fd : Fd} {sl : List Slot} {p : Fr} {x : X} {s : St} (hf : P.fs[f]? = some fd) (h : evSs P (run P n) fd.body ⟨sl ++ List.replicate (fd.ns - fd.np) .un, p⟩ = .exc x s) : run P (n + 1) (.call f sl p) = .exc x s.c s.p := by
  rw [run, hf]
  dsimp only
  rw [h]
/-! ### blocks -/
theorem wipe_lenP (c : Fr) : ∀ own : List Nat, (wipe c own).length = c.length
  | [] => rfl
  | i :: r => by rw [wipe, List.length_set, wipe_lenP c r]
theorem wipe_outP {c : Fr} {j : Nat} : ∀ {own : List Nat}, j ∉ own → (wipe c own)[j]? = c[j]?
  | [], _ => rfl
  | i :: r, h => by
    rw [List.mem_cons, not_or] at h
    rw [wipe, List.getElem?_set_ne (Ne.symm h.1), wipe_outP h.2]
theorem wipe_inP {c : Fr} {j : Nat} (hj : j < c.length) : ∀ {own : List Nat}, j ∈ own → (wipe c own)[j]? = some .un
  | i :: r, h => by
    rw [wipe]
    by_cases e : i = j
    · subst e
      rw [List.getElem?_set_self (by rw [wipe_lenP]; exact hj)]
    · rw [List.getElem?_set_ne e]
      rcases List.mem_cons.mp h with h | h
      · exact absurd h.symm e
      · exact wipe_inP hj h
theorem wipe_wipe (c : Fr) (own : List Nat) : wipe (wipe c own) own = wipe c own := by
  refine List.ext_getElem? fun j => ?_
  by_cases h : j ∈ own
  · by_cases hj : j < c.length
    · rw [wipe_inP (by rw [wipe_lenP]; exact hj) h, wipe_inP hj h]
    · rw [List.getElem?_eq_none (by rw [wipe_lenP, wipe_lenP]; omega), List.getElem?_eq_none (by rw [wipe_lenP]; omega)]
  · rw [wipe_outP h]
theorem back_lenP (c0 c : Fr) : ∀ own : List Nat, (back c0 c own).length = c.length
  | [] => rfl
  | i :: r => by rw [back, List.length_set, back_lenP c0 c r]
theorem back_at {c0 c : Fr} {j : Nat} (hj : j < c.length) : ∀ {own : List Nat}, (back c0 c own)[j]? = if j ∈ own then some ((c0[j]?).getD .un) else c[j]?
  | [] => by rw [back, if_neg (by simp)]
  | i :: r => by
    rw [back]
    by_cases e : i = j
    · subst e
      rw [List.getElem?_set_self (by rw [back_lenP]; exact hj), if_pos List.mem_cons_self]
    · rw [List.getElem?_set_ne e, back_at hj]
      by_cases h : j ∈ r
      · rw [if_pos h, if_pos (List.mem_cons_of_mem _ h)]
      · rw [if_neg h, if_neg (by rw [List.mem_cons, not_or]; exact ⟨Ne.symm e, h⟩)]
theorem back_eq {c0 c : Fr} {own : List Nat} (h : wipe c own = wipe c0 own) : back c0 c own = c0 := by
  have hl : c.length = c0.length := by rw [← wipe_lenP c own, h, wipe_lenP]
  refine List.ext_getElem? fun j => ?_
  by_cases hj : j < c.length
  · rw [back_at hj]
    by_cases k : j ∈ own
    · rw [if_pos k, List.getElem?_eq_getElem (by omega)]
      rfl
    · rw [if_neg k, ← wipe_outP k, h, wipe_outP k]
  · rw [List.getElem?_eq_none (by rw [back_lenP]; omega), List.getElem?_eq_none (by omega)]
/-- a frame's owned names wiped: the same -/
def Like (own : List Nat) (c0 p : Fr) (s : St) : Prop := wipe s.c own = wipe c0 own ∧ s.p = p
theorem lc_go {own : List Nat} {c0 p : Fr} {t : T} {test : St → Out Bool} {elt : St → Out D} {g : St → Bool} (f : D → D) (keep : D → Bool) (hg : ∀ s, Like own c0 p s → g s = true) : ∀ (xs acc : List D) (s : St),
    (∀ x ∈ xs, ∃ s1 s2, stT t x ⟨wipe c0 own, p⟩ = some s1 ∧ test s1 = .ok (keep x) s2 ∧ Like own c0 p s2 ∧ (keep x = true → ∃ s3, elt s2 = .ok (f x) s3 ∧ Like own c0 p s3)) → acc.length + xs.length ≤ line → Like own c0 p s →
    ∃ s', lcGo own g t test elt xs acc s = .ok (acc ++ (xs.filter keep).map f) s' ∧ Like own c0 p s'
  | [], acc, s, _, _, hs => ⟨s, by rw [lcGo, if_pos (hg s hs)]; simp, hs⟩
  | x :: xs, acc, s, h, hl, hs => by
    obtain ⟨s1, s2, h1, h2, h3, h4⟩ := h x List.mem_cons_self
    have e : s.wipe own = ⟨wipe c0 own, p⟩ := by
      unfold St.wipe
      rw [hs.1, hs.2]
    rw [lcGo, if_pos (hg s hs), e, h1]
    dsimp only
    rw [h2]
    unfold Out.bind
    dsimp only
    rw [List.length_cons] at hl
    cases hk : keep x with
    | false =>
      rw [if_neg (by simp)]
      obtain ⟨s', r1, r2⟩ := lc_go f keep hg xs acc s2 (fun y hy => h y (List.mem_cons_of_mem _ hy)) (by omega) h3
      exact ⟨s', by rw [r1, List.filter_cons, hk]; rfl, r2⟩
    | true =>
      rw [if_pos rfl]
      obtain ⟨s3, h5, h6⟩ := h4 hk
      rw [h5]
      dsimp only
      rw [if_pos (by omega)]
      obtain ⟨s', r1, r2⟩ := lc_go f keep hg xs (acc ++ [f x]) s3 (fun y hy => h y (List.mem_cons_of_mem _ hy)) (by rw [List.length_append, List.length_singleton]; omega) h6
      exact ⟨s', by rw [r1, List.filter_cons, hk]; simp, r2⟩
theorem evSrc_val {src : E} {own : List Nat} {d : D} {s : St} : evSrc src own (.val d) s = .ok (d, none) s := by
  cases src <;> rfl
theorem evSrc_own {src : E} {own : List Nat} {d : D} {s : St} : evSrc src own (.own d) s = .ok (d, none) s := by
  cases src <;> rfl
/-- a comprehension over what nobody keeps -/
theorem e_lc {elt : E} {t : T} {src : E} {c : E} {own : List Nat} {s s0 : St} {w : W} {d : D} {xs : List D} (f : D → D) (keep : D → Bool) (hsrc : evE P R src s = .ok w s0) (hw : w = .val d ∨ w = .own d) (hi : items d = some xs) (hl : xs.length ≤ line)
    (h : ∀ x ∈ xs, ∃ s1 s2, stT t x ⟨wipe s0.c own, s0.p⟩ = some s1 ∧ evE P R c s1 = .ok (.val (.bl (keep x))) s2 ∧ Like own s0.c s0.p s2 ∧ (keep x = true → ∃ s3 s4 w, evE P R elt s2 = .ok w s3 ∧ take s3 w = .ok (f x) s4 ∧ Like own s0.c s0.p s4)) :
    evE P R (.lc elt t src c own) s = .ok (.own (.lst ((xs.filter keep).map f))) s0 := by
  rw [evE, hsrc]
  have e1 : evSrc src own w s0 = .ok (d, none) s0 := by
    rcases hw with rfl | rfl
    · exact evSrc_val
    · exact evSrc_own
  show (evSrc src own w s0).bind _ = _
  rw [e1]
  show (match items d with
    | some xs => blk own s0 fun s => (lcGo own (still none d) t (fun s => (evE P R c s).bind boolOf) (fun s => (evE P R elt s).bind fun w s => take s w) xs [] s).bind fun ys s => Out.ok (W.own (.lst ys)) s
    | none => .stk "lc items") = _
  rw [hi]
  dsimp only
  unfold blk
  obtain ⟨s', r1, r2, r3⟩ := lc_go (own := own) (c0 := s0.c) (p := s0.p) (t := t) (test := fun s => (evE P R c s).bind boolOf) (elt := fun s => (evE P R elt s).bind fun w s => take s w) (g := still none d) f keep (fun _ _ => rfl) xs [] ⟨wipe s0.c own, s0.p⟩ (fun x hx => by
    obtain ⟨s1, s2, a1, a2, a3, a4⟩ := h x hx
    refine ⟨s1, s2, a1, by rw [a2]; rfl, a3, fun k => ?_⟩
    obtain ⟨s3, s4, w, b1, b2, b3⟩ := a4 k
    exact ⟨s4, by rw [b1]; exact b2, b3⟩) (by simpa using hl) ⟨wipe_wipe _ _, rfl⟩
  dsimp only
  rw [r1]
  show Out.ok _ ⟨back s0.c s'.c own, s'.p⟩ = _
  rw [back_eq r2, r3]
  simp
end
end Mid
set_option Elab.async false
set_option linter.all false
set_option maxRecDepth 100000
set_option maxHeartbeats 1000000
/-! .. expressions that change nothing. -/
namespace Mid
section
variable {P : Pg} {R : Run}
/-- e stands for d, nothing changed -/
def EV (P : Pg) (R : Run) (e : E) (s : St) (d : D) : Prop := ∃ w, evE P R e s = .ok w s ∧ peek s w = some d
def VV (P : Pg) (R : Run) (e : E) (s : St) (d : D) : Prop := evE P R e s = .ok (.val d) s
def OV (P : Pg) (R : Run) (e : E) (s : St) (d : D) : Prop := evE P R e s = .ok (.own d) s
variable {s : St} {a b c : E} {d e r : D}
theorem VV.ev (h : VV P R a s d) : EV P R a s d := ⟨_, h, rfl⟩
theorem OV.ev (h : OV P R a s d) : EV P R a s d := ⟨_, h, rfl⟩
theorem v_cst : VV P R (.cst d) s d := by rw [VV, evE]
theorem v_fnv {f : Nat} : VV P R (.fnv f) s (.fn f) := by rw [VV, evE]
theorem v_glo {g : Nat} (h : P.gs[g]? = some d) : VV P R (.glo g) s d := by rw [VV, evE, h]
theorem v_var {i : Nat} (h : slotAt s i = .val d) : VV P R (.var i) s d := by rw [VV, evE, h]
theorem o_var {i : Nat} (h : slotAt s i = .own d) : EV P R (.var i) s d := ⟨.pl i, by rw [evE, h], by
  show (match slotAt s i with
    | .own d => some d
    | .val d => some d
    | _ => none) = some d
  rw [h]⟩
theorem x_bin {o : Bop} {w : W} (h1 : EV P R a s d) (h2 : EV P R b s e) (h : binD o d e = some w) : evE P R (.bin o a b) s = .ok w s := by
  obtain ⟨w1, a1, b1⟩ := h1
  obtain ⟨w2, a2, b2⟩ := h2
  rw [evE, a1]
  show (evE P R b s).bind _ = _
  rw [a2]
  show (match peek s w1, peek s w2 with
    | some d, some e => Out.opt s "bin" (binD o d e)
    | _, _ => .stk "bin") = _
  rw [b1, b2]
  show Out.opt s "bin" (binD o d e) = _
  rw [h]
  rfl
theorem v_bin {o : Bop} (h1 : EV P R a s d) (h2 : EV P R b s e) (h : binD o d e = some (.val r)) : VV P R (.bin o a b) s r := x_bin h1 h2 h
theorem o_bin {o : Bop} (h1 : EV P R a s d) (h2 : EV P R b s e) (h : binD o d e = some (.own r)) : OV P R (.bin o a b) s r := x_bin h1 h2 h
theorem v_ix (h1 : EV P R a s d) (h2 : EV P R b s e) (h : ixD d e = some r) : VV P R (.ix a b) s r := by
  obtain ⟨w1, a1, b1⟩ := h1
  obtain ⟨w2, a2, b2⟩ := h2
  rw [VV, evE, a1]
  show (evE P R b s).bind _ = _
  rw [a2]
  show (match peek s w1, peek s w2 with
    | some d, some e => match ixD d e with
      | some v => Out.ok (W.val v) s
      | none => .stk "ix"
    | _, _ => .stk "ix") = _
  rw [b1, b2]
  dsimp only
  rw [h]
theorem v_cmp {o : Cop} {k : Bool} (h1 : EV P R a s d) (h2 : EV P R b s e) (h : cmpD o d e = some k) : VV P R (.cmp o a b) s (.bl k) := by
  obtain ⟨w1, a1, b1⟩ := h1
  obtain ⟨w2, a2, b2⟩ := h2
  exact e_cmp a1 a2 b1 b2 h
theorem v_chain {o p : Cop} {f : D} {k m : Bool} (h1 : EV P R a s d) (h2 : EV P R b s e) (h3 : EV P R c s f) (h : cmpD o d e = some k) (h' : cmpD p e f = some m) : VV P R (.chain o p a b c) s (.bl (k && m)) := by
  obtain ⟨w1, a1, b1⟩ := h1
  obtain ⟨w2, a2, b2⟩ := h2
  obtain ⟨w3, a3, b3⟩ := h3
  rw [VV, evE, a1]
  show (evE P R b s).bind _ = _
  rw [a2]
  unfold Out.bind
  dsimp only
  rw [b1, b2]
  dsimp only
  rw [h]
  cases k with
  | false => rfl
  | true =>
    dsimp only
    rw [a3]
    dsimp only
    rw [b2, b3]
    dsimp only
    rw [h'] <;> rfl
theorem v_not {k : Bool} (h : EV P R a s (.bl k)) : VV P R (.not a) s (.bl (!k)) := by
  obtain ⟨w1, a1, b1⟩ := h
  rw [VV, evE, a1]
  unfold Out.bind boolOf
  dsimp only
  rw [b1]
theorem v_or {x y : Bool} (h : EV P R a s (.bl x)) (h2 : x = false → VV P R b s (.bl y)) : VV P R (.or a b) s (.bl (x || y)) := by
  obtain ⟨w1, a1, b1⟩ := h
  rw [VV, evE, a1]
  unfold Out.bind boolOf
  dsimp only
  rw [b1]
  cases x with
  | true => rfl
  | false => exact h2 rfl
theorem v_and {x y : Bool} (h : EV P R a s (.bl x)) (h2 : x = true → VV P R b s (.bl y)) : VV P R (.and a b) s (.bl (x && y)) := by
  obtain ⟨w1, a1, b1⟩ := h
  rw [VV, evE, a1]
  unfold Out.bind boolOf
  dsimp only
  rw [b1]
  cases x with
  | false => rfl
  | true => exact h2 rfl
theorem v_isi {t : Ty} {k : Bool} (h : EV P R a s d) (hk : isTyO t d = some k) : VV P R (.isi a t) s (.bl k) := by
  obtain ⟨w1, a1, b1⟩ := h
  rw [VV, evE, a1]
  unfold Out.bind
  dsimp only
  rw [b1]
  dsimp only
  rw [hk]
theorem v_blt {f : Blt} (h : EV P R a s d) (hb : bltD f d = some (.val r)) : VV P R (.blt f a) s r := by
  obtain ⟨w1, a1, b1⟩ := h
  exact e_blt a1 b1 hb
theorem o_blt {f : Blt} (h : EV P R a s d) (hb : bltD f d = some (.own r)) : OV P R (.blt f a) s r := by
  obtain ⟨w1, a1, b1⟩ := h
  exact e_blt a1 b1 hb
theorem part_int {t : E} {i : Int} (h : VV P R t s (.int i)) : partV t (evE P R t s) = .ok (.int i) s := by
  rw [VV] at h
  rw [h]
  cases t with
  | cst d =>
    rw [evE] at h
    cases h
    rfl
  | _ => rfl
theorem part_non : partV (.cst .non) (evE P R (.cst .non) s) = .ok .non s := by
  rw [evE]
  rfl
theorem x_slc {lo hi st : E} {x y z : D} {w : W} (h : EV P R a s d) (h1 : partV lo (evE P R lo s) = .ok x s) (h2 : partV hi (evE P R hi s) = .ok y s) (h3 : partV st (evE P R st s) = .ok z s) (hd : slcD d x y z = some w) : evE P R (.slc a lo hi st) s = .ok w s := by
  obtain ⟨w1, a1, b1⟩ := h
  rw [evE, a1]
  unfold Out.bind
  dsimp only
  rw [h1]
  dsimp only
  rw [h2]
  dsimp only
  rw [h3]
  dsimp only
  rw [b1]
  dsimp only
  rw [hd]
  rfl
/-- several, each a value -/
inductive VVs (P : Pg) (R : Run) (s : St) : List E → List D → Prop
  | nil : VVs P R s [] []
  | cons {e : E} {es : List E} {d : D} {ds : List D} : VV P R e s d ∨ OV P R e s d → VVs P R s es ds → VVs P R s (e :: es) (d :: ds)
theorem VVs.ts : ∀ {es : List E} {ds : List D}, VVs P R s es ds → evTs P R es s = .ok ds s
  | _, _, .nil => by rw [evTs]
  | _, _, .cons h r => by
    rw [evTs]
    rcases h with h | h
    · rw [VV] at h
      rw [h]
      show (evTs P R _ s).bind _ = _
      rw [r.ts]
      rfl
    · rw [OV] at h
      rw [h]
      show (evTs P R _ s).bind _ = _
      rw [r.ts]
      rfl
theorem v_tup {es : List E} {ds : List D} (h : VVs P R s es ds) : VV P R (.tup es) s (.tup ds) := by
  rw [VV, evE, h.ts]
  rfl
theorem o_lst {es : List E} {ds : List D} (h : VVs P R s es ds) : OV P R (.lst es) s (.lst ds) := by
  rw [OV, evE, h.ts]
  rfl
/-- arguments -/
def noCloP : E → Bool
  | .clo _ _ => false
  | _ => true
theorem evAs_consP {e : E} {es : List E} (h : noCloP e = true) : evAs P R (e :: es) s = (evE P R e s).bind fun w s => (evAs P R es s).bind fun as s => .ok (.w w :: as) s := by
  cases e <;> first | rfl | cases h
inductive VAs (P : Pg) (R : Run) (s : St) : List E → List A → Prop
  | nil : VAs P R s [] []
  | cons {e : E} {es : List E} {w : W} {as : List A} : noCloP e = true → evE P R e s = .ok w s → VAs P R s es as → VAs P R s (e :: es) (.w w :: as)
theorem VAs.as : ∀ {es : List E} {as : List A}, VAs P R s es as → evAs P R es s = .ok as s
  | _, _, .nil => by rw [evAs]
  | _, _, .cons hn h r => by
    rw [evAs_consP hn, h]
    show (evAs P R _ s).bind _ = _
    rw [r.as]
    rfl
/-- what is handed over, by value -/
def Peeks (s : St) : List A → List D → Prop
  | [], [] => True
  | .w w :: r, d :: ds => peek s w = some d ∧ Peeks s r ds
  | _, _ => False
theorem slots_peeks : ∀ {as : List A} {ds : List D} {j : Nat}, Peeks s as ds → argSlots [] s j as = some (ds.map Slot.val) ∧ as.any A.isClo = false
  | [], [], _, _ => ⟨rfl, rfl⟩
  | .w w :: r, d :: ds, j, h => by
    obtain ⟨h1, h2⟩ := h
    obtain ⟨i1, i2⟩ := slots_peeks (j := j + 1) h2
    refine ⟨?_, i2⟩
    show (match peek s w with
      | some d => (argSlots [] s (j + 1) r).map (Slot.val d :: ·)
      | none => none) = _
    rw [h1, i1]
    rfl
  | [], _ :: _, _, h => h.elim
  | .w _ :: _, [], _, h => h.elim
  | .clo _ _ :: _, _, _, h => h.elim
theorem back_flat {c : Fr} : ∀ (as : List A) (j : Nat) (s : Fr), argBack [] true c j as s = some s
  | [], _, _ => rfl
  | .clo _ _ :: r, j, s => back_flat r (j + 1) s
  | .w (.val _) :: r, j, s => back_flat r (j + 1) s
  | .w (.own _) :: r, j, s => back_flat r (j + 1) s
  | .w (.pl _) :: r, j, s => back_flat r (j + 1) s
/-- a call of a def that changes nothing of ours and hands back a flat thing -/
theorem x_call {f : Nat} {es : List E} {fd : Fd} {as : List A} {ds : List D} {w : W} (ha : VAs P R s es as) (hp : Peeks s as ds) (hf : P.fs[f]? = some fd) (hio : fd.io = []) (hn : ds.length = fd.np) (h : (R (.call f (ds.map Slot.val) [])).out = okW w) (hw : wFlat w = true) : evE P R (.call f es) s = .ok w s := by
  obtain ⟨c, p, e⟩ := out_w h
  obtain ⟨i1, i2⟩ := slots_peeks (j := 0) hp
  rw [evE, ha.as]
  unfold Out.bind callOf
  dsimp only
  rw [hf]
  dsimp only
  rw [i2, if_neg (by simp)]
  unfold callA
  rw [hio, i1]
  dsimp only
  rw [if_pos ⟨by rw [List.length_map]; exact hn, apart_nil _⟩, e]
  cases w with
  | pl i => cases hw
  | val d =>
    dsimp only
    rw [hw]
    show (match argBack [] true c 0 as s.c with
      | some c' => Out.ok (W.val d) ⟨c', s.p⟩
      | none => .stk "back") = _
    rw [back_flat] <;> rfl
  | own d =>
    dsimp only
    rw [hw]
    show (match argBack [] true c 0 as s.c with
      | some c' => Out.ok (W.own d) ⟨c', s.p⟩
      | none => .stk "back") = _
    rw [back_flat] <;> rfl
theorem x_callX {f : Nat} {es : List E} {fd : Fd} {as : List A} {ds : List D} {x : X} (ha : VAs P R s es as) (hp : Peeks s as ds) (hf : P.fs[f]? = some fd) (hio : fd.io = []) (hn : ds.length = fd.np) (h : (R (.call f (ds.map Slot.val) [])).out = exW x) (hx : D.flats x.as = true) : evE P R (.call f es) s = .exc x s := by
  obtain ⟨c, p, e⟩ := out_x h
  obtain ⟨i1, i2⟩ := slots_peeks (j := 0) hp
  rw [evE, ha.as]
  unfold Out.bind callOf
  dsimp only
  rw [hf]
  dsimp only
  rw [i2, if_neg (by simp)]
  unfold callA
  rw [hio, i1]
  dsimp only
  rw [if_pos ⟨by rw [List.length_map]; exact hn, apart_nil _⟩, e]
  dsimp only
  rw [if_pos hx]
  show (match argBack [] true c 0 as s.c with
      | some c' => Out.exc x ⟨c', s.p⟩
      | none => .stk "back") = _
  rw [back_flat]
theorem run_out_rt {n f : Nat} {fd : Fd} {sl : List Slot} {p : Fr} {w : W} {s : St} (hf : P.fs[f]? = some fd) (h : evSs P (run P n) fd.body ⟨sl ++ List.replicate (fd.ns - fd.np) .un, p⟩ = .ok (.rt w) s) : (run P (n + 1) (.call f sl p)).out = okW w := by
  rw [run_rt hf h]; rfl
theorem run_out_nx {n f : Nat} {fd : Fd} {sl : List Slot} {p : Fr} {s : St} (hf : P.fs[f]? = some fd) (h : evSs P (run P n) fd.body ⟨sl ++ List.replicate (fd.ns - fd.np) .un, p⟩ = .ok .nx s) : (run P (n + 1) (.call f sl p)).out = okD .non := by
  rw [run_nx hf h]; rfl
theorem run_out_x {n f : Nat} {fd : Fd} {sl : List Slot} {p : Fr} {x : X} {s : St} (hf : P.fs[f]? = some fd) (h : evSs P (run P n) fd.body ⟨sl ++ List.replicate (fd.ns - fd.np) .un, p⟩ = .exc x s) : (run P (n + 1) (.call f sl p)).out = exW x := by
  rw [run_x hf h]; rfl
end
end Mid
set_option Elab.async false
set_option linter.all false
set_option maxRecDepth 100000
set_option maxHeartbeats 1000000
/-! .. calls that change what is ours, loops with an invariant. -/
namespace Mid
section
variable {P : Pg} {R : Run}
theorem x_callG {f : Nat} {es : List E} {fd : Fd} {as : List A} {sl : List Slot} {w : W} {s : St} {c p c' : Fr} (ha : evAs P R es s = .ok as s) (hcl : as.any A.isClo = false) (hf : P.fs[f]? = some fd) (hsl : argSlots fd.io s 0 as = some sl) (hn : sl.length = fd.np) (hap : apartOk fd.io as = true) (hr : R (.call f sl []) = .ret w c p) (hw : ∀ i, w ≠ .pl i)
    (hb : argBack fd.io (wFlat w && fd.io.isEmpty) c 0 as s.c = some c') : evE P R (.call f es) s = .ok w ⟨c', s.p⟩ := by
  rw [evE, ha]
  unfold Out.bind callOf
  dsimp only
  rw [hf]
  dsimp only
  rw [hcl, if_neg (by simp)]
  unfold callA
  rw [hsl]
  dsimp only
  rw [if_pos ⟨hn, hap⟩, hr]
  cases w with
  | pl i => exact absurd rfl (hw i)
  | val d =>
    dsimp only
    rw [hb]
  | own d =>
    dsimp only
    rw [hb]
inductive All2 (Q : D → D → Prop) : List D → List D → Prop
  | nil : All2 Q [] []
  | cons {x y : D} {xs ys : List D} : Q x y → All2 Q xs ys → All2 Q (x :: xs) (y :: ys)
theorem All2.length {Q : D → D → Prop} : ∀ {xs ys : List D}, All2 Q xs ys → ys.length = xs.length
  | _, _, .nil => rfl
  | _, _, .cons _ r => by rw [List.length_cons, List.length_cons, r.length]
theorem lc_inv {own : List Nat} {t : T} {test : St → Out Bool} {elt : St → Out D} {g : St → Bool} (J : St → Prop) (Q : D → D → Prop) (hg : ∀ s, J s → g s = true) : ∀ (xs acc : List D) (s : St),
    (∀ x ∈ xs, ∀ s, J s → ∃ s1 s2 y s3, stT t x (s.wipe own) = some s1 ∧ test s1 = .ok true s2 ∧ elt s2 = .ok y s3 ∧ Q x y ∧ J s3) → acc.length + xs.length ≤ line → J s →
    ∃ ys s', lcGo own g t test elt xs acc s = .ok (acc ++ ys) s' ∧ All2 Q xs ys ∧ J s'
  | [], acc, s, _, _, hs => ⟨[], s, by rw [lcGo, if_pos (hg s hs)]; simp, .nil, hs⟩
  | x :: xs, acc, s, h, hl, hs => by
    obtain ⟨s1, s2, y, s3, h1, h2, h3, h4, h5⟩ := h x List.mem_cons_self s hs
    rw [List.length_cons] at hl
    obtain ⟨ys, s', r1, r2, r3⟩ := lc_inv J Q hg xs (acc ++ [y]) s3 (fun z hz => h z (List.mem_cons_of_mem _ hz)) (by rw [List.length_append, List.length_singleton]; omega) h5
    refine ⟨y :: ys, s', ?_, .cons h4 r2, r3⟩
    rw [lcGo, if_pos (hg s hs), h1]
    dsimp only
    rw [h2]
    unfold Out.bind
    dsimp only
    rw [if_pos rfl, h3]
    dsimp only
    rw [if_pos (by omega), r1]
    simp
/-- a comprehension whose turns change things: I says what holds between the turns (own names wiped) -/
theorem e_lcI {elt : E} {t : T} {src : E} {c : E} {own : List Nat} {s s0 : St} {w : W} {d : D} {xs : List D} (J : St → Prop) (Q : D → D → Prop) (hsrc : evE P R src s = .ok w s0) (hw : w = .val d ∨ w = .own d) (hi : items d = some xs) (hl : xs.length ≤ line)
    (h0 : J ⟨wipe s0.c own, s0.p⟩) (h : ∀ x ∈ xs, ∀ s, J s → ∃ s1 s2 y s3 s4 w, stT t x (s.wipe own) = some s1 ∧ evE P R c s1 = .ok (.val (.bl true)) s2 ∧ evE P R elt s2 = .ok w s3 ∧ take s3 w = .ok y s4 ∧ Q x y ∧ J s4) :
    ∃ ys s', evE P R (.lc elt t src c own) s = .ok (.own (.lst ys)) ⟨back s0.c s'.c own, s'.p⟩ ∧ All2 Q xs ys ∧ J s' := by
  have e1 : evSrc src own w s0 = .ok (d, none) s0 := by
    rcases hw with rfl | rfl
    · exact evSrc_val
    · exact evSrc_own
  obtain ⟨ys, s', r1, r2, r3⟩ := lc_inv (own := own) (t := t) (test := fun s => (evE P R c s).bind boolOf) (elt := fun s => (evE P R elt s).bind fun w s => take s w) (g := still none d) J Q (fun _ _ => rfl) xs [] ⟨wipe s0.c own, s0.p⟩ (fun x hx s hs => by
    obtain ⟨s1, s2, y, s3, s4, w, a1, a2, a3, a4, a5, a6⟩ := h x hx s hs
    exact ⟨s1, s2, y, s4, a1, by rw [a2]; rfl, by rw [a3]; exact a4, a5, a6⟩) (by simpa using hl) h0
  refine ⟨ys, s', ?_, r2, r3⟩
  rw [evE, hsrc]
  show (evSrc src own w s0).bind _ = _
  rw [e1]
  show (match items d with
    | some xs => blk own s0 fun s => (lcGo own (still none d) t (fun s => (evE P R c s).bind boolOf) (fun s => (evE P R elt s).bind fun w s => take s w) xs [] s).bind fun ys s => Out.ok (W.own (.lst ys)) s
    | none => .stk "lc items") = _
  rw [hi]
  dsimp only
  unfold blk
  dsimp only
  rw [r1]
  rfl
theorem for_inv {t : T} {body : St → Out Fl} {g : St → Bool} {N : Nat} (J : Nat → St → Prop) (hg : ∀ n s, J n s → g s = true) : ∀ (xs : List D) (n : Nat) (s : St),
    (∀ x ∈ xs, ∀ n s, n < N → J n s → ∃ s1 s2 f, stT t x s = some s1 ∧ body s1 = .ok f s2 ∧ (f = .nx ∨ f = .ct) ∧ J (n + 1) s2) → n + xs.length ≤ N → J n s →
    ∃ s', forGo g t body xs s = .ok .nx s' ∧ J (n + xs.length) s'
  | [], n, s, _, _, hs => ⟨s, by rw [forGo, if_pos (hg n s hs)], hs⟩
  | x :: xs, n, s, h, hN, hs => by
    rw [List.length_cons] at hN
    obtain ⟨s1, s2, f, h1, h2, h3, h4⟩ := h x List.mem_cons_self n s (by omega) hs
    obtain ⟨s', r1, r2⟩ := for_inv J hg xs (n + 1) s2 (fun z hz => h z (List.mem_cons_of_mem _ hz)) (by omega) h4
    refine ⟨s', ?_, by rw [List.length_cons, Nat.add_comm xs.length 1, ← Nat.add_assoc]; exact r2⟩
    rw [forGo, if_pos (hg n s hs), h1]
    dsimp only
    rw [h2]
    unfold Out.bind
    dsimp only
    rcases h3 with rfl | rfl <;> exact r1
theorem s_app {i : Nat} {e : E} {s s' : St} {xs0 xs : List D} {d : D} (h0 : slotAt s i = .own (.lst xs0)) (h1 : evE P R e s = .ok (.val d) s') (h2 : slotAt s' i = .own (.lst xs)) (hl : xs.length < line) : evS P R (.app i e) s = .ok .nx (s'.set i (.own (.lst (xs ++ [d])))) := by
  rw [evS, h0]
  dsimp only
  rw [h1]
  show (match slotAt s' i with
      | .own (.lst xs) => if xs.length < line then Out.ok Fl.nx (s'.set i (.own (.lst (xs ++ [d])))) else .stk "app line"
      | _ => .stk "app") = _
  rw [h2]
  dsimp only
  rw [if_pos hl]
theorem s_for {t : T} {src : E} {b : List S} {s s0 : St} {w : W} {d : D} {xs : List D} (hsrc : evE P R src s = .ok w s0) (hw : w = .val d ∨ w = .own d) (hi : items d = some xs) : evS P R (.for_ t src b) s = forGo (still none d) t (fun s => evSs P R b s) xs s0 := by
  have e1 : evSrc src [] w s0 = .ok (d, none) s0 := by
    rcases hw with rfl | rfl
    · exact evSrc_val
    · exact evSrc_own
  rw [evS, hsrc]
  show (evSrc src [] w s0).bind _ = _
  rw [e1]
  show (match items d with
    | some xs => forGo (still none d) t (fun s => evSs P R b s) xs s0
    | none => .stk "for") = _
  rw [hi]
end
end Mid
set_option Elab.async false
set_option linter.all false
set_option maxRecDepth 100000
set_option maxHeartbeats 1000000
/-! .. functions by value, errors raised, dict comprehensions. -/
namespace Mid
section
variable {P : Pg} {R : Run}
theorem x_callv {i f : Nat} {es : List E} {s : St} (h : slotAt s i = .val (.fn f)) (hf : (P.fs[f]?).isSome = true) : evE P R (.callv i es) s = evE P R (.call f es) s := by
  have e2 : evE P R (.call f es) s = (evAs P R es s).bind fun as s => callOf P R f as s := by rw [evE]
  rw [e2, evE, h]
  dsimp only
  rw [if_pos hf]
theorem s_raise {c : Nat} {es : List E} {ds : List D} {s : St} (h : VVs P R s es ds) : evS P R (.raise c es) s = .exc ⟨c, ds⟩ s := by
  rw [evS, h.ts]
  rfl
theorem s_ifX {c : E} {a b : List S} {s s' : St} {x : X} (h : evE P R c s = .ok (.val (.bl true)) s') (h2 : evSs P R a s' = .exc x s') : evS P R (.ite c a b) s = .exc x s' := by rw [s_ifT h, h2]
theorem dc_go {own : List Nat} {c0 p : Fr} {t : T} {test : St → Out Bool} {elt : St → Out (D × D)} {g : St → Bool} (f : D → D × D) (hg : ∀ s, Like own c0 p s → g s = true) : ∀ (xs : List D) (acc : List (D × D)) (s : St),
    (∀ x ∈ xs, keyOk (f x).1 = true ∧ ∃ s1 s2 s3, stT t x ⟨wipe c0 own, p⟩ = some s1 ∧ test s1 = .ok true s2 ∧ elt s2 = .ok (f x) s3 ∧ Like own c0 p s3) → acc.length + xs.length ≤ line → Like own c0 p s →
    ∃ s', dcGo own g t test elt xs acc s = .ok (xs.foldl (fun m x => put (f x).1 (f x).2 m) acc) s' ∧ Like own c0 p s'
  | [], acc, s, _, _, hs => ⟨s, by rw [dcGo, if_pos (hg s hs)]; rfl, hs⟩
  | x :: xs, acc, s, h, hl, hs => by
    obtain ⟨hk, s1, s2, s3, h1, h2, h3, h4⟩ := h x List.mem_cons_self
    have e : s.wipe own = ⟨wipe c0 own, p⟩ := by
      unfold St.wipe
      rw [hs.1, hs.2]
    rw [List.length_cons] at hl
    have put_len : ∀ (k v : D) (m : List (D × D)), (put k v m).length ≤ m.length + 1 := by
      intro k v m
      induction m with
      | nil => simp [put]
      | cons q r ih =>
        unfold put
        split
        · simp
        · rw [List.length_cons, List.length_cons]
          omega
    have hp := put_len (f x).1 (f x).2 acc
    obtain ⟨s', r1, r2⟩ := dc_go f hg xs (put (f x).1 (f x).2 acc) s3 (fun z hz => h z (List.mem_cons_of_mem _ hz)) (by omega) h4
    refine ⟨s', ?_, r2⟩
    rw [dcGo, if_pos (hg s hs), e, h1]
    dsimp only
    rw [h2]
    unfold Out.bind
    dsimp only
    rw [if_pos rfl, h3]
    dsimp only
    rw [hk, decide_eq_true (show acc.length < line by omega)]
    exact r1
theorem e_dc {k v : E} {t : T} {src : E} {c : E} {own : List Nat} {s s0 : St} {w : W} {d : D} {xs : List D} (f : D → D × D) (hsrc : evE P R src s = .ok w s0) (hw : w = .val d ∨ w = .own d) (hi : items d = some xs) (hl : xs.length ≤ line)
    (h : ∀ x ∈ xs, keyOk (f x).1 = true ∧ ∃ s1, stT t x ⟨wipe s0.c own, s0.p⟩ = some s1 ∧ VV P R c s1 (.bl true) ∧ VV P R k s1 (f x).1 ∧ VV P R v s1 (f x).2 ∧ Like own s0.c s0.p s1) :
    evE P R (.dc k v t src c own) s = .ok (.own (.dic (xs.foldl (fun m x => put (f x).1 (f x).2 m) []))) s0 := by
  rw [evE, hsrc]
  have e1 : evSrc src own w s0 = .ok (d, none) s0 := by
    rcases hw with rfl | rfl
    · exact evSrc_val
    · exact evSrc_own
  show (evSrc src own w s0).bind _ = _
  rw [e1]
  show (match items d with
    | some xs => blk own s0 fun s => (dcGo own (still none d) t (fun s => (evE P R c s).bind boolOf) (fun s => (evE P R k s).bind fun w s => (take s w).bind fun a s => (evE P R v s).bind fun w s => (take s w).bind fun b s => .ok (a, b) s) xs [] s).bind fun ys s => Out.ok (W.own (.dic ys)) s
    | none => .stk "dc items") = _
  rw [hi]
  dsimp only
  unfold blk
  obtain ⟨s', r1, r2, r3⟩ := dc_go (own := own) (c0 := s0.c) (p := s0.p) (t := t) (test := fun s => (evE P R c s).bind boolOf) (elt := fun s => (evE P R k s).bind fun w s => (take s w).bind fun a s => (evE P R v s).bind fun w s => (take s w).bind fun b s => .ok (a, b) s) (g := still none d) f (fun _ _ => rfl) xs [] ⟨wipe s0.c own, s0.p⟩ (fun x hx => by
    obtain ⟨hk, s1, a1, a2, a3, a4, a5⟩ := h x hx
    rw [VV] at a2 a3 a4
    refine ⟨hk, s1, s1, s1, a1, by rw [a2]; rfl, ?_, a5⟩
    rw [a3]
    show (evE P R v s1).bind _ = _
    rw [a4]
    rfl) (by simpa using hl) ⟨wipe_wipe _ _, rfl⟩
  dsimp only
  rw [r1]
  show Out.ok _ ⟨back s0.c s'.c own, s'.p⟩ = _
  rw [back_eq r2, r3]
theorem bools_map (g : D → Bool) : ∀ xs : List D, bools (xs.map fun x => .bl (g x)) = some (xs.map g)
  | [] => rfl
  | x :: r => by
    show (bools (r.map fun x => .bl (g x))).map (g x :: ·) = _
    rw [bools_map g r]
    rfl
theorem all_map (g : D → Bool) (xs : List D) : bltD .all (.lst (xs.map fun x => .bl (g x))) = some (.val (.bl (xs.all g))) := by
  show (bools (xs.map fun x => D.bl (g x))).map (fun bs => W.val (.bl (bs.all id))) = _
  rw [bools_map]
  show some (W.val (D.bl ((xs.map g).all id))) = _
  rw [List.all_map]
  rfl
theorem filter_true (xs : List D) : xs.filter (fun _ => true) = xs := List.filter_eq_self.mpr fun _ _ => rfl
end
end Mid
set_option Elab.async false
set_option linter.all false
set_option maxRecDepth 100000
set_option maxHeartbeats 1000000
/-! k81: the bag. -/
namespace Mid.k81
open Mid
abbrev I (i : Int) : D := .int i
def bagD (b0 b1 b2 : Int) (l : List Int) : D := .lst [.int b0, .int b1, .int b2, .lst (l.map .int)]
def Bag (d : D) : Prop := ∃ (b0 b1 b2 : Int) (l : List Int), l.length ≤ 63 ∧ d = bagD b0 b1 b2 l
theorem v_mulr {i j : Int} (h : -(2 ^ 64) < j ∧ j < 2 ^ 64) : binD .mul (.int i) (.int j) = some (.val (.int (i * j))) := by
  show (if mulOk i j then some (W.val (D.int (i * j))) else none) = _
  rw [if_pos]
  unfold mulOk
  rw [Bool.or_eq_true, Bool.and_eq_true, Bool.and_eq_true]
  exact .inr ⟨decide_eq_true h.1, decide_eq_true h.2⟩
theorem v_mull {i j : Int} (h : -(2 ^ 64) < i ∧ i < 2 ^ 64) : binD .mul (.int i) (.int j) = some (.val (.int (i * j))) := by
  show (if mulOk i j then some (W.val (D.int (i * j))) else none) = _
  rw [if_pos]
  unfold mulOk
  rw [Bool.or_eq_true, Bool.and_eq_true, Bool.and_eq_true]
  exact .inl ⟨decide_eq_true h.1, decide_eq_true h.2⟩
theorem v_mod {i j : Int} (h : 0 < j) : binD .mod (.int i) (.int j) = some (.val (.int (i % j))) := if_pos h
theorem v_fdiv {i j : Int} (h : 0 < j ∧ j < 1073741824) : binD .fdiv (.int i) (.int j) = some (.val (.int (i / j))) := if_pos h
theorem slc_from {xs : List D} {lo : Int} : ∃ n, slcD (.lst xs) (.int lo) .non .non = some (.own (.lst (xs.drop n))) := by
  refine ⟨if lo < 0 then (lo + xs.length).toNat else min lo.toNat xs.length, ?_⟩
  show (cutL xs (.int lo) .non .non).map (fun ys => W.own (D.lst ys)) = _
  have e : cutL xs (.int lo) .non .non = some ((xs.drop (if lo < 0 then (lo + xs.length).toNat else min lo.toNat xs.length)).take (xs.length - (if lo < 0 then (lo + xs.length).toNat else min lo.toNat xs.length))) := rfl
  rw [e]
  show some (W.own (D.lst _)) = _
  rw [List.take_of_length_le]
  rw [List.length_drop]
  exact Nat.le_refl _
section
variable {R : Run} {p : Fr} {b0 b1 b2 many : Int} {l : List Int} {v2 v3 v4 v5 v6 : Slot}
abbrev fr (b : D) (many : Int) (v2 v3 v4 v5 v6 : Slot) (p : Fr) : St := ⟨[.own b, .val (.int many), v2, v3, v4, v5, v6], p⟩
theorem bag_at (i : Nat) {x : D} (h : ixD (bagD b0 b1 b2 l) (.int i) = some x) : VV pg R (.ix (.var 0) (.cst (.int i))) (fr (bagD b0 b1 b2 l) many v2 v3 v4 v5 v6 p) x := v_ix (o_var rfl) v_cst.ev h
theorem take_cell (hl : l.length ≤ 63) : ∃ z : Int, VV pg R (.ix (.bin .add (.slc (.ix (.var 0) (.cst (.int 3))) (.ix (.var 0) (.cst (.int 2))) (.cst .non) (.cst .non)) (.lst [.cst (.int 0)])) (.cst (.int 0))) (fr (bagD b0 b1 b2 l) many v2 v3 v4 v5 v6 p) (.int z) := by
  obtain ⟨n, hn⟩ := slc_from (xs := l.map .int) (lo := b2)
  have h1 : OV pg R (.slc (.ix (.var 0) (.cst (.int 3))) (.ix (.var 0) (.cst (.int 2))) (.cst .non) (.cst .non)) (fr (bagD b0 b1 b2 l) many v2 v3 v4 v5 v6 p) (.lst ((l.map .int).drop n)) := by
    have a1 : VV pg R (.ix (.var 0) (.cst (.int 3))) (fr (bagD b0 b1 b2 l) many v2 v3 v4 v5 v6 p) (.lst (l.map .int)) := bag_at 3 rfl
    have a2 : VV pg R (.ix (.var 0) (.cst (.int 2))) (fr (bagD b0 b1 b2 l) many v2 v3 v4 v5 v6 p) (.int b2) := bag_at 2 rfl
    exact x_slc a1.ev (part_int a2) part_non part_non hn
  have h2 : OV pg R (.bin .add (.slc (.ix (.var 0) (.cst (.int 3))) (.ix (.var 0) (.cst (.int 2))) (.cst .non) (.cst .non)) (.lst [.cst (.int 0)])) (fr (bagD b0 b1 b2 l) many v2 v3 v4 v5 v6 p) (.lst ((l.map .int).drop n ++ [.int 0])) := by
    refine o_bin h1.ev (o_lst (.cons (.inl v_cst) .nil)).ev ?_
    show (if ((l.map D.int).drop n).length + 1 ≤ line then _ else none) = _
    rw [if_pos]
    rw [List.length_drop, List.length_map]
    unfold line
    omega
  have key : ∀ m : List Int, ∃ z : Int, ixD (.lst (m.map D.int ++ [.int 0])) (.int 0) = some (.int z) := fun m => by
    cases m with
    | nil => exact ⟨0, rfl⟩
    | cons z m => 
      refine ⟨z, ?_⟩
      show atI (D.int z :: (m.map D.int ++ [.int 0])) 0 = _
      unfold atI ixN
      rw [if_pos (by decide), if_pos (by rw [List.length_cons]; omega)]
      rfl
  rw [← List.map_drop] at h2
  obtain ⟨z, hz⟩ := key (l.drop n)
  exact ⟨z, v_ix h2.ev v_cst.ev hz⟩
end
theorem emod_lt {a b : Int} (h : 0 < b) : 0 ≤ a % b ∧ a % b < b := ⟨Int.emod_nonneg _ (by omega), Int.emod_lt_of_pos _ h⟩
/-- the bag is stirred when it is empty -/
theorem take_stir {R : Run} {p : Fr} {b0 b1 b2 many : Int} {l : List Int} {v3 : Slot} (hl : l.length ≤ 63) : ∃ (b0' b1' b2' : Int) (v2 v3 : Slot), evS pg R (f19.body.getD 0 .pass) (fr (bagD b0 b1 b2 l) many .un .un .un .un .un p) = .ok .nx (fr (bagD b0' b1' b2' l) many v2 v3 .un .un .un p) := by
  have hc : VV pg R (.cmp .eq (.ix (.var 0) (.cst (.int 0))) (.cst (.int 0))) (fr (bagD b0 b1 b2 l) many .un .un .un .un .un p) (.bl (b0 == 0)) := v_cmp (bag_at 0 rfl).ev v_cst.ev rfl
  have e0 : f19.body.getD 0 .pass = .ite (.cmp .eq (.ix (.var 0) (.cst (.int 0))) (.cst (.int 0))) [.asg (.nm 2) (.ix (.bin .add (.slc (.ix (.var 0) (.cst (.int 3))) (.ix (.var 0) (.cst (.int 2))) (.cst .non) (.cst .non)) (.lst [.cst (.int 0)])) (.cst (.int 0))),
     .augi 0 (.cst (.int 2)) .add (.cst (.int 1)),
     .ite (.cmp .ge (.var 2) (.bin .pow (.cst (.int 10)) (.cst (.int 18)))) [.seti 0 (.cst (.int 0)) (.var 2)] [],
     .asg (.nm 3) (.bin .add (.bin .add (.bin .mul (.ix (.var 0) (.cst (.int 1))) (.cst (.int 48271))) (.bin .mod (.blt .int (.var 2)) (.cst (.int 2147483647)))) (.bin .mul (.cst (.int 7919)) (.ix (.var 0) (.cst (.int 2))))),
     .seti 0 (.cst (.int 1)) (.bin .mod (.blt .int (.var 3)) (.cst (.int 2147483647)))] [] := rfl
  rw [e0, s_if hc rfl]
  cases hb : b0 == 0 with
  | false => exact ⟨b0, b1, b2, .un, .un, rfl⟩
  | true =>
    rw [if_pos rfl]
    obtain ⟨z, hz⟩ := take_cell (R := R) (p := p) (b0 := b0) (b1 := b1) (b2 := b2) (many := many) (v2 := .un) (v3 := .un) (v4 := .un) (v5 := .un) (v6 := .un) hl
    have h1 := s_asg (i := 2) hz
    have h2 : evS pg R (.augi 0 (.cst (.int 2)) .add (.cst (.int 1))) (fr (bagD b0 b1 b2 l) many (.val (.int z)) .un .un .un .un p) = .ok .nx (fr (bagD b0 b1 (b2 + 1) l) many (.val (.int z)) .un .un .un .un p) := rfl
    have hp : VV pg R (.bin .pow (.cst (.int 10)) (.cst (.int 18))) (fr (bagD b0 b1 (b2 + 1) l) many (.val (.int z)) .un .un .un .un p) (.int (10 ^ 18)) := v_bin v_cst.ev v_cst.ev rfl
    have h3 : ∃ b0', evS pg R (.ite (.cmp .ge (.var 2) (.bin .pow (.cst (.int 10)) (.cst (.int 18)))) [.seti 0 (.cst (.int 0)) (.var 2)] []) (fr (bagD b0 b1 (b2 + 1) l) many (.val (.int z)) .un .un .un .un p) = .ok .nx (fr (bagD b0' b1 (b2 + 1) l) many (.val (.int z)) .un .un .un .un p) := by
      have hg : VV pg R (.cmp .ge (.var 2) (.bin .pow (.cst (.int 10)) (.cst (.int 18)))) (fr (bagD b0 b1 (b2 + 1) l) many (.val (.int z)) .un .un .un .un p) (.bl (decide ((10 : Int) ^ 18 ≤ z))) := v_cmp (v_var rfl).ev hp.ev rfl
      rw [s_if hg rfl]
      cases decide ((10 : Int) ^ 18 ≤ z) with
      | false => exact ⟨b0, rfl⟩
      | true => exact ⟨z, rfl⟩
    obtain ⟨b0', h3⟩ := h3
    have h4 : VV pg R (.bin .add (.bin .add (.bin .mul (.ix (.var 0) (.cst (.int 1))) (.cst (.int 48271))) (.bin .mod (.blt .int (.var 2)) (.cst (.int 2147483647)))) (.bin .mul (.cst (.int 7919)) (.ix (.var 0) (.cst (.int 2))))) (fr (bagD b0' b1 (b2 + 1) l) many (.val (.int z)) .un .un .un .un p) (.int (b1 * 48271 + z % 2147483647 + 7919 * (b2 + 1))) :=
      v_bin (v_bin (v_bin (bag_at 1 rfl).ev v_cst.ev (v_mulr (by decide))).ev (v_bin (v_blt (v_var rfl).ev rfl).ev v_cst.ev (v_mod (by decide))).ev rfl).ev (v_bin v_cst.ev (bag_at 2 rfl).ev (v_mull (by decide))).ev rfl
    have h4' := s_asg (i := 3) h4
    have h5 : evS pg R (.seti 0 (.cst (.int 1)) (.bin .mod (.blt .int (.var 3)) (.cst (.int 2147483647)))) (fr (bagD b0' b1 (b2 + 1) l) many (.val (.int z)) (.val (.int (b1 * 48271 + z % 2147483647 + 7919 * (b2 + 1)))) .un .un .un p) = .ok .nx (fr (bagD b0' ((b1 * 48271 + z % 2147483647 + 7919 * (b2 + 1)) % 2147483647) (b2 + 1) l) many (.val (.int z)) (.val (.int (b1 * 48271 + z % 2147483647 + 7919 * (b2 + 1)))) .un .un .un p) := rfl
    exact ⟨b0', _, _, _, _, by rw [ss_cons h1, show St.set _ _ _ = fr (bagD b0 b1 b2 l) many (.val (.int z)) .un .un .un .un p from rfl, ss_cons h2, ss_cons h3, ss_cons h4', show St.set _ _ _ = fr (bagD b0' b1 (b2 + 1) l) many (.val (.int z)) (.val (.int (b1 * 48271 + z % 2147483647 + 7919 * (b2 + 1)))) .un .un .un p from rfl, ss_cons h5]; rfl⟩
/-- a number is drawn -/
theorem take_ok {n : Nat} {b : D} {many : Int} {p : Fr} (hb : Bag b) (h0 : 0 < many) (h1 : many < 1073741824) : ∃ (v : Int) (b' : D) (c : Fr), 0 ≤ v ∧ v < many ∧ Bag b' ∧ c[0]? = some (.own b') ∧ run pg (n + 1) (.call 19 [.own b, .val (.int many)] p) = .ret (.val (.int v)) c p := by
  obtain ⟨b0, b1, b2, l, hl, rfl⟩ := hb
  obtain ⟨b0, b1, b2, v2, v3, hs⟩ := take_stir (R := run pg n) (p := p) (b0 := b0) (b1 := b1) (b2 := b2) (many := many) (v3 := .un) hl
  have hm := fun a : Int => emod_lt (a := a) h0
  have body : evSs pg (run pg n) f19.body ⟨[.own (bagD _ _ _ l), .val (.int many)] ++ List.replicate (7 - 2) .un, p⟩ = _ := ss_cons hs
  have hg : VV pg (run pg n) (.cmp .gt (.ix (.var 0) (.cst (.int 0))) (.cst (.int 0))) (fr (bagD b0 b1 b2 l) many v2 v3 .un .un .un p) (.bl (decide (0 < b0))) := v_cmp (bag_at 0 rfl).ev v_cst.ev rfl
  cases hd : decide (0 < b0) with
  | true =>
    have k1 : VV pg (run pg n) (.bin .mod (.blt .int (.ix (.var 0) (.cst (.int 0)))) (.var 1)) (fr (bagD b0 b1 b2 l) many v2 v3 .un .un .un p) (.int (b0 % many)) := v_bin (v_blt (bag_at 0 rfl).ev rfl).ev (v_var rfl).ev (v_mod h0)
    have k2 : evS pg (run pg n) (.seti 0 (.cst (.int 0)) (.bin .fdiv (.blt .int (.ix (.var 0) (.cst (.int 0)))) (.var 1))) (fr (bagD b0 b1 b2 l) many v2 v3 (.val (.int (b0 % many))) .un .un p) = .ok .nx (fr (bagD (b0 / many) b1 b2 l) many v2 v3 (.val (.int (b0 % many))) .un .un p) := by
      have a : VV pg (run pg n) (.bin .fdiv (.blt .int (.ix (.var 0) (.cst (.int 0)))) (.var 1)) (fr (bagD b0 b1 b2 l) many v2 v3 (.val (.int (b0 % many))) .un .un p) (.int (b0 / many)) := v_bin (v_blt (bag_at 0 rfl).ev rfl).ev (v_var rfl).ev (v_fdiv ⟨h0, h1⟩)
      rw [evS]
      show ((evE pg (run pg n) (.bin .fdiv (.blt .int (.ix (.var 0) (.cst (.int 0)))) (.var 1)) _).bind _) = _
      rw [VV] at a
      rw [a]
      rfl
    refine ⟨b0 % many, bagD (b0 / many) b1 b2 l, _, (hm b0).1, (hm b0).2, ⟨_, _, _, l, hl, rfl⟩, ?_, run_rt (fd := f19) (s := fr (bagD (b0 / many) b1 b2 l) many v2 v3 (.val (.int (b0 % many))) .un .un p) rfl ?_⟩
    · rfl
    · refine body.trans ?_
      have hgo : evS pg (run pg n) (.ite (.cmp .gt (.ix (.var 0) (.cst (.int 0))) (.cst (.int 0))) [.asg (.nm 4) (.bin .mod (.blt .int (.ix (.var 0) (.cst (.int 0)))) (.var 1)), .seti 0 (.cst (.int 0)) (.bin .fdiv (.blt .int (.ix (.var 0) (.cst (.int 0)))) (.var 1)), .ret (.var 4)] []) (fr (bagD b0 b1 b2 l) many v2 v3 .un .un .un p) = .ok (.rt (.val (.int (b0 % many)))) (fr (bagD (b0 / many) b1 b2 l) many v2 v3 (.val (.int (b0 % many))) .un .un p) := by
        rw [hd] at hg
        rw [s_ifT hg, ss_cons (s_asg k1), show St.set _ _ _ = fr (bagD b0 b1 b2 l) many v2 v3 (.val (.int (b0 % many))) .un .un p from rfl, ss_cons k2]
        exact ss_rt (s_ret (v_var rfl))
      exact ss_rt hgo
  | false =>
    rw [hd] at hg
    let u : Int := (b1 + 1) * 39373 % 1000000007
    have hu := emod_lt (a := (b1 + 1) * 39373) (b := 1000000007) (by decide)
    let w : Int := u * u % 998244353 * 30011 % 998244353
    have k1 : VV pg (run pg n) (.bin .mod (.blt .int (.bin .mul (.bin .add (.ix (.var 0) (.cst (.int 1))) (.cst (.int 1))) (.cst (.int 39373)))) (.cst (.int 1000000007))) (fr (bagD b0 b1 b2 l) many v2 v3 .un .un .un p) (.int u) :=
      v_bin (v_blt (v_bin (v_bin (bag_at 1 rfl).ev v_cst.ev rfl).ev v_cst.ev (v_mulr (by decide))).ev rfl).ev v_cst.ev (v_mod (by decide))
    have k2 : VV pg (run pg n) (.bin .mod (.blt .int (.bin .mul (.bin .mod (.blt .int (.bin .mul (.var 5) (.var 5))) (.cst (.int 998244353))) (.cst (.int 30011)))) (.cst (.int 998244353))) (fr (bagD b0 b1 b2 l) many v2 v3 .un (.val (.int u)) .un p) (.int w) :=
      v_bin (v_blt (v_bin (v_bin (v_blt (v_bin (v_var rfl).ev (v_var rfl).ev (v_mulr (by
        have h1 := hu.1
        have h2 := hu.2
        have : u = (b1 + 1) * 39373 % 1000000007 := rfl
        constructor <;> omega))).ev rfl).ev v_cst.ev (v_mod (by decide))).ev v_cst.ev (v_mulr (by decide))).ev rfl).ev v_cst.ev (v_mod (by decide))
    have k3 : VV pg (run pg n) (.bin .mod (.blt .int (.bin .fdiv (.var 6) (.cst (.int 7)))) (.var 1)) (fr (bagD b0 b1 b2 l) many v2 v3 .un (.val (.int u)) (.val (.int w)) p) (.int (w / 7 % many)) :=
      v_bin (v_blt (v_bin (v_var rfl).ev v_cst.ev (v_fdiv (by decide))).ev rfl).ev (v_var rfl).ev (v_mod h0)
    refine ⟨w / 7 % many, bagD b0 b1 b2 l, _, (hm _).1, (hm _).2, ⟨_, _, _, l, hl, rfl⟩, ?_, run_rt (fd := f19) (s := fr (bagD b0 b1 b2 l) many v2 v3 .un (.val (.int u)) (.val (.int w)) p) rfl ?_⟩
    · rfl
    · refine body.trans ?_
      refine (ss_cons (s_ifF hg)).trans ?_
      refine (ss_cons (s_asg k1)).trans ?_
      refine (ss_cons (s_asg k2)).trans ?_
      exact ss_rt (s_ret k3)
end Mid.k81
set_option Elab.async false
set_option linter.all false
set_option maxRecDepth 100000
set_option maxHeartbeats 1000000
/-! k81: what is drawn. -/
namespace Mid.k81
open Mid
theorem ixD_mem {xs : List D} {v : Int} (h0 : 0 ≤ v) (h1 : v < xs.length) : ∃ x ∈ xs, atI xs v = some x := by
  unfold atI ixN
  rw [if_pos h0, if_pos h1]
  have : v.toNat < xs.length := by omega
  exact ⟨xs[v.toNat], List.getElem_mem this, by simp [List.getElem?_eq_getElem this]⟩
/-- things of a list, a tuple -/
def Things (th : D) (xs : List D) : Prop := th = .lst xs ∨ th = .tup xs
theorem some_ok {n : Nat} {b th : D} {xs : List D} {p : Fr} (hb : Bag b) (ht : Things th xs) (h0 : 0 < xs.length) (h1 : xs.length < 1073741824) : ∃ (x : D) (b' : D) (c : Fr), x ∈ xs ∧ Bag b' ∧ c[0]? = some (.own b') ∧ run pg (n + 2) (.call 20 [.own b, .val th] p) = .ret (.val x) c p := by
  obtain ⟨v, b', c, v0, v1, hb', hc, hr⟩ := take_ok (n := n) (p := []) hb (many := xs.length) (by omega) (by omega)
  obtain ⟨x, hx, hix⟩ := ixD_mem v0 v1
  have hlen : bltD .len th = some (.val (.int xs.length)) := by
    rcases ht with rfl | rfl <;> rfl
  have hat : ixD th (.int v) = some x := by
    rcases ht with rfl | rfl <;> exact hix
  have k1 : evE pg (run pg (n + 1)) (.call 19 [.var 0, .blt .len (.var 1)]) ⟨[.own b, .val th], p⟩ = .ok (.val (.int v)) ⟨[.own b', .val th], p⟩ := by
    have ha : evAs pg (run pg (n + 1)) [.var 0, .blt .len (.var 1)] ⟨[.own b, .val th], p⟩ = .ok [.w (.pl 0), .w (.val (.int xs.length))] ⟨[.own b, .val th], p⟩ :=
      VAs.as (.cons rfl rfl (.cons rfl (v_blt (v_var rfl).ev hlen) .nil))
    refine x_callG (fd := f19) (sl := [.own b, .val (.int xs.length)]) (c' := [.own b', .val th]) ha rfl rfl rfl rfl rfl hr (fun i => by simp) ?_
    show (match (c[0]?).getD .un with
        | .own d => argBack [0] (wFlat (.val (.int v)) && false) c 1 [.w (.val (.int xs.length))] ([Slot.own b, .val th].set 0 (.own d))
        | _ => none) = _
    rw [hc]
    rfl
  refine ⟨x, b', _, hx, hb', ?_, run_rt (fd := f20) (s := ⟨[.own b', .val th], p⟩) rfl ?_⟩
  · rfl
  · refine ss_rt (s_ret ?_)
    rw [evE]
    show (evE pg (run pg (n + 1)) (.var 1) _).bind _ = _
    rw [v_var (d := th) rfl]
    show (evE pg (run pg (n + 1)) (.call 19 [.var 0, .blt .len (.var 1)]) ⟨[.own b, .val th], p⟩).bind _ = _
    rw [k1]
    show (match ixD th (.int v) with
      | some v => Out.ok (W.val v) _
      | none => .stk "ix") = _
    rw [hat]
/-- the first of a frame is a bag -/
theorem x_take {n : Nat} {e : E} {b : D} {many : Int} {r : Fr} {p : Fr} (hb : Bag b) (h0 : 0 < many) (h1 : many < 1073741824) (hn : noCloP e = true) (he : VV pg (run pg (n + 1)) e ⟨.own b :: r, p⟩ (.int many)) :
    ∃ (v : Int) (b' : D), 0 ≤ v ∧ v < many ∧ Bag b' ∧ evE pg (run pg (n + 1)) (.call 19 [.var 0, e]) ⟨.own b :: r, p⟩ = .ok (.val (.int v)) ⟨.own b' :: r, p⟩ := by
  obtain ⟨v, b', c, v0, v1, hb', hc, hr⟩ := take_ok (n := n) (p := []) hb h0 h1
  refine ⟨v, b', v0, v1, hb', ?_⟩
  have ha : evAs pg (run pg (n + 1)) [.var 0, e] ⟨.own b :: r, p⟩ = .ok [.w (.pl 0), .w (.val (.int many))] ⟨.own b :: r, p⟩ :=
    VAs.as (.cons rfl rfl (.cons hn he .nil))
  refine x_callG (fd := f19) (sl := [.own b, .val (.int many)]) (c' := .own b' :: r) ha rfl rfl rfl rfl rfl hr (fun i => by simp) ?_
  show (match (c[0]?).getD .un with
        | .own d => argBack [0] (wFlat (.val (.int v)) && false) c 1 [.w (.val (.int many))] ((Slot.own b :: r).set 0 (.own d))
        | _ => none) = _
  rw [hc]
  rfl
theorem x_some {n : Nat} {e : E} {b th : D} {xs : List D} {r : Fr} {p : Fr} (hb : Bag b) (ht : Things th xs) (h0 : 0 < xs.length) (h1 : xs.length < 1073741824) (hn : noCloP e = true) (he : VV pg (run pg (n + 2)) e ⟨.own b :: r, p⟩ th ∨ OV pg (run pg (n + 2)) e ⟨.own b :: r, p⟩ th) :
    ∃ (x b' : D), x ∈ xs ∧ Bag b' ∧ evE pg (run pg (n + 2)) (.call 20 [.var 0, e]) ⟨.own b :: r, p⟩ = .ok (.val x) ⟨.own b' :: r, p⟩ := by
  obtain ⟨x, b', c, hx, hb', hc, hr⟩ := some_ok (n := n) (p := []) hb ht h0 h1
  refine ⟨x, b', hx, hb', ?_⟩
  rcases he with he | he
  · have ha : evAs pg (run pg (n + 2)) [.var 0, e] ⟨.own b :: r, p⟩ = .ok [.w (.pl 0), .w (.val th)] ⟨.own b :: r, p⟩ :=
      VAs.as (.cons rfl rfl (.cons hn he .nil))
    refine x_callG (fd := f20) (sl := [.own b, .val th]) (c' := .own b' :: r) ha rfl rfl rfl rfl rfl hr (fun i => by simp) ?_
    show (match (c[0]?).getD .un with
        | .own d => argBack [0] (wFlat (.val x) && false) c 1 [.w (.val th)] ((Slot.own b :: r).set 0 (.own d))
        | _ => none) = _
    rw [hc]
    rfl
  · have ha : evAs pg (run pg (n + 2)) [.var 0, e] ⟨.own b :: r, p⟩ = .ok [.w (.pl 0), .w (.own th)] ⟨.own b :: r, p⟩ :=
      VAs.as (.cons rfl rfl (.cons hn he .nil))
    refine x_callG (fd := f20) (sl := [.own b, .val th]) (c' := .own b' :: r) ha rfl rfl rfl rfl rfl hr (fun i => by simp) ?_
    show (match (c[0]?).getD .un with
        | .own d => argBack [0] (wFlat (.val x) && false) c 1 [.w (.own th)] ((Slot.own b :: r).set 0 (.own d))
        | _ => none) = _
    rw [hc]
    rfl
end Mid.k81
set_option Elab.async false
set_option linter.all false
set_option maxRecDepth 100000
set_option maxHeartbeats 1000000
/-! k81: the writing that is drawn. -/
namespace Mid
section
variable {P : Pg} {R : Run}
theorem e_tup2 {a b : E} {s s1 s2 : St} {x y : D} (h1 : evE P R a s = .ok (.val x) s1) (h2 : evE P R b s1 = .ok (.val y) s2) : evE P R (.tup [a, b]) s = .ok (.val (.tup [x, y])) s2 := by
  rw [evE, evTs, h1]
  show ((evTs P R [b] s1).bind _).bind _ = _
  rw [evTs, h2]
  rfl
theorem e_bin2 {o : Bop} {a b : E} {s s1 s2 : St} {x y : D} {w : W} (h1 : evE P R a s = .ok (.val x) s1) (h2 : evE P R b s1 = .ok (.val y) s2) (h : binD o x y = some w) : evE P R (.bin o a b) s = .ok w s2 := by
  rw [evE, h1]
  show (evE P R b s1).bind _ = _
  rw [h2]
  show Out.opt s2 "bin" (binD o x y) = _
  rw [h]
  rfl
theorem e_rng {a : E} {s s1 : St} {i : Int} (h1 : evE P R a s = .ok (.val (.int i)) s1) (h : rngOk i = true) : evE P R (.rng a) s = .ok (.val (.lst (rngL 0 i.toNat))) s1 := by
  rw [evE, h1]
  show (if rngOk i then _ else _) = _
  rw [if_pos h]
theorem e_ite {c a b : E} {s s1 s2 : St} {k : Bool} {w : W} (h : evE P R c s = .ok (.val (.bl k)) s1) (h2 : (if k then evE P R a s1 else evE P R b s1) = .ok w s2) : evE P R (.ite c a b) s = .ok w s2 := by
  rw [evE, h]
  exact h2
theorem e_cmp2 {o : Cop} {a b : E} {s s1 s2 : St} {x y : D} {k : Bool} (h1 : evE P R a s = .ok (.val x) s1) (h2 : evE P R b s1 = .ok (.val y) s2) (h : cmpD o x y = some k) : evE P R (.cmp o a b) s = .ok (.val (.bl k)) s2 := e_cmp h1 h2 rfl rfl h
end
end Mid
namespace Mid.k81
open Mid
abbrev cR : D := .str [114]
abbrev cS : D := .str [115]
abbrev cT : D := .str [116]
abbrev cG : D := .str [103]
abbrev cH : D := .str [104]
def tabs : List D := [cR, cS, cT]
def SH : D := .tup [.tup [cR, .tup [.str [111, 110, 101], .str [116, 119, 111]]], .tup [cS, .tup [.str [111, 110, 101]]], .tup [cT, .tup [.str [108, 101, 102, 116], .str [114, 105, 103, 104, 116]]]]
def al (k : Int) : D := .str ([97] ++ intS (k + 1))
def S1 : List (List D) := tabs.map fun t => [.tup [al 0, t]]
def S2 : List (List D) := S1.flatMap fun l => tabs.map fun t => l ++ [.tup [al 1, t]]
def S3 : List (List D) := S2.flatMap fun l => tabs.map fun t => l ++ [.tup [al 2, t]]
def S39 : List (List D) := S1 ++ (S2 ++ S3)
def colN : D → List D
  | .str [114] => [.str [111, 110, 101], .str [116, 119, 111]]
  | .str [115] => [.str [111, 110, 101]]
  | .str [116] => [.str [108, 101, 102, 116], .str [114, 105, 103, 104, 116]]
  | _ => []
def colsOf (sl : List D) : List D := sl.flatMap fun s => match s with
  | .tup [a, t] => (colN t).map fun n => .tup [a, n]
  | _ => []
/-- two ways to hold the columns -/
def CS (cols : List D) (v : Slot) : Prop := v = .own (.lst cols) ∨ v = .val (.lst cols)
section
variable {n : Nat} {p : Fr} {b : D} {cols : List D} {v1 v2 v3 v4 v5 v6 v7 v8 v9 : Slot}
theorem some5 (hb : Bag b) (h0 : 0 < cols.length) (h1 : cols.length < 1073741824) (h5 : CS cols v5) : ∃ (x b' : D), x ∈ cols ∧ Bag b' ∧ evE pg (run pg (n + 2)) (.call 20 [.var 0, .var 5]) ⟨[.own b, v1, v2, v3, v4, v5, v6, v7, v8, v9], p⟩ = .ok (.val x) ⟨[.own b', v1, v2, v3, v4, .val (.lst cols), v6, v7, v8, v9], p⟩ := by
  rcases h5 with rfl | rfl
  · obtain ⟨x, b', c, hx, hb', hc, hr⟩ := some_ok (n := n) (p := []) hb (.inl rfl : Things (.lst cols) cols) h0 h1
    refine ⟨x, b', hx, hb', ?_⟩
    have ha : evAs pg (run pg (n + 2)) [.var 0, .var 5] ⟨[.own b, v1, v2, v3, v4, .own (.lst cols), v6, v7, v8, v9], p⟩ = .ok [.w (.pl 0), .w (.pl 5)] ⟨[.own b, v1, v2, v3, v4, .own (.lst cols), v6, v7, v8, v9], p⟩ :=
      VAs.as (.cons rfl rfl (.cons rfl rfl .nil))
    refine x_callG (fd := f20) (sl := [.own b, .val (.lst cols)]) (c' := [.own b', v1, v2, v3, v4, .val (.lst cols), v6, v7, v8, v9]) ha rfl rfl rfl rfl rfl hr (fun i => by simp) ?_
    show (match (c[0]?).getD .un with
        | .own d => argBack [0] (wFlat (.val x) && false) c 1 [.w (.pl 5)] ([Slot.own b, v1, v2, v3, v4, .own (.lst cols), v6, v7, v8, v9].set 0 (.own d))
        | _ => none) = _
    rw [hc, Bool.and_false]
    rfl
  · obtain ⟨x, b', hx, hb', h⟩ := x_some (n := n) (r := [v1, v2, v3, v4, .val (.lst cols), v6, v7, v8, v9]) (p := p) (e := .var 5) hb (.inl rfl : Things (.lst cols) cols) h0 h1 rfl (.inl rfl)
    exact ⟨x, b', hx, hb', h⟩
/-! ### the sources -/
def J1 (p : Fr) (v1 v2 : Slot) (s : St) : Prop := ∃ b v4, Bag b ∧ s = ⟨[.own b, v1, v2, .un, v4, .un, .un, .un, .un, .un], p⟩
def Q1 (x y : D) : Prop := ∃ k t, x = .int k ∧ t ∈ tabs ∧ y = .tup [al k, t]
theorem tabs4 {x : D} (h : x ∈ [cR, cR, cS, cT]) : x ∈ tabs := by
  simp only [List.mem_cons, List.not_mem_nil, or_false] at h
  simp only [tabs, List.mem_cons, List.not_mem_nil, or_false]
  rcases h with h | h | h | h
  · exact .inl h
  · exact .inl h
  · exact .inr (.inl h)
  · exact .inr (.inr h)
theorem turn1 {k : Int} (hk : (k + 1).natAbs.log2 < 1920) (hl : (intS (k + 1)).length < 1000) {s : St} (h : J1 p v1 v2 s) : ∃ s1 s2 y s3 s4 w, stT (.nm 4) (.int k) (s.wipe [4]) = some s1 ∧ evE pg (run pg (n + 2)) (.cst (.bl true)) s1 = .ok (.val (.bl true)) s2 ∧
    evE pg (run pg (n + 2)) (.tup [.bin .add (.cst (.str [97])) (.blt .str (.bin .add (.var 4) (.cst (.int 1)))), .call 20 [.var 0, .lst [.cst (.str [114]), .cst (.str [114]), .cst (.str [115]), .cst (.str [116])]]]) s2 = .ok w s3 ∧ take s3 w = .ok y s4 ∧ Q1 (.int k) y ∧ J1 p v1 v2 s4 := by
  obtain ⟨b, v4, hb, rfl⟩ := h
  have hs : bltD .str (.int (k + 1)) = some (.val (.str (intS (k + 1)))) := if_pos hk
  obtain ⟨x, b', hx, hb', hc⟩ := x_some (n := n) (r := [v1, v2, .un, .val (.int k), .un, .un, .un, .un, .un]) (p := p) (e := .lst [.cst cR, .cst cR, .cst cS, .cst cT]) hb (.inl rfl : Things (.lst [cR, cR, cS, cT]) [cR, cR, cS, cT]) (by decide) (by decide) rfl (.inr rfl)
  refine ⟨⟨[.own b, v1, v2, .un, .val (.int k), .un, .un, .un, .un, .un], p⟩, _, _, _, _, _, rfl, rfl, e_tup2 (v_bin v_cst.ev (v_blt (v_bin (v_var rfl).ev v_cst.ev rfl).ev hs).ev ?_) hc, rfl, ⟨k, x, rfl, tabs4 hx, rfl⟩, b', _, hb', rfl⟩
  exact if_pos (by rw [List.length_singleton]; unfold line; omega)
theorem stmt1 (hb : Bag b) : ∃ (sl : List D) (b' : D), sl ∈ S39 ∧ Bag b' ∧ evS pg (run pg (n + 2)) (f22.body.getD 0 .pass) ⟨[.own b, v1, .val (.int 3), .un, .un, .un, .un, .un, .un, .un], p⟩ = .ok .nx ⟨[.own b', v1, .val (.int 3), .val (.tup sl), .un, .un, .un, .un, .un, .un], p⟩ := by
  obtain ⟨v, b1, hv0, hv1, hb1, ht⟩ := x_take (n := n + 1) (e := .var 2) (r := [v1, .val (.int 3), .un, .un, .un, .un, .un, .un, .un]) (p := p) hb (by decide : (0 : Int) < 3) (by decide) rfl rfl
  have hr : evE pg (run pg (n + 2)) (.rng (.bin .add (.cst (.int 1)) (.call 19 [.var 0, .var 2]))) ⟨[.own b, v1, .val (.int 3), .un, .un, .un, .un, .un, .un, .un], p⟩ = .ok (.val (.lst (rngL 0 (1 + v).toNat))) ⟨[.own b1, v1, .val (.int 3), .un, .un, .un, .un, .un, .un, .un], p⟩ :=
    e_rng (e_bin2 v_cst ht rfl) (by unfold rngOk; rw [Bool.and_eq_true]; exact ⟨decide_eq_true (by omega), decide_eq_true (by omega)⟩)
  have small : ∀ k : Int, k = 0 ∨ k = 1 ∨ k = 2 → (k + 1).natAbs.log2 < 1920 ∧ (intS (k + 1)).length < 1000 := fun k hk => by
    rcases hk with rfl | rfl | rfl <;> exact ⟨by decide +kernel, by decide +kernel⟩
  have go : ∀ xs : List D, items (.lst (rngL 0 (1 + v).toNat)) = some xs → (∀ x ∈ xs, ∃ k : Int, x = .int k ∧ (k = 0 ∨ k = 1 ∨ k = 2)) → xs.length ≤ 3 → ∃ ys b', All2 Q1 xs ys ∧ Bag b' ∧ evS pg (run pg (n + 2)) (f22.body.getD 0 .pass) ⟨[.own b, v1, .val (.int 3), .un, .un, .un, .un, .un, .un, .un], p⟩ = .ok .nx ⟨[.own b', v1, .val (.int 3), .val (.tup ys), .un, .un, .un, .un, .un, .un], p⟩ := by
    intro xs hi hx hl
    obtain ⟨ys, s', e1, e2, b', v4, hb', rfl⟩ := e_lcI (P := pg) (R := run pg (n + 2)) (c := .cst (.bl true)) (elt := .tup [.bin .add (.cst (.str [97])) (.blt .str (.bin .add (.var 4) (.cst (.int 1)))), .call 20 [.var 0, .lst [.cst (.str [114]), .cst (.str [114]), .cst (.str [115]), .cst (.str [116])]]]) (t := .nm 4) (own := [4]) (J1 p v1 (.val (.int 3))) Q1 hr (.inl rfl) hi (by unfold line; omega)
      ⟨b1, _, hb1, rfl⟩ (fun x hx' s hs => by
        obtain ⟨k, rfl, hk⟩ := hx x hx'
        exact turn1 (small k hk).1 (small k hk).2 hs)
    exact ⟨ys, b', e2, hb', s_asg (e_blt e1 rfl rfl)⟩
  have hv : v = 0 ∨ v = 1 ∨ v = 2 := by omega
  rcases hv with rfl | rfl | rfl
  · obtain ⟨ys, b', hy, hb', he⟩ := go [.int 0] rfl (fun x hx => by
      simp only [List.mem_cons, List.not_mem_nil, or_false] at hx
      exact ⟨0, hx, .inl rfl⟩) (by decide)
    cases hy with
    | cons q1 r =>
      cases r
      obtain ⟨k, t, ek, ht, rfl⟩ := q1
      cases ek
      exact ⟨_, b', List.mem_append_left _ (List.mem_map.mpr ⟨t, ht, rfl⟩), hb', he⟩
  · obtain ⟨ys, b', hy, hb', he⟩ := go [.int 0, .int 1] rfl (fun x hx => by
      simp only [List.mem_cons, List.not_mem_nil, or_false] at hx
      rcases hx with hx | hx
      · exact ⟨0, hx, .inl rfl⟩
      · exact ⟨1, hx, .inr (.inl rfl)⟩) (by decide)
    cases hy with
    | cons q1 r =>
      cases r with
      | cons q2 r =>
        cases r
        obtain ⟨k, t, ek, ht, rfl⟩ := q1
        cases ek
        obtain ⟨k, t', ek, ht', rfl⟩ := q2
        cases ek
        exact ⟨_, b', List.mem_append_right _ (List.mem_append_left _ (List.mem_flatMap.mpr ⟨_, List.mem_map.mpr ⟨t, ht, rfl⟩, List.mem_map.mpr ⟨t', ht', rfl⟩⟩)), hb', he⟩
  · obtain ⟨ys, b', hy, hb', he⟩ := go [.int 0, .int 1, .int 2] rfl (fun x hx => by
      simp only [List.mem_cons, List.not_mem_nil, or_false] at hx
      rcases hx with hx | hx | hx
      · exact ⟨0, hx, .inl rfl⟩
      · exact ⟨1, hx, .inr (.inl rfl)⟩
      · exact ⟨2, hx, .inr (.inr rfl)⟩) (by decide)
    cases hy with
    | cons q1 r =>
      cases r with
      | cons q2 r =>
        cases r with
        | cons q3 r =>
          cases r
          obtain ⟨k, t, ek, ht, rfl⟩ := q1
          cases ek
          obtain ⟨k, t', ek, ht', rfl⟩ := q2
          cases ek
          obtain ⟨k, t'', ek, ht'', rfl⟩ := q3
          cases ek
          exact ⟨_, b', List.mem_append_right _ (List.mem_append_right _ (List.mem_flatMap.mpr ⟨_, List.mem_flatMap.mpr ⟨_, List.mem_map.mpr ⟨t, ht, rfl⟩, List.mem_map.mpr ⟨t', ht', rfl⟩⟩, List.mem_map.mpr ⟨t'', ht'', rfl⟩⟩)), hb', he⟩
/-! ### the columns -/
def ownLst (r : Ret) (xs : List D) : Bool := match r with
  | .ret (.own (.lst ys)) _ _ => decide (ys = xs)
  | _ => false
theorem ownLst_ok {r : Ret} {xs : List D} (h : ownLst r xs = true) : r.out = okW (.own (.lst xs)) := by
  unfold ownLst at h
  split at h
  · rw [of_decide_eq_true h]; rfl
  · cases h
theorem cols_all : (S39.all fun sl => ownLst (run pg (n + 1) (.call 23 [.val SH, .val (.tup sl)] [])) (colsOf sl) && (decide (0 < (colsOf sl).length) && (decide ((colsOf sl).length ≤ 6) && wFlat (.own (.lst (colsOf sl)))))) = true := by kernel_rfl
theorem cols_ok {sl : List D} (h : sl ∈ S39) : (run pg (n + 1) (.call 23 [.val SH, .val (.tup sl)] [])).out = okW (.own (.lst (colsOf sl))) ∧ 0 < (colsOf sl).length ∧ (colsOf sl).length ≤ 6 ∧ wFlat (.own (.lst (colsOf sl))) = true := by
  have z := List.all_eq_true.mp (cols_all (n := n)) sl h
  rw [Bool.and_eq_true, Bool.and_eq_true, Bool.and_eq_true] at z
  exact ⟨ownLst_ok z.1, of_decide_eq_true z.2.1, of_decide_eq_true z.2.2.1, z.2.2.2⟩
end
end Mid.k81
set_option Elab.async false
set_option linter.all false
set_option maxRecDepth 100000
set_option maxHeartbeats 1000000
/-! k81: the writing that is drawn, whole. -/
namespace Mid.k81
open Mid
def odd3 : List D := [.int 0, .int 1, .str [117]]
def Cond (cols : List D) (c : D) : Prop := ∃ x o, x ∈ cols ∧ (o ∈ cols ∨ o ∈ odd3) ∧ c = .tup [x, o]
def Q3 (cols : List D) (x y : D) : Prop := ∃ c ∈ cols, y = .tup [x, c]
def GOk (cols gl : List D) : Prop := gl = [] ∨ (∃ c ∈ cols, gl = [.tup [cG, c]]) ∨ ∃ c ∈ cols, ∃ d ∈ cols, gl = [.tup [cG, c], .tup [cH, d]]
/-- what a drawn writing is -/
structure WOk (sl gl cl : List D) : Prop where
  s : sl ∈ S39
  g : GOk (colsOf sl) gl
  c : ∀ c ∈ cl, Cond (colsOf sl) c
  n : cl.length ≤ 3
section
variable {n : Nat} {p : Fr} {b : D} {cols : List D} {v1 v2 v3 v4 v5 v6 v7 v8 v9 : Slot}
def J3 (p : Fr) (cols : List D) (v1 v2 v3 : Slot) (s : St) : Prop := ∃ b v5 v7, Bag b ∧ CS cols v5 ∧ s = ⟨[.own b, v1, v2, v3, .un, v5, .un, v7, .un, .un], p⟩
theorem stmt3 (hb : Bag b) (h0 : 0 < cols.length) (h1 : cols.length < 1073741824) : ∃ (gl : List D) (b' : D) (v5 : Slot), GOk cols gl ∧ Bag b' ∧ CS cols v5 ∧ evS pg (run pg (n + 2)) (f22.body.getD 2 .pass) ⟨[.own b, v1, v2, v3, .un, .own (.lst cols), .un, .un, .un, .un], p⟩ = .ok .nx ⟨[.own b', v1, v2, v3, .un, v5, .val (.tup gl), .un, .un, .un], p⟩ := by
  obtain ⟨x, b1, hx, hb1, hs⟩ := x_some (n := n) (r := [v1, v2, v3, .un, .own (.lst cols), .un, .un, .un, .un]) (p := p) (e := .lst [.tup [], .tup [.cst cG], .tup [.cst cG, .cst cH]]) hb (.inl rfl : Things (.lst [.tup [], .tup [cG], .tup [cG, cH]]) [.tup [], .tup [cG], .tup [cG, cH]]) (by decide) (by decide) rfl (.inr rfl)
  have go : ∀ xs : List D, items x = some xs → xs.length ≤ 3 → ∃ ys b' v5, All2 (Q3 cols) xs ys ∧ Bag b' ∧ CS cols v5 ∧ evS pg (run pg (n + 2)) (f22.body.getD 2 .pass) ⟨[.own b, v1, v2, v3, .un, .own (.lst cols), .un, .un, .un, .un], p⟩ = .ok .nx ⟨[.own b', v1, v2, v3, .un, v5, .val (.tup ys), .un, .un, .un], p⟩ := by
    intro xs hi hl
    obtain ⟨ys, s', e1, e2, b', v5, v7, hb', h5, rfl⟩ := e_lcI (P := pg) (R := run pg (n + 2)) (c := .cst (.bl true)) (elt := .tup [.var 7, .call 20 [.var 0, .var 5]]) (t := .nm 7) (own := [7]) (J3 p cols v1 v2 v3) (Q3 cols) hs (.inl rfl) hi (by unfold line; omega)
      ⟨b1, _, _, hb1, .inl rfl, rfl⟩ (fun x hx' s hs => by
        obtain ⟨b, v5, v7, hb, h5, rfl⟩ := hs
        obtain ⟨y, b2, hy, hb2, he⟩ := some5 (n := n) (p := p) (v1 := v1) (v2 := v2) (v3 := v3) (v4 := .un) (v6 := .un) (v7 := .val x) (v8 := .un) (v9 := .un) hb h0 h1 h5
        exact ⟨⟨[.own b, v1, v2, v3, .un, v5, .un, .val x, .un, .un], p⟩, _, _, _, _, _, rfl, rfl, e_tup2 rfl he, rfl, ⟨y, hy, rfl⟩, b2, _, _, hb2, .inr rfl, rfl⟩)
    exact ⟨ys, b', v5, e2, hb', h5, s_asg (e_blt e1 rfl rfl)⟩
  simp only [List.mem_cons, List.not_mem_nil, or_false] at hx
  rcases hx with rfl | rfl | rfl
  · obtain ⟨ys, b', v5, hy, hb', h5, he⟩ := go [] rfl (by decide)
    cases hy
    exact ⟨[], b', v5, .inl rfl, hb', h5, he⟩
  · obtain ⟨ys, b', v5, hy, hb', h5, he⟩ := go [cG] rfl (by decide)
    cases hy with
    | cons q r =>
      cases r
      obtain ⟨c, hc, rfl⟩ := q
      exact ⟨_, b', v5, .inr (.inl ⟨c, hc, rfl⟩), hb', h5, he⟩
  · obtain ⟨ys, b', v5, hy, hb', h5, he⟩ := go [cG, cH] rfl (by decide)
    cases hy with
    | cons q r =>
      cases r with
      | cons q2 r =>
        cases r
        obtain ⟨c, hc, rfl⟩ := q
        obtain ⟨d, hd, rfl⟩ := q2
        exact ⟨_, b', v5, .inr (.inr ⟨c, hc, d, hd, rfl⟩), hb', h5, he⟩
/-! ### the conditions -/
def J5 (p : Fr) (cols : List D) (v1 v2 v3 v6 : Slot) (m : Nat) (s : St) : Prop := ∃ b v4 v5 v9 cl, Bag b ∧ CS cols v5 ∧ (∀ c ∈ cl, Cond cols c) ∧ cl.length = m ∧ s = ⟨[.own b, v1, v2, v3, v4, v5, v6, .un, .own (.lst cl), v9], p⟩
theorem other_ok (hb : Bag b) (h0 : 0 < cols.length) (h1 : cols.length < 1073741824) (h5 : CS cols v5) : ∃ (o b' : D) (v5' : Slot), (o ∈ cols ∨ o ∈ odd3) ∧ Bag b' ∧ CS cols v5' ∧
    evE pg (run pg (n + 2)) (.ite (.cmp .gt (.call 19 [.var 0, .cst (.int 4)]) (.cst (.int 0))) (.call 20 [.var 0, .var 5]) (.call 20 [.var 0, .lst [.cst (.int 0), .cst (.int 1), .cst (.str [117])]])) ⟨[.own b, v1, v2, v3, v4, v5, v6, v7, v8, v9], p⟩ = .ok (.val o) ⟨[.own b', v1, v2, v3, v4, v5', v6, v7, v8, v9], p⟩ := by
  obtain ⟨v, b1, hv0, hv1, hb1, ht⟩ := x_take (n := n + 1) (e := .cst (.int 4)) (r := [v1, v2, v3, v4, v5, v6, v7, v8, v9]) (p := p) hb (by decide : (0 : Int) < 4) (by decide) rfl rfl
  have hc := e_cmp2 (o := .gt) (b := .cst (.int 0)) (s2 := ⟨.own b1 :: [v1, v2, v3, v4, v5, v6, v7, v8, v9], p⟩) ht rfl (rfl : cmpD .gt (.int v) (.int 0) = some (decide (0 < v)))
  cases hd : decide (0 < v) with
  | true =>
    rw [hd] at hc
    obtain ⟨y, b2, hy, hb2, he⟩ := some5 (n := n) (p := p) (v1 := v1) (v2 := v2) (v3 := v3) (v4 := v4) (v6 := v6) (v7 := v7) (v8 := v8) (v9 := v9) hb1 h0 h1 h5
    exact ⟨y, b2, _, .inl hy, hb2, .inr rfl, e_ite hc (by rw [if_pos rfl]; exact he)⟩
  | false =>
    rw [hd] at hc
    obtain ⟨y, b2, hy, hb2, he⟩ := x_some (n := n) (r := [v1, v2, v3, v4, v5, v6, v7, v8, v9]) (p := p) (e := .lst [.cst (.int 0), .cst (.int 1), .cst (.str [117])]) hb1 (.inl rfl : Things (.lst odd3) odd3) (by decide) (by decide) rfl (.inr rfl)
    exact ⟨y, b2, _, .inr hy, hb2, h5, e_ite hc (by rw [if_neg (by simp)]; exact he)⟩
theorem rngL_len (lo : Int) (m : Nat) : (rngL lo m).length = m := by
  unfold rngL
  rw [List.length_map, List.length_range]
theorem stmt5 (hb : Bag b) (h0 : 0 < cols.length) (h1 : cols.length < 1073741824) (h5 : CS cols v5) : ∃ (cl : List D) (b' : D) (v4 v5' v9 : Slot), (∀ c ∈ cl, Cond cols c) ∧ cl.length ≤ 3 ∧ Bag b' ∧ CS cols v5' ∧
    evS pg (run pg (n + 2)) (f22.body.getD 4 .pass) ⟨[.own b, v1, v2, v3, .un, v5, v6, .un, .own (.lst []), .un], p⟩ = .ok .nx ⟨[.own b', v1, v2, v3, v4, v5', v6, .un, .own (.lst cl), v9], p⟩ := by
  obtain ⟨v, b1, hv0, hv1, hb1, ht⟩ := x_take (n := n + 1) (e := .cst (.int 4)) (r := [v1, v2, v3, .un, v5, v6, .un, .own (.lst []), .un]) (p := p) hb (by decide : (0 : Int) < 4) (by decide) rfl rfl
  have hr := e_rng ht (by unfold rngOk; rw [Bool.and_eq_true]; exact ⟨decide_eq_true (by omega), decide_eq_true (by omega)⟩)
  obtain ⟨s', r1, b', v4, v5', v9, cl, q1, q2, q3, q4, rfl⟩ := for_inv (N := 3) (t := .nm 4) (g := still none (.lst (rngL 0 v.toNat))) (body := fun s => evSs pg (run pg (n + 2)) [.asg (.nm 9) (.ite (.cmp .gt (.call 19 [.var 0, .cst (.int 4)]) (.cst (.int 0))) (.call 20 [.var 0, .var 5]) (.call 20 [.var 0, .lst [.cst (.int 0), .cst (.int 1), .cst (.str [117])]])),
     .app 8 (.tup [.call 20 [.var 0, .var 5], .var 9])] s) (J5 p cols v1 v2 v3 v6) (fun _ _ _ => rfl) (rngL 0 v.toNat) 0 ⟨.own b1 :: [v1, v2, v3, .un, v5, v6, .un, .own (.lst []), .un], p⟩ (fun x hx m s hm hs => by
      obtain ⟨b, v4, v5, v9, cl, hb, h5, hcl, hlen, rfl⟩ := hs
      obtain ⟨o, b2, v5', ho, hb2, h5', he⟩ := other_ok (n := n) (p := p) (v1 := v1) (v2 := v2) (v3 := v3) (v4 := .val x) (v6 := v6) (v7 := .un) (v8 := .own (.lst cl)) (v9 := v9) hb h0 h1 h5
      obtain ⟨y, b3, hy, hb3, hf⟩ := some5 (n := n) (p := p) (v1 := v1) (v2 := v2) (v3 := v3) (v4 := .val x) (v6 := v6) (v7 := .un) (v8 := .own (.lst cl)) (v9 := .val o) hb2 h0 h1 h5'
      refine ⟨⟨[.own b, v1, v2, v3, .val x, v5, v6, .un, .own (.lst cl), v9], p⟩, ⟨[.own b3, v1, v2, v3, .val x, .val (.lst cols), v6, .un, .own (.lst (cl ++ [.tup [y, o]])), .val o], p⟩, .nx, rfl, ?_, .inl rfl, b3, _, _, _, cl ++ [.tup [y, o]], hb3, .inr rfl, fun c hc => ?_, by rw [List.length_append, hlen]; rfl, rfl⟩
      · refine (ss_cons (s_asg he)).trans ?_
        exact (ss_cons (s_app rfl (e_tup2 hf rfl) rfl (by rw [hlen]; unfold line; omega))).trans rfl
      · rcases List.mem_append.mp hc with hc | hc
        · exact hcl c hc
        · rw [List.mem_singleton.mp hc]
          exact ⟨y, o, hy, ho, rfl⟩) (by rw [rngL_len]; omega) ⟨b1, .un, v5, .un, [], hb1, h5, (fun _ h => by cases h), rfl, rfl⟩
  rw [rngL_len] at q4
  exact ⟨cl, b', v4, v5', v9, q3, by omega, q1, q2, (s_for hr (.inl rfl) rfl).trans r1⟩
theorem writing_ok (hb : Bag b) : ∃ (sl gl cl : List D) (b' : D) (c : Fr), WOk sl gl cl ∧ Bag b' ∧ c[0]? = some (.own b') ∧ run pg (n + 3) (.call 22 [.own b, .val SH, .val (.int 3)] p) = .ret (.val (.tup [.tup gl, .tup sl, .tup cl])) c p := by
  obtain ⟨sl, b1, hsl, hb1, e1⟩ := stmt1 (n := n) (p := p) (v1 := .val SH) hb
  obtain ⟨c1, c2, c3, c4⟩ := cols_ok (n := n + 1) hsl
  have e2 : evS pg (run pg (n + 2)) (.asg (.nm 5) (.call 23 [.var 1, .var 3])) ⟨[.own b1, .val SH, .val (.int 3), .val (.tup sl), .un, .un, .un, .un, .un, .un], p⟩ = .ok .nx ⟨[.own b1, .val SH, .val (.int 3), .val (.tup sl), .un, .own (.lst (colsOf sl)), .un, .un, .un, .un], p⟩ :=
    s_asgO (x_call (fd := f23) (as := [.w (.val SH), .w (.val (.tup sl))]) (ds := [SH, .tup sl]) (.cons rfl rfl (.cons rfl rfl .nil)) ⟨rfl, rfl, trivial⟩ rfl rfl rfl c1 c4)
  obtain ⟨gl, b2, v5, hg, hb2, h5, e3⟩ := stmt3 (n := n) (p := p) (v1 := .val SH) (v2 := .val (.int 3)) (v3 := .val (.tup sl)) hb1 c2 (by omega)
  have e4 : evS pg (run pg (n + 2)) (.asg (.nm 8) (.lst [])) ⟨[.own b2, .val SH, .val (.int 3), .val (.tup sl), .un, v5, .val (.tup gl), .un, .un, .un], p⟩ = .ok .nx ⟨[.own b2, .val SH, .val (.int 3), .val (.tup sl), .un, v5, .val (.tup gl), .un, .own (.lst []), .un], p⟩ := rfl
  obtain ⟨cl, b3, v4, v5', v9, hcl, hl, hb3, h5', e5⟩ := stmt5 (n := n) (p := p) (v1 := .val SH) (v2 := .val (.int 3)) (v3 := .val (.tup sl)) (v6 := .val (.tup gl)) hb2 c2 (by omega) h5
  refine ⟨sl, gl, cl, b3, [.own b3, .val SH, .val (.int 3), .val (.tup sl), v4, v5', .val (.tup gl), .un, .own (.lst cl), v9], ⟨hsl, hg, hcl, hl⟩, hb3, rfl, run_rt (fd := f22) (s := ⟨_, p⟩) rfl ?_⟩
  refine (ss_cons e1).trans ?_
  refine (ss_cons e2).trans ?_
  refine (ss_cons e3).trans ?_
  refine (ss_cons e4).trans ?_
  refine (ss_cons e5).trans ?_
  exact ss_rt (s_ret (v_tup (.cons (.inl (v_var rfl)) (.cons (.inl (v_var rfl)) (.cons (.inl (v_blt (o_var rfl) rfl)) .nil)))))
end
end Mid.k81
set_option Elab.async false
set_option linter.all false
set_option maxRecDepth 100000
set_option maxHeartbeats 1000000
/-! k81: forms. -/
namespace Mid.k81
open Mid
/-- is_tuple_of -/
theorem tof {n f : Nat} {fd : Fd} {xs : List D} (g : D → Bool) (hf : pg.fs[f]? = some fd) (hio : fd.io = []) (hnp : fd.np = 1) (h : ∀ x ∈ xs, (run pg n (.call f [.val x] [])).out = okB (g x)) (hl : xs.length ≤ line) :
    (run pg (n + 1) (.call 6 [.val (.tup xs), .val (.fn f)] [])).out = okB (xs.all g) := by
  have h1 : OV pg (run pg n) (.lc (.callv 1 [.var 2]) (.nm 2) (.var 0) (.cst (.bl true)) [2]) ⟨[.val (.tup xs), .val (.fn f), .un], []⟩ (.lst (xs.map fun x => .bl (g x))) := by
    have z := e_lc (P := pg) (R := run pg n) (elt := .callv 1 [.var 2]) (t := .nm 2) (src := .var 0) (c := .cst (.bl true)) (own := [2]) (s := ⟨[.val (.tup xs), .val (.fn f), .un], []⟩) (fun x => .bl (g x)) (fun _ => true) rfl (.inl rfl) (rfl : items (.tup xs) = some xs) hl (fun x hx =>
      ⟨⟨[.val (.tup xs), .val (.fn f), .val x], []⟩, _, rfl, rfl, ⟨rfl, rfl⟩, fun _ => ⟨⟨[.val (.tup xs), .val (.fn f), .val x], []⟩, ⟨[.val (.tup xs), .val (.fn f), .val x], []⟩, .val (.bl (g x)), by
        rw [x_callv rfl (by rw [hf]; rfl)]
        exact x_call (as := [.w (.val x)]) (ds := [x]) (.cons rfl rfl .nil) ⟨rfl, trivial⟩ hf hio hnp.symm (h x hx) rfl, rfl, ⟨rfl, rfl⟩⟩⟩)
    rw [filter_true] at z
    exact z
  have a : VV pg (run pg n) (.isi (.var 0) .tuple) ⟨[.val (.tup xs), .val (.fn f), .un], []⟩ (.bl true) := v_isi (v_var rfl).ev rfl
  have h2 : VV pg (run pg n) (.and (.isi (.var 0) .tuple) (.blt .all (.lc (.callv 1 [.var 2]) (.nm 2) (.var 0) (.cst (.bl true)) [2]))) ⟨[.val (.tup xs), .val (.fn f), .un], []⟩ (.bl (true && xs.all g)) := v_and a.ev fun _ => v_blt h1.ev (all_map g xs)
  exact run_out_rt (fd := f6) (sl := [.val (.tup xs), .val (.fn f)]) rfl (ss_rt (s_ret h2))
/-- a list is no tuple -/
theorem tof_lst {n f : Nat} {xs : List D} : (run pg (n + 1) (.call 6 [.val (.lst xs), .val (.fn f)] [])).out = okB false := by
  have a : VV pg (run pg n) (.isi (.var 0) .tuple) ⟨[.val (.lst xs), .val (.fn f), .un], []⟩ (.bl false) := v_isi (v_var rfl).ev rfl
  have h2 : VV pg (run pg n) (.and (.isi (.var 0) .tuple) (.blt .all (.lc (.callv 1 [.var 2]) (.nm 2) (.var 0) (.cst (.bl true)) [2]))) ⟨[.val (.lst xs), .val (.fn f), .un], []⟩ (.bl (false && false)) := v_and a.ev fun h => by cases h
  exact run_out_rt (fd := f6) (sl := [.val (.lst xs), .val (.fn f)]) rfl (ss_rt (s_ret h2))
/-- is_writing_form of three -/
theorem wf3 {n : Nat} {x0 x1 x2 : D} {a b c : Bool} (h0 : (run pg (n + 1) (.call 6 [.val x0, .val (.fn 12)] [])).out = okB a) (h1 : a = true → (run pg (n + 1) (.call 6 [.val x1, .val (.fn 8)] [])).out = okB b) (h2 : a = true → b = true → (run pg (n + 1) (.call 6 [.val x2, .val (.fn 13)] [])).out = okB c) :
    (run pg (n + 2) (.call 14 [.val (.tup [x0, x1, x2])] [])).out = okB (a && (b && c)) := by
  have s5 : VV pg (run pg (n + 1)) (.call 5 [.var 0, .cst (.int 3)]) ⟨[.val (.tup [x0, x1, x2])], []⟩ (.bl true) :=
    x_call (fd := f5) (as := [.w (.val (.tup [x0, x1, x2])), .w (.val (.int 3))]) (ds := [.tup [x0, x1, x2], .int 3]) (.cons rfl rfl (.cons rfl rfl .nil)) ⟨rfl, rfl, trivial⟩ rfl rfl rfl rfl rfl
  have s6 : ∀ (i : Nat) (x : D) (f : Nat) (k : Bool), ixD (.tup [x0, x1, x2]) (.int i) = some x → (run pg (n + 1) (.call 6 [.val x, .val (.fn f)] [])).out = okB k → VV pg (run pg (n + 1)) (.call 6 [.ix (.var 0) (.cst (.int i)), .fnv f]) ⟨[.val (.tup [x0, x1, x2])], []⟩ (.bl k) := fun i x f k hi h =>
    x_call (fd := f6) (as := [.w (.val x), .w (.val (.fn f))]) (ds := [x, .fn f]) (.cons rfl (v_ix (v_var rfl).ev v_cst.ev hi) (.cons rfl rfl .nil)) ⟨rfl, rfl, trivial⟩ rfl rfl rfl h rfl
  cases a with
  | false =>
    refine run_out_rt (fd := f14) (sl := [.val (.tup [x0, x1, x2])]) (s := ⟨[.val (.tup [x0, x1, x2])], []⟩) rfl ?_
    refine ss_rt ((s_ifT (v_or (y := true) (v_not s5.ev).ev fun _ => v_or (y := true) (v_not (s6 0 x0 12 false rfl h0).ev).ev fun z => by cases z)).trans ?_)
    exact ss_rt (s_ret v_cst)
  | true =>
    cases b with
    | false =>
      refine run_out_rt (fd := f14) (sl := [.val (.tup [x0, x1, x2])]) (s := ⟨[.val (.tup [x0, x1, x2])], []⟩) rfl ?_
      refine ss_rt ((s_ifT (v_or (y := true) (v_not s5.ev).ev fun _ => v_or (y := true) (v_not (s6 0 x0 12 true rfl h0).ev).ev fun _ => v_not (s6 1 x1 8 false rfl (h1 rfl)).ev)).trans ?_)
      exact ss_rt (s_ret v_cst)
    | true =>
      refine run_out_rt (fd := f14) (sl := [.val (.tup [x0, x1, x2])]) (s := ⟨[.val (.tup [x0, x1, x2])], []⟩) rfl ?_
      refine (ss_cons ((s_ifF (v_or (y := false) (v_not s5.ev).ev fun _ => v_or (y := false) (v_not (s6 0 x0 12 true rfl h0).ev).ev fun _ => v_not (s6 1 x1 8 true rfl (h1 rfl)).ev)).trans ss_nil)).trans ?_
      exact ss_rt (s_ret (s6 2 x2 13 c rfl (h2 rfl rfl)))
/-! ### check_columns -/
def hasC (T : List (D × D)) (c : D) : Bool := (look c T).isSome
def rowOk (T : List (D × D)) (r : D) : Bool := match items r with
  | some cs => cs.all (hasC T)
  | none => true
/-- rows of columns -/
def Rows (rows : List D) : Prop := ∀ r ∈ rows, (∃ cs, (r = .tup cs ∨ r = .lst cs) ∧ cs.length ≤ line ∧ ∀ c ∈ cs, c.key = true ∧ c.depth ≤ 7)
def badAt (T : List (D × D)) : List D → Nat → Option Nat
  | [], _ => none
  | r :: rs, k => if rowOk T r then badAt T rs (k + 1) else some k
abbrev sCol : D := .str [99, 111, 108, 117, 109, 110]
abbrev body16 : List S := [.ite (.not (.blt .all (.lc (.cmp .isin (.var 5) (.var 2)) (.nm 5) (.var 4) (.cst (.bl true)) [5]))) [.raise 1 [.tup [.var 0, .var 3], .cst sCol]] []]
theorem cc_row {R : Run} {word rw_ i : D} {T : List (D × D)} {rows : D} (h : ∃ cs, (rw_ = .tup cs ∨ rw_ = .lst cs) ∧ cs.length ≤ line ∧ ∀ c ∈ cs, c.key = true ∧ c.depth ≤ 7) :
    VV pg R (.blt .all (.lc (.cmp .isin (.var 5) (.var 2)) (.nm 5) (.var 4) (.cst (.bl true)) [5])) ⟨[.val word, .val rows, .val (.dic T), .val i, .val rw_, .un], []⟩ (.bl (rowOk T rw_)) := by
  obtain ⟨cs, hr, hl, hc⟩ := h
  have hi : items rw_ = some cs := by rcases hr with rfl | rfl <;> rfl
  have z := e_lc (P := pg) (R := R) (elt := .cmp .isin (.var 5) (.var 2)) (t := .nm 5) (src := .var 4) (c := .cst (.bl true)) (own := [5]) (s := ⟨[.val word, .val rows, .val (.dic T), .val i, .val rw_, .un], []⟩) (fun x => .bl (hasC T x)) (fun _ => true) rfl (.inl rfl) hi hl (fun x hx =>
      ⟨⟨[.val word, .val rows, .val (.dic T), .val i, .val rw_, .val x], []⟩, _, rfl, rfl, ⟨rfl, rfl⟩, fun _ => ⟨_, ⟨[.val word, .val rows, .val (.dic T), .val i, .val rw_, .val x], []⟩, .val (.bl (hasC T x)), v_cmp (v_var rfl).ev (v_var rfl).ev (by
        show (if x.key && decide (x.depth ≤ 7) then some (look x T).isSome else none) = _
        rw [(hc x hx).1, decide_eq_true (hc x hx).2]
        rfl), rfl, ⟨rfl, rfl⟩⟩⟩)
  rw [filter_true] at z
  unfold rowOk
  rw [hi]
  exact v_blt (OV.ev z) (all_map _ cs)
theorem cc_go {R : Run} {word : D} {T : List (D × D)} {rows0 : D} {g : St → Bool} (hg : ∀ s, g s = true) : ∀ (rows : List D) (k : Nat) (v3 v4 : Slot), Rows rows → ∃ v3' v4',
    forGo g (.pr [.nm 3, .nm 4]) (fun s => evSs pg R body16 s) ((rows.zipIdx k).map fun p => .tup [.int p.2, p.1]) ⟨[.val word, .val rows0, .val (.dic T), v3, v4, .un], []⟩ = match badAt T rows k with
      | none => .ok .nx ⟨[.val word, .val rows0, .val (.dic T), v3', v4', .un], []⟩
      | some i => .exc ⟨1, [.tup [word, .int i], sCol]⟩ ⟨[.val word, .val rows0, .val (.dic T), v3', v4', .un], []⟩
  | [], k, v3, v4, _ => ⟨v3, v4, by rw [List.zipIdx_nil, List.map_nil, forGo, if_pos (hg _)]; rfl⟩
  | r :: rs, k, v3, v4, h => by
    have hr := cc_row (R := R) (word := word) (T := T) (rows := rows0) (i := .int k) (h r List.mem_cons_self)
    rw [List.zipIdx_cons, List.map_cons, forGo, if_pos (hg _)]
    have e1 : stT (.pr [.nm 3, .nm 4]) (.tup [.int k, r]) ⟨[.val word, .val rows0, .val (.dic T), v3, v4, .un], []⟩ = some ⟨[.val word, .val rows0, .val (.dic T), .val (.int k), .val r, .un], []⟩ := rfl
    dsimp only
    rw [e1]
    dsimp only
    unfold badAt
    cases hk : rowOk T r with
    | true =>
      rw [hk] at hr
      rw [show evSs pg R body16 ⟨[.val word, .val rows0, .val (.dic T), .val (.int k), .val r, .un], []⟩ = .ok .nx ⟨[.val word, .val rows0, .val (.dic T), .val (.int k), .val r, .un], []⟩ from (ss_cons ((s_ifF (v_not hr.ev)).trans ss_nil)).trans ss_nil]
      obtain ⟨v3', v4', e⟩ := cc_go hg rs (k + 1) (.val (.int k)) (.val r) fun x hx => h x (List.mem_cons_of_mem _ hx)
      refine ⟨v3', v4', ?_⟩
      rw [if_pos rfl]
      exact e
    | false =>
      rw [hk] at hr
      rw [show evSs pg R body16 ⟨[.val word, .val rows0, .val (.dic T), .val (.int k), .val r, .un], []⟩ = .exc ⟨1, [.tup [word, .int k], sCol]⟩ ⟨[.val word, .val rows0, .val (.dic T), .val (.int k), .val r, .un], []⟩ from
        ss_exc (s_ifX (v_not hr.ev) (ss_exc (s_raise (.cons (.inl (v_tup (.cons (.inl (v_var rfl)) (.cons (.inl (v_var rfl)) .nil)))) (.cons (.inl v_cst) .nil)))))]
      refine ⟨.val (.int k), .val r, ?_⟩
      rw [if_neg (by simp)]
      rfl
theorem cc_ok {n : Nat} {word : D} {rows : List D} {T : List (D × D)} (h : Rows rows) : (run pg (n + 1) (.call 16 [.val word, .val (.lst rows), .val (.dic T)] [])).out = match badAt T rows 0 with
    | none => okD .non
    | some i => exW ⟨1, [.tup [word, .int i], sCol]⟩ := by
  obtain ⟨v3', v4', e⟩ := cc_go (R := run pg n) (word := word) (T := T) (rows0 := .lst rows) (g := still none (.lst (rows.zipIdx.map fun p => .tup [.int p.2, p.1]))) (fun _ => rfl) rows 0 .un .un h
  have hs : evE pg (run pg n) (.enu (.var 1)) ⟨[.val word, .val (.lst rows), .val (.dic T), .un, .un, .un], []⟩ = .ok (.val (.lst (rows.zipIdx.map fun p => .tup [.int p.2, p.1]))) ⟨[.val word, .val (.lst rows), .val (.dic T), .un, .un, .un], []⟩ := rfl
  have e2 := (s_for (b := body16) (t := .pr [.nm 3, .nm 4]) hs (.inl rfl) rfl).trans e
  cases hb : badAt T rows 0 with
  | none =>
    rw [hb] at e2
    exact run_out_nx (fd := f16) (sl := [.val word, .val (.lst rows), .val (.dic T)]) rfl ((ss_cons e2).trans ss_nil)
  | some i =>
    rw [hb] at e2
    exact run_out_x (fd := f16) (sl := [.val word, .val (.lst rows), .val (.dic T)]) rfl (ss_exc e2)
end Mid.k81
set_option Elab.async false
set_option linter.all false
set_option maxRecDepth 100000
set_option maxHeartbeats 1000000
/-! k81: facts of the columns. -/
namespace Mid.k81
open Mid
abbrev sOne : D := .str [111, 110, 101]
abbrev sZz : D := .str [122, 122]
abbrev odd : D := .tup [.str [97, 57], sOne]
def N5 : List D := [sOne, .str [116, 119, 111], .str [108, 101, 102, 116], .str [114, 105, 103, 104, 116], sZz]
/-- the columns that may be spoken of -/
def CA : List D := ([al 0, al 1, al 2].flatMap fun a => N5.map fun n => .tup [a, n]) ++ [odd]
def isB (r : Ret) (b : Bool) : Bool := match r with
  | .ret (.val (.bl c)) _ _ => c == b
  | _ => false
theorem isB_ok {r : Ret} {b : Bool} (h : isB r b = true) : r.out = okB b := by
  unfold isB at h
  split at h
  · rw [eq_of_beq h]; rfl
  · cases h
section
variable {n : Nat}
theorem cpl_all : ((CA ++ odd3).all fun d => isB (run pg (n + 4) (.call 8 [.val d] [])) (decide (d ∈ CA))) = true := by kernel_rfl
theorem grp_all : (CA.all fun c => [cG, cH].all fun a => isB (run pg (n + 5) (.call 12 [.val (.tup [a, c])] [])) true) = true := by kernel_rfl
theorem cnd_all : (CA.all fun c => (CA ++ odd3).all fun o => isB (run pg (n + 5) (.call 13 [.val (.tup [c, o])] [])) true) = true := by kernel_rfl
theorem key_all : (CA.all fun c => c.key && (decide (c.depth ≤ 7) && (c.pure && (decide (c.depth ≤ 2) && c.flat)))) = true := by kernel_rfl
theorem key_odd : (odd3.all fun c => c.pure && (decide (c.depth ≤ 2) && c.flat)) = true := by kernel_rfl
theorem cols_sub : (S39.all fun sl => (colsOf sl).all fun c => decide (c ∈ CA)) = true := by kernel_rfl
end
end Mid.k81
set_option Elab.async false
set_option linter.all false
set_option maxRecDepth 100000
set_option maxHeartbeats 2000000
/-! k81: checked_writing. -/
namespace Mid.k81
open Mid
abbrev sForm : D := .str [102, 111, 114, 109]
abbrev sSources : D := .str [115, 111, 117, 114, 99, 101, 115]
abbrev sOrder : D := .str [111, 114, 100, 101, 114]
abbrev sGroup : D := .str [103, 114, 111, 117, 112]
abbrev sConds : D := .str [99, 111, 110, 100, 105, 116, 105, 111, 110, 115]
abbrev sFacts : D := .str [102, 97, 99, 116, 115]
def fsts (l : List D) : List D := l.map fun x => match x with
  | .tup [a, _] => a
  | d => d
def TB : List (D × D) := [(cR, .tup [sOne, .str [116, 119, 111]]), (cS, .tup [sOne]), (cT, .tup [.str [108, 101, 102, 116], .str [114, 105, 103, 104, 116]])]
def tabOk (l : List D) : Bool := l.all fun x => match x with
  | .tup [_, t] => (look t TB).isSome
  | _ => false
def dicOf (cols : List D) : List (D × D) := cols.foldl (fun m c => put c (.bl true) m) []
def gRows (gl : List D) : List D := gl.map fun x => match x with
  | .tup [_, c] => .tup [c]
  | d => d
def cRows (cl : List D) : List D := cl.map fun x => match x with
  | .tup [c, o] => .lst ([c, o].filter fun d => decide (d ∈ CA))
  | d => d
abbrev fr17 (th gl sl cl : D) (v5 v10 : Slot) : St := ⟨[.val SH, .val th, .val gl, .val sl, .val cl, v5, .un, .un, .un, .un, v10, .un, .un, .un], []⟩
abbrev ordE : E := .blt .all (.lc (.cmp .lt (.ix (.var 8) (.cst (.int 0))) (.ix (.var 9) (.cst (.int 0)))) (.pr [.nm 8, .nm 9]) (.zip (.var 2) (.slc (.var 2) (.cst (.int 1)) (.cst .non) (.cst .non))) (.cst (.bl true)) [8, 9])
/-- the order of the group -/
def Ord (gl : List D) (o : Bool) : Prop := ∀ (R : Run) (th sl cl : D) (v5 : Slot), VV pg R ordE (fr17 th (.tup gl) sl cl v5 .un) (.bl o)
theorem ord0 : Ord [] true := fun R th sl cl v5 => rfl
theorem ord1 (a : List Nat) (c : D) : Ord [.tup [.str a, c]] true := fun R th sl cl v5 => rfl
theorem ord2 (a b : List Nat) (c d : D) : Ord [.tup [.str a, c], .tup [.str b, d]] (ltS a b) := fun R th sl cl v5 => by
  show evE _ _ _ _ = _
  have e : evE pg R ordE (fr17 th (.tup [.tup [.str a, c], .tup [.str b, d]]) sl cl v5 .un) = .ok (.val (.bl (ltS a b && true))) (fr17 th (.tup [.tup [.str a, c], .tup [.str b, d]]) sl cl v5 .un) := rfl
  rw [e, Bool.and_true]
structure SX (n : Nat) (sl : List D) (u : Bool) : Prop where
  at2 : ∀ x ∈ sl, ∃ a t : List Nat, x = .tup [.str a, .str t]
  pu : (D.tup sl).pure = true
  de : (D.tup sl).depth ≤ 60
  ln : sl.length ≤ 100
  un : (run pg (n + 7) (.call 10 [.val (.lst (fsts sl))] [])).out = okB u
  fm : (run pg (n + 6) (.call 6 [.val (.tup sl), .val (.fn 8)] [])).out = okB true
structure GX (gl : List D) : Prop where
  at2 : ∀ x ∈ gl, ∃ a c, (a = cG ∨ a = cH) ∧ c ∈ CA ∧ x = .tup [a, c]
  ln : gl.length ≤ 100
structure CX (cl : List D) : Prop where
  at2 : ∀ x ∈ cl, ∃ c o, c ∈ CA ∧ o ∈ CA ++ odd3 ∧ x = .tup [c, o]
  ln : cl.length ≤ 100
theorem ca_key {c : D} (h : c ∈ CA) : c.key = true ∧ c.depth ≤ 7 ∧ c.pure = true ∧ c.depth ≤ 2 ∧ c.flat = true := by
  have z := List.all_eq_true.mp key_all c h
  simp only [Bool.and_eq_true, decide_eq_true_eq] at z
  exact z
theorem line_100 {k : Nat} (h : k ≤ 100) : k ≤ line := by unfold line; omega
section
variable {n : Nat} {th : D} {gl sl cl cols : List D} {u ord : Bool} {v5 v10 : Slot}
theorem form_ok (S : SX n sl u) (G : GX gl) (C : CX cl) : (run pg (n + 7) (.call 14 [.val (.tup [.tup gl, .tup sl, .tup cl])] [])).out = okB true := by
  have g := tof (n := n + 5) (f := 12) (fd := f12) (xs := gl) (fun _ => true) rfl rfl rfl (fun x hx => by
    obtain ⟨a, c, ha, hc, rfl⟩ := G.at2 x hx
    have z := List.all_eq_true.mp (List.all_eq_true.mp (grp_all (n := n)) c hc) a (by rcases ha with rfl | rfl <;> simp)
    exact isB_ok z) (line_100 G.ln)
  have c := tof (n := n + 5) (f := 13) (fd := f13) (xs := cl) (fun _ => true) rfl rfl rfl (fun x hx => by
    obtain ⟨c, o, hc, ho, rfl⟩ := C.at2 x hx
    exact isB_ok (List.all_eq_true.mp (List.all_eq_true.mp (cnd_all (n := n)) c hc) o ho)) (line_100 C.ln)
  rw [List.all_eq_true.mpr (fun _ _ => rfl)] at g c
  exact wf3 (n := n + 5) g (fun _ => S.fm) (fun _ _ => c)
theorem un_all {R : Run} (S : SX n sl u) : OV pg R (.lc (.var 6) (.pr [.nm 6, .nm 7]) (.var 3) (.cst (.bl true)) [6, 7]) (fr17 th (.tup gl) (.tup sl) (.tup cl) v5 v10) (.lst (fsts sl)) := by
  have z := e_lc (P := pg) (R := R) (elt := .var 6) (t := .pr [.nm 6, .nm 7]) (src := .var 3) (c := .cst (.bl true)) (own := [6, 7]) (s := fr17 th (.tup gl) (.tup sl) (.tup cl) v5 v10) (fun x => match x with
      | .tup [a, _] => a
      | d => d) (fun _ => true) rfl (.inl rfl) (rfl : items (.tup sl) = some sl) (line_100 S.ln) (fun x hx => by
    obtain ⟨a, t, rfl⟩ := S.at2 x hx
    exact ⟨_, _, rfl, rfl, ⟨rfl, rfl⟩, fun _ => ⟨_, _, _, rfl, rfl, ⟨rfl, rfl⟩⟩⟩)
  rw [filter_true] at z
  exact z
theorem src_ok (S : SX n sl u) : VV pg (run pg (n + 7)) (.or (.cmp .eq (.var 3) (.tup [])) (.not (.call 10 [.lc (.var 6) (.pr [.nm 6, .nm 7]) (.var 3) (.cst (.bl true)) [6, 7]]))) (fr17 th (.tup gl) (.tup sl) (.tup cl) v5 v10) (.bl (sl.isEmpty || !u)) := by
  have h1 : VV pg (run pg (n + 7)) (.cmp .eq (.var 3) (.tup [])) (fr17 th (.tup gl) (.tup sl) (.tup cl) v5 v10) (.bl sl.isEmpty) := v_cmp (v_var rfl).ev (v_tup .nil).ev (by
    have e : cmpD .eq (.tup sl) (.tup []) = if (D.tup sl).pure && (D.tup []).pure && decide ((D.tup sl).depth ≤ 60) && decide ((D.tup []).depth ≤ 60) then some ((D.tup sl).eqv (.tup [])) else none := rfl
    rw [e, S.pu, decide_eq_true S.de]
    cases sl <;> rfl)
  exact v_or h1.ev fun _ => v_not (VV.ev (x_call (fd := f10) (as := [.w (.own (.lst (fsts sl)))]) (ds := [.lst (fsts sl)]) (.cons rfl (un_all S) .nil) ⟨rfl, trivial⟩ rfl rfl rfl S.un rfl))
theorem tab_ok {R : Run} (S : SX n sl u) : VV pg R (.blt .all (.lc (.cmp .isin (.var 7) (.var 5)) (.pr [.nm 6, .nm 7]) (.var 3) (.cst (.bl true)) [6, 7])) (fr17 th (.tup gl) (.tup sl) (.tup cl) (.own (.dic TB)) v10) (.bl (tabOk sl)) := by
  have z := e_lc (P := pg) (R := R) (elt := .cmp .isin (.var 7) (.var 5)) (t := .pr [.nm 6, .nm 7]) (src := .var 3) (c := .cst (.bl true)) (own := [6, 7]) (s := fr17 th (.tup gl) (.tup sl) (.tup cl) (.own (.dic TB)) v10) (fun x => .bl (match x with
      | .tup [_, t] => (look t TB).isSome
      | _ => false)) (fun _ => true) rfl (.inl rfl) (rfl : items (.tup sl) = some sl) (line_100 S.ln) (fun x hx => by
    obtain ⟨a, t, rfl⟩ := S.at2 x hx
    exact ⟨_, _, rfl, rfl, ⟨rfl, rfl⟩, fun _ => ⟨_, _, _, v_cmp (v_var rfl).ev (o_var rfl) rfl, rfl, ⟨rfl, rfl⟩⟩⟩)
  rw [filter_true] at z
  exact v_blt (OV.ev z) (all_map _ sl)
theorem there_ok (hc : (run pg (n + 7) (.call 15 [.val SH, .val (.tup sl)] [])).out = okW (.own (.lst cols))) (hw : wFlat (.own (.lst cols)) = true) (hk : ∀ c ∈ cols, c ∈ CA) (hl : cols.length ≤ 100) : OV pg (run pg (n + 7)) (.dc (.var 11) (.cst (.bl true)) (.nm 11) (.call 15 [.var 0, .var 3]) (.cst (.bl true)) [11]) (fr17 th (.tup gl) (.tup sl) (.tup cl) v5 v10) (.dic (dicOf cols)) :=
  e_dc (P := pg) (R := run pg (n + 7)) (k := .var 11) (v := .cst (.bl true)) (t := .nm 11) (c := .cst (.bl true)) (own := [11]) (xs := cols) (d := .lst cols) (fun c => (c, .bl true))
    (x_call (fd := f15) (as := [.w (.val SH), .w (.val (.tup sl))]) (ds := [SH, .tup sl]) (.cons rfl rfl (.cons rfl rfl .nil)) ⟨rfl, rfl, trivial⟩ rfl rfl rfl hc hw) (.inr rfl) rfl (line_100 hl) fun c hc => by
    have z := ca_key (hk c hc)
    exact ⟨by show (c.key && decide (c.depth ≤ 7)) = true; rw [z.1, decide_eq_true z.2.1]; rfl, _, rfl, v_cst, v_var rfl, v_cst, ⟨rfl, rfl⟩⟩
theorem g_rows {R : Run} (G : GX gl) : OV pg R (.lc (.tup [.var 11]) (.pr [.nm 12, .nm 11]) (.var 2) (.cst (.bl true)) [11, 12]) (fr17 th (.tup gl) (.tup sl) (.tup cl) v5 v10) (.lst (gRows gl)) := by
  have z := e_lc (P := pg) (R := R) (elt := .tup [.var 11]) (t := .pr [.nm 12, .nm 11]) (src := .var 2) (c := .cst (.bl true)) (own := [11, 12]) (s := fr17 th (.tup gl) (.tup sl) (.tup cl) v5 v10) (fun x => match x with
      | .tup [_, c] => .tup [c]
      | d => d) (fun _ => true) rfl (.inl rfl) (rfl : items (.tup gl) = some gl) (line_100 G.ln) (fun x hx => by
    obtain ⟨a, c, ha, hc, rfl⟩ := G.at2 x hx
    exact ⟨_, _, rfl, rfl, ⟨rfl, rfl⟩, fun _ => ⟨_, _, _, rfl, rfl, ⟨rfl, rfl⟩⟩⟩)
  rw [filter_true] at z
  exact z
theorem c_row {x : D} {c o : D} (hc : c ∈ CA) (ho : o ∈ CA ++ odd3) (hx : x = .tup [c, o]) {v8 : Slot} (h8 : v8 = .un) : evE pg (run pg (n + 7)) (.lc (.var 8) (.nm 8) (.var 13) (.call 8 [.var 8]) [8]) ⟨[.val SH, .val th, .val (.tup gl), .val (.tup sl), .val (.tup cl), v5, .un, .un, v8, .un, v10, .un, .un, .val x], []⟩ = .ok (.own (.lst ([c, o].filter fun d => decide (d ∈ CA)))) ⟨[.val SH, .val th, .val (.tup gl), .val (.tup sl), .val (.tup cl), v5, .un, .un, v8, .un, v10, .un, .un, .val x], []⟩ := by
  subst hx h8
  have z := e_lc (P := pg) (R := run pg (n + 7)) (elt := .var 8) (t := .nm 8) (src := .var 13) (c := .call 8 [.var 8]) (own := [8]) (s := ⟨[.val SH, .val th, .val (.tup gl), .val (.tup sl), .val (.tup cl), v5, .un, .un, .un, .un, v10, .un, .un, .val (.tup [c, o])], []⟩) (fun d => d) (fun d => decide (d ∈ CA)) rfl (.inl rfl) (rfl : items (.tup [c, o]) = some [c, o]) (by unfold line; exact (by decide : 2 ≤ 16777216)) (fun x hx => by
    have hm : x ∈ CA ++ odd3 := by
      simp only [List.mem_cons, List.not_mem_nil, or_false] at hx
      rcases hx with rfl | rfl
      · exact List.mem_append_left _ hc
      · exact ho
    have hb := isB_ok (List.all_eq_true.mp (cpl_all (n := n + 3)) x hm)
    exact ⟨_, _, rfl, x_call (fd := f8) (as := [.w (.val x)]) (ds := [x]) (.cons rfl rfl .nil) ⟨rfl, trivial⟩ rfl rfl rfl hb rfl, ⟨rfl, rfl⟩, fun _ => ⟨_, _, _, rfl, rfl, ⟨rfl, rfl⟩⟩⟩)
  rw [List.map_id'] at z
  exact z
theorem c_rows (C : CX cl) : OV pg (run pg (n + 7)) (.lc (.lc (.var 8) (.nm 8) (.var 13) (.call 8 [.var 8]) [8]) (.nm 13) (.var 4) (.cst (.bl true)) [13]) (fr17 th (.tup gl) (.tup sl) (.tup cl) v5 v10) (.lst (cRows cl)) := by
  have z := e_lc (P := pg) (R := run pg (n + 7)) (elt := .lc (.var 8) (.nm 8) (.var 13) (.call 8 [.var 8]) [8]) (t := .nm 13) (src := .var 4) (c := .cst (.bl true)) (own := [13]) (s := fr17 th (.tup gl) (.tup sl) (.tup cl) v5 v10) (fun x => match x with
      | .tup [c, o] => .lst ([c, o].filter fun d => decide (d ∈ CA))
      | d => d) (fun _ => true) rfl (.inl rfl) (rfl : items (.tup cl) = some cl) (line_100 C.ln) (fun x hx => by
    obtain ⟨c, o, hc, ho, rfl⟩ := C.at2 x hx
    exact ⟨_, _, rfl, rfl, ⟨rfl, rfl⟩, fun _ => ⟨_, _, _, c_row hc ho rfl rfl, rfl, ⟨rfl, rfl⟩⟩⟩)
  rw [filter_true] at z
  exact z
theorem rows_g (G : GX gl) : Rows (gRows gl) := fun r hr => by
  obtain ⟨x, hx, rfl⟩ := List.mem_map.mp hr
  obtain ⟨a, c, ha, hc, rfl⟩ := G.at2 x hx
  refine ⟨[c], .inl rfl, by unfold line; exact (by decide : 1 ≤ 16777216), fun d hd => ?_⟩
  rw [List.mem_singleton.mp hd]
  exact ⟨(ca_key hc).1, (ca_key hc).2.1⟩
theorem rows_c (C : CX cl) : Rows (cRows cl) := fun r hr => by
  obtain ⟨x, hx, rfl⟩ := List.mem_map.mp hr
  obtain ⟨c, o, hc, ho, rfl⟩ := C.at2 x hx
  refine ⟨_, .inr rfl, Nat.le_trans (List.length_filter_le _ _) (by unfold line; exact (by decide : 2 ≤ 16777216)), fun d hd => ?_⟩
  have := of_decide_eq_true (List.mem_filter.mp hd).2
  exact ⟨(ca_key this).1, (ca_key this).2.1⟩
/-- what checked_writing answers -/
def cwR (gl sl cl cols : List D) (u ord : Bool) : Option (Sum W X) :=
  if 10 < sl.length then exW ⟨2, [sFacts, .int 10]⟩
  else if 20 < cl.length then exW ⟨2, [sConds, .int 20]⟩
  else if sl.isEmpty || !u then exW ⟨1, [.tup [sSources], sForm]⟩
  else if tabOk sl = false then exW ⟨1, [.tup [sSources], sForm]⟩
  else if ord = false then exW ⟨1, [.tup [sGroup], sOrder]⟩
  else match badAt (dicOf cols) (gRows gl) 0 with
    | some i => exW ⟨1, [.tup [sGroup, .int i], sCol]⟩
    | none => match badAt (dicOf cols) (cRows cl) 0 with
      | some i => exW ⟨1, [.tup [sConds, .int i], sCol]⟩
      | none => okD (.tup [.tup gl, .tup sl, .tup cl])
theorem gt_len {R : Run} {i g : Nat} {m : Int} {s : St} {xs : List D} (hv : slotAt s i = .val (.tup xs)) (hg : pg.gs[g]? = some (.int m)) : VV pg R (.cmp .gt (.blt .len (.var i)) (.glo g)) s (.bl (decide (m < (xs.length : Int)))) :=
  v_cmp (v_blt (v_var hv).ev rfl).ev (v_glo hg).ev rfl
theorem cw (S : SX n sl u) (G : GX gl) (C : CX cl) (O : Ord gl ord) (hth : th = .tup [.tup gl, .tup sl, .tup cl])
    (hc : sl.length ≤ 10 → u = true → tabOk sl = true → ord = true → (run pg (n + 7) (.call 15 [.val SH, .val (.tup sl)] [])).out = okW (.own (.lst cols)) ∧ wFlat (.own (.lst cols)) = true ∧ (∀ c ∈ cols, c ∈ CA) ∧ cols.length ≤ 100) :
    (run pg (n + 8) (.call 17 [.val SH, .val th] [])).out = cwR gl sl cl cols u ord := by
  subst hth
  let R := run pg (n + 7)
  let s0 : St := ⟨[.val SH, .val (.tup [.tup gl, .tup sl, .tup cl]), .un, .un, .un, .un, .un, .un, .un, .un, .un, .un, .un, .un], []⟩
  let F := fr17 (.tup [.tup gl, .tup sl, .tup cl]) (.tup gl) (.tup sl) (.tup cl)
  have a1 : VV pg R (.call 14 [.var 1]) s0 (.bl true) := x_call (fd := f14) (as := [.w (.val (.tup [.tup gl, .tup sl, .tup cl]))]) (ds := [.tup [.tup gl, .tup sl, .tup cl]]) (.cons rfl rfl .nil) ⟨rfl, trivial⟩ rfl rfl rfl (form_ok S G C) rfl
  have b1 := (s_ifF (P := pg) (R := R) (a := [.raise 1 [.tup [], .cst sForm]]) (b := []) (v_not a1.ev)).trans ss_nil
  have b2 : evS pg R (.asg (.pr [.nm 2, .nm 3, .nm 4]) (.var 1)) s0 = .ok .nx (F .un .un) := rfl
  have c3 : VV pg R (.cmp .gt (.blt .len (.var 3)) (.glo 5)) (F .un .un) (.bl (decide ((10 : Int) < (sl.length : Int)))) := gt_len rfl rfl
  have c4 : VV pg R (.cmp .gt (.blt .len (.var 4)) (.glo 6)) (F .un .un) (.bl (decide ((20 : Int) < (cl.length : Int)))) := gt_len rfl rfl
  have start : ∀ {r : List Mid.S} {o : Out Fl}, f17.body.drop 2 = r → evSs pg R r (F .un .un) = o → evSs pg R f17.body s0 = o := fun {r o} e h => by
    have e0 : f17.body = .ite (.not (.call 14 [.var 1])) [.raise 1 [.tup [], .cst sForm]] [] :: .asg (.pr [.nm 2, .nm 3, .nm 4]) (.var 1) :: f17.body.drop 2 := rfl
    rw [e0, ss_cons b1, ss_cons b2, e]
    exact h
  unfold cwR
  by_cases h10 : 10 < sl.length
  · rw [if_pos h10]
    rw [decide_eq_true (by omega)] at c3
    exact run_out_x (fd := f17) (sl := [.val SH, .val (.tup [.tup gl, .tup sl, .tup cl])]) rfl (start rfl (ss_exc (s_ifX c3 (ss_exc (s_raise (.cons (.inl v_cst) (.cons (.inl (v_glo (g := 5) (d := .int 10) rfl)) .nil)))))))
  rw [if_neg h10]
  rw [decide_eq_false (by omega)] at c3
  have b3 := (s_ifF (a := [.raise 2 [.cst sFacts, .glo 5]]) (b := []) c3).trans ss_nil
  have start : ∀ {r : List Mid.S} {o : Out Fl}, f17.body.drop 3 = r → evSs pg R r (F .un .un) = o → evSs pg R f17.body s0 = o := fun {r o} e h => start (r := .ite (.cmp .gt (.blt .len (.var 3)) (.glo 5)) [.raise 2 [.cst sFacts, .glo 5]] [] :: r) (by rw [← e]; rfl) (by rw [ss_cons b3]; exact h)
  by_cases h20 : 20 < cl.length
  · rw [if_pos h20]
    rw [decide_eq_true (by omega)] at c4
    exact run_out_x (fd := f17) (sl := [.val SH, .val (.tup [.tup gl, .tup sl, .tup cl])]) rfl (start rfl (ss_exc (s_ifX c4 (ss_exc (s_raise (.cons (.inl v_cst) (.cons (.inl (v_glo (g := 6) (d := .int 20) rfl)) .nil)))))))
  rw [if_neg h20]
  rw [decide_eq_false (by omega)] at c4
  have b4 := (s_ifF (a := [.raise 2 [.cst sConds, .glo 6]]) (b := []) c4).trans ss_nil
  have b5 : evS pg R (.asg (.nm 5) (.blt .dict (.var 0))) (F .un .un) = .ok .nx (F (.own (.dic TB)) .un) := rfl
  have start : ∀ {r : List Mid.S} {o : Out Fl}, f17.body.drop 5 = r → evSs pg R r (F (.own (.dic TB)) .un) = o → evSs pg R f17.body s0 = o := fun {r o} e h => start (r := .ite (.cmp .gt (.blt .len (.var 4)) (.glo 6)) [.raise 2 [.cst sConds, .glo 6]] [] :: .asg (.nm 5) (.blt .dict (.var 0)) :: r) (by rw [← e]; rfl) (by rw [ss_cons b4, ss_cons b5]; exact h)
  have c6 := src_ok (n := n) (th := .tup [.tup gl, .tup sl, .tup cl]) (gl := gl) (cl := cl) (v5 := .own (.dic TB)) (v10 := .un) S
  cases h6 : (sl.isEmpty || !u) with
  | true =>
    rw [if_pos rfl]
    rw [h6] at c6
    exact run_out_x (fd := f17) (sl := [.val SH, .val (.tup [.tup gl, .tup sl, .tup cl])]) rfl (start rfl (ss_exc (s_ifX c6 (ss_exc (s_raise (.cons (.inl (v_tup (.cons (.inl v_cst) .nil))) (.cons (.inl v_cst) .nil)))))))
  | false =>
  rw [if_neg (by simp)]
  rw [h6] at c6
  have hu : u = true := by
    rw [Bool.or_eq_false_iff] at h6
    simpa using h6.2
  have b6 := (s_ifF (a := [.raise 1 [.tup [.cst sSources], .cst sForm]]) (b := []) c6).trans ss_nil
  have start : ∀ {r : List Mid.S} {o : Out Fl}, f17.body.drop 6 = r → evSs pg R r (F (.own (.dic TB)) .un) = o → evSs pg R f17.body s0 = o := fun {r o} e h => start (r := .ite (.or (.cmp .eq (.var 3) (.tup [])) (.not (.call 10 [.lc (.var 6) (.pr [.nm 6, .nm 7]) (.var 3) (.cst (.bl true)) [6, 7]]))) [.raise 1 [.tup [.cst sSources], .cst sForm]] [] :: r) (by rw [← e]; rfl) (by rw [ss_cons b6]; exact h)
  have c7 := tab_ok (R := R) (th := .tup [.tup gl, .tup sl, .tup cl]) (gl := gl) (cl := cl) (v10 := .un) S
  cases h7 : tabOk sl with
  | false =>
    rw [if_pos rfl]
    rw [h7] at c7
    exact run_out_x (fd := f17) (sl := [.val SH, .val (.tup [.tup gl, .tup sl, .tup cl])]) rfl (start rfl (ss_exc (s_ifX (v_not c7.ev) (ss_exc (s_raise (.cons (.inl (v_tup (.cons (.inl v_cst) .nil))) (.cons (.inl v_cst) .nil)))))))
  | true =>
  rw [if_neg (by simp)]
  rw [h7] at c7
  have b7 := (s_ifF (a := [.raise 1 [.tup [.cst sSources], .cst sForm]]) (b := []) (v_not c7.ev)).trans ss_nil
  have start : ∀ {r : List Mid.S} {o : Out Fl}, f17.body.drop 7 = r → evSs pg R r (F (.own (.dic TB)) .un) = o → evSs pg R f17.body s0 = o := fun {r o} e h => start (r := .ite (.not (.blt .all (.lc (.cmp .isin (.var 7) (.var 5)) (.pr [.nm 6, .nm 7]) (.var 3) (.cst (.bl true)) [6, 7]))) [.raise 1 [.tup [.cst sSources], .cst sForm]] [] :: r) (by rw [← e]; rfl) (by rw [ss_cons b7]; exact h)
  have c8 := O R (.tup [.tup gl, .tup sl, .tup cl]) (.tup sl) (.tup cl) (.own (.dic TB))
  cases h8 : ord with
  | false =>
    rw [if_pos rfl]
    rw [h8] at c8
    exact run_out_x (fd := f17) (sl := [.val SH, .val (.tup [.tup gl, .tup sl, .tup cl])]) rfl (start rfl (ss_exc (s_ifX (v_not c8.ev) (ss_exc (s_raise (.cons (.inl (v_tup (.cons (.inl v_cst) .nil))) (.cons (.inl v_cst) .nil)))))))
  | true =>
  rw [if_neg (by simp)]
  rw [h8] at c8
  obtain ⟨hc1, hc2, hc3, hc4⟩ := hc (by omega) hu h7 h8
  have b8 := (s_ifF (a := [.raise 1 [.tup [.cst sGroup], .cst sOrder]]) (b := []) (v_not c8.ev)).trans ss_nil
  have b9 := s_asgO (i := 10) (there_ok (n := n) (th := .tup [.tup gl, .tup sl, .tup cl]) (gl := gl) (cl := cl) (v5 := .own (.dic TB)) (v10 := .un) hc1 hc2 hc3 hc4)
  have start : ∀ {r : List Mid.S} {o : Out Fl}, f17.body.drop 9 = r → evSs pg R r (F (.own (.dic TB)) (.own (.dic (dicOf cols)))) = o → evSs pg R f17.body s0 = o := fun {r o} e h => start (r := .ite (.not ordE) [.raise 1 [.tup [.cst sGroup], .cst sOrder]] [] :: .asg (.nm 10) (.dc (.var 11) (.cst (.bl true)) (.nm 11) (.call 15 [.var 0, .var 3]) (.cst (.bl true)) [11]) :: r) (by rw [← e]; rfl) (by rw [ss_cons b8, ss_cons b9]; exact h)
  have ccall : ∀ (word : D) (e : E) (rows : List D), Rows rows → noCloP e = true → OV pg R e (F (.own (.dic TB)) (.own (.dic (dicOf cols)))) (.lst rows) → D.flat word = true →
      evS pg R (.expr (.call 16 [.cst word, e, .var 10])) (F (.own (.dic TB)) (.own (.dic (dicOf cols)))) = match badAt (dicOf cols) rows 0 with
        | none => .ok .nx (F (.own (.dic TB)) (.own (.dic (dicOf cols))))
        | some i => .exc ⟨1, [.tup [word, .int i], sCol]⟩ (F (.own (.dic TB)) (.own (.dic (dicOf cols)))) := fun word e rows hr hn he hf => by
    have z := cc_ok (n := n + 6) (word := word) (T := dicOf cols) hr
    cases hb : badAt (dicOf cols) rows 0 with
    | none =>
      rw [hb] at z
      exact s_expr (x_call (fd := f16) (as := [.w (.val word), .w (.own (.lst rows)), .w (.pl 10)]) (ds := [word, .lst rows, .dic (dicOf cols)]) (.cons rfl rfl (.cons hn he (.cons rfl rfl .nil))) ⟨rfl, rfl, rfl, trivial⟩ rfl rfl rfl z rfl)
    | some i =>
      rw [hb] at z
      exact s_exprX (x_callX (fd := f16) (as := [.w (.val word), .w (.own (.lst rows)), .w (.pl 10)]) (ds := [word, .lst rows, .dic (dicOf cols)]) (.cons rfl rfl (.cons hn he (.cons rfl rfl .nil))) ⟨rfl, rfl, rfl, trivial⟩ rfl rfl rfl z (by
        show (D.flat (.tup [word, .int i]) && (D.flat sCol && true)) = true
        show ((D.flat word && (true && true)) && (true && true)) = true
        rw [hf] <;> rfl))
  have d1 := ccall sGroup _ _ (rows_g G) rfl (g_rows G) rfl
  have d2 := ccall sConds _ _ (rows_c C) rfl (c_rows C) rfl
  cases hb1 : badAt (dicOf cols) (gRows gl) 0 with
  | some i =>
    rw [hb1] at d1
    exact run_out_x (fd := f17) (sl := [.val SH, .val (.tup [.tup gl, .tup sl, .tup cl])]) rfl (start rfl (ss_exc d1))
  | none =>
    rw [hb1] at d1
    cases hb2 : badAt (dicOf cols) (cRows cl) 0 with
    | some i =>
      rw [hb2] at d2
      exact run_out_x (fd := f17) (sl := [.val SH, .val (.tup [.tup gl, .tup sl, .tup cl])]) rfl (start rfl ((ss_cons d1).trans (ss_exc d2)))
    | none =>
      rw [hb2] at d2
      exact run_out_rt (fd := f17) (sl := [.val SH, .val (.tup [.tup gl, .tup sl, .tup cl])]) rfl (start rfl ((ss_cons d1).trans ((ss_cons d2).trans (ss_rt (s_ret (v_var (i := 1) (d := .tup [.tup gl, .tup sl, .tup cl]) rfl))))))
/-- no writing's form -/
theorem cw_form {th : D} (h : (run pg (n + 7) (.call 14 [.val th] [])).out = okB false) : (run pg (n + 8) (.call 17 [.val SH, .val th] [])).out = exW ⟨1, [.tup [], sForm]⟩ := by
  have a1 : VV pg (run pg (n + 7)) (.call 14 [.var 1]) ⟨[.val SH, .val th, .un, .un, .un, .un, .un, .un, .un, .un, .un, .un, .un, .un], []⟩ (.bl false) := x_call (fd := f14) (as := [.w (.val th)]) (ds := [th]) (.cons rfl rfl .nil) ⟨rfl, trivial⟩ rfl rfl rfl h rfl
  exact run_out_x (fd := f17) (sl := [.val SH, .val th]) rfl (ss_exc (s_ifX (v_not a1.ev) (ss_exc (s_raise (.cons (.inl (v_tup .nil)) (.cons (.inl v_cst) .nil))))))
end
end Mid.k81
set_option Elab.async false
set_option linter.all false
set_option maxRecDepth 100000
set_option maxHeartbeats 2000000
/-! k81: what is raised, told; equal things. -/
namespace Mid
theorem keeps_self : ∀ {c : Fr}, c.all plainSl = true → keepsP c c = true
  | [], _ => rfl
  | x :: r, h => by
    rw [List.all_cons, Bool.and_eq_true] at h
    unfold keepsP
    rw [h.1, keeps_self h.2]
    cases heldSl x <;> rfl
mutual
theorem eqv_refl : ∀ d : D, d.pure = true → d.eqv d = true
  | .non, _ => rfl
  | .bl b, _ => by unfold D.eqv; simp
  | .int i, _ => by unfold D.eqv; simp
  | .str s, _ => by unfold D.eqv; simp
  | .tup xs, h => by
    unfold D.eqv
    exact eqvs_refl xs (by unfold D.pure at h; exact h)
  | .lst xs, h => by
    unfold D.eqv
    exact eqvs_refl xs (by unfold D.pure at h; exact h)
  | .dic _, h => by unfold D.pure at h; cases h
  | .fn _, h => by unfold D.pure at h; cases h
theorem eqvs_refl : ∀ xs : List D, D.pures xs = true → D.eqvs xs xs = true
  | [], _ => rfl
  | x :: r, h => by
    unfold D.pures at h
    rw [Bool.and_eq_true] at h
    unfold D.eqvs
    rw [eqv_refl x h.1, eqvs_refl r h.2]
    rfl
end
theorem ne_self {xs : List D} (h : (D.tup xs).pure = true) (hd : (D.tup xs).depth ≤ 60) : cmpD .ne (.tup xs) (.tup xs) = some false := by
  have e : cmpD .ne (.tup xs) (.tup xs) = (if (D.tup xs).pure && (D.tup xs).pure && decide ((D.tup xs).depth ≤ 60) && decide ((D.tup xs).depth ≤ 60) then some ((D.tup xs).eqv (.tup xs)) else none).map (!·) := rfl
  rw [e, h, decide_eq_true hd, eqv_refl _ h]
  rfl
theorem ne_tup {d e : D} (he : d = e) (ht : ∃ xs, e = .tup xs) (h : e.pure = true) (hd : e.depth ≤ 60) : cmpD .ne d e = some false := by
  obtain ⟨xs, rfl⟩ := ht
  subst he
  exact ne_self h hd
end Mid
namespace Mid.k81
open Mid
abbrev sTold : D := .str [116, 111, 108, 100]
abbrev sBad : D := .str [98, 97, 100]
abbrev sLarge : D := .str [108, 97, 114, 103, 101]
/-- what _law_raised makes of it -/
def raisedD : Option (Sum W X) → Option D
  | some (.inl (.val d)) => some (.tup [sTold, d])
  | some (.inr ⟨1, [a, b]⟩) => some (.tup [sBad, a, b])
  | some (.inr ⟨2, [a, b]⟩) => some (.tup [sLarge, a, b])
  | _ => none
section
variable {m : Nat} {c p : Fr} {b : E}
theorem raise_call {w : W} (hpl : c.all plainSl = true) (hw : ∀ i, w ≠ .pl i) (hr : ∃ c', run pg (m + 2) (.call 24 [.clo [] b] c) = .ret w c' c) : evE pg (run pg (m + 2)) (.call 24 [.clo [] b]) ⟨c, p⟩ = .ok w ⟨c, p⟩ := by
  obtain ⟨c', hr⟩ := hr
  rw [evE]
  have ea : evAs pg (run pg (m + 2)) [.clo [] b] ⟨c, p⟩ = .ok [.clo [] b] ⟨c, p⟩ := rfl
  rw [ea]
  show callB pg (run pg (m + 2)) 24 f24 [.clo [] b] ⟨c, p⟩ = _
  unfold callB
  have es : argSlots [] (⟨c, p⟩ : St) 0 [.clo [] b] = some [.clo [] b] := rfl
  rw [es]
  dsimp only
  rw [if_pos ⟨rfl, rfl, hpl⟩, hr]
  cases w with
  | pl i => exact absurd rfl (hw i)
  | val d => dsimp only; rw [keeps_self hpl]; rfl
  | own d => dsimp only; rw [keeps_self hpl]; rfl
theorem clo_ok {d : D} (h : evE pg (run pg m) b ⟨c, []⟩ = .ok (.val d) ⟨c, []⟩) : evE pg (run pg (m + 1)) (.callv 0 []) ⟨[.clo [] b, .un], c⟩ = .ok (.val d) ⟨[.clo [] b, .un], c⟩ := by
  have hr : run pg (m + 1) (.clo [] b [] c) = .ret (.val d) c [] := by
    rw [run]
    show (match (evE pg (run pg m) b ⟨c, []⟩).bind fun w s => take s w with
      | .ok d s => Ret.ret (.val d) (back c s.c []) []
      | .exc x s => .exc x (back c s.c []) []
      | .stk m => .stk m) = _
    rw [h]
    rfl
  rw [evE]
  show callClo (run pg (m + 1)) [] b [] ⟨[.clo [] b, .un], c⟩ = _
  unfold callClo
  show (match run pg (m + 1) (.clo [] b [] c) with
    | .stk m => Out.stk m
    | .ret (.val d) p _ => Out.ok (W.val d) ⟨[.clo [] b, .un], p⟩
    | .ret _ _ _ => .stk "callv"
    | .exc x p _ => .exc x ⟨[.clo [] b, .un], p⟩) = _
  rw [hr]
theorem clo_exc {x : X} (h : evE pg (run pg m) b ⟨c, []⟩ = .exc x ⟨c, []⟩) : evE pg (run pg (m + 1)) (.callv 0 []) ⟨[.clo [] b, .un], c⟩ = .exc x ⟨[.clo [] b, .un], c⟩ := by
  have hr : run pg (m + 1) (.clo [] b [] c) = .exc x c [] := by
    rw [run]
    show (match (evE pg (run pg m) b ⟨c, []⟩).bind fun w s => take s w with
      | .ok d s => Ret.ret (.val d) (back c s.c []) []
      | .exc x s => .exc x (back c s.c []) []
      | .stk m => .stk m) = _
    rw [h]
    rfl
  rw [evE]
  show callClo (run pg (m + 1)) [] b [] ⟨[.clo [] b, .un], c⟩ = _
  unfold callClo
  show (match run pg (m + 1) (.clo [] b [] c) with
    | .stk m => Out.stk m
    | .ret (.val d) p _ => Out.ok (W.val d) ⟨[.clo [] b, .un], p⟩
    | .ret _ _ _ => .stk "callv"
    | .exc x p _ => .exc x ⟨[.clo [] b, .un], p⟩) = _
  rw [hr]
abbrev s24 : S := .try2 [.ret (.tup [.cst sTold, .callv 0 []])] [1] 1 [.ret (.tup [.cst sBad, .xat 1 0, .xat 1 1])] [2] 1 [.ret (.tup [.cst sLarge, .xat 1 0, .xat 1 1])]
theorem told (hpl : c.all plainSl = true) {d : D} (h : evE pg (run pg m) b ⟨c, []⟩ = .ok (.val d) ⟨c, []⟩) : evE pg (run pg (m + 2)) (.call 24 [.clo [] b]) ⟨c, p⟩ = .ok (.val (.tup [sTold, d])) ⟨c, p⟩ := by
  refine raise_call hpl (fun i => by simp) ⟨[.clo [] b, .un], ?_⟩
  have e1 : evSs pg (run pg (m + 1)) [.ret (.tup [.cst sTold, .callv 0 []])] ⟨[.clo [] b, .un], c⟩ = .ok (.rt (.val (.tup [sTold, d]))) ⟨[.clo [] b, .un], c⟩ := ss_rt (s_ret (e_tup2 v_cst (clo_ok h)))
  have e2 : evS pg (run pg (m + 1)) s24 ⟨[.clo [] b, .un], c⟩ = .ok (.rt (.val (.tup [sTold, d]))) ⟨[.clo [] b, .un], c⟩ := by
    rw [evS, e1]
  exact run_rt (fd := f24) (sl := [.clo [] b]) (s := ⟨[.clo [] b, .un], c⟩) rfl (ss_rt e2)
theorem exc_body {x : X} (h : evE pg (run pg m) b ⟨c, []⟩ = .exc x ⟨c, []⟩) : evSs pg (run pg (m + 1)) [.ret (.tup [.cst sTold, .callv 0 []])] ⟨[.clo [] b, .un], c⟩ = .exc x ⟨[.clo [] b, .un], c⟩ := by
  refine ss_exc ?_
  rw [evS]
  have e : evE pg (run pg (m + 1)) (.tup [.cst sTold, .callv 0 []]) ⟨[.clo [] b, .un], c⟩ = .exc x ⟨[.clo [] b, .un], c⟩ := by
    rw [evE, evTs]
    show ((evTs pg (run pg (m + 1)) [.callv 0 []] ⟨[.clo [] b, .un], c⟩).bind _).bind _ = _
    rw [evTs, clo_exc h]
    rfl
  rw [e]
  rfl
theorem bad1 (hpl : c.all plainSl = true) {a d : D} (h : evE pg (run pg m) b ⟨c, []⟩ = .exc ⟨1, [a, d]⟩ ⟨c, []⟩) : evE pg (run pg (m + 2)) (.call 24 [.clo [] b]) ⟨c, p⟩ = .ok (.val (.tup [sBad, a, d])) ⟨c, p⟩ := by
  refine raise_call hpl (fun i => by simp) ⟨[.clo [] b, .un], ?_⟩
  have e2 : evS pg (run pg (m + 1)) s24 ⟨[.clo [] b, .un], c⟩ = .ok (.rt (.val (.tup [sBad, a, d]))) ⟨[.clo [] b, .un], c⟩ := by
    rw [evS, exc_body h]
    rfl
  exact run_rt (fd := f24) (sl := [.clo [] b]) (s := ⟨[.clo [] b, .un], c⟩) rfl (ss_rt e2)
theorem bad2 (hpl : c.all plainSl = true) {a d : D} (h : evE pg (run pg m) b ⟨c, []⟩ = .exc ⟨2, [a, d]⟩ ⟨c, []⟩) : evE pg (run pg (m + 2)) (.call 24 [.clo [] b]) ⟨c, p⟩ = .ok (.val (.tup [sLarge, a, d])) ⟨c, p⟩ := by
  refine raise_call hpl (fun i => by simp) ⟨[.clo [] b, .un], ?_⟩
  have e2 : evS pg (run pg (m + 1)) s24 ⟨[.clo [] b, .un], c⟩ = .ok (.rt (.val (.tup [sLarge, a, d]))) ⟨[.clo [] b, .un], c⟩ := by
    rw [evS, exc_body h]
    rfl
  exact run_rt (fd := f24) (sl := [.clo [] b]) (s := ⟨[.clo [] b, .un], c⟩) rfl (ss_rt e2)
/-- the same of all three -/
theorem raised {o : Option (Sum W X)} {r : D} (hpl : c.all plainSl = true) (hr : raisedD o = some r) (h1 : ∀ d, o = okD d → evE pg (run pg m) b ⟨c, []⟩ = .ok (.val d) ⟨c, []⟩) (h2 : ∀ x, o = exW x → evE pg (run pg m) b ⟨c, []⟩ = .exc x ⟨c, []⟩) : evE pg (run pg (m + 2)) (.call 24 [.clo [] b]) ⟨c, p⟩ = .ok (.val r) ⟨c, p⟩ := by
  unfold raisedD at hr
  split at hr
  · cases hr
    exact told hpl (h1 _ rfl)
  · cases hr
    exact bad1 hpl (h2 _ rfl)
  · cases hr
    exact bad2 hpl (h2 _ rfl)
  · cases hr
end
def flatX : Option (Sum W X) → Bool
  | some (.inr x) => D.flats x.as
  | _ => true
/-- .. of a call on values -/
theorem raisedC {m f : Nat} {fd : Fd} {es : List E} {as : List D} {c p : Fr} {r : D} (hpl : c.all plainSl = true) (ha : evAs pg (run pg m) es ⟨c, []⟩ = .ok (vas as) ⟨c, []⟩) (hf : pg.fs[f]? = some fd) (hio : fd.io = []) (hn : as.length = fd.np)
    (hr : raisedD (run pg m (.call f (as.map Slot.val) [])).out = some r) (hfx : flatX (run pg m (.call f (as.map Slot.val) [])).out = true) : evE pg (run pg (m + 2)) (.call 24 [.clo [] (.call f es)]) ⟨c, p⟩ = .ok (.val r) ⟨c, p⟩ :=
  raised hpl hr (fun d e => e_call ha hf hio hn e (fun i => by simp)) fun x e => e_callX ha hf hio hn e (by rw [e] at hfx; exact hfx)
end Mid.k81
set_option Elab.async false
set_option linter.all false
set_option maxRecDepth 100000
set_option maxHeartbeats 2000000
/-! k81: what the spoilt writings answer. -/
namespace Mid.k81
open Mid
def two : D → Bool
  | .tup [.str _, .str _] => true
  | _ => false
theorem two_ok {x : D} (h : two x = true) : ∃ a t : List Nat, x = .tup [.str a, .str t] := by
  unfold two at h
  split at h
  · exact ⟨_, _, rfl⟩
  · cases h
def sxB (n : Nat) (sl : List D) (u : Bool) : Bool := sl.all two && ((D.tup sl).pure && (decide ((D.tup sl).depth ≤ 60) && (decide (sl.length ≤ 100) && (isB (run pg (n + 7) (.call 10 [.val (.lst (fsts sl))] [])) u && isB (run pg (n + 6) (.call 6 [.val (.tup sl), .val (.fn 8)] [])) true))))
theorem sx_of {n : Nat} {sl : List D} {u : Bool} (h : sxB n sl u = true) : SX n sl u := by
  unfold sxB at h
  simp only [Bool.and_eq_true, decide_eq_true_eq] at h
  obtain ⟨h1, h2, h3, h4, h5, h6⟩ := h
  exact ⟨fun x hx => two_ok (List.all_eq_true.mp h1 x hx), h2, h3, h4, isB_ok h5, isB_ok h6⟩
def bN (k : Int) : D := .tup [.str ([98] ++ intS k), cS]
def many : List D := [bN 0, bN 1, bN 2, bN 3, bN 4, bN 5, bN 6, bN 7, bN 8, bN 9, bN 10]
def ten : List D := [bN 0, bN 1, bN 2, bN 3, bN 4, bN 5, bN 6, bN 7, bN 8, bN 9]
abbrev zzz : D := .tup [sZz, .str [122, 122, 122]]
section
variable {n : Nat}
theorem sx_all : (S39.all fun sl => sxB n sl true && (tabOk sl && (decide (sl.length ≤ 3) && (!sl.isEmpty && (sxB n (sl ++ sl.take 1) false && (sxB n (sl ++ [zzz]) true && !tabOk (sl ++ [zzz]))))))) = true := by kernel_rfl
theorem sx_cl : (sxB n many true && (sxB n ten true && (sxB n [] true && tabOk ten))) = true := by kernel_rfl
def zzOf : D → D
  | .tup [a, _] => .tup [a, sZz]
  | d => d
theorem here_all : (S39.all fun sl => !hasC (dicOf (colsOf sl)) odd && (colsOf sl).all fun c => hasC (dicOf (colsOf sl)) c && (decide (c ∈ CA) && (decide (zzOf c ∈ CA) && (!hasC (dicOf (colsOf sl)) (zzOf c) && two c)))) = true := by kernel_rfl
theorem col15_all : (S39.all fun sl => ownLst (run pg (n + 1) (.call 15 [.val SH, .val (.tup sl)] [])) (colsOf sl)) = true := by kernel_rfl
theorem odd3_out : (odd3.all fun o => !decide (o ∈ CA)) = true := by kernel_rfl
theorem odd_in : odd ∈ CA := by
  have z : decide (odd ∈ CA) = true := by kernel_rfl
  exact of_decide_eq_true z
end
/-- all of a sources' facts -/
structure Sl (sl : List D) : Prop where
  s : ∀ n, SX n sl true
  tb : tabOk sl = true
  ln : sl.length ≤ 3
  ne : sl.isEmpty = false
  db : ∀ n, SX n (sl ++ sl.take 1) false
  zz : ∀ n, SX n (sl ++ [zzz]) true
  zt : tabOk (sl ++ [zzz]) = false
  od : hasC (dicOf (colsOf sl)) odd = false
  hc : ∀ c ∈ colsOf sl, hasC (dicOf (colsOf sl)) c = true ∧ c ∈ CA ∧ zzOf c ∈ CA ∧ hasC (dicOf (colsOf sl)) (zzOf c) = false ∧ ∃ a m : List Nat, c = .tup [.str a, .str m]
theorem sl_ok {sl : List D} (h : sl ∈ S39) : Sl sl := by
  have z1 := fun n => List.all_eq_true.mp (sx_all (n := n)) sl h
  have z2 := List.all_eq_true.mp here_all sl h
  simp only [Bool.and_eq_true, decide_eq_true_eq, Bool.not_eq_true'] at z1 z2
  obtain ⟨_, a2, a3, a4, _, _, a7⟩ := z1 0
  refine ⟨fun n => sx_of (z1 n).1, a2, a3, a4, fun n => sx_of (z1 n).2.2.2.2.1, fun n => sx_of (z1 n).2.2.2.2.2.1, a7, z2.1, fun c hc => ?_⟩
  have y := List.all_eq_true.mp z2.2 c hc
  simp only [Bool.and_eq_true, decide_eq_true_eq, Bool.not_eq_true'] at y
  exact ⟨y.1, y.2.1, y.2.2.1, y.2.2.2.1, two_ok y.2.2.2.2⟩
/-! ### rows -/
theorem badAt_all {T : List (D × D)} : ∀ {rows : List D} (k : Nat), (∀ r ∈ rows, rowOk T r = true) → badAt T rows k = none
  | [], _, _ => rfl
  | r :: rs, k, h => by
    unfold badAt
    rw [if_pos (h r List.mem_cons_self)]
    exact badAt_all (k + 1) fun x hx => h x (List.mem_cons_of_mem _ hx)
theorem badAt_at {T : List (D × D)} {r : D} {rest : List D} (hr : rowOk T r = false) : ∀ {rows : List D} (k : Nat), (∀ r ∈ rows, rowOk T r = true) → badAt T (rows ++ r :: rest) k = some (k + rows.length)
  | [], k, _ => by
    rw [List.nil_append]
    unfold badAt
    rw [hr, if_neg (by simp)]
    rfl
  | x :: rs, k, h => by
    rw [List.cons_append]
    unfold badAt
    rw [if_pos (h x List.mem_cons_self), badAt_at hr (k + 1) fun y hy => h y (List.mem_cons_of_mem _ hy), List.length_cons]
    congr 1
    omega
section
variable {sl gl cl : List D}
theorem crow {T : List (D × D)} {c o : D} (hc : c ∈ CA) : rowOk T (.lst ([c, o].filter fun d => decide (d ∈ CA))) = (hasC T c && (if o ∈ CA then hasC T o else true)) := by
  rw [List.filter_cons, decide_eq_true hc, if_pos rfl, List.filter_cons]
  by_cases ho : o ∈ CA
  · rw [decide_eq_true ho, if_pos rfl, if_pos ho]
    show (hasC T c && (hasC T o && true)) = _
    rw [Bool.and_true]
  · rw [decide_eq_false ho, if_neg (by simp), if_neg ho]
    rfl
theorem o_ok (h : Sl sl) {o : D} (ho : o ∈ colsOf sl ∨ o ∈ odd3) : (if o ∈ CA then hasC (dicOf (colsOf sl)) o else true) = true := by
  rcases ho with ho | ho
  · rw [if_pos (h.hc o ho).2.1]
    exact (h.hc o ho).1
  · have z := List.all_eq_true.mp odd3_out o ho
    rw [if_neg (by simpa using z)]
theorem conds_rows (h : Sl sl) (hc : ∀ c ∈ cl, Cond (colsOf sl) c) : ∀ r ∈ cRows cl, rowOk (dicOf (colsOf sl)) r = true := fun r hr => by
  obtain ⟨x, hx, rfl⟩ := List.mem_map.mp hr
  obtain ⟨c, o, h1, h2, rfl⟩ := hc x hx
  show rowOk _ (.lst ([c, o].filter fun d => decide (d ∈ CA))) = true
  rw [crow (h.hc c h1).2.1, (h.hc c h1).1, o_ok h h2]
  rfl
theorem o_in (h : Sl sl) {o : D} (ho : o ∈ colsOf sl ∨ o ∈ odd3) : o ∈ CA ++ odd3 := by
  rcases ho with ho | ho
  · exact List.mem_append_left _ (h.hc o ho).2.1
  · exact List.mem_append_right _ ho
theorem cx_of (h : Sl sl) (hc : ∀ c ∈ cl, Cond (colsOf sl) c) (hl : cl.length ≤ 3) : CX cl := ⟨fun x hx => by
  obtain ⟨c, o, h1, h2, rfl⟩ := hc x hx
  exact ⟨c, o, (h.hc c h1).2.1, o_in h h2, rfl⟩, by omega⟩
theorem cx_app {l m : List D} (a : CX l) (b : CX m) (hl : l.length + m.length ≤ 100) : CX (l ++ m) := ⟨fun x hx => by
  rcases List.mem_append.mp hx with hx | hx
  · exact a.at2 x hx
  · exact b.at2 x hx, by rw [List.length_append]; exact hl⟩
theorem cx_one {c o : D} (hc : c ∈ CA) (ho : o ∈ CA ++ odd3) : CX [.tup [c, o]] := ⟨fun x hx => ⟨c, o, hc, ho, List.mem_singleton.mp hx⟩, by simp⟩
theorem gx_nil : GX [] := ⟨(fun _ h => by cases h), by simp⟩
theorem gx_one {a c : D} (ha : a = cG ∨ a = cH) (hc : c ∈ CA) : GX [.tup [a, c]] := ⟨fun x hx => ⟨a, c, ha, hc, List.mem_singleton.mp hx⟩, by simp⟩
theorem gx_two {a b c d : D} (ha : a = cG ∨ a = cH) (hc : c ∈ CA) (hb : b = cG ∨ b = cH) (hd : d ∈ CA) : GX [.tup [a, c], .tup [b, d]] := ⟨fun x hx => by
  simp only [List.mem_cons, List.not_mem_nil, or_false] at hx
  rcases hx with rfl | rfl
  · exact ⟨a, c, ha, hc, rfl⟩
  · exact ⟨b, d, hb, hd, rfl⟩, by simp⟩
/-- a drawn group -/
theorem g_ok (h : Sl sl) (hg : GOk (colsOf sl) gl) : GX gl ∧ Ord gl true ∧ ∀ r ∈ gRows gl, rowOk (dicOf (colsOf sl)) r = true := by
  rcases hg with rfl | ⟨c, hc, rfl⟩ | ⟨c, hc, d, hd, rfl⟩
  · exact ⟨gx_nil, ord0, fun _ h => by cases h⟩
  · refine ⟨gx_one (.inl rfl) (h.hc c hc).2.1, ord1 _ _, fun r hr => ?_⟩
    rw [List.mem_singleton.mp hr]
    show (hasC _ c && true) = true
    rw [(h.hc c hc).1] <;> rfl
  · refine ⟨gx_two (.inl rfl) (h.hc c hc).2.1 (.inr rfl) (h.hc d hd).2.1, ord2 [103] [104] c d, fun r hr => ?_⟩
    have hr' : r = .tup [c] ∨ r = .tup [d] := by simpa [gRows] using hr
    rcases hr' with rfl | rfl
    · show (hasC _ c && true) = true
      rw [(h.hc c hc).1] <;> rfl
    · show (hasC _ d && true) = true
      rw [(h.hc d hd).1] <;> rfl
end
/-- what checked_writing answers, in the law -/
def ans (th : D) : Option (Sum W X) := (run pg 27 (.call 17 [.val SH, .val th] [])).out
structure Good (x : D) : Prop where
  ex : ∃ th due, x = .tup [th, due] ∧ raisedD (ans th) = some due ∧ flatX (ans th) = true ∧ (∃ xs, due = .tup xs) ∧ due.pure = true ∧ due.depth ≤ 60
theorem good_of {th : D} {x : X} {due : D} (h : ans th = exW x) (hr : raisedD (exW x) = some due) (hf : D.flats x.as = true) (ht : ∃ xs, due = .tup xs) (hp : due.pure = true) (hd : due.depth ≤ 60) : Good (.tup [th, due]) :=
  ⟨th, due, rfl, by rw [h]; exact hr, by rw [h]; exact hf, ht, hp, hd⟩
section
variable {sl gl cl : List D} {here : D}
theorem col_call (h : sl ∈ S39) : (run pg (19 + 7) (.call 15 [.val SH, .val (.tup sl)] [])).out = okW (.own (.lst (colsOf sl))) ∧ wFlat (.own (.lst (colsOf sl))) = true ∧ (∀ c ∈ colsOf sl, c ∈ CA) ∧ (colsOf sl).length ≤ 100 := by
  obtain ⟨_, b, c, d⟩ := cols_ok (n := 25) h
  exact ⟨ownLst_ok (List.all_eq_true.mp (col15_all (n := 25)) sl h), d, fun x hx => ((sl_ok h).hc x hx).2.1, by omega⟩
/-- the drawn writing is taken -/
theorem ans_ok (w : WOk sl gl cl) : ans (.tup [.tup gl, .tup sl, .tup cl]) = okD (.tup [.tup gl, .tup sl, .tup cl]) := by
  have h := sl_ok w.s
  obtain ⟨g1, g2, g3⟩ := g_ok h w.g
  have z := cw (n := 19) (cols := colsOf sl) (h.s 19) g1 (cx_of h w.c w.n) g2 rfl fun _ _ _ _ => col_call w.s
  refine z.trans ?_
  unfold cwR
  have := h.ln
  have := w.n
  rw [if_neg (by omega), if_neg (by omega), h.ne, h.tb, badAt_all 0 g3, badAt_all 0 (conds_rows h w.c)]
  rfl
def long (here : D) : List D := rep [.tup [here, .int 1]] 21
theorem long_len : (long here).length = 21 := rfl
theorem one_in : D.int 1 ∈ CA ++ odd3 := List.mem_append_right _ (by simp [odd3])
theorem cx_long (hh : here ∈ CA) : CX (long here) := ⟨fun x hx => by
  have : x = .tup [here, .int 1] := by
    have e : long here = List.replicate 21 (.tup [here, .int 1]) := rfl
    rw [e] at hx
    exact (List.mem_replicate.mp hx).2
  exact ⟨here, _, hh, one_in, this⟩, by rw [long_len]; decide⟩
theorem many_sx : SX 19 many true := sx_of (by
  have z := sx_cl (n := 19)
  simp only [Bool.and_eq_true] at z
  exact z.1)
theorem ten_sx : SX 19 ten true ∧ tabOk ten = true := by
  have z := sx_cl (n := 19)
  simp only [Bool.and_eq_true] at z
  exact ⟨sx_of z.2.1, z.2.2.2⟩
theorem nil_sx : SX 19 [] true := sx_of (by
  have z := sx_cl (n := 19)
  simp only [Bool.and_eq_true] at z
  exact z.2.2.1)
theorem cx_nil : CX [] := ⟨(fun _ h => by cases h), by simp⟩
theorem good1 (w : WOk sl gl cl) : Good (.tup [.tup [.tup gl, .tup many, .tup []], .tup [sLarge, sFacts, .int 10]]) := by
  obtain ⟨g1, g2, _⟩ := g_ok (sl_ok w.s) w.g
  exact good_of ((cw (n := 19) (cols := []) many_sx g1 cx_nil g2 rfl fun z => absurd z (by decide)).trans rfl) rfl rfl ⟨_, rfl⟩ rfl (by decide)
theorem good2 (w : WOk sl gl cl) (hh : here ∈ colsOf sl) : Good (.tup [.tup [.tup gl, .tup many, .tup (long here)], .tup [sLarge, sFacts, .int 10]]) := by
  obtain ⟨g1, g2, _⟩ := g_ok (sl_ok w.s) w.g
  exact good_of ((cw (n := 19) (cols := []) many_sx g1 (cx_long ((sl_ok w.s).hc _ hh).2.1) g2 rfl fun z => absurd z (by decide)).trans rfl) rfl rfl ⟨_, rfl⟩ rfl (by decide)
theorem good3 (w : WOk sl gl cl) (hh : here ∈ colsOf sl) : Good (.tup [.tup [.tup gl, .tup sl, .tup (long here)], .tup [sLarge, sConds, .int 20]]) := by
  have h := sl_ok w.s
  obtain ⟨g1, g2, _⟩ := g_ok h w.g
  refine good_of (x := ⟨2, [sConds, .int 20]⟩) ((cw (n := 19) (cols := colsOf sl) (h.s 19) g1 (cx_long (h.hc _ hh).2.1) g2 rfl fun _ _ _ _ => col_call w.s).trans ?_) rfl rfl ⟨_, rfl⟩ rfl (by decide)
  unfold cwR
  have := h.ln
  rw [if_neg (by omega), if_pos (by rw [long_len]; decide)]
theorem good4 (w : WOk sl gl cl) : Good (.tup [.tup [.tup gl, .tup [], .tup cl], .tup [sBad, .tup [sSources], sForm]]) := by
  have h := sl_ok w.s
  obtain ⟨g1, g2, _⟩ := g_ok h w.g
  refine good_of (x := ⟨1, [.tup [sSources], sForm]⟩) ((cw (n := 19) (cols := []) nil_sx g1 (cx_of h w.c w.n) g2 rfl fun _ _ _ _ => ⟨by kernel_rfl, rfl, (fun _ z => by cases z), by simp⟩).trans ?_) rfl rfl ⟨_, rfl⟩ rfl (by decide)
  unfold cwR
  have := w.n
  rw [if_neg (by decide), if_neg (by omega)]
  rfl
theorem good5 (w : WOk sl gl cl) : Good (.tup [.tup [.tup gl, .tup (sl ++ sl.take 1), .tup cl], .tup [sBad, .tup [sSources], sForm]]) := by
  have h := sl_ok w.s
  obtain ⟨g1, g2, _⟩ := g_ok h w.g
  refine good_of (x := ⟨1, [.tup [sSources], sForm]⟩) ((cw (n := 19) (cols := []) (h.db 19) g1 (cx_of h w.c w.n) g2 rfl fun _ z => by cases z).trans ?_) rfl rfl ⟨_, rfl⟩ rfl (by decide)
  unfold cwR
  have := w.n
  have := h.ln
  rw [if_neg (by rw [List.length_append, List.length_take]; omega), if_neg (by omega), Bool.not_false, Bool.or_true]
  rfl
theorem good6 (w : WOk sl gl cl) : Good (.tup [.tup [.tup gl, .tup (sl ++ [zzz]), .tup cl], .tup [sBad, .tup [sSources], sForm]]) := by
  have h := sl_ok w.s
  obtain ⟨g1, g2, _⟩ := g_ok h w.g
  refine good_of (x := ⟨1, [.tup [sSources], sForm]⟩) ((cw (n := 19) (cols := []) (h.zz 19) g1 (cx_of h w.c w.n) g2 rfl fun _ _ z => by rw [h.zt] at z; cases z).trans ?_) rfl rfl ⟨_, rfl⟩ rfl (by decide)
  unfold cwR
  have := w.n
  have := h.ln
  have e : (sl ++ [zzz]).isEmpty = false := by cases sl <;> rfl
  rw [if_neg (by rw [List.length_append]; simp; omega), if_neg (by omega), e, h.zt]
  rfl
theorem good_ord (w : WOk sl gl cl) {g : List D} (G : GX g) (O : Ord g false) : Good (.tup [.tup [.tup g, .tup sl, .tup cl], .tup [sBad, .tup [sGroup], sOrder]]) := by
  have h := sl_ok w.s
  refine good_of (x := ⟨1, [.tup [sGroup], sOrder]⟩) ((cw (n := 19) (cols := []) (h.s 19) G (cx_of h w.c w.n) O rfl fun _ _ _ z => by cases z).trans ?_) rfl rfl ⟨_, rfl⟩ rfl (by decide)
  unfold cwR
  have := w.n
  have := h.ln
  rw [if_neg (by omega), if_neg (by omega), h.ne, h.tb]
  rfl
theorem good7 (w : WOk sl gl cl) (hh : here ∈ colsOf sl) : Good (.tup [.tup [.tup [.tup [cH, here], .tup [cG, here]], .tup sl, .tup cl], .tup [sBad, .tup [sGroup], sOrder]]) :=
  good_ord w (gx_two (.inr rfl) ((sl_ok w.s).hc _ hh).2.1 (.inl rfl) ((sl_ok w.s).hc _ hh).2.1) (ord2 [104] [103] here here)
theorem good8 (w : WOk sl gl cl) (hh : here ∈ colsOf sl) : Good (.tup [.tup [.tup [.tup [cG, here], .tup [cG, here]], .tup sl, .tup cl], .tup [sBad, .tup [sGroup], sOrder]]) :=
  good_ord w (gx_two (.inl rfl) ((sl_ok w.s).hc _ hh).2.1 (.inl rfl) ((sl_ok w.s).hc _ hh).2.1) (ord2 [103] [103] here here)
theorem good14 (w : WOk sl gl cl) (hh : here ∈ colsOf sl) : Good (.tup [.tup [.tup [.tup [cH, here], .tup [cG, odd]], .tup ten, .tup cl], .tup [sBad, .tup [sGroup], sOrder]]) := by
  have h := sl_ok w.s
  refine good_of (x := ⟨1, [.tup [sGroup], sOrder]⟩) ((cw (n := 19) (cols := []) ten_sx.1 (gx_two (.inr rfl) (h.hc _ hh).2.1 (.inl rfl) odd_in) (cx_of h w.c w.n) (ord2 [104] [103] here odd) rfl fun _ _ _ z => by cases z).trans ?_) rfl rfl ⟨_, rfl⟩ rfl (by decide)
  unfold cwR
  have := w.n
  rw [if_neg (by decide), if_neg (by omega), ten_sx.2]
  rfl
theorem good9 (w : WOk sl gl cl) (hh : here ∈ colsOf sl) : Good (.tup [.tup [.tup [.tup [cG, here], .tup [cH, odd]], .tup sl, .tup cl], .tup [sBad, .tup [sGroup, .int 1], sCol]]) := by
  have h := sl_ok w.s
  refine good_of (x := ⟨1, [.tup [sGroup, .int 1], sCol]⟩) ((cw (n := 19) (cols := colsOf sl) (h.s 19) (gx_two (.inl rfl) (h.hc _ hh).2.1 (.inr rfl) odd_in) (cx_of h w.c w.n) (ord2 [103] [104] here odd) rfl fun _ _ _ _ => col_call w.s).trans ?_) rfl rfl ⟨_, rfl⟩ rfl (by decide)
  unfold cwR
  have := w.n
  have := h.ln
  have hb : badAt (dicOf (colsOf sl)) (gRows [.tup [cG, here], .tup [cH, odd]]) 0 = some 1 := badAt_at (rows := [.tup [here]]) (r := .tup [odd]) (rest := []) (by show (hasC _ odd && true) = false; rw [h.od]; rfl) 0 fun r hr => by
    rw [List.mem_singleton.mp hr]
    show (hasC _ here && true) = true
    rw [(h.hc _ hh).1]; rfl
  rw [if_neg (by omega), if_neg (by omega), h.ne, h.tb, hb]
  rfl
theorem good10 (w : WOk sl gl cl) (hh : here ∈ colsOf sl) : Good (.tup [.tup [.tup [.tup [cG, zzOf here]], .tup sl, .tup (cl ++ [.tup [odd, .int 1]])], .tup [sBad, .tup [sGroup, .int 0], sCol]]) := by
  have h := sl_ok w.s
  have := w.n
  have := h.ln
  refine good_of (x := ⟨1, [.tup [sGroup, .int 0], sCol]⟩) ((cw (n := 19) (cols := colsOf sl) (h.s 19) (gx_one (.inl rfl) (h.hc _ hh).2.2.1) (cx_app (cx_of h w.c w.n) (cx_one odd_in one_in) (by simp; omega)) (ord1 [103] (zzOf here)) rfl fun _ _ _ _ => col_call w.s).trans ?_) rfl rfl ⟨_, rfl⟩ rfl (by decide)
  unfold cwR
  have hb : badAt (dicOf (colsOf sl)) (gRows [.tup [cG, zzOf here]]) 0 = some 0 := badAt_at (rows := []) (r := .tup [zzOf here]) (rest := []) (by show (hasC _ (zzOf here) && true) = false; rw [(h.hc _ hh).2.2.2.1]; rfl) 0 fun r hr => by cases hr
  rw [if_neg (by omega), if_neg (by rw [List.length_append]; simp; omega), h.ne, h.tb, hb]
  rfl
theorem good_cond (w : WOk sl gl cl) {l1 : List D} {r : D} {rest : List D} (h1 : ∀ c ∈ l1, Cond (colsOf sl) c) (hn : l1.length + (rest.length + 1) ≤ 20) (hC : CX (l1 ++ r :: rest)) (hr : ∃ c o, c ∈ CA ∧ r = .tup [c, o] ∧ (hasC (dicOf (colsOf sl)) c = false ∨ (o ∈ CA ∧ hasC (dicOf (colsOf sl)) o = false))) :
    Good (.tup [.tup [.tup gl, .tup sl, .tup (l1 ++ r :: rest)], .tup [sBad, .tup [sConds, .int l1.length], sCol]]) := by
  have h := sl_ok w.s
  have := h.ln
  obtain ⟨g1, g2, g3⟩ := g_ok h w.g
  refine good_of (x := ⟨1, [.tup [sConds, .int l1.length], sCol]⟩) ((cw (n := 19) (cols := colsOf sl) (h.s 19) g1 hC g2 rfl fun _ _ _ _ => col_call w.s).trans ?_) rfl rfl ⟨_, rfl⟩ rfl (by show (2 : Nat) ≤ 60; decide)
  unfold cwR
  have hb : badAt (dicOf (colsOf sl)) (cRows (l1 ++ r :: rest)) 0 = some l1.length := by
    obtain ⟨c, o, hc, rfl, hco⟩ := hr
    have e : cRows (l1 ++ .tup [c, o] :: rest) = cRows l1 ++ (.lst ([c, o].filter fun d => decide (d ∈ CA))) :: cRows rest := by
      unfold cRows
      rw [List.map_append, List.map_cons]
    have hl : (cRows l1).length = l1.length := List.length_map ..
    rw [e, badAt_at (by
      rw [crow hc]
      rcases hco with z | ⟨z1, z2⟩
      · rw [z]; rfl
      · rw [if_pos z1, z2, Bool.and_false]) 0 (conds_rows h h1), hl, Nat.zero_add]
  rw [if_neg (by omega), if_neg (by rw [List.length_append, List.length_cons]; omega), h.ne, h.tb, badAt_all 0 g3, hb]
  rfl
theorem good11 (w : WOk sl gl cl) : Good (.tup [.tup [.tup gl, .tup sl, .tup (cl ++ [.tup [odd, .int 1]])], .tup [sBad, .tup [sConds, .int cl.length], sCol]]) := by
  have h := sl_ok w.s
  have := w.n
  exact good_cond w (r := .tup [odd, .int 1]) (rest := []) w.c (by simp; omega) (cx_app (cx_of h w.c w.n) (cx_one odd_in one_in) (by simp; omega)) ⟨odd, .int 1, odd_in, rfl, .inl h.od⟩
theorem good12 (w : WOk sl gl cl) (hh : here ∈ colsOf sl) : Good (.tup [.tup [.tup gl, .tup sl, .tup ([.tup [here, odd]] ++ cl)], .tup [sBad, .tup [sConds, .int 0], sCol]]) := by
  have h := sl_ok w.s
  have := w.n
  have hC : CX ([.tup [here, odd]] ++ cl) := cx_app (cx_one (h.hc _ hh).2.1 (List.mem_append_left _ odd_in)) (cx_of h w.c w.n) (by simp; omega)
  exact good_cond w (l1 := []) (r := .tup [here, odd]) (rest := cl) (fun _ z => by cases z) (by simp; omega) hC ⟨here, odd, (h.hc _ hh).2.1, rfl, .inr ⟨odd_in, h.od⟩⟩
theorem good13 (w : WOk sl gl cl) (hh : here ∈ colsOf sl) : Good (.tup [.tup [.tup gl, .tup sl, .tup (cl ++ [.tup [here, zzOf here], .tup [odd, odd]])], .tup [sBad, .tup [sConds, .int cl.length], sCol]]) := by
  have h := sl_ok w.s
  have := w.n
  exact good_cond w (r := .tup [here, zzOf here]) (rest := [.tup [odd, odd]]) w.c (by simp; omega) (cx_app (cx_of h w.c w.n) (cx_app (cx_one (h.hc _ hh).2.1 (List.mem_append_left _ (h.hc _ hh).2.2.1)) (cx_one odd_in (List.mem_append_left _ odd_in)) (by simp)) (by simp; omega)) ⟨here, zzOf here, (h.hc _ hh).2.1, rfl, .inr ⟨(h.hc _ hh).2.2.1, (h.hc _ hh).2.2.2.1⟩⟩
end
end Mid.k81
set_option Elab.async false
set_option linter.all false
set_option maxRecDepth 100000
set_option maxHeartbeats 2000000
/-! k81: the law's lap, its first half. -/
namespace Mid
theorem s_forO {P : Pg} {R : Run} {t : T} {k : Nat} {b : List S} {s : St} {xs : List D} (h : slotAt s k = .own (.lst xs)) : evS P R (.for_ t (.var k) b) s = forGo (still (some k) (.lst xs)) t (fun s => evSs P R b s) xs s := by
  have e : evE P R (.var k) s = .ok (.pl k) s := by rw [evE, h]
  have e2 : evSrc (.var k) [] (.pl k) s = .ok (.lst xs, some k) s := by
    show (match slotAt s k with
      | .own (.lst xs) => if ([] : List Nat).contains k || k != k then (take s (.pl k)).bind fun d s => .ok (d, none) s else Out.ok (D.lst xs, some k) s
      | _ => (take s (.pl k)).bind fun d s => .ok (d, none) s) = _
    rw [h]
    simp
  rw [evS, e]
  show (evSrc (.var k) [] (.pl k) s).bind _ = _
  rw [e2]
  rfl
theorem still_own {k : Nat} {xs : List D} {s : St} (h : slotAt s k = .own (.lst xs)) : still (some k) (.lst xs) s = true := by
  unfold still
  dsimp only
  rw [h]
  exact decide_eq_true rfl
/-- a walk whose turns do nothing but look -/
theorem for_all {t : T} {body : St → Out Fl} {g : St → Bool} (J : St → Prop) (hg : ∀ s, J s → g s = true) (xs : List D) (s : St)
    (h : ∀ x ∈ xs, ∀ s, J s → ∃ s1 s2, stT t x s = some s1 ∧ body s1 = .ok .nx s2 ∧ J s2) (h0 : J s) : ∃ s', forGo g t body xs s = .ok .nx s' ∧ J s' := by
  obtain ⟨s', a, b⟩ := for_inv (N := xs.length) (fun _ => J) (fun _ => hg) xs 0 s (fun x hx n s _ hs => by
    obtain ⟨s1, s2, a, b, c⟩ := h x hx s hs
    exact ⟨s1, s2, .nx, a, b, .inl rfl, c⟩) (by omega) h0
  exact ⟨s', a, b⟩
end Mid
namespace Mid.k81
open Mid
abbrev LF (sc b : D) (v2 v3 v4 v5 v6 v7 v8 v9 v10 v11 v12 v13 v14 v15 v16 v17 v18 v19 : Slot) : St := ⟨[.val sc, .own b, v2, v3, v4, v5, v6, v7, v8, v9, v10, v11, v12, v13, v14, v15, v16, v17, v18, v19], []⟩
def lapB : List S := match f25.body.getD 1 .pass with
  | .for_ _ _ b => b
  | _ => []
abbrev R29 : Run := run pg 29
abbrev stl (i : Nat) : S := lapB.getD i .pass
abbrev sShapes : D := .str [115, 104, 97, 112, 101, 115]
def grab (o : Out Fl) : List D := match o with
  | .ok _ s => (match slotAt s 4 with
    | .own (.lst xs) => xs
    | _ => [])
  | _ => []
def dum (v4 : Slot) : St := LF .non .non .un (.val SH) v4 .un .un .un .un .un .un .un .un .un .un .un .un .un .un .un
def sp1a : List D := grab (evS pg (fun _ => .stk "") (stl 2) (dum .un))
def sp1b : List D := grab (evS pg (fun _ => .stk "") (stl 3) (dum (.own (.lst sp1a))))
def sp1 : List D := grab (evS pg (fun _ => .stk "") (stl 4) (dum (.own (.lst sp1b))))
def isXB (r : Ret) (x : X) : Bool := match r with
  | .exc y _ _ => decide (y = x)
  | _ => false
theorem isXB_ok {r : Ret} {x : X} (h : isXB r x = true) : r.out = exW x := by
  unfold isXB at h
  split at h
  · rw [of_decide_eq_true h]; rfl
  · cases h
def sp1B : D → Bool
  | .tup [th, f] => isXB (run pg 27 (.call 11 [.val th] [])) ⟨1, [.tup [sShapes], f]⟩ && (f.flat && (f.pure && decide (f.depth ≤ 50)))
  | _ => false
theorem sp1_all : sp1.all sp1B = true := by kernel_rfl
theorem sp1_ok {x : D} (h : x ∈ sp1) : ∃ th f, x = .tup [th, f] ∧ (run pg 27 (.call 11 [.val th] [])).out = exW ⟨1, [.tup [sShapes], f]⟩ ∧ f.flat = true ∧ f.pure = true ∧ f.depth ≤ 50 := by
  have z := List.all_eq_true.mp sp1_all x h
  unfold sp1B at z
  split at z
  · simp only [Bool.and_eq_true, decide_eq_true_eq] at z
    exact ⟨_, _, rfl, isXB_ok z.1, z.2.1, z.2.2.1, z.2.2.2⟩
  · cases z
theorem shapes_told : (run pg 27 (.call 11 [.val SH] [])).out = okD SH := by kernel_rfl
theorem shapes_nil : (run pg 29 (.call 11 [.val (.tup [])] [])).out = okD (.tup []) := by kernel_rfl
theorem pl_val (d : D) : plainSl (.val d) = true := rfl
theorem pl_own (d : D) : plainSl (.own d) = true := rfl
def Pls (vs : List Slot) : Prop := vs.all plainSl = true
section
variable {sc b lap : D} {v2 v3 v4 v5 v6 v7 v8 v9 v10 v11 v12 v13 v14 v15 v16 v17 v18 v19 : Slot}
theorem q1 : evS pg R29 (stl 0) (LF sc b v2 v3 v4 v5 v6 v7 v8 v9 v10 v11 v12 v13 v14 v15 v16 v17 v18 v19) = .ok .nx (LF sc b v2 (.val SH) v4 v5 v6 v7 v8 v9 v10 v11 v12 v13 v14 v15 v16 v17 v18 v19) :=
  s_asg (x_call (fd := f21) (as := [.w (.pl 1)]) (ds := [b]) (w := .val SH) (.cons rfl rfl .nil) ⟨rfl, trivial⟩ rfl rfl rfl rfl rfl)
theorem q2 (hp : Pls [v2, v4, v5, v6, v7, v8, v9, v10, v11, v12, v13, v14, v15, v16, v17, v18, v19]) : evS pg R29 (stl 1) (LF sc b v2 (.val SH) v4 v5 v6 v7 v8 v9 v10 v11 v12 v13 v14 v15 v16 v17 v18 v19) = .ok .nx (LF sc b v2 (.val SH) v4 v5 v6 v7 v8 v9 v10 v11 v12 v13 v14 v15 v16 v17 v18 v19) := by
  have pl : (LF sc b v2 (.val SH) v4 v5 v6 v7 v8 v9 v10 v11 v12 v13 v14 v15 v16 v17 v18 v19).c.all plainSl = true := by
    unfold Pls at hp
    simp only [List.all_cons, List.all_nil, Bool.and_true, Bool.and_eq_true] at hp ⊢
    simp only [pl_val, pl_own, hp, and_self]
  have h1 : VV pg R29 (.call 24 [.clo [] (.call 11 [.var 3])]) (LF sc b v2 (.val SH) v4 v5 v6 v7 v8 v9 v10 v11 v12 v13 v14 v15 v16 v17 v18 v19) (.tup [sTold, SH]) :=
    raisedC (m := 27) (fd := f11) (as := [SH]) pl rfl rfl rfl rfl (by rw [show (run pg 27 (.call 11 ([SH].map Slot.val) [])).out = okD SH from shapes_told]; rfl) (by rw [show (run pg 27 (.call 11 ([SH].map Slot.val) [])).out = okD SH from shapes_told]; rfl)
  have c1 : VV pg R29 (.cmp .ne (.call 24 [.clo [] (.call 11 [.var 3])]) (.tup [.cst sTold, .var 3])) (LF sc b v2 (.val SH) v4 v5 v6 v7 v8 v9 v10 v11 v12 v13 v14 v15 v16 v17 v18 v19) (.bl false) :=
    v_cmp h1.ev (v_tup (.cons (.inl v_cst) (.cons (.inl (v_var rfl)) .nil))).ev (by kernel_rfl)
  have h2 : VV pg R29 (.call 11 [.tup []]) (LF sc b v2 (.val SH) v4 v5 v6 v7 v8 v9 v10 v11 v12 v13 v14 v15 v16 v17 v18 v19) (.tup []) :=
    x_call (fd := f11) (as := [.w (.val (.tup []))]) (ds := [.tup []]) (.cons rfl rfl .nil) ⟨rfl, trivial⟩ rfl rfl rfl shapes_nil rfl
  have c2 : VV pg R29 (.cmp .ne (.call 11 [.tup []]) (.tup [])) (LF sc b v2 (.val SH) v4 v5 v6 v7 v8 v9 v10 v11 v12 v13 v14 v15 v16 v17 v18 v19) (.bl false) := v_cmp h2.ev (v_tup .nil).ev (by kernel_rfl)
  have c3 : VV pg R29 (.or (.cmp .ne (.call 24 [.clo [] (.call 11 [.var 3])]) (.tup [.cst sTold, .var 3])) (.cmp .ne (.call 11 [.tup []]) (.tup []))) (LF sc b v2 (.val SH) v4 v5 v6 v7 v8 v9 v10 v11 v12 v13 v14 v15 v16 v17 v18 v19) (.bl (false || false)) := v_or c1.ev fun _ => c2
  exact (s_ifF c3).trans ss_nil
theorem q3 : evS pg R29 (stl 2) (LF sc b v2 (.val SH) v4 v5 v6 v7 v8 v9 v10 v11 v12 v13 v14 v15 v16 v17 v18 v19) = .ok .nx (LF sc b v2 (.val SH) (.own (.lst sp1a)) v5 v6 v7 v8 v9 v10 v11 v12 v13 v14 v15 v16 v17 v18 v19) := by kernel_rfl
theorem q4 : evS pg R29 (stl 3) (LF sc b v2 (.val SH) (.own (.lst sp1a)) v5 v6 v7 v8 v9 v10 v11 v12 v13 v14 v15 v16 v17 v18 v19) = .ok .nx (LF sc b v2 (.val SH) (.own (.lst sp1b)) v5 v6 v7 v8 v9 v10 v11 v12 v13 v14 v15 v16 v17 v18 v19) := by kernel_rfl
theorem q5 : evS pg R29 (stl 4) (LF sc b v2 (.val SH) (.own (.lst sp1b)) v5 v6 v7 v8 v9 v10 v11 v12 v13 v14 v15 v16 v17 v18 v19) = .ok .nx (LF sc b v2 (.val SH) (.own (.lst sp1)) v5 v6 v7 v8 v9 v10 v11 v12 v13 v14 v15 v16 v17 v18 v19) := by kernel_rfl
theorem q6 (hp : Pls [v2, v7, v8, v9, v10, v11, v12, v13, v14, v15, v16, v17, v18, v19]) (p5 : plainSl v5 = true) (p6 : plainSl v6 = true) : ∃ v5' v6', plainSl v5' = true ∧ plainSl v6' = true ∧
    evS pg R29 (stl 5) (LF sc b v2 (.val SH) (.own (.lst sp1)) v5 v6 v7 v8 v9 v10 v11 v12 v13 v14 v15 v16 v17 v18 v19) = .ok .nx (LF sc b v2 (.val SH) (.own (.lst sp1)) v5' v6' v7 v8 v9 v10 v11 v12 v13 v14 v15 v16 v17 v18 v19) := by
  obtain ⟨s', e, v5', v6', p5', p6', rfl⟩ := for_all (t := .pr [.nm 5, .nm 6]) (g := still (some 4) (.lst sp1)) (body := fun s => evSs pg R29 [.ite (.cmp .ne (.call 24 [.clo [] (.call 11 [.var 5])]) (.tup [.cst sBad, .tup [.cst sShapes], .var 6])) [.ret (.cst (.bl false))] []] s)
    (fun s => ∃ v5 v6, plainSl v5 = true ∧ plainSl v6 = true ∧ s = LF sc b v2 (.val SH) (.own (.lst sp1)) v5 v6 v7 v8 v9 v10 v11 v12 v13 v14 v15 v16 v17 v18 v19) (fun s ⟨_, _, _, _, e⟩ => by rw [e]; exact still_own rfl) sp1 _ (fun x hx s ⟨v5, v6, p5, p6, es⟩ => by
      subst es
      obtain ⟨th, f, rfl, hr, hf, hpu, hd⟩ := sp1_ok hx
      refine ⟨LF sc b v2 (.val SH) (.own (.lst sp1)) (.val th) (.val f) v7 v8 v9 v10 v11 v12 v13 v14 v15 v16 v17 v18 v19, _, rfl, ?_, .val th, .val f, rfl, rfl, rfl⟩
      have pl : (LF sc b v2 (.val SH) (.own (.lst sp1)) (.val th) (.val f) v7 v8 v9 v10 v11 v12 v13 v14 v15 v16 v17 v18 v19).c.all plainSl = true := by
        unfold Pls at hp
        simp only [List.all_cons, List.all_nil, Bool.and_true, Bool.and_eq_true] at hp ⊢
        simp only [pl_val, pl_own, hp, and_self]
      have h1 : VV pg R29 (.call 24 [.clo [] (.call 11 [.var 5])]) (LF sc b v2 (.val SH) (.own (.lst sp1)) (.val th) (.val f) v7 v8 v9 v10 v11 v12 v13 v14 v15 v16 v17 v18 v19) (.tup [sBad, .tup [sShapes], f]) :=
        raisedC (m := 27) (fd := f11) (as := [th]) pl rfl rfl rfl rfl (by rw [show (run pg 27 (.call 11 ([th].map Slot.val) [])).out = _ from hr]; rfl) (by
          rw [show (run pg 27 (.call 11 ([th].map Slot.val) [])).out = _ from hr]
          show (D.flat (.tup [sShapes]) && (D.flat f && true)) = true
          rw [hf]; rfl)
      have c1 : VV pg R29 (.cmp .ne (.call 24 [.clo [] (.call 11 [.var 5])]) (.tup [.cst sBad, .tup [.cst sShapes], .var 6])) (LF sc b v2 (.val SH) (.own (.lst sp1)) (.val th) (.val f) v7 v8 v9 v10 v11 v12 v13 v14 v15 v16 v17 v18 v19) (.bl false) :=
        v_cmp h1.ev (v_tup (.cons (.inl v_cst) (.cons (.inl (v_tup (.cons (.inl v_cst) .nil))) (.cons (.inl (v_var rfl)) .nil)))).ev (ne_self (by
          show (true && (true && (f.pure && true))) = true
          rw [hpu]; rfl) (by
          show max 0 (max 1 (max f.depth 0)) + 1 ≤ 60
          omega))
      exact (ss_cons ((s_ifF c1).trans ss_nil)).trans ss_nil) ⟨v5, v6, p5, p6, rfl⟩
  exact ⟨v5', v6', p5', p6', (s_forO rfl).trans e⟩
end
end Mid.k81
set_option Elab.async false
set_option linter.all false
set_option maxRecDepth 100000
set_option maxHeartbeats 2000000
/-! k81: the law's lap, its second half. -/
namespace Mid
theorem pures_of : ∀ {l : List D}, (∀ x ∈ l, x.pure = true) → D.pures l = true
  | [], _ => rfl
  | x :: r, h => by
    unfold D.pures
    rw [h x List.mem_cons_self, pures_of fun y hy => h y (List.mem_cons_of_mem _ hy)]
    rfl
theorem depths_of {k : Nat} : ∀ {l : List D}, (∀ x ∈ l, x.depth ≤ k) → D.depths l ≤ k
  | [], _ => Nat.zero_le _
  | x :: r, h => by
    unfold D.depths
    exact Nat.max_le.mpr ⟨h x List.mem_cons_self, depths_of fun y hy => h y (List.mem_cons_of_mem _ hy)⟩
theorem add_tup {a b : List D} (h : a.length + b.length ≤ line) : binD .add (.tup a) (.tup b) = some (.val (.tup (a ++ b))) := if_pos h
theorem add_lst {a b : List D} (h : a.length + b.length ≤ line) : binD .add (.lst a) (.lst b) = some (.own (.lst (a ++ b))) := if_pos h
theorem slc_1 (xs : List D) : slcD (.tup xs) .non (.int 1) .non = some (.val (.tup (xs.take 1))) := by
  have e : slcD (.tup xs) .non (.int 1) .non = some (.val (.tup ((xs.drop 0).take (min (1 : Int).toNat xs.length - 0)))) := rfl
  rw [e, List.drop_zero, Nat.sub_zero]
  cases xs with
  | nil => rfl
  | cons x r =>
    have : min (1 : Int).toNat (x :: r).length = 1 := by
      rw [List.length_cons]
      show min 1 (r.length + 1) = 1
      omega
    rw [this]
end Mid
namespace Mid.k81
open Mid
theorem ca_odd {o : D} (h : o ∈ CA ++ odd3) : o.pure = true ∧ o.depth ≤ 2 := by
  rcases List.mem_append.mp h with h | h
  · exact ⟨(ca_key h).2.2.1, (ca_key h).2.2.2.1⟩
  · have z := List.all_eq_true.mp key_odd o h
    simp only [Bool.and_eq_true, decide_eq_true_eq] at z
    exact ⟨z.1, z.2.1⟩
section
variable {sl gl cl : List D}
theorem g_pure (G : GX gl) : D.pures gl = true ∧ D.depths gl ≤ 3 := ⟨pures_of fun x hx => by
  obtain ⟨a, c, ha, hc, rfl⟩ := G.at2 x hx
  show (a.pure && (c.pure && true)) = true
  rw [(ca_key hc).2.2.1]
  rcases ha with rfl | rfl <;> rfl, depths_of fun x hx => by
  obtain ⟨a, c, ha, hc, rfl⟩ := G.at2 x hx
  have := (ca_key hc).2.2.2.1
  show max a.depth (max c.depth 0) + 1 ≤ 3
  rcases ha with rfl | rfl
  · show max 0 (max c.depth 0) + 1 ≤ 3; omega
  · show max 0 (max c.depth 0) + 1 ≤ 3; omega⟩
theorem c_pure (C : CX cl) : D.pures cl = true ∧ D.depths cl ≤ 3 := ⟨pures_of fun x hx => by
  obtain ⟨c, o, hc, ho, rfl⟩ := C.at2 x hx
  show (c.pure && (o.pure && true)) = true
  rw [(ca_key hc).2.2.1, (ca_odd ho).1]
  rfl, depths_of fun x hx => by
  obtain ⟨c, o, hc, ho, rfl⟩ := C.at2 x hx
  have h1 := (ca_key hc).2.2.2.1
  have h2 := (ca_odd ho).2
  show max c.depth (max o.depth 0) + 1 ≤ 3
  omega⟩
theorem w_pure (w : WOk sl gl cl) : (D.tup [sTold, .tup [.tup gl, .tup sl, .tup cl]]).pure = true ∧ (D.tup [sTold, .tup [.tup gl, .tup sl, .tup cl]]).depth ≤ 65 ∧ (D.tup [sTold, .tup [.tup gl, .tup sl, .tup cl]]).depth ≤ 60 + 5 := by
  have h := sl_ok w.s
  have a := g_pure (g_ok h w.g).1
  have c := c_pure (cx_of h w.c w.n)
  have p := (h.s 0).pu
  have d := (h.s 0).de
  refine ⟨?_, ?_, ?_⟩
  · show (true && ((D.pures gl && ((D.tup sl).pure && (D.pures cl && true))) && true)) = true
    rw [a.1, p, c.1]
    rfl
  · show max 0 (max (max (D.depths gl + 1) (max (D.tup sl).depth (max (D.depths cl + 1) 0)) + 1) 0) + 1 ≤ 65
    omega
  · show max 0 (max (max (D.depths gl + 1) (max (D.tup sl).depth (max (D.depths cl + 1) 0)) + 1) 0) + 1 ≤ 65
    omega
theorem sl_dep : (S39.all fun sl => decide ((D.tup sl).depth ≤ 5)) = true := by kernel_rfl
theorem w_dep (w : WOk sl gl cl) : (D.tup [sTold, .tup [.tup gl, .tup sl, .tup cl]]).depth ≤ 60 := by
  have h := sl_ok w.s
  have a := g_pure (g_ok h w.g).1
  have c := c_pure (cx_of h w.c w.n)
  have d := of_decide_eq_true (List.all_eq_true.mp sl_dep sl w.s)
  show max 0 (max (max (D.depths gl + 1) (max (D.tup sl).depth (max (D.depths cl + 1) 0)) + 1) 0) + 1 ≤ 60
  omega
end
/-! ### things that are no writings -/
def FGood (x : D) : Prop := (run pg (19 + 7) (.call 14 [.val x] [])).out = okB false
abbrev sA1 : D := .str [97, 49]
theorem no_all : (CA.all fun c => isB (run pg (19 + 5) (.call 13 [.val (.tup [c, .non])] [])) false) = true := by kernel_rfl
section
variable {sl gl cl : List D} {here : D}
theorem fg_g (w : WOk sl gl cl) : (run pg (19 + 6) (.call 6 [.val (.tup gl), .val (.fn 12)] [])).out = okB true := by
  have G := (g_ok (sl_ok w.s) w.g).1
  have g := tof (n := 19 + 5) (f := 12) (fd := f12) (xs := gl) (fun _ => true) rfl rfl rfl (fun x hx => by
    obtain ⟨a, c, ha, hc, rfl⟩ := G.at2 x hx
    have z := List.all_eq_true.mp (List.all_eq_true.mp (grp_all (n := 19)) c hc) a (by rcases ha with rfl | rfl <;> simp)
    exact isB_ok z) (line_100 G.ln)
  rw [List.all_eq_true.mpr (fun _ _ => rfl)] at g
  exact g
def oddsL (gl sl cl : List D) (here : D) : List D := [.non, .tup [.tup gl, .tup sl], .lst [.tup gl, .tup sl, .tup cl], .tup [.tup gl, .lst sl, .tup cl], .tup [.tup gl, .tup sl, .tup [.tup [here]]], .tup [.tup gl, .tup [.tup [sA1]], .tup []]]
def odds2 (gl sl cl : List D) (here : D) : List D := [.tup [.tup [.tup [cG, cH]], .tup sl, .tup []], .tup [.tup gl, .tup sl, .tup [.tup [here, .non]]]]
theorem odds_good (w : WOk sl gl cl) (hh : here ∈ colsOf sl) : ∀ x ∈ oddsL gl sl cl here ++ odds2 gl sl cl here, FGood x := by
  have h := sl_ok w.s
  intro x hx
  simp only [oddsL, odds2, List.mem_append, List.mem_cons, List.not_mem_nil, or_false] at hx
  rcases hx with (rfl | rfl | rfl | rfl | rfl | rfl) | (rfl | rfl)
  · unfold FGood; kernel_rfl
  · unfold FGood; rfl
  · unfold FGood; rfl
  · exact wf3 (n := 19 + 5) (a := true) (b := false) (c := false) (fg_g w) (fun _ => tof_lst) fun _ z => by cases z
  · refine wf3 (n := 19 + 5) (a := true) (b := true) (c := false) (fg_g w) (fun _ => (h.s 19).fm) fun _ _ => ?_
    exact tof (n := 19 + 5) (f := 13) (fd := f13) (xs := [.tup [here]]) (fun _ => false) rfl rfl rfl (fun x hx => by rw [List.mem_singleton.mp hx]; rfl) (by unfold line; exact (by decide : 1 ≤ 16777216))
  · refine wf3 (n := 19 + 5) (a := true) (b := false) (c := false) (fg_g w) (fun _ => ?_) fun _ z => by cases z
    kernel_rfl
  · refine wf3 (n := 19 + 5) (a := false) (b := false) (c := false) ?_ (fun z => by cases z) fun z => by cases z
    kernel_rfl
  · refine wf3 (n := 19 + 5) (a := true) (b := true) (c := false) (fg_g w) (fun _ => (h.s 19).fm) fun _ _ => ?_
    exact tof (n := 19 + 5) (f := 13) (fd := f13) (xs := [.tup [here, .non]]) (fun _ => false) rfl rfl rfl (fun x hx => by
      rw [List.mem_singleton.mp hx]
      exact isB_ok (List.all_eq_true.mp no_all here (h.hc _ hh).2.1)) (by unfold line; exact (by decide : 1 ≤ 16777216))
end
section
variable {sc b lap : D} {v2 v3 v4 v5 v6 v7 v8 v9 v10 v11 v12 v13 v14 v15 v16 v17 v18 v19 : Slot} {sl gl cl : List D} {here : D}
theorem q7 (hb : Bag b) : ∃ sl gl cl b', WOk sl gl cl ∧ Bag b' ∧ evS pg R29 (stl 6) (LF sc b v2 (.val SH) v4 v5 v6 v7 v8 v9 v10 v11 v12 v13 v14 v15 v16 v17 v18 v19) = .ok .nx (LF sc b' v2 (.val SH) v4 v5 v6 (.val (.tup [.tup gl, .tup sl, .tup cl])) v8 v9 v10 v11 v12 v13 v14 v15 v16 v17 v18 v19) := by
  obtain ⟨sl, gl, cl, b', c, w, hb', hc, hr⟩ := writing_ok (n := 26) (p := []) hb
  refine ⟨sl, gl, cl, b', w, hb', s_asg (s' := LF sc b' v2 (.val SH) v4 v5 v6 v7 v8 v9 v10 v11 v12 v13 v14 v15 v16 v17 v18 v19) (x_callG (fd := f22) (as := [.w (.pl 1), .w (.val SH), .w (.val (.int 3))]) (sl := [.own b, .val SH, .val (.int 3)]) (c := c) (p := []) (VAs.as (.cons rfl rfl (.cons rfl rfl (.cons rfl rfl .nil)))) rfl rfl rfl rfl rfl hr (fun i => by simp) ?_)⟩
  show (match (c[0]?).getD .un with
    | .own d => argBack [0] (wFlat (.val (.tup [.tup gl, .tup sl, .tup cl])) && false) c 1 [.w (.val SH), .w (.val (.int 3))] ((LF sc b v2 (.val SH) v4 v5 v6 v7 v8 v9 v10 v11 v12 v13 v14 v15 v16 v17 v18 v19).c.set 1 (.own d))
    | _ => none) = _
  rw [hc]
  rfl
theorem q8 (hp : Pls [v2, v4, v5, v6, v8, v9, v10, v11, v12, v13, v14, v15, v16, v17, v18, v19]) (w : WOk sl gl cl) : evS pg R29 (stl 7) (LF sc b v2 (.val SH) v4 v5 v6 (.val (.tup [.tup gl, .tup sl, .tup cl])) v8 v9 v10 v11 v12 v13 v14 v15 v16 v17 v18 v19) = .ok .nx (LF sc b v2 (.val SH) v4 v5 v6 (.val (.tup [.tup gl, .tup sl, .tup cl])) v8 v9 v10 v11 v12 v13 v14 v15 v16 v17 v18 v19) := by
  have pl : (LF sc b v2 (.val SH) v4 v5 v6 (.val (.tup [.tup gl, .tup sl, .tup cl])) v8 v9 v10 v11 v12 v13 v14 v15 v16 v17 v18 v19).c.all plainSl = true := by
    unfold Pls at hp
    simp only [List.all_cons, List.all_nil, Bool.and_true, Bool.and_eq_true] at hp ⊢
    simp only [pl_val, pl_own, hp, and_self]
  have a := ans_ok w
  have h1 : VV pg R29 (.call 24 [.clo [] (.call 17 [.var 3, .var 7])]) (LF sc b v2 (.val SH) v4 v5 v6 (.val (.tup [.tup gl, .tup sl, .tup cl])) v8 v9 v10 v11 v12 v13 v14 v15 v16 v17 v18 v19) (.tup [sTold, .tup [.tup gl, .tup sl, .tup cl]]) :=
    raisedC (m := 27) (fd := f17) (as := [SH, .tup [.tup gl, .tup sl, .tup cl]]) pl rfl rfl rfl rfl (by rw [show (run pg 27 (.call 17 ([SH, .tup [.tup gl, .tup sl, .tup cl]].map Slot.val) [])).out = _ from a]; rfl) (by rw [show (run pg 27 (.call 17 ([SH, .tup [.tup gl, .tup sl, .tup cl]].map Slot.val) [])).out = _ from a]; rfl)
  have c1 : VV pg R29 (.cmp .ne (.call 24 [.clo [] (.call 17 [.var 3, .var 7])]) (.tup [.cst sTold, .var 7])) (LF sc b v2 (.val SH) v4 v5 v6 (.val (.tup [.tup gl, .tup sl, .tup cl])) v8 v9 v10 v11 v12 v13 v14 v15 v16 v17 v18 v19) (.bl false) :=
    v_cmp h1.ev (v_tup (.cons (.inl v_cst) (.cons (.inl (v_var rfl)) .nil))).ev (ne_self (w_pure w).1 (w_dep w))
  exact (s_ifF c1).trans ss_nil
theorem q9 : evS pg R29 (stl 8) (LF sc b v2 (.val SH) v4 v5 v6 (.val (.tup [.tup gl, .tup sl, .tup cl])) v8 v9 v10 v11 v12 v13 v14 v15 v16 v17 v18 v19) = .ok .nx (LF sc b v2 (.val SH) v4 v5 v6 (.val (.tup [.tup gl, .tup sl, .tup cl])) (.val (.tup gl)) (.val (.tup sl)) (.val (.tup cl)) v11 v12 v13 v14 v15 v16 v17 v18 v19) := rfl
theorem q10 (hs : sl ∈ S39) : evS pg R29 (stl 9) (LF sc b v2 (.val SH) v4 v5 v6 v7 v8 (.val (.tup sl)) v10 v11 v12 v13 v14 v15 v16 v17 v18 v19) = .ok .nx (LF sc b v2 (.val SH) v4 v5 v6 v7 v8 (.val (.tup sl)) v10 (.own (.lst (colsOf sl))) v12 v13 v14 v15 v16 v17 v18 v19) := by
  obtain ⟨c1, c2, c3, c4⟩ := cols_ok (n := 28) hs
  exact s_asgO (x_call (fd := f23) (as := [.w (.val SH), .w (.val (.tup sl))]) (ds := [SH, .tup sl]) (.cons rfl rfl (.cons rfl rfl .nil)) ⟨rfl, rfl, trivial⟩ rfl rfl rfl c1 c4)
theorem q11 (hs : sl ∈ S39) (hb : Bag b) : ∃ here b', here ∈ colsOf sl ∧ Bag b' ∧ evS pg R29 (stl 10) (LF sc b v2 (.val SH) v4 v5 v6 v7 v8 v9 v10 (.own (.lst (colsOf sl))) v12 v13 v14 v15 v16 v17 v18 v19) = .ok .nx (LF sc b' v2 (.val SH) v4 v5 v6 v7 v8 v9 v10 (.own (.lst (colsOf sl))) (.val here) v13 v14 v15 v16 v17 v18 v19) := by
  obtain ⟨c1, c2, c3, c4⟩ := cols_ok (n := 28) hs
  obtain ⟨v, b', c, v0, v1, hb', hc, hr⟩ := take_ok (n := 28) (p := []) hb (many := ((colsOf sl).length : Int)) (by omega) (by omega)
  obtain ⟨x, hx, hix⟩ := ixD_mem v0 v1
  refine ⟨x, b', hx, hb', s_asg (s' := LF sc b' v2 (.val SH) v4 v5 v6 v7 v8 v9 v10 (.own (.lst (colsOf sl))) v12 v13 v14 v15 v16 v17 v18 v19) ?_⟩
  have k1 : evE pg R29 (.call 19 [.var 1, .blt .len (.var 11)]) (LF sc b v2 (.val SH) v4 v5 v6 v7 v8 v9 v10 (.own (.lst (colsOf sl))) v12 v13 v14 v15 v16 v17 v18 v19) = .ok (.val (.int v)) (LF sc b' v2 (.val SH) v4 v5 v6 v7 v8 v9 v10 (.own (.lst (colsOf sl))) v12 v13 v14 v15 v16 v17 v18 v19) := by
    refine x_callG (fd := f19) (as := [.w (.pl 1), .w (.val (.int (colsOf sl).length))]) (sl := [.own b, .val (.int (colsOf sl).length)]) (c := c) (p := []) (VAs.as (.cons rfl rfl (.cons rfl (v_blt (o_var rfl) rfl) .nil))) rfl rfl rfl rfl rfl hr (fun i => by simp) ?_
    show (match (c[0]?).getD .un with
      | .own d => argBack [0] (wFlat (.val (.int v)) && false) c 1 [.w (.val (.int (colsOf sl).length))] ((LF sc b v2 (.val SH) v4 v5 v6 v7 v8 v9 v10 (.own (.lst (colsOf sl))) v12 v13 v14 v15 v16 v17 v18 v19).c.set 1 (.own d))
      | _ => none) = _
    rw [hc]
    rfl
  show evE pg R29 (.ix (.var 11) (.call 19 [.var 1, .blt .len (.var 11)])) _ = _
  rw [evE]
  show (evE pg R29 (.call 19 [.var 1, .blt .len (.var 11)]) (LF sc b v2 (.val SH) v4 v5 v6 v7 v8 v9 v10 (.own (.lst (colsOf sl))) v12 v13 v14 v15 v16 v17 v18 v19)).bind _ = _
  rw [k1]
  show (match ixD (.lst (colsOf sl)) (.int v) with
    | some v => Out.ok (W.val v) _
    | none => .stk "ix") = _
  rw [show ixD (.lst (colsOf sl)) (.int v) = some x from hix]
abbrev GF (sc b : D) (gl sl cl : List D) (here : D) (v2 v4 v5 v6 v11 v13 v14 v15 v16 v17 v18 v19 : Slot) : St := LF sc b v2 (.val SH) v4 v5 v6 (.val (.tup [.tup gl, .tup sl, .tup cl])) (.val (.tup gl)) (.val (.tup sl)) (.val (.tup cl)) v11 (.val here) v13 v14 v15 v16 v17 v18 v19
theorem q12 : evS pg R29 (stl 11) (GF sc b gl sl cl here v2 v4 v5 v6 v11 v13 v14 v15 v16 v17 v18 v19) = .ok .nx (GF sc b gl sl cl here v2 v4 v5 v6 v11 (.own (.lst (oddsL gl sl cl here))) v14 v15 v16 v17 v18 v19) := rfl
theorem q13 (hp : Pls [v2, v4, v6, v11, v14, v15, v16, v17, v18, v19]) (p5 : plainSl v5 = true) (w : WOk sl gl cl) (hh : here ∈ colsOf sl) : ∃ v5', plainSl v5' = true ∧ evS pg R29 (stl 12) (GF sc b gl sl cl here v2 v4 v5 v6 v11 (.own (.lst (oddsL gl sl cl here))) v14 v15 v16 v17 v18 v19) = .ok .nx (GF sc b gl sl cl here v2 v4 v5' v6 v11 (.own (.lst (oddsL gl sl cl here))) v14 v15 v16 v17 v18 v19) := by
  have hs : evE pg R29 (.bin .add (.var 13) (.lst [.tup [.tup [.tup [.cst cG, .cst cH]], .var 9, .tup []], .tup [.var 8, .var 9, .tup [.tup [.var 12, .cst .non]]]])) (GF sc b gl sl cl here v2 v4 v5 v6 v11 (.own (.lst (oddsL gl sl cl here))) v14 v15 v16 v17 v18 v19) = .ok (.own (.lst (oddsL gl sl cl here ++ odds2 gl sl cl here))) (GF sc b gl sl cl here v2 v4 v5 v6 v11 (.own (.lst (oddsL gl sl cl here))) v14 v15 v16 v17 v18 v19) :=
    x_bin (e := .lst (odds2 gl sl cl here)) (o_var rfl) ⟨_, rfl, rfl⟩ (add_lst (by show 6 + 2 ≤ 16777216; decide))
  obtain ⟨s', e, v5', p5', rfl⟩ := for_all (t := .nm 5) (g := still none (.lst (oddsL gl sl cl here ++ odds2 gl sl cl here))) (body := fun s => evSs pg R29 [.ite (.cmp .ne (.call 24 [.clo [] (.call 17 [.var 3, .var 5])]) (.tup [.cst sBad, .tup [], .cst sForm])) [.ret (.cst (.bl false))] []] s)
    (fun s => ∃ v5, plainSl v5 = true ∧ s = GF sc b gl sl cl here v2 v4 v5 v6 v11 (.own (.lst (oddsL gl sl cl here))) v14 v15 v16 v17 v18 v19) (fun _ _ => rfl) (oddsL gl sl cl here ++ odds2 gl sl cl here) _ (fun x hx s ⟨v5, p5, es⟩ => by
      subst es
      have hr := cw_form (n := 19) (odds_good w hh x hx)
      refine ⟨GF sc b gl sl cl here v2 v4 (.val x) v6 v11 (.own (.lst (oddsL gl sl cl here))) v14 v15 v16 v17 v18 v19, _, rfl, ?_, .val x, rfl, rfl⟩
      have pl : (GF sc b gl sl cl here v2 v4 (.val x) v6 v11 (.own (.lst (oddsL gl sl cl here))) v14 v15 v16 v17 v18 v19).c.all plainSl = true := by
        unfold Pls at hp
        simp only [List.all_cons, List.all_nil, Bool.and_true, Bool.and_eq_true] at hp ⊢
        simp only [pl_val, pl_own, hp, and_self]
      have h1 : VV pg R29 (.call 24 [.clo [] (.call 17 [.var 3, .var 5])]) (GF sc b gl sl cl here v2 v4 (.val x) v6 v11 (.own (.lst (oddsL gl sl cl here))) v14 v15 v16 v17 v18 v19) (.tup [sBad, .tup [], sForm]) :=
        raisedC (m := 27) (fd := f17) (as := [SH, x]) pl rfl rfl rfl rfl (by rw [show (run pg 27 (.call 17 ([SH, x].map Slot.val) [])).out = _ from hr]; rfl) (by rw [show (run pg 27 (.call 17 ([SH, x].map Slot.val) [])).out = _ from hr]; rfl)
      have c1 : VV pg R29 (.cmp .ne (.call 24 [.clo [] (.call 17 [.var 3, .var 5])]) (.tup [.cst sBad, .tup [], .cst sForm])) (GF sc b gl sl cl here v2 v4 (.val x) v6 v11 (.own (.lst (oddsL gl sl cl here))) v14 v15 v16 v17 v18 v19) (.bl false) :=
        v_cmp h1.ev (v_tup (.cons (.inl v_cst) (.cons (.inl (v_tup .nil)) (.cons (.inl v_cst) .nil)))).ev rfl
      exact (ss_cons ((s_ifF c1).trans ss_nil)).trans ss_nil) ⟨v5, p5, rfl⟩
  exact ⟨v5', p5', (s_for hs (.inr rfl) rfl).trans e⟩
end
end Mid.k81
set_option Elab.async false
set_option linter.all false
set_option maxRecDepth 100000
set_option maxHeartbeats 2000000
/-! k81: the law's lap, its end; the law. -/
namespace Mid
section
variable {P : Pg} {R : Run} {s : St} {a b c : E} {x y z : D}
theorem tt1 (h1 : VV P R a s x ∨ OV P R a s x) : VV P R (.tup [a]) s (.tup [x]) ∨ OV P R (.tup [a]) s (.tup [x]) := .inl (v_tup (.cons h1 .nil))
theorem tt2 (h1 : VV P R a s x ∨ OV P R a s x) (h2 : VV P R b s y ∨ OV P R b s y) : VV P R (.tup [a, b]) s (.tup [x, y]) ∨ OV P R (.tup [a, b]) s (.tup [x, y]) := .inl (v_tup (.cons h1 (.cons h2 .nil)))
theorem tt3 (h1 : VV P R a s x ∨ OV P R a s x) (h2 : VV P R b s y ∨ OV P R b s y) (h3 : VV P R c s z ∨ OV P R c s z) : VV P R (.tup [a, b, c]) s (.tup [x, y, z]) ∨ OV P R (.tup [a, b, c]) s (.tup [x, y, z]) := .inl (v_tup (.cons h1 (.cons h2 (.cons h3 .nil))))
theorem tt0 : VV P R (.tup []) s (.tup []) ∨ OV P R (.tup []) s (.tup []) := .inl (v_tup .nil)
theorem kk {d : D} : VV P R (.cst d) s d ∨ OV P R (.cst d) s d := .inl v_cst
theorem vv_ev {d : D} (h : VV P R a s d ∨ OV P R a s d) : EV P R a s d := h.elim VV.ev OV.ev
theorem mul_tup {i : List D} {j : Int} (h : i ≠ [] ∧ 2 ≤ j ∧ j ≤ 1000 ∧ i.length ≤ 1000) : binD .mul (.tup i) (.int j) = some (.val (.tup (rep i j.toNat))) := if_pos h
theorem tup_v {es : List E} {d : D} (h : VV P R (.tup es) s d ∨ OV P R (.tup es) s d) : VV P R (.tup es) s d := h.elim id fun h => by
  rw [OV, evE] at h
  cases q : evTs P R es s with
  | ok ds s' => rw [q] at h; cases h
  | exc x s' => rw [q] at h; cases h
  | stk m => rw [q] at h; cases h
theorem s_extO {k : Nat} {e : E} {xs ys : List D} (h0 : slotAt s k = .own (.lst xs)) (h : OV P R e s (.lst ys)) (hl : xs.length + ys.length ≤ line) : evS P R (.ext k e) s = .ok .nx (s.set k (.own (.lst (xs ++ ys)))) := by
  rw [OV] at h
  rw [evS, h0]
  dsimp only
  rw [h]
  show (match peek s (.own (.lst ys)), slotAt s k with
      | some (.lst ys), .own (.lst xs) => if xs.length + ys.length ≤ line then Out.ok Fl.nx (s.set k (.own (.lst (xs ++ ys)))) else .stk "ext line"
      | some (.tup ys), .own (.lst xs) => if xs.length + ys.length ≤ line then .ok .nx (s.set k (.own (.lst (xs ++ ys)))) else .stk "ext line"
      | _, _ => .stk "ext") = _
  rw [h0]
  show (if xs.length + ys.length ≤ line then Out.ok Fl.nx (s.set k (.own (.lst (xs ++ ys)))) else .stk "ext line") = _
  rw [if_pos hl]
end
end Mid
namespace Mid.k81
open Mid
section
variable {sc b lap : D} {v2 v3 v4 v5 v6 v7 v8 v9 v10 v11 v12 v13 v14 v15 v16 v17 v18 v19 : Slot} {sl gl cl : List D} {here : D}
theorem q14 : evS pg R29 (stl 13) (GF sc b gl sl cl here v2 v4 v5 v6 v11 v13 v14 v15 v16 v17 v18 v19) = .ok .nx (GF sc b gl sl cl here v2 v4 v5 v6 v11 v13 (.val (.tup many)) v15 v16 v17 v18 v19) := by kernel_rfl
theorem q15 : evS pg R29 (stl 14) (GF sc b gl sl cl here v2 v4 v5 v6 v11 v13 v14 v15 v16 v17 v18 v19) = .ok .nx (GF sc b gl sl cl here v2 v4 v5 v6 v11 v13 v14 v15 (.val (.tup ten)) v17 v18 v19) := by kernel_rfl
theorem q16 : evS pg R29 (stl 15) (GF sc b gl sl cl here v2 v4 v5 v6 v11 v13 v14 v15 v16 v17 v18 v19) = .ok .nx (GF sc b gl sl cl here v2 v4 v5 v6 v11 v13 v14 v15 v16 (.val odd) v18 v19) := rfl
theorem q17 : evS pg R29 (stl 16) (GF sc b gl sl cl here v2 v4 v5 v6 v11 v13 v14 v15 v16 v17 v18 v19) = .ok .nx (GF sc b gl sl cl here v2 v4 v5 v6 v11 v13 v14 v15 v16 v17 (.val (.tup (long here))) v19) :=
  s_asg (v_bin (vv_ev (tt1 (tt2 (.inl (v_var rfl)) kk))) v_cst.ev (mul_tup ⟨by simp, by decide, by decide, by simp⟩))
/-- the frame of the spoilt writings -/
abbrev HF (sc b : D) (gl sl cl : List D) (here : D) (v2 : Slot) (xs : List D) (v5 v6 v11 v13 v15 v19 : Slot) : St := GF sc b gl sl cl here v2 (.own (.lst xs)) v5 v6 v11 v13 (.val (.tup many)) v15 (.val (.tup ten)) (.val odd) (.val (.tup (long here))) v19
def AG (xs : List D) : Prop := (∀ x ∈ xs, Good x) ∧ xs.length ≤ 20
theorem ag_app {xs ys : List D} (a : AG xs) (h : ∀ y ∈ ys, Good y) (hl : xs.length + ys.length ≤ 20) : AG (xs ++ ys) := ⟨fun x hx => (List.mem_append.mp hx).elim (a.1 x) (h x), by rw [List.length_append]; exact hl⟩
theorem g_mem1 {x : D} (h : Good x) : ∀ y ∈ [x], Good y := fun y hy => by rw [List.mem_singleton.mp hy]; exact h
theorem g_mem2 {x z : D} (h : Good x) (h2 : Good z) : ∀ y ∈ [x, z], Good y := fun y hy => by
  simp only [List.mem_cons, List.not_mem_nil, or_false] at hy
  rcases hy with rfl | rfl
  · exact h
  · exact h2
/-- one more -/
theorem app_ok {es : List E} {d : D} {xs : List D} (he : VV pg R29 (.tup es) (HF sc b gl sl cl here v2 xs v5 v6 v11 v13 v15 v19) d ∨ OV pg R29 (.tup es) (HF sc b gl sl cl here v2 xs v5 v6 v11 v13 v15 v19) d) (hl : xs.length ≤ 20) : evS pg R29 (.app 4 (.tup es)) (HF sc b gl sl cl here v2 xs v5 v6 v11 v13 v15 v19) = .ok .nx (HF sc b gl sl cl here v2 (xs ++ [d]) v5 v6 v11 v13 v15 v19) :=
  s_app rfl (tup_v he) rfl (by unfold line; omega)
def l18 (gl sl : List D) (here : D) : List D := [.tup [.tup [.tup gl, .tup many, .tup []], .tup [sLarge, sFacts, .int 10]], .tup [.tup [.tup gl, .tup many, .tup (long here)], .tup [sLarge, sFacts, .int 10]], .tup [.tup [.tup gl, .tup sl, .tup (long here)], .tup [sLarge, sConds, .int 20]]]
theorem q18 {v4 : Slot} : evS pg R29 (stl 17) (GF sc b gl sl cl here v2 v4 v5 v6 v11 v13 (.val (.tup many)) v15 (.val (.tup ten)) (.val odd) (.val (.tup (long here))) v19) = .ok .nx (HF sc b gl sl cl here v2 (l18 gl sl here) v5 v6 v11 v13 v15 v19) := rfl
def l19 (gl cl : List D) : List D := [.tup [.tup [.tup gl, .tup [], .tup cl], .tup [sBad, .tup [sSources], sForm]]]
theorem q19 {xs : List D} (hl : xs.length ≤ 10) : evS pg R29 (stl 18) (HF sc b gl sl cl here v2 xs v5 v6 v11 v13 v15 v19) = .ok .nx (HF sc b gl sl cl here v2 (xs ++ l19 gl cl) v5 v6 v11 v13 v15 v19) :=
  s_asgO (o_bin (e := .lst (l19 gl cl)) (o_var rfl) ⟨_, rfl, rfl⟩ (add_lst (by show xs.length + 1 ≤ 16777216; omega)))
def l20 (gl sl cl : List D) : List D := [.tup [.tup [.tup gl, .tup (sl ++ sl.take 1), .tup cl], .tup [sBad, .tup [sSources], sForm]], .tup [.tup [.tup gl, .tup (sl ++ [zzz]), .tup cl], .tup [sBad, .tup [sSources], sForm]]]
theorem q20 {xs : List D} (hl : xs.length ≤ 10) (hs : sl.length ≤ 3) : evS pg R29 (stl 19) (HF sc b gl sl cl here v2 xs v5 v6 v11 v13 v15 v19) = .ok .nx (HF sc b gl sl cl here v2 (xs ++ l20 gl sl cl) v5 v6 v11 v13 v15 v19) := by
  have e1 : VV pg R29 (.bin .add (.var 9) (.slc (.var 9) (.cst .non) (.cst (.int 1)) (.cst .non))) (HF sc b gl sl cl here v2 xs v5 v6 v11 v13 v15 v19) (.tup (sl ++ sl.take 1)) :=
    v_bin (e := .tup (sl.take 1)) (v_var rfl).ev ⟨_, x_slc (v_var rfl).ev part_non (part_int v_cst) part_non (slc_1 sl), rfl⟩ (add_tup (by rw [List.length_take]; unfold line; omega))
  have e2 : VV pg R29 (.bin .add (.var 9) (.tup [.tup [.cst sZz, .cst (.str [122, 122, 122])]])) (HF sc b gl sl cl here v2 xs v5 v6 v11 v13 v15 v19) (.tup (sl ++ [zzz])) :=
    v_bin (v_var rfl).ev (vv_ev (tt1 (tt2 kk kk))) (add_tup (by show sl.length + 1 ≤ 16777216; omega))
  exact s_extO (ys := l20 gl sl cl) rfl (o_lst (.cons (tt2 (tt3 (.inl (v_var rfl)) (.inl e1) (.inl (v_var rfl))) (tt3 kk (tt1 kk) kk)) (.cons (tt2 (tt3 (.inl (v_var rfl)) (.inl e2) (.inl (v_var rfl))) (tt3 kk (tt1 kk) kk)) .nil))) (by show xs.length + 2 ≤ 16777216; omega)
theorem zz_at (hh : ∃ a m : List Nat, here = .tup [.str a, .str m]) {xs : List D} : VV pg R29 (.tup [.ix (.var 12) (.cst (.int 0)), .cst sZz]) (HF sc b gl sl cl here v2 xs v5 v6 v11 v13 v15 v19) (zzOf here) ∨ OV pg R29 (.tup [.ix (.var 12) (.cst (.int 0)), .cst sZz]) (HF sc b gl sl cl here v2 xs v5 v6 v11 v13 v15 v19) (zzOf here) := by
  obtain ⟨a, m, rfl⟩ := hh
  exact tt2 (.inl (v_ix (v_var rfl).ev v_cst.ev rfl)) kk
theorem add10 {xs : List D} {e : E} {ys : List D} (hc : cl.length ≤ 3) (hy : ys.length ≤ 3) (he : VV pg R29 e (HF sc b gl sl cl here v2 xs v5 v6 v11 v13 v15 v19) (.tup ys) ∨ OV pg R29 e (HF sc b gl sl cl here v2 xs v5 v6 v11 v13 v15 v19) (.tup ys)) : VV pg R29 (.bin .add (.var 10) e) (HF sc b gl sl cl here v2 xs v5 v6 v11 v13 v15 v19) (.tup (cl ++ ys)) :=
  v_bin (v_var rfl).ev (vv_ev he) (add_tup (by unfold line; omega))
theorem q21 (w : WOk sl gl cl) (hh : here ∈ colsOf sl) : ∃ xs, AG xs ∧ ∀ r, evSs pg R29 (lapB.drop 17) (GF sc b gl sl cl here v2 v4 v5 v6 v11 v13 (.val (.tup many)) v15 (.val (.tup ten)) (.val odd) (.val (.tup (long here))) v19) = r → evSs pg R29 (lapB.drop 28) (HF sc b gl sl cl here v2 xs v5 v6 v11 v13 v15 v19) = r ∨ True := ⟨[], ⟨fun _ h => (by cases h), by simp⟩, fun _ _ => .inr trivial⟩
/-- the spoilt writings are laid out -/
theorem lay (w : WOk sl gl cl) (hh : here ∈ colsOf sl) : ∃ xs, AG xs ∧ evSs pg R29 (lapB.drop 17) (GF sc b gl sl cl here v2 v4 v5 v6 v11 v13 (.val (.tup many)) v15 (.val (.tup ten)) (.val odd) (.val (.tup (long here))) v19) = evSs pg R29 (lapB.drop 28) (HF sc b gl sl cl here v2 xs v5 v6 v11 v13 v15 v19) := by
  have h := sl_ok w.s
  have hz := (h.hc _ hh).2.2.2.2
  have hn := w.n
  let X0 : List D := l18 gl sl here
  have a0 : AG X0 := ⟨fun x hx => by
    simp only [X0, l18, List.mem_cons, List.not_mem_nil, or_false] at hx
    rcases hx with rfl | rfl | rfl
    · exact good1 w
    · exact good2 w hh
    · exact good3 w hh, by show 3 ≤ 20; decide⟩
  let X1 := X0 ++ l19 gl cl
  have a1 : AG X1 := ag_app a0 (g_mem1 (good4 w)) (by show 3 + 1 ≤ 20; decide)
  let X2 := X1 ++ l20 gl sl cl
  have a2 : AG X2 := ag_app a1 (g_mem2 (good5 w) (good6 w)) (by show 4 + 2 ≤ 20; decide)
  let X3 := X2 ++ [.tup [.tup [.tup [.tup [cH, here], .tup [cG, here]], .tup sl, .tup cl], .tup [sBad, .tup [sGroup], sOrder]]]
  have a3 : AG X3 := ag_app a2 (g_mem1 (good7 w hh)) (by show 6 + 1 ≤ 20; decide)
  let X4 := X3 ++ [.tup [.tup [.tup [.tup [cG, here], .tup [cG, here]], .tup sl, .tup cl], .tup [sBad, .tup [sGroup], sOrder]]]
  have a4 : AG X4 := ag_app a3 (g_mem1 (good8 w hh)) (by show 7 + 1 ≤ 20; decide)
  let X5 := X4 ++ [.tup [.tup [.tup [.tup [cG, here], .tup [cH, odd]], .tup sl, .tup cl], .tup [sBad, .tup [sGroup, .int 1], sCol]]]
  have a5 : AG X5 := ag_app a4 (g_mem1 (good9 w hh)) (by show 8 + 1 ≤ 20; decide)
  let X6 := X5 ++ [.tup [.tup [.tup [.tup [cG, zzOf here]], .tup sl, .tup (cl ++ [.tup [odd, .int 1]])], .tup [sBad, .tup [sGroup, .int 0], sCol]]]
  have a6 : AG X6 := ag_app a5 (g_mem1 (good10 w hh)) (by show 9 + 1 ≤ 20; decide)
  let X7 := X6 ++ [.tup [.tup [.tup gl, .tup sl, .tup (cl ++ [.tup [odd, .int 1]])], .tup [sBad, .tup [sConds, .int cl.length], sCol]]]
  have a7 : AG X7 := ag_app a6 (g_mem1 (good11 w)) (by show 10 + 1 ≤ 20; decide)
  let X8 := X7 ++ [.tup [.tup [.tup gl, .tup sl, .tup ([.tup [here, odd]] ++ cl)], .tup [sBad, .tup [sConds, .int 0], sCol]]]
  have a8 : AG X8 := ag_app a7 (g_mem1 (good12 w hh)) (by show 11 + 1 ≤ 20; decide)
  let X9 := X8 ++ [.tup [.tup [.tup gl, .tup sl, .tup (cl ++ [.tup [here, zzOf here], .tup [odd, odd]])], .tup [sBad, .tup [sConds, .int cl.length], sCol]]]
  have a9 : AG X9 := ag_app a8 (g_mem1 (good13 w hh)) (by show 12 + 1 ≤ 20; decide)
  let XA := X9 ++ [.tup [.tup [.tup [.tup [cH, here], .tup [cG, odd]], .tup ten, .tup cl], .tup [sBad, .tup [sGroup], sOrder]]]
  have aA : AG XA := ag_app a9 (g_mem1 (good14 w hh)) (by show 13 + 1 ≤ 20; decide)
  refine ⟨XA, aA, ?_⟩
  have vr : ∀ {xs : List D} {i : Nat} {d : D}, slotAt (HF sc b gl sl cl here v2 xs v5 v6 v11 v13 v15 v19) i = .val d → (VV pg R29 (.var i) (HF sc b gl sl cl here v2 xs v5 v6 v11 v13 v15 v19) d ∨ OV pg R29 (.var i) (HF sc b gl sl cl here v2 xs v5 v6 v11 v13 v15 v19) d) := fun e => .inl (v_var e)
  have ed : lapB.drop 17 = stl 17 :: stl 18 :: stl 19 :: stl 20 :: stl 21 :: stl 22 :: stl 23 :: stl 24 :: stl 25 :: stl 26 :: stl 27 :: lapB.drop 28 := rfl
  rw [ed, ss_cons q18, ss_cons (q19 (xs := X0) (by show 3 ≤ 10; decide)), ss_cons (q20 (xs := X1) (by show 4 ≤ 10; decide) h.ln)]
  have lenA : ∀ {xs : List D}, AG xs → xs.length ≤ 20 := fun a => a.2
  refine (ss_cons (app_ok (xs := X2) (tt2 (tt3 (tt2 (tt2 kk (vr rfl)) (tt2 kk (vr rfl))) (vr rfl) (vr rfl)) (tt3 kk (tt1 kk) kk)) a2.2)).trans ?_
  refine (ss_cons (app_ok (xs := X3) (tt2 (tt3 (tt2 (tt2 kk (vr rfl)) (tt2 kk (vr rfl))) (vr rfl) (vr rfl)) (tt3 kk (tt1 kk) kk)) a3.2)).trans ?_
  refine (ss_cons (app_ok (xs := X4) (tt2 (tt3 (tt2 (tt2 kk (vr rfl)) (tt2 kk (vr rfl))) (vr rfl) (vr rfl)) (tt3 kk (tt2 kk kk) kk)) a4.2)).trans ?_
  refine (ss_cons (app_ok (xs := X5) (tt2 (tt3 (tt1 (tt2 kk (zz_at hz))) (vr rfl) (.inl (add10 hn (by simp) (tt1 (tt2 (vr rfl) kk))))) (tt3 kk (tt2 kk kk) kk)) a5.2)).trans ?_
  refine (ss_cons (app_ok (xs := X6) (tt2 (tt3 (vr rfl) (vr rfl) (.inl (add10 hn (by simp) (tt1 (tt2 (vr rfl) kk))))) (tt3 kk (tt2 kk (.inl (v_blt (v_var rfl).ev rfl))) kk)) a6.2)).trans ?_
  refine (ss_cons (app_ok (xs := X7) (tt2 (tt3 (vr rfl) (vr rfl) (.inl (v_bin (vv_ev (tt1 (tt2 (vr rfl) (vr rfl)))) (v_var rfl).ev (add_tup (by show 1 + cl.length ≤ 16777216; omega))))) (tt3 kk (tt2 kk kk) kk)) a7.2)).trans ?_
  refine (ss_cons (app_ok (xs := X8) (tt2 (tt3 (vr rfl) (vr rfl) (.inl (add10 hn (by simp) (tt2 (tt2 (vr rfl) (zz_at hz)) (tt2 (vr rfl) (vr rfl)))))) (tt3 kk (tt2 kk (.inl (v_blt (v_var rfl).ev rfl))) kk)) a8.2)).trans ?_
  exact ss_cons (app_ok (xs := X9) (tt2 (tt3 (tt2 (tt2 kk (vr rfl)) (tt2 kk (vr rfl))) (vr rfl) (vr rfl)) (tt3 kk (tt1 kk) kk)) a9.2)
/-- .. and each answers as it is due -/
theorem q28 {xs : List D} (hp : Pls [v2, v6, v11, v13, v15]) (p5 : plainSl v5 = true) (p19 : plainSl v19 = true) (ag : AG xs) : ∃ v5' v19', plainSl v5' = true ∧ plainSl v19' = true ∧ evS pg R29 (stl 28) (HF sc b gl sl cl here v2 xs v5 v6 v11 v13 v15 v19) = .ok .nx (HF sc b gl sl cl here v2 xs v5' v6 v11 v13 v15 v19') := by
  obtain ⟨s', e, v5', v19', p5', p19', rfl⟩ := for_all (t := .pr [.nm 5, .nm 19]) (g := still (some 4) (.lst xs)) (body := fun s => evSs pg R29 [.ite (.cmp .ne (.call 24 [.clo [] (.call 17 [.var 3, .var 5])]) (.var 19)) [.ret (.cst (.bl false))] []] s)
    (fun s => ∃ v5 v19, plainSl v5 = true ∧ plainSl v19 = true ∧ s = HF sc b gl sl cl here v2 xs v5 v6 v11 v13 v15 v19) (fun s ⟨_, _, _, _, e⟩ => by rw [e]; exact still_own rfl) xs _ (fun x hx s ⟨v5, v19, p5, p19, es⟩ => by
      subst es
      obtain ⟨th, due, rfl, hr, hf, ⟨ds, rfl⟩, hpu, hd⟩ := (ag.1 x hx).ex
      refine ⟨HF sc b gl sl cl here v2 xs (.val th) v6 v11 v13 v15 (.val (.tup ds)), _, rfl, ?_, .val th, .val (.tup ds), rfl, rfl, rfl⟩
      have pl : (HF sc b gl sl cl here v2 xs (.val th) v6 v11 v13 v15 (.val (.tup ds))).c.all plainSl = true := by
        unfold Pls at hp
        simp only [List.all_cons, List.all_nil, Bool.and_true, Bool.and_eq_true] at hp ⊢
        simp only [pl_val, pl_own, hp, and_self]
      have h1 : VV pg R29 (.call 24 [.clo [] (.call 17 [.var 3, .var 5])]) (HF sc b gl sl cl here v2 xs (.val th) v6 v11 v13 v15 (.val (.tup ds))) (.tup ds) :=
        raisedC (m := 27) (fd := f17) (as := [SH, th]) pl rfl rfl rfl rfl hr hf
      have c1 : VV pg R29 (.cmp .ne (.call 24 [.clo [] (.call 17 [.var 3, .var 5])]) (.var 19)) (HF sc b gl sl cl here v2 xs (.val th) v6 v11 v13 v15 (.val (.tup ds))) (.bl false) :=
        v_cmp h1.ev (v_var rfl).ev (ne_self hpu hd)
      exact (ss_cons ((s_ifF c1).trans ss_nil)).trans ss_nil) ⟨v5, v19, p5, p19, rfl⟩
  exact ⟨v5', v19', p5', p19', (s_forO rfl).trans e⟩
def lastW : D := .tup [.tup [], .tup ten, .tup (rep [.tup [.tup [.str [98, 48], sOne], .int 1]] 20)]
theorem last_ok : (run pg 29 (.call 17 [.val SH, .val lastW] [])).out = okD lastW := by kernel_rfl
abbrev lastE : E := .tup [.tup [], .var 16, .bin .mul (.tup [.tup [.tup [.cst (.str [98, 48]), .cst sOne], .cst (.int 1)]]) (.cst (.int 20))]
theorem q29 {xs : List D} : evS pg R29 (stl 29) (HF sc b gl sl cl here v2 xs v5 v6 v11 v13 v15 v19) = .ok .nx (HF sc b gl sl cl here v2 xs v5 v6 v11 v13 v15 v19) := by
  have e1 : VV pg R29 lastE (HF sc b gl sl cl here v2 xs v5 v6 v11 v13 v15 v19) lastW :=
    tup_v (tt3 tt0 (.inl (v_var rfl)) (.inl (v_bin (vv_ev (tt1 (tt2 (tt2 kk kk) kk))) v_cst.ev (mul_tup ⟨by simp, by decide, by decide, by simp⟩))))
  have h1 : VV pg R29 (.call 17 [.var 3, lastE]) (HF sc b gl sl cl here v2 xs v5 v6 v11 v13 v15 v19) lastW :=
    x_call (fd := f17) (as := [.w (.val SH), .w (.val lastW)]) (ds := [SH, lastW]) (.cons rfl rfl (.cons rfl e1 .nil)) ⟨rfl, rfl, trivial⟩ rfl rfl rfl last_ok (by kernel_rfl)
  have c1 : VV pg R29 (.cmp .ne (.call 17 [.var 3, lastE]) lastE) (HF sc b gl sl cl here v2 xs v5 v6 v11 v13 v15 v19) (.bl false) := v_cmp h1.ev e1.ev (by kernel_rfl)
  exact (s_ifF c1).trans ss_nil
end
/-! ### a lap -/
def JL (sc : D) (s : St) : Prop := ∃ b v2 v3 v4 v5 v6 v7 v8 v9 v10 v11 v12 v13 v14 v15 v16 v17 v18 v19, Bag b ∧ Pls [v2, v3, v4, v5, v6, v7, v8, v9, v10, v11, v12, v13, v14, v15, v16, v17, v18, v19] ∧ s = LF sc b v2 v3 v4 v5 v6 v7 v8 v9 v10 v11 v12 v13 v14 v15 v16 v17 v18 v19
theorem lap_ok {sc x : D} {s : St} (hs : JL sc s) : ∃ s1 s2, stT (.nm 2) x s = some s1 ∧ evSs pg R29 lapB s1 = .ok .nx s2 ∧ JL sc s2 := by
  obtain ⟨b, v2, v3, v4, v5, v6, v7, v8, v9, v10, v11, v12, v13, v14, v15, v16, v17, v18, v19, hb, hp, rfl⟩ := hs
  unfold Pls at hp
  simp only [List.all_cons, List.all_nil, Bool.and_true, Bool.and_eq_true] at hp
  obtain ⟨p2, p3, p4, p5, p6, p7, p8, p9, p10, p11, p12, p13, p14, p15, p16, p17, p18, p19⟩ := hp
  refine ⟨LF sc b (.val x) v3 v4 v5 v6 v7 v8 v9 v10 v11 v12 v13 v14 v15 v16 v17 v18 v19, ?_⟩
  obtain ⟨v5a, v6a, p5a, p6a, e6⟩ := q6 (sc := sc) (b := b) (v2 := .val x) (v7 := v7) (v8 := v8) (v9 := v9) (v10 := v10) (v11 := v11) (v12 := v12) (v13 := v13) (v14 := v14) (v15 := v15) (v16 := v16) (v17 := v17) (v18 := v18) (v19 := v19) (by
    unfold Pls
    simp only [List.all_cons, List.all_nil, Bool.and_true, Bool.and_eq_true, pl_val, p7, p8, p9, p10, p11, p12, p13, p14, p15, p16, p17, p18, p19, and_self]) p5 p6
  obtain ⟨sl, gl, cl, b1, w, hb1, e7⟩ := q7 (sc := sc) (b := b) (v2 := .val x) (v4 := .own (.lst sp1)) (v5 := v5a) (v6 := v6a) (v7 := v7) (v8 := v8) (v9 := v9) (v10 := v10) (v11 := v11) (v12 := v12) (v13 := v13) (v14 := v14) (v15 := v15) (v16 := v16) (v17 := v17) (v18 := v18) (v19 := v19) hb
  have e8 := q8 (sc := sc) (b := b1) (v2 := .val x) (v4 := .own (.lst sp1)) (v5 := v5a) (v6 := v6a) (v8 := v8) (v9 := v9) (v10 := v10) (v11 := v11) (v12 := v12) (v13 := v13) (v14 := v14) (v15 := v15) (v16 := v16) (v17 := v17) (v18 := v18) (v19 := v19) (by
    unfold Pls
    simp only [List.all_cons, List.all_nil, Bool.and_true, Bool.and_eq_true, pl_val, pl_own, p5a, p6a, p8, p9, p10, p11, p12, p13, p14, p15, p16, p17, p18, p19, and_self]) w
  obtain ⟨here, b2, hh, hb2, e11⟩ := q11 (sc := sc) (b := b1) (v2 := .val x) (v4 := .own (.lst sp1)) (v5 := v5a) (v6 := v6a) (v7 := .val (.tup [.tup gl, .tup sl, .tup cl])) (v8 := .val (.tup gl)) (v9 := .val (.tup sl)) (v10 := .val (.tup cl)) (v12 := v12) (v13 := v13) (v14 := v14) (v15 := v15) (v16 := v16) (v17 := v17) (v18 := v18) (v19 := v19) w.s hb1
  obtain ⟨v5b, p5b, e13⟩ := q13 (sc := sc) (b := b2) (v2 := .val x) (v4 := .own (.lst sp1)) (v5 := v5a) (v6 := v6a) (v11 := .own (.lst (colsOf sl))) (v14 := v14) (v15 := v15) (v16 := v16) (v17 := v17) (v18 := v18) (v19 := v19) (by
    unfold Pls
    simp only [List.all_cons, List.all_nil, Bool.and_true, Bool.and_eq_true, pl_val, pl_own, p6a, p14, p15, p16, p17, p18, p19, and_self]) p5a w hh
  obtain ⟨xs, ag, e17⟩ := lay (sc := sc) (b := b2) (v2 := .val x) (v4 := .own (.lst sp1)) (v5 := v5b) (v6 := v6a) (v11 := .own (.lst (colsOf sl))) (v13 := .own (.lst (oddsL gl sl cl here))) (v15 := v15) (v19 := v19) w hh
  obtain ⟨v5c, v19c, p5c, p19c, e28⟩ := q28 (sc := sc) (b := b2) (gl := gl) (sl := sl) (cl := cl) (here := here) (v2 := .val x) (v5 := v5b) (v6 := v6a) (v11 := .own (.lst (colsOf sl))) (v13 := .own (.lst (oddsL gl sl cl here))) (v15 := v15) (v19 := v19) (by
    unfold Pls
    simp only [List.all_cons, List.all_nil, Bool.and_true, Bool.and_eq_true, pl_val, pl_own, p6a, p15, and_self]) p5b p19 ag
  refine ⟨HF sc b2 gl sl cl here (.val x) xs v5c v6a (.own (.lst (colsOf sl))) (.own (.lst (oddsL gl sl cl here))) v15 v19c, rfl, ?_, b2, _, _, _, _, _, _, _, _, _, _, _, _, _, _, _, _, _, _, hb2, ?_, rfl⟩
  · have e0 : lapB = stl 0 :: stl 1 :: stl 2 :: stl 3 :: stl 4 :: stl 5 :: stl 6 :: stl 7 :: stl 8 :: stl 9 :: stl 10 :: stl 11 :: stl 12 :: stl 13 :: stl 14 :: stl 15 :: stl 16 :: lapB.drop 17 := rfl
    rw [e0]
    refine (ss_cons q1).trans ?_
    refine (ss_cons (q2 (by
      unfold Pls
      simp only [List.all_cons, List.all_nil, Bool.and_true, Bool.and_eq_true, pl_val, p4, p5, p6, p7, p8, p9, p10, p11, p12, p13, p14, p15, p16, p17, p18, p19, and_self]))).trans ?_
    refine (ss_cons q3).trans ?_
    refine (ss_cons q4).trans ?_
    refine (ss_cons q5).trans ?_
    refine (ss_cons e6).trans ?_
    refine (ss_cons e7).trans ?_
    refine (ss_cons e8).trans ?_
    refine (ss_cons q9).trans ?_
    refine (ss_cons (q10 w.s)).trans ?_
    refine (ss_cons e11).trans ?_
    refine (ss_cons q12).trans ?_
    refine (ss_cons e13).trans ?_
    refine (ss_cons q14).trans ?_
    refine (ss_cons q15).trans ?_
    refine (ss_cons q16).trans ?_
    refine (ss_cons q17).trans ?_
    refine e17.trans ?_
    have ed : lapB.drop 28 = [stl 28, stl 29] := rfl
    rw [ed]
    refine (ss_cons e28).trans ?_
    exact (ss_cons q29).trans ss_nil
  · unfold Pls
    simp only [List.all_cons, List.all_nil, Bool.and_true, Bool.and_eq_true, pl_val, pl_own, p5c, p6a, p15, p19c, and_self]
/-! ### the law -/
theorem bag_ok {n : Nat} {p : Fr} (ns : List Int) : ∃ b, Bag b ∧ (run pg (n + 1) (.call 18 [.val (.lst (ns.map .int))] p)).out = okW (.own b) := by
  have hsl : slcD (.lst (ns.map D.int)) .non (.int 63) .non = some (.own (.lst ((ns.take 63).map .int))) := by
    have e : slcD (.lst (ns.map D.int)) .non (.int 63) .non = some (.own (.lst (((ns.map D.int).drop 0).take (min (63 : Int).toNat (ns.map D.int).length - 0)))) := rfl
    have e2 : (ns.map D.int).take (min (63 : Int).toNat (ns.map D.int).length) = (ns.map D.int).take 63 := by
      rw [List.take_eq_take_iff]
      show min (min 63 (ns.map D.int).length) (ns.map D.int).length = min 63 (ns.map D.int).length
      omega
    rw [e, List.drop_zero, Nat.sub_zero, e2, List.map_take]
  let g : D → D := fun x => match x with
    | .int i => .int (if i < 0 then -i else i)
    | d => d
  have hm : ((ns.take 63).map D.int).map g = ((ns.take 63).map fun i => if i < 0 then -i else i).map D.int := by
    rw [List.map_map, List.map_map]
    rfl
  have z := e_lc (P := pg) (R := run pg n) (elt := .blt .abs (.var 1)) (t := .nm 1) (src := .slc (.var 0) (.cst .non) (.cst (.int 63)) (.cst .non)) (c := .cst (.bl true)) (own := [1]) (s := ⟨[.val (.lst (ns.map .int)), .un], p⟩) g (fun _ => true) (x_slc (v_var rfl).ev part_non (part_int v_cst) part_non hsl) (.inr rfl) rfl (by
      rw [List.length_map, List.length_take]
      unfold line
      omega) (fun x hx => by
      obtain ⟨i, _, rfl⟩ := List.mem_map.mp hx
      exact ⟨⟨[.val (.lst (ns.map .int)), .val (.int i)], p⟩, _, rfl, rfl, ⟨rfl, rfl⟩, fun _ => ⟨_, _, .val (.int (if i < 0 then -i else i)), v_blt (v_var rfl).ev rfl, rfl, ⟨rfl, rfl⟩⟩⟩)
  rw [filter_true, hm] at z
  refine ⟨bagD 0 1234567891 0 ((ns.take 63).map fun i => if i < 0 then -i else i), ⟨_, _, _, _, by rw [List.length_map, List.length_take]; omega, rfl⟩, ?_⟩
  exact run_out_rt (fd := f18) (sl := [.val (.lst (ns.map .int))]) rfl (ss_rt (s_retO (o_lst (.cons kk (.cons kk (.cons kk (.cons (.inr z) .nil)))))))
theorem law_true (ns : List Int) : ∃ c st, run pg 30 (.call 25 [.val (.lst (ns.map .int))] []) = .ret (.val (.bl true)) c st := by
  obtain ⟨b, hb, h18⟩ := bag_ok (n := 28) (p := []) ns
  let s0 : St := LF (.lst (ns.map .int)) .non .un .un .un .un .un .un .un .un .un .un .un .un .un .un .un .un .un .un
  let sN : St := ⟨[.val (.lst (ns.map .int)), .un, .un, .un, .un, .un, .un, .un, .un, .un, .un, .un, .un, .un, .un, .un, .un, .un, .un, .un], []⟩
  have h1 : evS pg R29 (.asg (.nm 1) (.call 18 [.var 0])) sN = .ok .nx (LF (.lst (ns.map .int)) b .un .un .un .un .un .un .un .un .un .un .un .un .un .un .un .un .un .un) :=
    s_asgO (s' := sN) (e_call (R := R29) (f := 18) (es := [.var 0]) (fd := f18) (as := [.lst (ns.map .int)]) (s := sN) (s' := sN) (VAs.as (.cons rfl rfl .nil)) rfl rfl rfl h18 (fun i => by simp))
  obtain ⟨s', e, j⟩ := for_all (t := .nm 2) (g := still none (.lst (rngL 0 4))) (body := fun s => evSs pg R29 lapB s) (JL (.lst (ns.map .int))) (fun _ _ => rfl) (rngL 0 4) (LF (.lst (ns.map .int)) b .un .un .un .un .un .un .un .un .un .un .un .un .un .un .un .un .un .un) (fun x hx s hs => lap_ok hs) ⟨b, .un, .un, .un, .un, .un, .un, .un, .un, .un, .un, .un, .un, .un, .un, .un, .un, .un, .un, hb, rfl, rfl⟩
  have h2 : evS pg R29 (.for_ (.nm 2) (.rng (.cst (.int 4))) lapB) (LF (.lst (ns.map .int)) b .un .un .un .un .un .un .un .un .un .un .un .un .un .un .un .un .un .un) = .ok .nx s' := (s_for (w := .val (.lst (rngL 0 4))) rfl (.inl rfl) rfl).trans e
  have eb : f25.body = [.asg (.nm 1) (.call 18 [.var 0]), .for_ (.nm 2) (.rng (.cst (.int 4))) lapB, .ret (.cst (.bl true))] := rfl
  refine ⟨_, _, run_rt (fd := f25) (s := s') rfl ?_⟩
  rw [eb]
  exact (ss_cons h1).trans ((ss_cons h2).trans (ss_rt (s_ret v_cst)))
end Mid.k81
set_option Elab.async false
set_option linter.all false
set_option maxRecDepth 100000
set_option maxHeartbeats 0
namespace Mid.k81
open PySem PySem.Spec PyProof.Rows L2 He
def top (i : Nat) : Stmt := PySem.Challenge.pw_countalike_k81_shapes_and_writings_and_t.main.body.getD i (.Pass ⟨0, 0, 0, 0⟩)
def clsBody (s : Stmt) : List Stmt := match s with
  | .ClassDef _ _ _ b _ _ _ _ _ _ _ => b
  | _ => []
def inTop (i j : Nat) : Stmt := (clsBody (top i)).getD j (.Pass ⟨0, 0, 0, 0⟩)
def dat (x : Str) (i : Nat) : DefD := ⟨(x, none), x, x, defArgs (top i), defBody (top i), defScope (top i), [], []⟩
def defs : List DefD := [dat "_wall" 0, dat "is_number" 11, dat "is_name" 12, dat "great" 13, dat "is_value" 14, dat "is_sized" 15, dat "is_tuple_of" 16, dat "is_names" 17, dat "is_couple" 22, dat "is_shape" 23, dat "are_unlike" 24, dat "checked_shapes" 25, dat "is_grouped" 26, dat "is_condition" 27, dat "is_writing_form" 28, dat "columns_of" 29, dat "check_columns" 30, dat "checked_writing" 31, dat "_law_bag" 33, dat "_law_take" 34, dat "_law_some" 35, dat "_law_shapes" 36, dat "_law_writing" 37, dat "_law_columns" 38, dat "_law_raised" 39, dat "law" 40]

def in0 : InD := ⟨"BadQuestion", "self", ["where", "fault"], "__init__", "BadQuestion.__init__", defArgs (inTop 3 0), defBody (inTop 3 0), defScope (inTop 3 0)⟩
def in1 : InD := ⟨"TooLarge", "self", ["what", "limit"], "__init__", "TooLarge.__init__", defArgs (inTop 4 0), defBody (inTop 4 0), defScope (inTop 4 0)⟩
def ins : List InD := [in0, in1]

def mk : List DefD := [dat "law" 40]

def tx : Tx := ⟨nms, gn, fn, cn, cloF, lamF, ef⟩

def pss : List (List Str) := [["k"], ["thing"], ["thing"], [], ["thing"], ["thing", "many"], ["thing", "is_one"], ["thing"], ["thing"], ["thing"], ["things"], ["thing"], ["thing"], ["thing"], ["thing"], ["shapes", "sources"], ["word", "rows", "there"], ["shapes", "thing"], ["script"], ["bag", "many"], ["bag", "things"], ["bag"], ["bag", "shapes", "most"], ["shapes", "sources"], ["act"], ["script"]]

theorem dc25 : DefChk (tx.cm 25) "law" f25 (dat "law" 40) ["script"] := ⟨rfl, rfl, rfl, ⟨rfl, rfl, rfl, by decide +kernel, rfl, by decide +kernel, by decide +kernel⟩, fun _ _ _ _ _ _ us hl => match us, hl with | [_], _ => rfl, rfl, rfl, by decide +kernel⟩
theorem dc24 : DefChk (tx.cm 24) "_law_raised" f24 (dat "_law_raised" 39) ["act"] := ⟨rfl, rfl, rfl, ⟨rfl, rfl, rfl, by decide +kernel, rfl, by decide +kernel, by decide +kernel⟩, fun _ _ _ _ _ _ us hl => match us, hl with | [_], _ => rfl, rfl, rfl, by decide +kernel⟩
theorem dc23 : DefChk (tx.cm 23) "_law_columns" f23 (dat "_law_columns" 38) ["shapes", "sources"] := ⟨rfl, rfl, rfl, ⟨rfl, rfl, rfl, by decide +kernel, rfl, by decide +kernel, by decide +kernel⟩, fun _ _ _ _ _ _ us hl => match us, hl with | [_, _], _ => rfl, rfl, rfl, by decide +kernel⟩
theorem dc22 : DefChk (tx.cm 22) "_law_writing" f22 (dat "_law_writing" 37) ["bag", "shapes", "most"] := ⟨rfl, rfl, rfl, ⟨rfl, rfl, rfl, by decide +kernel, rfl, by decide +kernel, by decide +kernel⟩, fun _ _ _ _ _ _ us hl => match us, hl with | [_, _, _], _ => rfl, rfl, rfl, by decide +kernel⟩
theorem dc21 : DefChk (tx.cm 21) "_law_shapes" f21 (dat "_law_shapes" 36) ["bag"] := ⟨rfl, rfl, rfl, ⟨rfl, rfl, rfl, by decide +kernel, rfl, by decide +kernel, by decide +kernel⟩, fun _ _ _ _ _ _ us hl => match us, hl with | [_], _ => rfl, rfl, rfl, by decide +kernel⟩
theorem dc20 : DefChk (tx.cm 20) "_law_some" f20 (dat "_law_some" 35) ["bag", "things"] := ⟨rfl, rfl, rfl, ⟨rfl, rfl, rfl, by decide +kernel, rfl, by decide +kernel, by decide +kernel⟩, fun _ _ _ _ _ _ us hl => match us, hl with | [_, _], _ => rfl, rfl, rfl, by decide +kernel⟩
theorem dc19 : DefChk (tx.cm 19) "_law_take" f19 (dat "_law_take" 34) ["bag", "many"] := ⟨rfl, rfl, rfl, ⟨rfl, rfl, rfl, by decide +kernel, rfl, by decide +kernel, by decide +kernel⟩, fun _ _ _ _ _ _ us hl => match us, hl with | [_, _], _ => rfl, rfl, rfl, by decide +kernel⟩
theorem dc18 : DefChk (tx.cm 18) "_law_bag" f18 (dat "_law_bag" 33) ["script"] := ⟨rfl, rfl, rfl, ⟨rfl, rfl, rfl, by decide +kernel, rfl, by decide +kernel, by decide +kernel⟩, fun _ _ _ _ _ _ us hl => match us, hl with | [_], _ => rfl, rfl, rfl, by decide +kernel⟩
theorem dc17 : DefChk (tx.cm 17) "checked_writing" f17 (dat "checked_writing" 31) ["shapes", "thing"] := ⟨rfl, rfl, rfl, ⟨rfl, rfl, rfl, by decide +kernel, rfl, by decide +kernel, by decide +kernel⟩, fun _ _ _ _ _ _ us hl => match us, hl with | [_, _], _ => rfl, rfl, rfl, by decide +kernel⟩
theorem dc16 : DefChk (tx.cm 16) "check_columns" f16 (dat "check_columns" 30) ["word", "rows", "there"] := ⟨rfl, rfl, rfl, ⟨rfl, rfl, rfl, by decide +kernel, rfl, by decide +kernel, by decide +kernel⟩, fun _ _ _ _ _ _ us hl => match us, hl with | [_, _, _], _ => rfl, rfl, rfl, by decide +kernel⟩
theorem dc15 : DefChk (tx.cm 15) "columns_of" f15 (dat "columns_of" 29) ["shapes", "sources"] := ⟨rfl, rfl, rfl, ⟨rfl, rfl, rfl, by decide +kernel, rfl, by decide +kernel, by decide +kernel⟩, fun _ _ _ _ _ _ us hl => match us, hl with | [_, _], _ => rfl, rfl, rfl, by decide +kernel⟩
theorem dc14 : DefChk (tx.cm 14) "is_writing_form" f14 (dat "is_writing_form" 28) ["thing"] := ⟨rfl, rfl, rfl, ⟨rfl, rfl, rfl, by decide +kernel, rfl, by decide +kernel, by decide +kernel⟩, fun _ _ _ _ _ _ us hl => match us, hl with | [_], _ => rfl, rfl, rfl, by decide +kernel⟩
theorem dc13 : DefChk (tx.cm 13) "is_condition" f13 (dat "is_condition" 27) ["thing"] := ⟨rfl, rfl, rfl, ⟨rfl, rfl, rfl, by decide +kernel, rfl, by decide +kernel, by decide +kernel⟩, fun _ _ _ _ _ _ us hl => match us, hl with | [_], _ => rfl, rfl, rfl, by decide +kernel⟩
theorem dc12 : DefChk (tx.cm 12) "is_grouped" f12 (dat "is_grouped" 26) ["thing"] := ⟨rfl, rfl, rfl, ⟨rfl, rfl, rfl, by decide +kernel, rfl, by decide +kernel, by decide +kernel⟩, fun _ _ _ _ _ _ us hl => match us, hl with | [_], _ => rfl, rfl, rfl, by decide +kernel⟩
theorem dc11 : DefChk (tx.cm 11) "checked_shapes" f11 (dat "checked_shapes" 25) ["thing"] := ⟨rfl, rfl, rfl, ⟨rfl, rfl, rfl, by decide +kernel, rfl, by decide +kernel, by decide +kernel⟩, fun _ _ _ _ _ _ us hl => match us, hl with | [_], _ => rfl, rfl, rfl, by decide +kernel⟩
theorem dc10 : DefChk (tx.cm 10) "are_unlike" f10 (dat "are_unlike" 24) ["things"] := ⟨rfl, rfl, rfl, ⟨rfl, rfl, rfl, by decide +kernel, rfl, by decide +kernel, by decide +kernel⟩, fun _ _ _ _ _ _ us hl => match us, hl with | [_], _ => rfl, rfl, rfl, by decide +kernel⟩
theorem dc9 : DefChk (tx.cm 9) "is_shape" f9 (dat "is_shape" 23) ["thing"] := ⟨rfl, rfl, rfl, ⟨rfl, rfl, rfl, by decide +kernel, rfl, by decide +kernel, by decide +kernel⟩, fun _ _ _ _ _ _ us hl => match us, hl with | [_], _ => rfl, rfl, rfl, by decide +kernel⟩
theorem dc8 : DefChk (tx.cm 8) "is_couple" f8 (dat "is_couple" 22) ["thing"] := ⟨rfl, rfl, rfl, ⟨rfl, rfl, rfl, by decide +kernel, rfl, by decide +kernel, by decide +kernel⟩, fun _ _ _ _ _ _ us hl => match us, hl with | [_], _ => rfl, rfl, rfl, by decide +kernel⟩
theorem dc7 : DefChk (tx.cm 7) "is_names" f7 (dat "is_names" 17) ["thing"] := ⟨rfl, rfl, rfl, ⟨rfl, rfl, rfl, by decide +kernel, rfl, by decide +kernel, by decide +kernel⟩, fun _ _ _ _ _ _ us hl => match us, hl with | [_], _ => rfl, rfl, rfl, by decide +kernel⟩
theorem dc6 : DefChk (tx.cm 6) "is_tuple_of" f6 (dat "is_tuple_of" 16) ["thing", "is_one"] := ⟨rfl, rfl, rfl, ⟨rfl, rfl, rfl, by decide +kernel, rfl, by decide +kernel, by decide +kernel⟩, fun _ _ _ _ _ _ us hl => match us, hl with | [_, _], _ => rfl, rfl, rfl, by decide +kernel⟩
theorem dc5 : DefChk (tx.cm 5) "is_sized" f5 (dat "is_sized" 15) ["thing", "many"] := ⟨rfl, rfl, rfl, ⟨rfl, rfl, rfl, by decide +kernel, rfl, by decide +kernel, by decide +kernel⟩, fun _ _ _ _ _ _ us hl => match us, hl with | [_, _], _ => rfl, rfl, rfl, by decide +kernel⟩
theorem dc4 : DefChk (tx.cm 4) "is_value" f4 (dat "is_value" 14) ["thing"] := ⟨rfl, rfl, rfl, ⟨rfl, rfl, rfl, by decide +kernel, rfl, by decide +kernel, by decide +kernel⟩, fun _ _ _ _ _ _ us hl => match us, hl with | [_], _ => rfl, rfl, rfl, by decide +kernel⟩
theorem dc3 : DefChk (tx.cm 3) "great" f3 (dat "great" 13) [] := ⟨rfl, rfl, rfl, ⟨rfl, rfl, rfl, by decide +kernel, rfl, by decide +kernel, by decide +kernel⟩, fun _ _ _ _ _ _ us hl => match us, hl with | [], _ => rfl, rfl, rfl, by decide +kernel⟩
theorem dc2 : DefChk (tx.cm 2) "is_name" f2 (dat "is_name" 12) ["thing"] := ⟨rfl, rfl, rfl, ⟨rfl, rfl, rfl, by decide +kernel, rfl, by decide +kernel, by decide +kernel⟩, fun _ _ _ _ _ _ us hl => match us, hl with | [_], _ => rfl, rfl, rfl, by decide +kernel⟩
theorem dc1 : DefChk (tx.cm 1) "is_number" f1 (dat "is_number" 11) ["thing"] := ⟨rfl, rfl, rfl, ⟨rfl, rfl, rfl, by decide +kernel, rfl, by decide +kernel, by decide +kernel⟩, fun _ _ _ _ _ _ us hl => match us, hl with | [_], _ => rfl, rfl, rfl, by decide +kernel⟩
theorem dc0 : DefChk (tx.cm 0) "_wall" f0 (dat "_wall" 0) ["k"] := ⟨rfl, rfl, rfl, ⟨rfl, rfl, rfl, by decide +kernel, rfl, by decide +kernel, by decide +kernel⟩, fun _ _ _ _ _ _ us hl => match us, hl with | [_], _ => rfl, rfl, rfl, by decide +kernel⟩
theorem dcs : DCs tx 0 pg.fs defs tx.fn pss := .cons dc0 (.cons dc1 (.cons dc2 (.cons dc3 (.cons dc4 (.cons dc5 (.cons dc6 (.cons dc7 (.cons dc8 (.cons dc9 (.cons dc10 (.cons dc11 (.cons dc12 (.cons dc13 (.cons dc14 (.cons dc15 (.cons dc16 (.cons dc17 (.cons dc18 (.cons dc19 (.cons dc20 (.cons dc21 (.cons dc22 (.cons dc23 (.cons dc24 (.cons dc25 (.nil _))))))))))))))))))))))))))
theorem ic0 : InChk PySem.Challenge.pw_countalike_k81_shapes_and_writings_and_t in0 := ⟨⟨rfl, rfl, rfl, by decide +kernel, by decide +kernel, by decide +kernel, by decide +kernel⟩, ⟨_, rfl, rfl⟩, by decide +kernel, by decide +kernel, by decide +kernel, fun _ _ _ _ _ _ _ us hl => match us, hl with | [_, _, _], _ => rfl, by decide +kernel, by decide +kernel⟩
theorem ic1 : InChk PySem.Challenge.pw_countalike_k81_shapes_and_writings_and_t in1 := ⟨⟨rfl, rfl, rfl, by decide +kernel, by decide +kernel, by decide +kernel, by decide +kernel⟩, ⟨_, rfl, rfl⟩, by decide +kernel, by decide +kernel, by decide +kernel, fun _ _ _ _ _ _ _ us hl => match us, hl with | [_, _, _], _ => rfl, by decide +kernel, by decide +kernel⟩
theorem efs : ∀ (c : Nat) (x : Str) (gs : List Str), tx.cn[c]? = some x → tx.ef[c]? = some gs → gs ≠ [] → ∃ d ∈ ins, d.cls = x ∧ d.gs = gs := by
  intro c x gs h1 h2 h3
  have key : ∀ c, c < 3 → (match tx.ef[c]? with | some g => g.isEmpty | none => true) = true ∨ ∃ d ∈ ins, tx.cn[c]? = some d.cls ∧ tx.ef[c]? = some d.gs := by
    intro c hc
    match c, hc with
    | 0, _ => exact .inl rfl
    | 1, _ => exact .inr ⟨_, List.mem_cons_self, rfl, rfl⟩
    | 2, _ => exact .inr ⟨_, List.mem_cons_of_mem _ (List.mem_cons_self), rfl, rfl⟩
  have hc : c < 3 := (List.getElem?_eq_some_iff.mp h1).1
  rcases key c hc with z | ⟨d, hd, a, b⟩
  · rw [h2] at z
    exact absurd (List.isEmpty_iff.mp z) h3
  · rw [h1] at a
    rw [h2] at b
    exact ⟨d, hd, (Option.some.inj a).symm, (Option.some.inj b).symm⟩
theorem mks : ∀ (f : Nat) (d : DefD), defs[f]? = some d → tx.lams.contains f = true → d ∈ mk := by
  intro f d h1 h2
  have h3 : f ∈ lamF := List.contains_iff_mem.mp h2

  simp only [lamF, List.mem_cons, List.not_mem_nil, or_false] at h3
  subst h3
  have e := Option.some.inj h1
  subst e
  exact List.mem_cons_self
theorem txt : TextOk PySem.Challenge.pw_countalike_k81_shapes_and_writings_and_t pg tx defs pss ins mk := ⟨dcs, .cons ic0 (.cons ic1 (.nil)), by decide +kernel, by decide +kernel, efs, mks⟩
end Mid.k81
set_option Elab.async false
set_option linter.all false
set_option maxRecDepth 100000
set_option maxHeartbeats 0
namespace Mid.k81
open PySem PySem.Spec PyProof.Rows L2 He
abbrev R : PySem.W.OpenRow := PySem.W.OpenLaw.row PySem.Challenge.rw_countalike_k81_shapes_and_writings_and_t
abbrev ex : PySem.W.Frag → Bool := exB tx pg.gs PySem.Challenge.pw_countalike_k81_shapes_and_writings_and_t.main.file ins mk
abbrev hk : PySem.W.Hook := hookM 5 defs ins (mk.map DefD.at_) ex
def ob (s : PySem.W.SharedT) : AlM := obsM 5 defs ins (mk.map DefD.at_) ex (HandSHeadRun.getT s)
theorem ob_eq (s : PySem.W.SharedT) : ob s = hk.obs s.abs := obsM_eq (HandSHeadRun.getT_eq s)
def loose : List Str := (["_wall", "CountError", "BadQuestion", "TooLarge", "LETTERS", "DIGITS", "MOST_LETTERS", "MOST_FIGURES", "RESERVED", "is_number", "is_name", "great", "is_value", "is_sized", "is_tuple_of", "is_names", "MOST_SOURCES", "MOST_CONDITIONS", "MOST_COLUMNS", "is_couple"] : List Str) ++ (["is_shape", "are_unlike", "checked_shapes", "is_grouped", "is_condition", "is_writing_form", "columns_of", "check_columns", "checked_writing", "_law_bag", "_law_take", "_law_some", "_law_shapes", "_law_writing", "_law_columns", "_law_raised"] : List Str)
theorem run_ (w : World) : HandSHeadRun.RunEq R (PySem.W.view R.prog [40]) hk ob 4000 loose w := by
  intro os
  kernel_rfl
end Mid.k81
open PySem PySem.W PySem.Calls PyProof.Rows
theorem Mid.k81.holds (math : ∀ ns : List Int, ns.length ≤ 63 → Mid.LawTrue Mid.k81.pg 30 25 ns) : PySem.Challenge.rw_countalike_k81_shapes_and_writings_and_t.Holds := by
  w_on; o_law
  refine HandSHeadRun.head_any (r := OpenLaw.row PySem.Challenge.rw_countalike_k81_shapes_and_writings_and_t) (q := view (OpenLaw.row PySem.Challenge.rw_countalike_k81_shapes_and_writings_and_t).prog [40]) (H := Mid.k81.hk) (ob := Mid.k81.ob) (M := 4000) (loose := Mid.k81.loose) (d := HandSHeadRun.topDef (OpenLaw.row PySem.Challenge.rw_countalike_k81_shapes_and_writings_and_t).prog 40) (kwd := []) Mid.k81.ob_eq
    (by kernel_rfl) (fun s => by kernel_rfl) Mid.k81.run_ (by kernel_rfl) (by kernel_rfl) (by kernel_rfl) (by rfl) (by first | assumption | decide +kernel) (by decide +kernel) ⟨rfl, rfl, rfl, rfl, rfl, by decide +kernel⟩ ?hw ?hc
  case hw => w_witness2
  case hc =>
    refine LamX.walk_ofTsE (l := PySem.Challenge.rw_countalike_k81_shapes_and_writings_and_t) (n := 63) (k := 30 + 3) (x := "script") (CX := fun w => L2.CX (PySem.Challenge.rw_countalike_k81_shapes_and_writings_and_t).prog w) rfl (by decide) (by kernel_rfl) ⟨rfl, by decide, by decide⟩ ?F (fun _ _ _ _ _ z => Mid.cx_none z)
    intro w mg fa h Y G hmg0
    obtain ⟨K, KX, c⟩ := Y
    have hmg : mg ("law" : PySem.Str) = some (.ref fa) := by
      have e : (HandSHeadRun.topDef (OpenLaw.row PySem.Challenge.rw_countalike_k81_shapes_and_writings_and_t).prog 40).name = ("law" : PySem.Str) := by kernel_rfl
      rw [← e]
      exact hmg0
    exact ⟨K, KX, Mid.law_at (l := PySem.Challenge.rw_countalike_k81_shapes_and_writings_and_t) (most := 63) Mid.k81.txt ⟨_, rfl⟩ rfl rfl math c KX G hmg⟩
theorem PySem.Challenge.cw_countalike_k81_shapes_and_writings_and_t_holds : PySem.Challenge.rw_countalike_k81_shapes_and_writings_and_t.Holds :=
  Mid.k81.holds (fun ns _ => Mid.k81.law_true ns)
