import PyProof.Rows.All
import Wide.All
import OpenK.AllK
import Wide.FinOn
import HandS.ForMost
import HandS.ForExc
import HandS.Lambda
import HandS.Nested
import HandS.TupAny
import HandS.Deep
import HandS.Style
import HandS.WideBits
import HandS.Gcd
import HandS.IsInst
import HandS.TupMul
import HandS.Small
import PyProof.ReprRoads
import PyProof.CallFns
import HandS.Dict
import HandS.Comp
import HandS.Flow
import HandS.Zip
import KE.GoesMore
import KE.GoesEnum
import HandS.ExcInit
import HandS.ExcField
import HandS.TryMany
import HandS.Defaults
import HandS.Exc
import HandS.HeadHook1
import HandS.HeadHook2
import HandS.HeadNt
import HandS.HeadHook3
import HandS.HeadHook4
import HandS.Ends
import HandS.HeadEnd
import HandS.EndTab
import HandS.Head2
import HandS.Head0
import HandS.Head1
import HandS.Head3
import PyProof.ReprLoop
import PyProof.Rows.RegStrFacts
import PySem.Challenge.RW_trusspapers_k02_ratios
set_option Elab.async false
set_option linter.all false
set_option maxRecDepth 100000
section
/-! PiSem: a small interpreter (own syntax, own values) for the part of Python that the laws use. Tuples and frozen lists are values; lists, dicts, instances that change are cells of a store. -/
namespace Pi
open PySem L2

inductive D where
  | non | bl (b : Bool) | int (i : Int) | str (s : Str)
  | tup (xs : List D) | lst (xs : List D)
  | dct (ks : List Key) (vs : List D)
  | ins (c : String) (ns : List String) (vs : List D)
  | obj (n : Nat)
  | glob (x : String) | ty (n : String)
  | scr (xs : List D)
  | lam (k : String) (js : List Nat)
  | clo (k : String) (ws : List D)
  deriving Inhabited

inductive Cell where
  | dead
  | lst (xs : List D)
  | dct (ks : List Key) (vs : List D)
  | ins (c : String) (ns : List String) (vs : List D)
  /-- a list that is frozen -/
  | ice (xs : List D)
  deriving Inhabited

abbrev Store := List Cell
abbrev Slots := List (Option D)

structure Exn where
  cls : String
  ns : List String
  vs : List D

inductive R (α : Type) where
  | ok (a : α) (S : Store)
  | err (x : Exn) (S : Store)
  | bad

@[inline] def R.bind {α β : Type} (r : R α) (f : α → Store → R β) : R β :=
  match r with
  | .ok a S => f a S
  | .err x S => .err x S
  | .bad => .bad

def R.of {α : Type} (o : Option α) (S : Store) : R α := match o with | some a => .ok a S | none => .bad

/-! ### equality of values, references -/
mutual
def D.beq : D → D → Bool
  | .non, .non => true
  | .bl a, .bl b => a == b
  | .int a, .int b => a == b
  | .str a, .str b => a == b
  | .tup xs, .tup ys => D.beqs xs ys
  | .lst xs, .lst ys => D.beqs xs ys
  | .scr xs, .scr ys => D.beqs xs ys
  | .dct ks vs, .dct ks' vs' => decide (ks = ks') && D.beqs vs vs'
  | .ins c ns vs, .ins c' ns' vs' => c == c' && ns == ns' && D.beqs vs vs'
  | .obj n, .obj m => n == m
  | .glob x, .glob y => x == y
  | .ty x, .ty y => x == y
  | .lam k js, .lam k' js' => k == k' && js == js'
  | .clo k ws, .clo k' ws' => k == k' && D.beqs ws ws'
  | _, _ => false
def D.beqs : List D → List D → Bool
  | [], [] => true
  | x :: xs, y :: ys => D.beq x y && D.beqs xs ys
  | _, _ => false
end
mutual
/-- no reference to a cell at b or beyond -/
def D.refsB (b : Nat) : D → Bool
  | .tup xs | .lst xs | .scr xs => D.refsBs b xs
  | .dct _ vs => D.refsBs b vs
  | .clo _ ws => D.refsBs b ws
  | .ins _ _ vs => D.refsBs b vs
  | .obj n => decide (n < b)
  | _ => true
def D.refsBs (b : Nat) : List D → Bool
  | [] => true
  | x :: xs => D.refsB b x && D.refsBs b xs
end
mutual
/-- no function made by a lambda is in it -/
def D.noFn : D → Bool
  | .tup xs | .lst xs | .scr xs => D.noFns xs
  | .dct _ vs => D.noFns vs
  | .ins _ _ vs => D.noFns vs
  | .lam _ _ => false
  | .clo _ _ => false
  | _ => true
def D.noFns : List D → Bool
  | [] => true
  | x :: xs => D.noFn x && D.noFns xs
end
mutual
/-- no lambda of the frame's own is in it -/
def D.noLam : D → Bool
  | .tup xs | .lst xs | .scr xs => D.noLams xs
  | .dct _ vs => D.noLams vs
  | .ins _ _ vs => D.noLams vs
  | .clo _ vs => D.noLams vs
  | .lam _ _ => false
  | _ => true
def D.noLams : List D → Bool
  | [] => true
  | x :: xs => D.noLam x && D.noLams xs
end
def Cell.vals : Cell → List D
  | .dead => []
  | .lst xs => xs
  | .dct _ vs => vs
  | .ins _ _ vs => vs
  | .ice xs => xs
def Cell.noFn (c : Cell) : Bool := D.noFns c.vals
def Cell.noLam (c : Cell) : Bool := D.noLams c.vals
mutual
/-- what a callee sees of a value: a lambda of this frame with what it has captured -/
def D.conv (env : Slots) : D → Option D
  | .tup xs => (D.convs env xs).map .tup
  | .lst xs => (D.convs env xs).map .lst
  | .lam k js => ((js.mapM fun j => env[j]?.bind id).bind fun ws => if D.noFns ws then some ws else none).map (.clo k)
  | .clo k ws => if D.noLams ws then some (.clo k ws) else none
  | d => if d.noFn then some d else none
def D.convs (env : Slots) : List D → Option (List D)
  | [] => some []
  | x :: xs => match D.conv env x, D.convs env xs with
    | some y, some ys => some (y :: ys)
    | _, _ => none
end
/-- a list that holds functions freezes -/
def Cell.toIce : Cell → Cell
  | .lst xs => if D.noFns xs then .lst xs else .ice xs
  | .ice xs => .ice xs
  | c => if c.noFn then c else .dead
def Cell.conv (env : Slots) : Cell → Cell
  | .ice xs => if D.noFns xs then .ice xs else match D.convs env xs with
    | some ys => if D.refsBs 0 ys then .ice ys else .dead
    | none => .dead
  | c => c
/-- a cell that may be seen by a callee -/
def Cell.okIn (c : Cell) : Bool := c.noFn || (match c with
  | .ice xs => D.noLams xs
  | .dead => true
  | _ => false)
/-- the cells that hold functions are as they were -/
def restS : Store → Store → Store
  | c :: S, c' :: S' => (if c.noFn then c' else c) :: restS S S'
  | _, S' => S'
def restOk : Store → Store → Bool
  | c :: S, c' :: S' => (!c.noFn || c'.noFn) && restOk S S'
  | [], S' => S'.all Cell.noFn
  | _ :: _, [] => false
mutual
def D.toPy : D → Option PyData
  | .non => some .none
  | .bl b => some (.bool b)
  | .int i => some (.int i)
  | .str s => some (.str s)
  | .tup xs => (D.toPys xs).map .tuple
  | .lst xs => (D.toPys xs).map .list
  | _ => none
def D.toPys : List D → Option (List PyData)
  | [] => some []
  | x :: xs => match D.toPy x, D.toPys xs with
    | some p, some ps => some (p :: ps)
    | _, _ => none
end

mutual
/-- .. for repr: empty dicts too -/
def D.toPyR : D → Option PyData
  | .non => some .none
  | .bl b => some (.bool b)
  | .int i => some (.int i)
  | .str s => some (.str s)
  | .tup xs => (D.toPyRs xs).map .tuple
  | .lst xs => (D.toPyRs xs).map .list
  | .dct [] [] => some (.dict [])
  | _ => none
def D.toPyRs : List D → Option (List PyData)
  | [] => some []
  | x :: xs => match D.toPyR x, D.toPyRs xs with
    | some p, some ps => some (p :: ps)
    | _, _ => none
end
mutual
def D.noLst : D → Bool
  | .tup xs => D.noLsts xs
  | .lst _ => false
  | _ => true
def D.noLsts : List D → Bool
  | [] => true
  | x :: xs => D.noLst x && D.noLsts xs
end

/-! ### what a value is by the store -/
def seqOf (S : Store) : D → Option (List D)
  | .tup xs => some xs
  | .lst xs => some xs
  | .scr xs => some xs
  | .obj n => match S[n]? with
    | some (.lst xs) => some xs
    | some (.ice xs) => some xs
    | _ => none
  | _ => none
def lstOf (S : Store) : D → Option (List D)
  | .lst xs => some xs
  | .obj n => match S[n]? with
    | some (.lst xs) => some xs
    | some (.ice xs) => some xs
    | _ => none
  | _ => none
def dctOf (S : Store) : D → Option (List Key × List D)
  | .dct ks vs => some (ks, vs)
  | .obj n => match S[n]? with
    | some (.dct ks vs) => some (ks, vs)
    | _ => none
  | _ => none
def insOf (S : Store) : D → Option (String × List String × List D)
  | .ins c ns vs => some (c, ns, vs)
  | .obj n => match S[n]? with
    | some (.ins c ns vs) => some (c, ns, vs)
    | _ => none
  | _ => none
/-- at the top a cell's list stands for the list -/
def flat1 (S : Store) (d : D) : D := match lstOf S d with
  | some xs => .lst xs
  | none => d

def look {κ : Type} [DecidableEq κ] (k : κ) : List κ → List D → Option D
  | a :: ks, v :: vs => if a = k then some v else look k ks vs
  | _, _ => none
/-- a field is set: at its place, or behind -/
def put {κ : Type} [DecidableEq κ] (k : κ) (v : D) : List κ → List D → List κ × List D
  | a :: ks, w :: vs => if a = k then (a :: ks, v :: vs) else ((a :: (put k v ks vs).1), w :: (put k v ks vs).2)
  | _, _ => ([k], [v])
/-- a key of a dict is set -/
def putD (k : Key) (v : D) (ks : List Key) (vs : List D) : List Key × List D :=
  if ks.any (fun a => decide (a = k)) then (ks, (ks.zip vs).map fun p => if p.1 = k then v else p.2) else (ks ++ [k], vs ++ [v])

def keyOf : D → Option Key
  | .int i => some (.inl i)
  | .str s => some (.inr s)
  | _ => none

/-! ### operations -/
def mulOk (i j : Int) : Bool := decide (Builtin.Int.intBits i ≤ 64) || decide (Builtin.Int.intBits j ≤ 64) || decide (Builtin.Int.intBits i + Builtin.Int.intBits j ≤ 134217728)
def rep (k : Nat) (xs : List D) : List D := (List.replicate k xs).flatten

def addD (S : Store) : D → D → Option D
  | .int i, .int j => some (.int (i + j))
  | .str i, .str j => if i.length + j.length ≤ sizeLine then some (.str (i ++ j)) else none
  | .tup xs, .tup ys => if xs.length + ys.length ≤ sizeLine then some (.tup (xs ++ ys)) else none
  | x, y => match lstOf S x, lstOf S y with
    | some xs, some ys => if xs.length + ys.length ≤ sizeLine then some (.lst (xs ++ ys)) else none
    | _, _ => none
def mulD (S : Store) : D → D → Option D
  | .int i, .int j => if mulOk i j then some (.int (i * j)) else none
  | .tup xs, .int k => if 0 ≤ k ∧ k < 2 ^ 62 ∧ xs.length * k.toNat ≤ 1000000 then some (.tup (rep k.toNat xs)) else none
  | x, .int k => match lstOf S x with
    | some xs => if 0 ≤ k ∧ k < 2 ^ 62 ∧ xs.length * k.toNat ≤ 1000000 then some (.lst (rep k.toNat xs)) else none
    | none => none
  | _, _ => none
def intD (f : Int → Int → Option Int) : D → D → Option D
  | .int i, .int j => (f i j).map .int
  | _, _ => none
def binD (op : Operator) (S : Store) (x y : D) : Option D :=
  match op with
  | .Add => addD S x y
  | .Mult => mulD S x y
  | .Sub => intD (fun i j => some (i - j)) x y
  | .FloorDiv => intD (fun i j => if j = 0 ∨ Builtin.divisionGoesByPylong i j = true then none else some (i.fdiv j)) x y
  | .Mod => intD (fun i j => if j = 0 then none else some (i.fmod j)) x y
  | .Pow => intD (fun i j => if 0 ≤ j ∧ j ≤ 1000000 ∧ i.natAbs < 2 ^ 64 then some (i ^ j.toNat) else none) x y
  | _ => none

/-- == of data -/
def eqG (S : Store) (x y : D) : Option Bool :=
  match (flat1 S x).toPy, (flat1 S y).toPy with
  | some p, some q => if PySem.SeqAt.shaped p && PySem.SeqAt.shaped q then some (PyData.eqv p q) else none
  | _, _ => none
def eqD (S : Store) : D → D → Option Bool
  | .str a, .str b => some (decide (a = b))
  | .int a, .int b => some (decide (a = b))
  | x, y => eqG S x y
def flatD : D → Bool
  | .non | .bl _ | .int _ | .str _ => true
  | _ => false
def eqF : D → D → Bool
  | .non, .non => true
  | .bl a, .bl b => a == b
  | .bl a, .int b => (if a then 1 else 0) == b
  | .int a, .bl b => a == (if b then 1 else 0)
  | .int a, .int b => a == b
  | .str a, .str b => a == b
  | _, _ => false
/-- x in xs -/
def inD (S : Store) (x y : D) : Option Bool :=
  match seqOf S y with
  | none => none
  | some ys => if flatD x && ys.all flatD then some (ys.any fun z => eqF z x) else
    match lstOf S y, D.toPy x, D.toPys ys with
    | some _, some p, some ps => if PySem.SeqAt.shaped p && PySem.SeqAt.shaped (.list ps) then some (ps.any fun z => PyData.eqv z p) else none
    | _, _, _ => none

def ordD (f : Int → Int → Bool) : D → D → Option Bool
  | .int i, .int j => some (f i j)
  | _, _ => none
def isNon : D → Bool
  | .non => true
  | _ => false
def isD : D → D → Option Bool
  | x, .non => some (isNon x)
  | .bl a, .bl b => some (decide (a = b))
  | _, _ => none
def cmpD (op : CmpOp) (S : Store) (x y : D) : Option Bool :=
  match op with
  | .Lt => ordD (fun i j => decide (i < j)) x y
  | .LtE => ordD (fun i j => decide (i ≤ j)) x y
  | .Gt => ordD (fun i j => decide (j < i)) x y
  | .GtE => ordD (fun i j => decide (j ≤ i)) x y
  | .Is => isD x y
  | .IsNot => (isD x y).map (!·)
  | .Eq => eqD S x y
  | .NotEq => (eqD S x y).map (!·)
  | .In => inD S x y
  | .NotIn => (inD S x y).map (!·)

def unD (op : UnaryOp) (x : D) : Option D :=
  match op with
  | .USub => match x with
    | .int i => some (.int (-i))
    | _ => none
  | _ => none

def truD (S : Store) : D → Option Bool
  | .non => some false
  | .bl b => some b
  | .int i => some (i != 0)
  | .str s => if s.length ≤ sizeLine then some (decide (s.length ≠ 0)) else none
  | x => (seqOf S x).map (!·.isEmpty)

/-- x[y] -/
def ixD (S : Store) (x y : D) : Option D :=
  match seqOf S x, y with
  | some xs, .int i => atI xs i
  | _, _ => match x, y with
    | .str s, .int i => if s.length ≤ sizeLine then (atI s.cps.toList i).map fun c => .str ⟨#[c]⟩ else none
    | x, y => match dctOf S x, keyOf y with
      | some (ks, vs), some k => look k ks vs
      | _, _ => none

def cutD (xs : List D) (lo hi : Option Int) : List D := (xs.drop (HT.sIx xs.length 0 lo)).take (HT.sIx xs.length xs.length hi - HT.sIx xs.length 0 lo)
/-- x[lo:hi] -/
def slD (S : Store) (x : D) (lo hi : Option Int) : Option D :=
  match x with
  | .tup xs => some (.tup (cutD xs lo hi))
  | x => (lstOf S x).map fun xs => .lst (cutD xs lo hi)

/-- the classes that isinstance is asked for -/
inductive TyN where
  | bt (n : String) | cl (c : String)
  deriving DecidableEq
/-- what a value's class is -/
def tagOf (S : Store) : D → Option TyN
  | .non => some (.bt "NoneType")
  | .bl _ => some (.bt "bool")
  | .int _ => some (.bt "int")
  | .str _ => some (.bt "str")
  | .tup _ => some (.bt "tuple")
  | .lst _ => some (.bt "list")
  | .scr _ => some (.bt "list")
  | .dct _ _ => some (.bt "dict")
  | .ins c _ _ => some (.cl c)
  | .obj n => match S[n]? with
    | some (.lst _) => some (.bt "list")
    | some (.ice _) => some (.bt "list")
    | some (.dct _ _) => some (.bt "dict")
    | some (.ins c _ _) => some (.cl c)
    | _ => none
  | _ => none
/-- the built-in classes that may be asked for -/
def askTys : List String := ["int", "bool", "str", "tuple", "list", "dict"]
def tagIs : TyN → TyN → Option Bool
  | .bt a, .bt b => if askTys.contains b then some (a == b || (a == "bool" && b == "int")) else none
  | .bt _, .cl _ => some false
  | .cl _, .bt b => if askTys.contains b then some false else none
  | .cl c, .cl c' => some (decide (c = c'))
def isOne (S : Store) (d : D) (t : TyN) : Option Bool := (tagOf S d).bind fun u => tagIs u t
def isAny (S : Store) (d : D) : List TyN → Option Bool
  | [] => some false
  | t :: ts => match isOne S d t with
    | some true => some true
    | some false => isAny S d ts
    | none => none

def allBl : List D → Option Bool
  | [] => some true
  | .bl b :: r => (allBl r).map (b && ·)
  | _ => none
def anyBl : List D → Option Bool
  | [] => some false
  | .bl b :: r => (anyBl r).map (b || ·)
  | _ => none

def reprOk (p : PyData) : Bool := PyData.showable p && decide ((PyData.shown p).length ≤ sizeLine) && decide (p.depth ≤ 64)

/-- built-in functions and classes that are called -/
inductive BF where
  | len | abs | int | tuple | list | all | any | repr | gcd
  deriving DecidableEq
def lenD (S : Store) : List D → Option D
  | [.str s] => if s.length ≤ sizeLine then some (.int s.length) else none
  | [x] => match seqOf S x with
    | some ys => some (.int ys.length)
    | none => none
  | _ => none
def callD (f : BF) (S : Store) (xs : List D) : Option D :=
  match f with
  | .len => lenD S xs
  | .abs => match xs with
    | [.int i] => some (.int (if i < 0 then -i else i))
    | _ => none
  | .int => match xs with
    | [.int i] => some (.int i)
    | [.bl b] => some (.int (if b then 1 else 0))
    | _ => none
  | .tuple => match xs with
    | [x] => (seqOf S x).map .tup
    | _ => none
  | .list => match xs with
    | [x] => (seqOf S x).map .lst
    | _ => none
  | .all => match xs with
    | [x] => ((lstOf S x).bind allBl).map .bl
    | _ => none
  | .any => match xs with
    | [x] => ((lstOf S x).bind anyBl).map .bl
    | _ => none
  | .repr => match xs with
    | [x] => match (flat1 S x).toPyR with
      | some p => if reprOk p && ((flat1 S x).noLst || !PyData.hasDict p) then some (.str (PyData.shown p)) else none
      | none => none
    | _ => none
  | .gcd => match xs with
    | [.int i, .int j] => some (.int (Nat.gcd i.natAbs j.natAbs : Nat))
    | _ => none

/-- methods of built-in types: the value, the store behind -/
inductive MF where
  | bits | append | popAt
  deriving DecidableEq
def methD (m : MF) (S : Store) (x : D) (xs : List D) : Option (D × Store) :=
  match m with
  | .bits => match x, xs with
    | .int i, [] => some (.int (Builtin.Int.intBits i : Nat), S)
    | _, _ => none
  | .append => match x, xs with
    | .obj n, [y] => match S[n]? with
      | some (.lst ys) => if ys.length < sizeLine then some (.non, S.set n (.lst (ys ++ [y]))) else none
      | _ => none
    | _, _ => none
  | .popAt => match x, xs with
    | .obj n, [.int i] => match S[n]? with
      | some (.lst ys) => match ixN ys.length i with
        | some k => match ys[k]? with
          | some y => some (y, S.set n (.lst (ys.eraseIdx k)))
          | none => none
        | none => none
      | _ => none
    | _, _ => none

/-- whose method it is -/
def mtOk (m : MF) (S : Store) (u : D) : Bool := match m with
  | .bits => true
  | _ => match u with
    | .obj n => match S[n]? with
      | some (.lst _) => true
      | _ => false
    | _ => false

/-! ### the syntax -/
mutual
inductive IE where
  | var (i : Nat)
  | con (d : D)
  | glb (x : String) (d : D)
  | bin (op : Operator) (a b : IE)
  | un (op : UnaryOp) (a : IE)
  | not (a : IE)
  | cmp (op : CmpOp) (a b : IE)
  | chain (op op' : CmpOp) (a b c : IE)
  | chain3 (op op' op'' : CmpOp) (a b c d : IE)
  | band (a b : IE) | bor (a b : IE)
  | ite (c a b : IE)
  | attr (a : IE) (f : String)
  | ix (a b : IE)
  | sl (a : IE) (lo hi : Option IE)
  | tup (es : List IE)
  | lst (es : List IE)
  | dic (ks : List Str) (es : List IE)
  | dic0
  | isi (a : IE) (ts : List TyN)
  | bi (f : BF) (es : List IE)
  | mt (m : MF) (a : IE) (es : List IE)
  | call (f : String) (es : List IE)
  | meth (c m : String) (a : IE) (es : List IE)
  | new (c : String) (init : String) (pure : Bool) (es : List IE)
  | comp (e : IE) (g : IG) (it : II) (ifs : Option IE) (own : List Nat)
  | cellL (a : IE)
  | cellD (ks : List Str) (es : List IE)
  | cellC (f : String) (es : List IE)
  | move (a : IE)
  | lam (k : String) (js : List Nat)
  | act (i : Nat)
  | callS (f : String) (es : List IE)
inductive IG where
  | var (i : Nat)
  | tup (gs : List IG)
  | sub (a b : IE)
  | attr (c : String) (a : IE) (f : String)
inductive II where
  | seq (a : IE)
  | range1 (a : IE)
  | range2 (a b : IE)
  | enum (a : IE)
  | zip (a b : IE)
  | zip3 (a b c : IE)
end
inductive IS where
  | assign (g : IG) (e : IE)
  | aug (i : Nat) (e : IE)
  | augA (c : String) (a : IE) (f : String) (e : IE)
  | ex (e : IE)
  | iff (c : IE) (a b : List IS)
  | for_ (g : IG) (it : II) (body : List IS)
  | while_ (c : IE) (body : List IS)
  | brk | cont | pass | dead
  | ret (e : IE) | retN
  | raise (c : String) (ns : List String) (es : List IE)
  | try_ (body : List IS) (known : List String) (hs : List (String × Nat × List (Str ⊕ String)))

/-- what a handler gives: told things, fields of the error -/
def hfD (x : Exn) : List (Str ⊕ String) → Option (List D)
  | [] => some []
  | .inl d :: r => (hfD x r).map (.str d :: ·)
  | .inr f :: r => match look f x.ns x.vs, hfD x r with
    | some d, some ds => some (d :: ds)
    | _, _ => none
def findH (c : String) : List (String × Nat × List (Str ⊕ String)) → Option (Nat × List (Str ⊕ String))
  | [] => none
  | (c', i, hf) :: r => if c = c' then some (i, hf) else findH c r

/-- an expression whose list is new -/
def IE.fresh : IE → Bool
  | .lst _ | .comp .. | .move _ => true
  | .bi .list _ => true
  | .bin .. => true
  | .sl .. => true
  | _ => false

inductive Fl where
  | nx | brk | ct | ret (d : D) (fr : Bool)

/-- what stands behind an error -/
def handled (x : Exn) (env : Slots) (S : Store) (hs : List (String × Nat × List (Str ⊕ String))) : R (Fl × Slots) :=
  match findH x.cls hs with
  | some (_, hf) => match hfD x hf with
    | some ds => if ds.length ≤ 1000 then .ok (.ret (.tup ds) false, env) S else .bad
    | none => .bad
  | none => .err x S
/-- what a callee gives may hold no function -/
def chkFn (r : R (D × Bool)) : R (D × Bool) :=
  match r with
  | .ok (d, fr) S => if d.noFn && S.all Cell.noFn then .ok (d, fr) S else .bad
  | .err x S => if D.noFns x.vs && S.all Cell.noFn then .err x S else .bad
  | .bad => .bad
def chkIf (b : Bool) (r : R (D × Bool)) : R (D × Bool) := if b then chkFn r else r
/-- calls: name, base, arguments: the value, whether its list is new -/
abbrev Calls := String → Nat → List D → Store → R (D × Bool)
/-- what a callee gives: no function; the cells that hold some are as they were -/
def rest (S : Store) (r : R (D × Bool)) : R (D × Bool) :=
  match r with
  | .ok (d, fr) S' => if d.noFn && restOk S S' then .ok (d, fr) (restS S S') else .bad
  | .err x S' => if D.noFns x.vs && restOk S S' then .err x (restS S S') else .bad
  | .bad => .bad
def restR (S : Store) (r : R (D × Bool)) : R (D × Bool) :=
  match r with
  | .ok a S' => .ok a (restS S S')
  | .err x S' => .err x (restS S S')
  | .bad => .bad
def guardK (κ : Calls) : Calls := fun f b us S => if D.noLams us && S.all Cell.okIn then rest S (κ f b us S) else .bad
def gkIf (l : Bool) (κ : Calls) : Calls := if l then guardK κ else κ

def wipeE (env : Slots) : List Nat → Slots
  | [] => env
  | v :: vs => (wipeE env vs).set v none

abbrev Guard := Option (Nat × List D)
def okG (S : Store) : Guard → Bool
  | none => true
  | some (n, xs) => match S[n]? with
    | some (.lst ys) => D.beqs xs ys
    | some (.ice ys) => D.beqs xs ys
    | _ => false
def guardOf : D → List D → Guard
  | .obj n, xs => some (n, xs)
  | _, _ => none

/-- a loop over items -/
def loopL (g1 g2 : Guard) (body : D → Slots → Store → R (Fl × Slots)) : List D → Slots → Store → R (Fl × Slots)
  | [], env, S => if okG S g1 && okG S g2 then .ok (.nx, env) S else .bad
  | x :: xs, env, S => if okG S g1 && okG S g2 then
      (body x env S).bind fun r S' => match r.1 with
        | .nx | .ct => loopL g1 g2 body xs r.2 S'
        | .brk => .ok (.nx, r.2) S'
        | .ret d fr => .ok (.ret d fr, r.2) S'
    else .bad
def whileN (test : Slots → Store → R Bool) (body : Slots → Store → R (Fl × Slots)) : Nat → Slots → Store → R (Fl × Slots)
  | 0, _, _ => .bad
  | n + 1, env, S => (test env S).bind fun c S1 => if c then
      (body env S1).bind fun r S' => match r.1 with
        | .nx | .ct => whileN test body n r.2 S'
        | .brk => .ok (.nx, r.2) S'
        | .ret d fr => .ok (.ret d fr, r.2) S'
    else .ok (.nx, env) S1
/-- a comprehension's items: none: not taken; nothing may be raised -/
def compL (g1 g2 : Guard) (item : D → Store → R (Option D)) : List D → Store → R (List D)
  | [], S => if okG S g1 && okG S g2 then .ok [] S else .bad
  | x :: xs, S => if okG S g1 && okG S g2 then
      match item x S with
      | .ok o S1 => match compL g1 g2 item xs S1 with
        | .ok ys S2 => .ok (match o with | some y => y :: ys | none => ys) S2
        | _ => .bad
      | _ => .bad
    else .bad

/-- a value written into the cell n, with the base b -/
def wrOk (b n : Nat) (d : D) : Bool := if n < b then d.refsB 0 else true

/-- o[v] = d, o.f = d: the store behind -/
def setAt (S : Store) (n : Nat) (v d : D) : Option Store := match S[n]? with
  | some (.lst xs) => match v with
    | .int i => match ixN xs.length i with
      | some j => some (S.set n (.lst (xs.set j d)))
      | none => none
    | _ => none
  | some (.dct ks vs) => match keyOf v with
    | some k => if ks.length < 1000 then some (S.set n (.dct (putD k d ks vs).1 (putD k d ks vs).2)) else none
    | none => none
  | _ => none
def setF (S : Store) (n : Nat) (c f : String) (d : D) : Option Store := match S[n]? with
  | some (.ins c' ns vs) => if ns.length < 50 ∧ c' = c then some (S.set n (.ins c (put f d ns vs).1 (put f d ns vs).2)) else none
  | _ => none
def isObj : D → Bool
  | .obj _ => true
  | _ => false
def isTup : D → Bool
  | .tup _ => true
  | _ => false
def intOf : D → Option Int
  | .int i => some i
  | _ => none
def zipL3 : List D → List D → List D → List D
  | x :: xs, y :: ys, z :: zs => .tup [x, y, z] :: zipL3 xs ys zs
  | _, _, _ => []
def rangeL (lo hi : Int) : List D := (List.range (hi - lo).toNat).map fun (k : Nat) => .int (lo + k)
def enumL : Nat → List D → List D
  | _, [] => []
  | n, x :: xs => .tup [.int n, x] :: enumL (n + 1) xs
def zipL : List D → List D → List D
  | x :: xs, y :: ys => .tup [x, y] :: zipL xs ys
  | _, _ => []

section
variable (κ : Calls) (b : Nat)
/-- a value in a test: its truth -/
def fin (t : Bool) (r : R D) : R D := if t then r.bind fun u S => (R.of (truD S u) S).bind fun c S => .ok (.bl c) S else r
def asB (r : R D) : R Bool := r.bind fun u S => match u with
  | .bl c => .ok c S
  | _ => .bad

mutual
/-- an expression: its value, or (t) its truth -/
def ev (t : Bool) : IE → Slots → Store → R D
  | .var i, env, S => fin t (R.of (env[i]?.bind id) S)
  | .con d, _, S => fin t (.ok d S)
  | .glb _ d, _, S => fin t (.ok d S)
  | .bin op x y, env, S => fin t ((ev false x env S).bind fun u S => (ev false y env S).bind fun v S => R.of (binD op S u v) S)
  | .un op x, env, S => fin t ((ev false x env S).bind fun u S => R.of (unD op u) S)
  | .not x, env, S => if t then (asB (ev true x env S)).bind fun c S => .ok (.bl !c) S
      else (ev false x env S).bind fun u S => (R.of (truD S u) S).bind fun c S => .ok (.bl !c) S
  | .cmp op x y, env, S => (ev false x env S).bind fun u S => (ev false y env S).bind fun v S => (R.of (cmpD op S u v) S).bind fun c S => .ok (.bl c) S
  | .chain op op' x y z, env, S => (ev false x env S).bind fun u S => (ev false y env S).bind fun v S => (R.of (cmpD op S u v) S).bind fun c S =>
      if c then (ev false z env S).bind fun w S => (R.of (cmpD op' S v w) S).bind fun c S => .ok (.bl c) S else .ok (.bl false) S
  | .chain3 op op' op2 x y z u, env, S => (ev false x env S).bind fun a S => (ev false y env S).bind fun b S => (R.of (cmpD op S a b) S).bind fun c S =>
      if c then (ev false z env S).bind fun d S => (R.of (cmpD op' S b d) S).bind fun c S =>
        if c then (ev false u env S).bind fun e S => (R.of (cmpD op2 S d e) S).bind fun c S => .ok (.bl c) S else .ok (.bl false) S
      else .ok (.bl false) S
  | .band x y, env, S => (asB (ev t x env S)).bind fun c S => if c then ev t y env S else .ok (.bl false) S
  | .bor x y, env, S => (asB (ev t x env S)).bind fun c S => if c then .ok (.bl true) S else ev t y env S
  | .ite c x y, env, S => (asB (ev true c env S)).bind fun c S => if c then ev t x env S else ev t y env S
  | .attr x f, env, S => fin t ((ev false x env S).bind fun u S => match insOf S u with
      | some (_, ns, vs) => R.of (look f ns vs) S
      | none => .bad)
  | .ix x y, env, S => fin t ((ev false x env S).bind fun u S => (ev false y env S).bind fun v S => R.of (ixD S u v) S)
  | .sl x lo hi, env, S => fin t ((ev false x env S).bind fun u S => (evO lo env S).bind fun l S => (evO hi env S).bind fun h S => R.of (slD S u l h) S)
  | .tup es, env, S => fin t ((evEs es env S).bind fun us S => if us.length ≤ 1000 then .ok (.tup us) S else .bad)
  | .lst es, env, S => fin t ((evEs es env S).bind fun us S => if us.length ≤ 1000 then .ok (.lst us) S else .bad)
  | .dic ks es, env, S => fin t ((evEs es env S).bind fun us S => if us.length = ks.length ∧ ks.length ≤ 15 then .ok (.dct (ks.map .inr) us) S else .bad)
  | .dic0, _, S => fin t (.ok (.dct [] []) S)
  | .isi x ts, env, S => (ev false x env S).bind fun u S => (R.of (isAny S u ts) S).bind fun c S => .ok (.bl c) S
  | .bi f es, env, S => fin t ((evEs es env S).bind fun us S => R.of (callD f S us) S)
  | .mt m x es, env, S => fin t ((ev false x env S).bind fun u S => if mtOk m S u then (evEs es env S).bind fun us S => match methD m S u us with
      | some (d, S') => match u with
        | .obj n => if us.all fun d => wrOk b n d then .ok d S' else .bad
        | _ => .ok d S'
      | none => .bad else .bad)
  | .call f es, env, S => fin t ((evEs es env S).bind fun us S => (κ f b us S).bind fun r S => .ok r.1 S)
  | .meth c m x es, env, S => fin t ((ev false x env S).bind fun u S => match insOf S u with
      | some (c', _, _) => if c' = c then (evEs es env S).bind fun us S => (κ m b (u :: us) S).bind fun r S => .ok r.1 S else .bad
      | none => .bad)
  | .new c init pure es, env, S => if t then .bad else (evEs es env S).bind fun us S => (κ init (if pure then S.length else b) (.obj S.length :: us) (S ++ [.ins c [] []])).bind fun r S' =>
      if t || !isNon r.1 then .bad else if pure then match S'[S.length]? with
        | some (.ins c' ns vs) => if c' = c ∧ D.refsBs S.length vs = true ∧ S'.length = S.length + 1 then .ok (.ins c ns vs) (S'.take S.length) else .bad
        | _ => .bad
      else .ok (.obj S.length) S'
  | .comp e g it ifs own, env, S => fin t ((evI it env S).bind fun r S =>
      (compL r.2.1 r.2.2 (fun x S => (evG g x (wipeE env own) S).bind fun env' S => (evTO ifs env' S).bind fun c S =>
        if c then (ev false e env' S).bind fun y S => .ok (some y) S else .ok none S) r.1 S).bind fun ys S => if ys.length < sizeLine then .ok (.lst ys) S else .bad)
  | .cellL x, env, S => if t || !x.fresh then .bad else (ev false x env S).bind fun u S => match u with
      | .lst xs => .ok (.obj S.length) (S ++ [.lst xs])
      | _ => .bad
  | .cellD ks es, env, S => if t then .bad else (evEs es env S).bind fun us S => if us.length = ks.length ∧ ks.length ≤ 15 then .ok (.obj S.length) (S ++ [.dct (ks.map .inr) us]) else .bad
  | .cellC f es, env, S => if t then .bad else (evEs es env S).bind fun us S => (κ f b us S).bind fun r S => match r with
        | (.lst xs, true) => .ok (.obj S.length) (S ++ [.lst xs])
        | _ => .bad
  | .move x, env, S => if t then .bad else (ev false x env S).bind fun u S => match u with
      | .obj n => match S[n]? with
        | some (.lst xs) => .ok (.lst xs) (S.set n .dead)
        | _ => .bad
      | _ => .bad
  | .lam k js, _, S => if t then .bad else .ok (.lam k js) S
  | .act i, env, S => fin t (match env[i]? with
      | some (some (.clo k ws)) => (κ k b ws S).bind fun r S => .ok r.1 S
      | _ => .bad)
  | .callS f es, env, S => fin t ((evEs es env S).bind fun us S => match D.convs env us with
      | some us' => (restR (S.map Cell.toIce) (κ f b us' ((S.map Cell.toIce).map (Cell.conv env)))).bind fun r S => .ok r.1 S
      | none => .bad)
def evEs : List IE → Slots → Store → R (List D)
  | [], _, S => .ok [] S
  | e :: es, env, S => (ev false e env S).bind fun u S => (evEs es env S).bind fun us S => .ok (u :: us) S
def evO : Option IE → Slots → Store → R (Option Int)
  | none, _, S => .ok none S
  | some e, env, S => (ev false e env S).bind fun u S => (R.of (intOf u) S).bind fun i S => .ok (some i) S
def evTO : Option IE → Slots → Store → R Bool
  | none, _, S => .ok true S
  | some e, env, S => asB (ev true e env S)
def evG : IG → D → Slots → Store → R Slots
  | .var i, d, env, S => .ok (env.set i (some d)) S
  | .tup gs, d, env, S => match d with
      | .tup ds => if ds.length = gs.length then evGs gs ds env S else .bad
      | _ => .bad
  | .sub x y, d, env, S => (ev false x env S).bind fun u S => (ev false y env S).bind fun v S => match u with
      | .obj n => if wrOk b n d then (R.of (setAt S n v d) S).bind fun S' _ => .ok env S' else .bad
      | _ => .bad
  | .attr c x f, d, env, S => (ev false x env S).bind fun u S => match u with
      | .obj n => if wrOk b n d then (R.of (setF S n c f d) S).bind fun S' _ => .ok env S' else .bad
      | _ => .bad
def evGs : List IG → List D → Slots → Store → R Slots
  | [], [], env, S => .ok env S
  | [], _ :: _, _, _ => .bad
  | _ :: _, [], _, _ => .bad
  | g :: gs, d :: ds, env, S => (evG g d env S).bind fun env S => evGs gs ds env S
/-- what is walked: the items, the cells that must stand still -/
def evI : II → Slots → Store → R (List D × Guard × Guard)
  | .seq x, env, S => (ev false x env S).bind fun u S => (R.of (seqOf S u) S).bind fun xs S => .ok (xs, guardOf u xs, none) S
  | .range1 x, env, S => (ev false x env S).bind fun u S => match u with
      | .int i => if -(2 ^ 62) ≤ i ∧ i < 2 ^ 62 then .ok (rangeL 0 i, none, none) S else .bad
      | _ => .bad
  | .range2 x y, env, S => (ev false x env S).bind fun u S => (ev false y env S).bind fun v S => match u, v with
      | .int i, .int j => if -(2 ^ 62) ≤ i ∧ i < 2 ^ 62 ∧ -(2 ^ 62) ≤ j ∧ j < 2 ^ 62 then .ok (rangeL i j, none, none) S else .bad
      | _, _ => .bad
  | .enum x, env, S => (ev false x env S).bind fun u S => (R.of (seqOf S u) S).bind fun xs S => .ok (enumL 0 xs, guardOf u xs, none) S
  | .zip x y, env, S => (ev false x env S).bind fun u S => (ev false y env S).bind fun v S => (R.of (seqOf S u) S).bind fun xs S => (R.of (seqOf S v) S).bind fun ys S =>
      .ok (zipL xs ys, guardOf u xs, guardOf v ys) S
  | .zip3 x y z, env, S => (ev false x env S).bind fun u S => (ev false y env S).bind fun v S => (ev false z env S).bind fun w S => (R.of (seqOf S u) S).bind fun xs S => (R.of (seqOf S v) S).bind fun ys S => (R.of (seqOf S w) S).bind fun zs S =>
      if isObj w then .bad else .ok (zipL3 xs ys zs, guardOf u xs, guardOf v ys) S
end

/-- fuel of a while -/
def fuelW : Nat := 2 ^ 100

mutual
def evS : IS → Slots → Store → R (Fl × Slots)
  | .assign g e, env, S => (ev κ b false e env S).bind fun u S => (evG κ b g u env S).bind fun env S => .ok (.nx, env) S
  | .aug i e, env, S => (R.of (env[i]?.bind id) S).bind fun x S => (ev κ b false e env S).bind fun y S => match x, y with
      | .int m, .int n => .ok (.nx, env.set i (some (.int (m + n)))) S
      | _, _ => .bad
  | .augA c a f e, env, S => (ev κ b false a env S).bind fun u S => match insOf S u with
      | some (c', ns, vs) => if c' = c then (R.of (look f ns vs) S).bind fun x S => (ev κ b false e env S).bind fun y S => match x, y, u with
          | .int m, .int n, .obj o => (R.of (setF S o c f (.int (m + n))) S).bind fun S' _ => .ok (.nx, env) S'
          | _, _, _ => .bad
        else .bad
      | none => .bad
  | .ex e, env, S => (ev κ b false e env S).bind fun _ S => .ok (.nx, env) S
  | .iff c x y, env, S => (asB (ev κ b true c env S)).bind fun t S => if t then evB x env S else evB y env S
  | .for_ g it body, env, S => (evI κ b it env S).bind fun r S => loopL r.2.1 r.2.2 (fun x env S => (evG κ b g x env S).bind fun env S => evB body env S) r.1 env S
  | .while_ c body, env, S => whileN (fun env S => asB (ev κ b true c env S)) (evB body) fuelW env S
  | .brk, env, S => .ok (.brk, env) S
  | .cont, env, S => .ok (.ct, env) S
  | .pass, env, S => .ok (.nx, env) S
  | .dead, _, _ => .bad
  | .ret e, env, S => (ev κ b false e env S).bind fun u S => .ok (.ret u e.fresh, env) S
  | .retN, env, S => .ok (.ret .non false, env) S
  | .raise c ns es, env, S => (evEs κ b es env S).bind fun us S => if us.length = ns.length ∧ us.length ≠ 0 ∧ us.length ≤ 50 then .err ⟨c, ns.reverse, us.reverse⟩ S else .bad
  | .try_ body known hs, env, S => match evB body env S with
      | .err x S' => if known.contains x.cls then handled x env S' hs else .bad
      | r => r
def evB : List IS → Slots → Store → R (Fl × Slots)
  | [], env, S => .ok (.nx, env) S
  | s :: r, env, S => (evS s env S).bind fun t S => match t.1 with
      | .nx => evB r t.2 S
      | f => .ok (f, t.2) S
end
end

/-! ### programs -/
structure FunIR where
  params : Nat
  defaults : List D := []
  slots : Nat
  fresh : Bool := false
  keep : Bool := false
  lams : Bool := false
  body : List IS

abbrev Prog := String → Option FunIR

def isLst : D → Bool
  | .lst _ => true
  | _ => false

def finP (F : FunIR) (b : Nat) (d : D) (fr : Bool) (S : Store) : R (D × Bool) :=
  if F.fresh && isLst d && !fr then .bad
  else if F.keep then .ok (d, F.fresh) S
  else if d.refsB b && decide (b ≤ S.length) then .ok (d, F.fresh) (S.take b) else .bad

def runP (P : Prog) : Nat → Calls
  | 0, _, _, _, _ => .bad
  | k + 1, f, b, args, S => match P f with
    | none => .bad
    | some F => if args.length ≤ F.params ∧ F.params ≤ args.length + F.defaults.length then
        let b' := if F.keep then b else S.length
        let all := args ++ F.defaults.drop (args.length + F.defaults.length - F.params)
        chkIf F.lams <| match evB (gkIf F.lams (runP P k)) b' F.body (all.map some ++ List.replicate (F.slots - F.params) none) S with
        | .ok (.ret d fr, _) S' => finP F b' d fr S'
        | .ok (.nx, _) S' => finP F b' .non true S'
        | .ok _ _ => .bad
        | .err x S' => if F.keep then .err x S' else if D.refsBs b' x.vs && decide (b' ≤ S'.length) then .err x (S'.take b') else .bad
        | .bad => .bad
      else .bad
end Pi
end

section
/-! PiRel: what the values of the small interpreter are in the abstract heap; how worlds grow. -/
namespace Pi
open PySem L2

/-- a world: the cells' addresses, the frozen addresses, the heap -/
structure Wd where
  ρ : List Addr
  F : Addr → Prop
  H : Hp

/-- a lambda's text: its names and where it stands -/
structure LamT where
  qual : Str
  params : Arguments
  body : Expr
  scope : Scope
  fr : List Str
/-- what is known of lambdas: their texts, the tables of code objects, the running frame's own ones -/
structure Lx where
  lm : String → List Nat → LamT → Prop
  tabs : List (Addr × Str)
  own : List (Str × Addr) → List Str → List Nat → Prop
/-- the object at f is a function made by a lambda -/
def LamO (f : Addr) (t : LamT) (cl : List (Str × Addr)) (c' : Addr) : HO := .ext fun h => ∃ pm ctv : Value, h.get? f = some (PySem.W.kla_obj "<lambda>" t.qual t.params t.body t.scope cl pm c' ctv)
/-- no table of code objects -/
def NT (o : HO) : Prop := ∀ ps, o ≠ .tbl ps
/-- the constants of a law: the written part, the module's names -/
structure Kt where
  K : PySem.W.Frag
  mg : Str → Option Value
  cls : List String
  flds : List (String × String)
  base : Heap
  lx : Lx
/-- the class c stands at cl -/
def Kt.isF (C : Kt) (c : String) (ns : List String) : Prop := ∀ f ∈ ns, (c, f) ∈ C.flds
def Kt.isC (C : Kt) (c : String) (cl : Addr) : Prop := c ∈ C.cls ∧ C.mg (Str.ofString c) = some (.ref cl)

/-- the script: frozen, or one of the module's own lists -/
def ScrAt (K : PySem.W.Frag) (H : Hp) (a : Addr) (vs : List V) : Prop :=
  (∃ o, H a = some (.frz o (.lst vs))) ∨ ∃ (o : Obj) (its : Array Value) (n : Nat), K.lookup a = some o ∧ o.cls = .type "list" ∧ o.dict = none ∧ o.data = .seq its n ∧ its.size ≤ sizeLine ∧ Vals vs its.toList
theorem ScrAt.ext {K : PySem.W.Frag} {H H' : Hp} {a : Addr} {vs : List V} (h : ScrAt K H a vs) (k : ∀ o, H a = some (.frz o (.lst vs)) → H' a = some (.frz o (.lst vs))) : ScrAt K H' a vs := by
  rcases h with ⟨o, h⟩ | h
  · exact .inl ⟨o, k o h⟩
  · exact .inr h
theorem ScrAt.sq {K : PySem.W.Frag} {H : Hp} {a : Addr} {vs : List V} (h : ScrAt K H a vs) : SqL K H a vs := by
  rcases h with ⟨o, h⟩ | h
  · exact .inl (.inr ⟨o, h⟩)
  · exact .inr h
section
variable (C : Kt) (w : Wd)
mutual
def VR : D → V → Prop
  | .non, v => v = .non
  | .bl b, v => v = .bl b
  | .int i, v => v = .int i
  | .str s, v => v = .str s
  | .tup xs, v => ∃ a vs, v = .ref a ∧ SqT C.K w.H a vs ∧ VRs xs vs
  | .lst xs, v => ∃ a vs, v = .ref a ∧ w.F a ∧ w.H a = some (.lst vs) ∧ VRs xs vs
  | .scr xs, v => ∃ a vs, v = .ref a ∧ ScrAt C.K w.H a vs ∧ VRs xs vs
  | .dct ks ds, v => ∃ a vs, v = .ref a ∧ w.F a ∧ w.H a = some (.dK (ks.zip vs)) ∧ VRs ds vs ∧ ks.length = ds.length
  | .ins c ns ds, v => ∃ a cl dx vs, v = .ref a ∧ w.F a ∧ C.isC c cl ∧ w.H a = some (.ins cl dx ((ns.map Str.ofString).zip vs)) ∧ w.H dx = some (.own a) ∧ VRs ds vs ∧ ns.length = ds.length ∧ C.isF c ns
  | .obj n, v => ∃ a, v = .ref a ∧ w.ρ[n]? = some a
  | .glob x, v => ∃ a, v = .ref a ∧ C.mg (Str.ofString x) = some (.ref a)
  | .ty n, v => v = .ty n
  | .lam k js, v => ∃ f c' cl t, v = .ref f ∧ C.lx.lm k js t ∧ w.F f ∧ w.H f = some (LamO f t cl c') ∧ w.F c' ∧ w.H c' = some (LamX.CodeO c' t.qual) ∧ C.lx.own cl t.fr js
  | .clo k ws, v => ∃ f c' cl t js vs, v = .ref f ∧ C.lx.lm k js t ∧ w.F f ∧ w.H f = some (LamO f t cl c') ∧ w.F c' ∧ w.H c' = some (LamX.CodeO c' t.qual) ∧ VRs ws vs ∧
      vs.length = t.fr.length ∧ (∀ y c, cl.lookup y = some c → ∃ u, C.base.IsCell c u) ∧ (∀ x y c, cl.lookup x = some c → cl.lookup y = some c → x = y) ∧
      (∀ (i : Nat) (y : Str) (v : V), t.fr[i]? = some y → vs[i]? = some v → ∃ c u, cl.lookup y = some c ∧ RelV v u ∧ C.base.IsCell c (some u))
def VRs : List D → List V → Prop
  | [], vs => vs = []
  | d :: ds, vs => ∃ v r, vs = v :: r ∧ VR d v ∧ VRs ds r
end
end

/-- what values stand upon is kept -/
structure Gr (w w' : Wd) : Prop where
  pre : ∃ t, w'.ρ = w.ρ ++ t
  fr : ∀ a, w.F a → w'.F a
  keep : ∀ a o, w.H a = some o → ¬ Mut (some o) → NT o → w'.H a = some o
  frz : ∀ a, w.F a → w'.H a = w.H a
/-- a world has grown -/
structure Ext (w w' : Wd) : Prop extends Gr w w' where
  keepA : ∀ a o, w.H a = some o → a ∉ w.ρ → NT o → w'.H a = some o
  keepT : ∀ a ps, w.H a = some (.tbl ps) → ∃ ps', w'.H a = some (.tbl ps')
  new : ∀ a, a ∈ w'.ρ → a ∉ w.ρ → w.H a = none
  newF : ∀ a, w'.F a → w.F a ∨ w.H a = none ∨ a ∈ w.ρ

theorem Gr.refl (w : Wd) : Gr w w := ⟨⟨[], by simp⟩, fun _ h => h, fun _ _ h _ _ => h, fun _ _ => rfl⟩
theorem Ext.refl (w : Wd) : Ext w w := ⟨.refl w, fun _ _ h _ _ => h, fun _ ps h => ⟨ps, h⟩, fun _ h n => absurd h n, fun _ h => .inl h⟩
theorem Ext.mem {w w' : Wd} (x : Ext w w') {a : Addr} (h : a ∈ w.ρ) : a ∈ w'.ρ := by
  obtain ⟨t, e⟩ := x.pre
  rw [e]; exact List.mem_append_left _ h
theorem Gr.get {w w' : Wd} (x : Gr w w') {n : Nat} {a : Addr} (h : w.ρ[n]? = some a) : w'.ρ[n]? = some a := by
  obtain ⟨t, e⟩ := x.pre
  rw [e, List.getElem?_append_left (by
    have := List.getElem?_eq_some_iff.mp h
    exact this.1)]
  exact h
theorem Ext.none {w w' : Wd} (x : Ext w w') {a : Addr} (h : w'.H a = none) : w.H a = none ∨ a ∈ w.ρ := by
  by_cases hm : a ∈ w.ρ
  · exact .inr hm
  · refine .inl ?_
    cases q : w.H a with
    | none => rfl
    | some o =>
      by_cases hn : NT o
      · rw [x.keepA a o q hm hn] at h; cases h
      · cases o with
        | tbl ps =>
          obtain ⟨ps', e⟩ := x.keepT a ps q
          rw [e] at h; cases h
        | _ => exact absurd (fun ps z => by cases z) hn
theorem Ext.trans {w w1 w2 : Wd} (x : Ext w w1) (y : Ext w1 w2) : Ext w w2 where
  toGr := by
   refine ⟨?_, ?_, ?_, ?_⟩
   case refine_1 =>
    obtain ⟨t, e⟩ := x.pre
    obtain ⟨u, f⟩ := y.pre
    exact ⟨t ++ u, by rw [f, e, List.append_assoc]⟩
   case refine_2 => exact fun a h => y.fr a (x.fr a h)
   case refine_3 => exact fun a o h n m => y.keep a o (x.keep a o h n m) n m
   case refine_4 => exact fun a h => (y.frz a (x.fr a h)).trans (x.frz a h)
  keepA := fun a o h n m => by
    refine y.keepA a o (x.keepA a o h n m) (fun hm => ?_) m
    have := x.new a hm n
    rw [this] at h; cases h
  keepT := fun a ps h => by
    obtain ⟨ps', e⟩ := x.keepT a ps h
    exact y.keepT a ps' e
  new := fun a h n => by
    by_cases hm : a ∈ w1.ρ
    · exact x.new a hm n
    · rcases x.none (y.new a h hm) with q | q
      · exact q
      · exact absurd q n
  newF := fun a h => by
    rcases y.newF a h with q | q | q
    · exact x.newF a q
    · rcases x.none q with z | z
      · exact .inr (.inl z)
      · exact .inr (.inr z)
    · by_cases hm : a ∈ w.ρ
      · exact .inr (.inr hm)
      · exact .inr (.inl (x.new a q hm))

section
variable {C : Kt} {w w' : Wd}
theorem VRs.length : ∀ {ds : List D} {vs : List V}, VRs C w ds vs → vs.length = ds.length
  | [], vs, h => by unfold VRs at h; subst h; rfl
  | d :: ds, vs, h => by
    unfold VRs at h
    obtain ⟨v, r, rfl, _, h2⟩ := h
    simp [VRs.length h2]
theorem VRs.nil : VRs C w [] [] := by unfold VRs; rfl
theorem VRs.cons {d : D} {v : V} {ds : List D} {vs : List V} (h : VR C w d v) (t : VRs C w ds vs) : VRs C w (d :: ds) (v :: vs) := by
  unfold VRs; exact ⟨v, vs, rfl, h, t⟩
theorem VRs.inv {d : D} {ds : List D} {vs : List V} (h : VRs C w (d :: ds) vs) : ∃ v r, vs = v :: r ∧ VR C w d v ∧ VRs C w ds r := by
  unfold VRs at h; exact h
theorem VRs.inv0 {vs : List V} (h : VRs C w [] vs) : vs = [] := by unfold VRs at h; exact h
theorem VRs.get : ∀ {ds : List D} {vs : List V} {i : Nat} {d : D}, VRs C w ds vs → ds[i]? = some d → ∃ v, vs[i]? = some v ∧ VR C w d v
  | [], _, _, _, _, e => by simp at e
  | d :: ds, vs, 0, d', h, e => by
    obtain ⟨v, r, rfl, h1, _⟩ := h.inv
    simp at e; subst e; exact ⟨v, rfl, h1⟩
  | d :: ds, vs, i + 1, d', h, e => by
    obtain ⟨v, r, rfl, _, h2⟩ := h.inv
    obtain ⟨u, e1, e2⟩ := VRs.get h2 (i := i) (by simpa using e)
    exact ⟨u, by simpa using e1, e2⟩
theorem VRs.get' : ∀ {ds : List D} {vs : List V} {i : Nat} {v : V}, VRs C w ds vs → vs[i]? = some v → ∃ d, ds[i]? = some d ∧ VR C w d v
  | [], _, _, _, h, e => by have := h.inv0; subst this; simp at e
  | d :: ds, vs, 0, v', h, e => by
    obtain ⟨v, r, rfl, h1, _⟩ := h.inv
    simp at e; subst e; exact ⟨d, rfl, h1⟩
  | d :: ds, vs, i + 1, v', h, e => by
    obtain ⟨v, r, rfl, _, h2⟩ := h.inv
    obtain ⟨u, e1, e2⟩ := VRs.get' h2 (i := i) (by simpa using e)
    exact ⟨u, by simpa using e1, e2⟩
theorem VRs.append : ∀ {ds es : List D} {vs us : List V}, VRs C w ds vs → VRs C w es us → VRs C w (ds ++ es) (vs ++ us)
  | [], _, vs, _, h, t => by have := h.inv0; subst this; exact t
  | d :: ds, _, vs, _, h, t => by
    obtain ⟨v, r, rfl, h1, h2⟩ := h.inv
    exact .cons h1 (VRs.append h2 t)
theorem VRs.take : ∀ {ds : List D} {vs : List V} (n : Nat), VRs C w ds vs → VRs C w (ds.take n) (vs.take n)
  | _, _, 0, _ => by simp; exact .nil
  | [], vs, n + 1, h => by have := h.inv0; subst this; simp; exact .nil
  | d :: ds, vs, n + 1, h => by
    obtain ⟨v, r, rfl, h1, h2⟩ := h.inv
    exact .cons h1 (VRs.take n h2)
theorem VRs.drop : ∀ {ds : List D} {vs : List V} (n : Nat), VRs C w ds vs → VRs C w (ds.drop n) (vs.drop n)
  | _, _, 0, h => by simpa using h
  | [], vs, n + 1, h => by have := h.inv0; subst this; simp; exact .nil
  | d :: ds, vs, n + 1, h => by
    obtain ⟨v, r, rfl, h1, h2⟩ := h.inv
    exact VRs.drop n h2
theorem VRs.set {d : D} {v : V} (r : VR C w d v) : ∀ {ds : List D} {vs : List V} (i : Nat), VRs C w ds vs → VRs C w (ds.set i d) (vs.set i v)
  | [], vs, i, h => by have := h.inv0; subst this; simpa using h
  | d' :: ds, vs, 0, h => by
    obtain ⟨v, r', rfl, h1, h2⟩ := h.inv
    exact .cons r h2
  | d' :: ds, vs, i + 1, h => by
    obtain ⟨v, r', rfl, h1, h2⟩ := h.inv
    exact .cons h1 (VRs.set r i h2)
theorem VRs.eraseIdx : ∀ {ds : List D} {vs : List V} (i : Nat), VRs C w ds vs → VRs C w (ds.eraseIdx i) (vs.eraseIdx i)
  | [], vs, i, h => by have := h.inv0; subst this; simpa using h
  | d' :: ds, vs, 0, h => by
    obtain ⟨v, r', rfl, h1, h2⟩ := h.inv
    exact h2
  | d' :: ds, vs, i + 1, h => by
    obtain ⟨v, r', rfl, h1, h2⟩ := h.inv
    exact .cons h1 (VRs.eraseIdx i h2)
theorem VRs.rep {ds : List D} {vs : List V} (h : VRs C w ds vs) : ∀ k : Nat, VRs C w (rep k ds) (List.replicate k vs).flatten
  | 0 => by simp [Pi.rep]; exact .nil
  | k + 1 => by
    unfold Pi.rep
    rw [List.replicate_succ, List.replicate_succ, List.flatten_cons, List.flatten_cons]
    exact .append h (VRs.rep h k)

/-- tuples, frozen things, own dicts are none of the cells -/
def MutAll (w : Wd) : Prop := ∀ a ∈ w.ρ, Mut (w.H a)
theorem MutAll.tup {a : Addr} {xs : List V} (m : MutAll w) (h : w.H a = some (.tup xs)) : a ∉ w.ρ := fun hm => by
  have := m a hm
  rw [h] at this; exact this
theorem MutAll.frz {a : Addr} {o : Obj} {u : HO} (m : MutAll w) (h : w.H a = some (.frz o u)) : a ∉ w.ρ := fun hm => by
  have := m a hm
  rw [h] at this; exact this
theorem MutAll.own {a x : Addr} (m : MutAll w) (h : w.H a = some (.own x)) : a ∉ w.ρ := fun hm => by
  have := m a hm
  rw [h] at this; exact this
theorem SqT.ext (x : Gr w w') (m : MutAll w) {K : PySem.W.Frag} {a : Addr} {xs : List V} (h : SqT K w.H a xs) : SqT K w'.H a xs := by
  rcases h with (h | ⟨o, h⟩) | h
  · exact .inl (.inl (x.keep a _ h (fun z => z) fun _ z => by cases z))
  · exact .inl (.inr ⟨o, x.keep a _ h (fun z => z) fun _ z => by cases z⟩)
  · exact .inr h
mutual
theorem VR.ext (x : Gr w w') (m : MutAll w) : ∀ (d : D) (v : V), VR C w d v → VR C w' d v
  | .non, v, h => by unfold VR at h ⊢; exact h
  | .bl b, v, h => by unfold VR at h ⊢; exact h
  | .int i, v, h => by unfold VR at h ⊢; exact h
  | .str s, v, h => by unfold VR at h ⊢; exact h
  | .tup xs, v, h => by
    unfold VR at h ⊢
    obtain ⟨a, vs, e, h1, h2⟩ := h
    exact ⟨a, vs, e, SqT.ext x m h1, VRs.ext x m xs vs h2⟩
  | .lst xs, v, h => by
    unfold VR at h ⊢
    obtain ⟨a, vs, e, hf, h1, h2⟩ := h
    exact ⟨a, vs, e, x.fr a hf, by rw [x.frz a hf]; exact h1, VRs.ext x m xs vs h2⟩
  | .scr xs, v, h => by
    unfold VR at h ⊢
    obtain ⟨a, vs, e, h1, h2⟩ := h
    exact ⟨a, vs, e, h1.ext (fun o q => x.keep a _ q (fun z => z) (fun _ z => by cases z)), VRs.ext x m xs vs h2⟩
  | .dct ks ds, v, h => by
    unfold VR at h ⊢
    obtain ⟨a, vs, e, hf, h1, h2, h3⟩ := h
    exact ⟨a, vs, e, x.fr a hf, by rw [x.frz a hf]; exact h1, VRs.ext x m ds vs h2, h3⟩
  | .ins c ns ds, v, h => by
    unfold VR at h ⊢
    obtain ⟨a, cl, dx, vs, e, hf, hc, h1, ho, h2, h3⟩ := h
    exact ⟨a, cl, dx, vs, e, x.fr a hf, hc, by rw [x.frz a hf]; exact h1, x.keep dx _ ho (fun z => z) (fun _ z => by cases z), VRs.ext x m ds vs h2, h3⟩
  | .obj n, v, h => by
    unfold VR at h ⊢
    obtain ⟨a, e, h1⟩ := h
    exact ⟨a, e, x.get h1⟩
  | .glob n, v, h => by unfold VR at h ⊢; exact h
  | .ty n, v, h => by unfold VR at h ⊢; exact h
  | .lam k js, v, h => by
    unfold VR at h ⊢
    obtain ⟨f, c', cl, t, e, h0, h1, h2, h3, h4, h5⟩ := h
    exact ⟨f, c', cl, t, e, h0, x.fr _ h1, by rw [x.frz f h1]; exact h2, x.fr _ h3, by rw [x.frz c' h3]; exact h4, h5⟩
  | .clo k ws, v, h => by
    unfold VR at h ⊢
    obtain ⟨f, c', cl, t, js, vs, e, h0, h1, h2, h3, h4, h5, h6⟩ := h
    exact ⟨f, c', cl, t, js, vs, e, h0, x.fr _ h1, by rw [x.frz f h1]; exact h2, x.fr _ h3, by rw [x.frz c' h3]; exact h4, VRs.ext x m ws vs h5, h6⟩
theorem VRs.ext (x : Gr w w') (m : MutAll w) : ∀ (ds : List D) (vs : List V), VRs C w ds vs → VRs C w' ds vs
  | [], vs, h => by unfold VRs at h ⊢; exact h
  | d :: ds, vs, h => by
    unfold VRs at h ⊢
    obtain ⟨v, r, e, h1, h2⟩ := h
    exact ⟨v, r, e, VR.ext x m d v h1, VRs.ext x m ds r h2⟩
end
mutual
theorem VR.refs : ∀ (d : D) (v : V), VR C w d v → d.refsB w.ρ.length = true
  | .non, v, h => rfl
  | .bl b, v, h => rfl
  | .int i, v, h => rfl
  | .str s, v, h => rfl
  | .tup xs, v, h => by
    unfold VR at h
    obtain ⟨a, vs, e, h1, h2⟩ := h
    unfold D.refsB; exact VRs.refs xs vs h2
  | .lst xs, v, h => by
    unfold VR at h
    obtain ⟨a, vs, e, hf, h1, h2⟩ := h
    unfold D.refsB; exact VRs.refs xs vs h2
  | .scr xs, v, h => by
    unfold VR at h
    obtain ⟨a, vs, e, hf, h2⟩ := h
    unfold D.refsB; exact VRs.refs xs vs h2
  | .dct ks ds, v, h => by
    unfold VR at h
    obtain ⟨a, vs, e, hf, h1, h2, h3⟩ := h
    unfold D.refsB; exact VRs.refs ds vs h2
  | .ins c ns ds, v, h => by
    unfold VR at h
    obtain ⟨a, cl, dx, vs, e, hf, hc, h1, ho, h2, h3⟩ := h
    unfold D.refsB; exact VRs.refs ds vs h2
  | .obj n, v, h => by
    unfold VR at h
    obtain ⟨a, e, h1⟩ := h
    unfold D.refsB
    exact decide_eq_true (List.getElem?_eq_some_iff.mp h1).1
  | .glob n, v, h => rfl
  | .ty n, v, h => rfl
  | .lam k js, v, h => rfl
  | .clo k ws, v, h => by
    unfold VR at h
    obtain ⟨f, c', cl, t, js, vs, e, h0, h1, h2, h3, h4, h5, h6⟩ := h
    unfold D.refsB; exact VRs.refs ws vs h5
theorem VRs.refs : ∀ (ds : List D) (vs : List V), VRs C w ds vs → D.refsBs w.ρ.length ds = true
  | [], vs, h => rfl
  | d :: ds, vs, h => by
    unfold VRs at h
    obtain ⟨v, r, e, h1, h2⟩ := h
    unfold D.refsBs
    rw [VR.refs d v h1, VRs.refs ds r h2]; rfl
end
mutual
/-- into a world with fewer cells -/
theorem VR.cut {b : Nat} (hb : b ≤ w.ρ.length) : ∀ (d : D) (v : V), d.refsB b = true → VR C w d v → VR C ⟨w.ρ.take b, w.F, w.H⟩ d v
  | .non, v, _, h => by unfold VR at h ⊢; exact h
  | .bl _, v, _, h => by unfold VR at h ⊢; exact h
  | .int i, v, _, h => by unfold VR at h ⊢; exact h
  | .str s, v, _, h => by unfold VR at h ⊢; exact h
  | .tup xs, v, q, h => by
    unfold VR at h ⊢
    obtain ⟨a, vs, e, h1, h2⟩ := h
    exact ⟨a, vs, e, h1, VRs.cut hb xs vs (by unfold D.refsB at q; exact q) h2⟩
  | .lst xs, v, q, h => by
    unfold VR at h ⊢
    obtain ⟨a, vs, e, hf, h1, h2⟩ := h
    exact ⟨a, vs, e, hf, h1, VRs.cut hb xs vs (by unfold D.refsB at q; exact q) h2⟩
  | .scr xs, v, q, h => by
    unfold VR at h ⊢
    obtain ⟨a, vs, e, hf, h2⟩ := h
    exact ⟨a, vs, e, hf, VRs.cut hb xs vs (by unfold D.refsB at q; exact q) h2⟩
  | .dct ks ds, v, q, h => by
    unfold VR at h ⊢
    obtain ⟨a, vs, e, hf, h1, h2, h3⟩ := h
    exact ⟨a, vs, e, hf, h1, VRs.cut hb ds vs (by unfold D.refsB at q; exact q) h2, h3⟩
  | .ins c ns ds, v, q, h => by
    unfold VR at h ⊢
    obtain ⟨a, cl, dx, vs, e, hf, hc, h1, ho, h2, h3⟩ := h
    exact ⟨a, cl, dx, vs, e, hf, hc, h1, ho, VRs.cut hb ds vs (by unfold D.refsB at q; exact q) h2, h3⟩
  | .obj n, v, q, h => by
    unfold VR at h ⊢
    obtain ⟨a, e, h1⟩ := h
    unfold D.refsB at q
    have q' : n < b := of_decide_eq_true q
    refine ⟨a, e, ?_⟩
    show (w.ρ.take b)[n]? = some a
    rw [List.getElem?_take_of_lt q']; exact h1
  | .glob n, v, _, h => by unfold VR at h ⊢; exact h
  | .ty n, v, _, h => by unfold VR at h ⊢; exact h
  | .lam k js, v, _, h => by unfold VR at h ⊢; exact h
  | .clo k ws, v, q, h => by
    unfold VR at h ⊢
    obtain ⟨f, c', cl, t, js, vs, e, h0, h1, h2, h3, h4, h5, h6⟩ := h
    exact ⟨f, c', cl, t, js, vs, e, h0, h1, h2, h3, h4, VRs.cut hb ws vs (by unfold D.refsB at q; exact q) h5, h6⟩
theorem VRs.cut {b : Nat} (hb : b ≤ w.ρ.length) : ∀ (ds : List D) (vs : List V), D.refsBs b ds = true → VRs C w ds vs → VRs C ⟨w.ρ.take b, w.F, w.H⟩ ds vs
  | [], vs, _, h => by unfold VRs at h ⊢; exact h
  | d :: ds, vs, q, h => by
    unfold VRs at h ⊢
    unfold D.refsBs at q
    rw [Bool.and_eq_true] at q
    obtain ⟨v, r, e, h1, h2⟩ := h
    exact ⟨v, r, e, VR.cut hb d v q.1 h1, VRs.cut hb ds r q.2 h2⟩
end
mutual
theorem D.refsB_mono {a b : Nat} (h : a ≤ b) : ∀ d : D, d.refsB a = true → d.refsB b = true
  | .non, _ => rfl
  | .bl _, _ => rfl
  | .int _, _ => rfl
  | .str _, _ => rfl
  | .tup xs, q => by unfold D.refsB at q ⊢; exact D.refsBs_mono h xs q
  | .lst xs, q => by unfold D.refsB at q ⊢; exact D.refsBs_mono h xs q
  | .scr xs, q => by unfold D.refsB at q ⊢; exact D.refsBs_mono h xs q
  | .dct _ xs, q => by unfold D.refsB at q ⊢; exact D.refsBs_mono h xs q
  | .ins _ _ xs, q => by unfold D.refsB at q ⊢; exact D.refsBs_mono h xs q
  | .obj n, q => by unfold D.refsB at q ⊢; exact decide_eq_true (Nat.lt_of_lt_of_le (of_decide_eq_true q) h)
  | .glob _, _ => rfl
  | .ty _, _ => rfl
  | .lam _ _, _ => rfl
  | .clo _ xs, q => by unfold D.refsB at q ⊢; exact D.refsBs_mono h xs q
theorem D.refsBs_mono {a b : Nat} (h : a ≤ b) : ∀ ds : List D, D.refsBs a ds = true → D.refsBs b ds = true
  | [], _ => rfl
  | d :: ds, q => by
    unfold D.refsBs at q ⊢
    rw [Bool.and_eq_true] at q ⊢
    exact ⟨D.refsB_mono h d q.1, D.refsBs_mono h ds q.2⟩
end
end

def Cell.live : Cell → Prop
  | .dead => False
  | .ice _ => False
  | _ => True

/-- what a cell is -/
def CelR (C : Kt) (w : Wd) (a : Addr) : Cell → Prop
  | .dead => True
  | .lst xs => ∃ vs, w.H a = some (.lst vs) ∧ VRs C w xs vs
  | .dct ks ds => ∃ vs, w.H a = some (.dK (ks.zip vs)) ∧ VRs C w ds vs ∧ ks.length = ds.length
  | .ins c ns ds => ∃ cl dx vs, C.isC c cl ∧ w.H a = some (.ins cl dx ((ns.map Str.ofString).zip vs)) ∧ w.H dx = some (.own a) ∧ VRs C w ds vs ∧ ns.length = ds.length ∧ C.isF c ns
  | .ice xs => ∃ vs, w.F a ∧ w.H a = some (.lst vs) ∧ VRs C w xs vs

/-- the tables of code objects -/
def TabsOk (C : Kt) (w : Wd) : Prop := ∀ p ∈ C.lx.tabs, ¬ w.F p.1 ∧ ∃ ps : Array Value, w.H p.1 = some (.tbl ps) ∧ TriplesOk ps.toList ∧ ∀ (pos : Pos) (cv : Value), codeAmong pos ps.toList = some cv → ∃ c, cv = .ref c ∧ w.F c ∧ w.H c = some (LamX.CodeO c p.2)
theorem TabsOk.of {C : Kt} {w w' : Wd} (t : TabsOk C w) (hP : ∀ p ∈ C.lx.tabs, w'.H p.1 = w.H p.1 ∧ ¬ w'.F p.1) (hF : ∀ a, w.F a → w'.F a ∧ w'.H a = w.H a) : TabsOk C w' := fun p hp => by
  obtain ⟨n, ps, h1, h2, h3⟩ := t p hp
  refine ⟨(hP p hp).2, ps, by rw [(hP p hp).1]; exact h1, h2, fun pos cv h => ?_⟩
  obtain ⟨c, e, f, g⟩ := h3 pos cv h
  exact ⟨c, e, (hF c f).1, by rw [(hF c f).2]; exact g⟩
/-- the store is held; B: the bases of the frames that run -/
structure SS (C : Kt) (B : Nat → Prop) (S : Store) (w : Wd) : Prop where
  len : w.ρ.length = S.length
  inj : ∀ (i j : Nat) (ci cj : Cell) (a : Addr), S[i]? = some ci → S[j]? = some cj → ci.live → cj.live → w.ρ[i]? = some a → w.ρ[j]? = some a → i = j
  cell : ∀ (n : Nat) (c : Cell) (a : Addr), S[n]? = some c → w.ρ[n]? = some a → CelR C w a c
  nofr : ∀ (n : Nat) (c : Cell) (a : Addr), S[n]? = some c → c.live → w.ρ[n]? = some a → ¬ w.F a
  there : ∀ a, w.F a → ∃ o, w.H a = some o
  muts : MutAll w
  low : ∀ b, B b → b ≤ S.length ∧ ∀ (n : Nat) (c : Cell), n < b → S[n]? = some c → D.refsBs b c.vals = true
  tabs : TabsOk C w

/-- the slots -/
structure EE (C : Kt) (env : Slots) (σ : St) (w : Wd) : Prop where
  len : env.length = σ.length
  slot : ∀ (i : Nat) (d : D), env[i]? = some (some d) → ∃ v, σ[i]? = some (some v) ∧ VR C w d v

theorem EE.ext {C : Kt} {env : Slots} {σ : St} {w w' : Wd} (h : EE C env σ w) (x : Gr w w') (m : MutAll w) : EE C env σ w' :=
  ⟨h.len, fun i d e => let ⟨v, h1, h2⟩ := h.slot i d e; ⟨v, h1, VR.ext x m d v h2⟩⟩

/-- new, as the world w sees it -/
def Nw (w : Wd) (a : Addr) : Prop := w.H a = none ∨ a ∈ w.ρ
theorem Nw.back {w w1 : Wd} {a : Addr} (x : Ext w w1) (h : Nw w1 a) : Nw w a := by
  rcases h with h | h
  · exact x.none h
  · by_cases hm : a ∈ w.ρ
    · exact .inr hm
    · exact .inl (x.new a h hm)
/-- a value, or a list that is new -/
def FR (C : Kt) (w0 : Wd) (S : Store) (w : Wd) (xs : List D) (v : V) : Prop :=
  ∃ a vs, v = .ref a ∧ w.H a = some (.lst vs) ∧ VRs C w xs vs ∧ ¬ w.F a ∧ Nw w0 a ∧ ∀ (n : Nat) (c : Cell), S[n]? = some c → c.live → w.ρ[n]? ≠ some a
def RR (C : Kt) (fr : Bool) (w0 : Wd) (S : Store) (w : Wd) (d : D) (v : V) : Prop :=
  match fr, d with
  | true, .lst xs => FR C w0 S w xs v
  | _, d => VR C w d v
theorem RR.of {C : Kt} {S : Store} {w0 w : Wd} {d : D} {v : V} (h : VR C w d v) : RR C false w0 S w d v := by
  unfold RR; exact h

/-- an exception: its class, its own dict -/
def XR (C : Kt) (w : Wd) (x : Exn) (cls : Value) (dd : Option Addr) : Prop :=
  ∃ cl, C.mg (Str.ofString x.cls) = some (.ref cl) ∧ cls = .ref cl ∧
    ∃ (da : Addr) (vs : List V), dd = some da ∧ w.H da = some (.xd ((x.ns.map Str.ofString).zip vs)) ∧ VRs C w x.vs vs ∧ x.ns.length = x.vs.length

/-- how a result is read, seen from where the evaluation began -/
structure Rl (α β : Type) where
  r : Wd → Store → Wd → α → β → Prop
  back : ∀ {w w1 : Wd} {S : Store} {w' : Wd} {a : α} {b : β}, Ext w w1 → r w1 S w' a b → r w S w' a b

/-- what is wanted behind an evaluation -/
def Po {α β : Type} (C : Kt) (E : XK) (B : Nat → Prop) (rel : Rl α β) (w : Wd) (r : R α) (Q : β → Hp → Prop) : Prop :=
  match r with
  | .ok a S' => ∀ w' b, Ext w w' → SS C B S' w' → rel.r w S' w' a b → Q b w'.H
  | .err x S' => ∀ w' cls dd, Ext w w' → SS C B S' w' → XR C w' x cls dd → E cls dd w'.H
  | .bad => False

section
variable {α β γ δ : Type} {C : Kt} {E : XK} {B : Nat → Prop} {rel : Rl α β} {rel2 : Rl γ δ} {w w1 : Wd} {r : R α} {f : α → Store → R γ} {Q Q' : β → Hp → Prop} {Q2 : δ → Hp → Prop}
theorem Po.mono (h : Po C E B rel w r Q) (hq : ∀ b H, Q b H → Q' b H) : Po C E B rel w r Q' := by
  cases r with
  | ok a S' => exact fun w' b x s q => hq _ _ (h w' b x s q)
  | err x S' => exact h
  | bad => exact h
theorem Po.ext (h : Po C E B rel w r Q) (x : Ext w w1) : Po C E B rel w1 r Q := by
  cases r with
  | ok a S' => exact fun w' b y s q => h w' b (x.trans y) s (rel.back x q)
  | err e S' => exact fun w' cls dd y s q => h w' cls dd (x.trans y) s q
  | bad => exact h
/-- what is known behind the first -/
def Mid (C : Kt) (E : XK) (B : Nat → Prop) (rel : Rl α β) (rel2 : Rl γ δ) (w : Wd) (f : α → Store → R γ) (Q2 : δ → Hp → Prop) (b : β) (H : Hp) : Prop :=
  ∃ w1 S1 a, w1.H = H ∧ Ext w w1 ∧ SS C B S1 w1 ∧ rel.r w S1 w1 a b ∧ Po C E B rel2 w (f a S1) Q2
theorem Po.bind (h : Po C E B rel2 w (r.bind f) Q2) : Po C E B rel w r (Mid C E B rel rel2 w f Q2) := by
  cases r with
  | ok a S' => exact fun w' b x s q => ⟨w', S', a, rfl, x, s, q, h⟩
  | err e S' => exact h
  | bad => exact h
end
def rlD (C : Kt) (fr : Bool) : Rl D V where
  r := fun w0 S w d v => RR C fr w0 S w d v
  back := fun {w w1 S w' a b} x h => by
    unfold RR at h ⊢
    split
    · obtain ⟨a, vs, e, h1, h2, h3, h4, h5⟩ := h
      exact ⟨a, vs, e, h1, h2, h3, h4.back x, h5⟩
    · simpa using h
def rlDs (C : Kt) : Rl (List D) (List V) where
  r := fun _ _ w ds vs => VRs C w ds vs
  back := fun _ h => h
def rlE (α : Type) : Rl α α where
  r := fun _ _ _ a b => a = b
  back := fun _ h => h

/-! ### steps of the world -/
section
variable {C : Kt} {B : Nat → Prop} {S : Store} {w w' : Wd} {p a : Addr} {o : HO}
theorem CelR.ext {c : Cell} (x : Gr w w') (m : MutAll w) (hH : w'.H a = w.H a) (h : CelR C w a c) : CelR C w' a c := by
  cases c with
  | dead => trivial
  | lst xs => obtain ⟨vs, h1, h2⟩ := h; exact ⟨vs, by rw [hH]; exact h1, VRs.ext x m xs vs h2⟩
  | dct ks ds => obtain ⟨vs, h1, h2, h3⟩ := h; exact ⟨vs, by rw [hH]; exact h1, VRs.ext x m ds vs h2, h3⟩
  | ice xs => obtain ⟨vs, hf, h1, h2⟩ := h; exact ⟨vs, x.fr a hf, by rw [hH]; exact h1, VRs.ext x m xs vs h2⟩
  | ins c ns ds => obtain ⟨cl, dx, vs, hc, h1, ho, h2, h3⟩ := h; exact ⟨cl, dx, vs, hc, by rw [hH]; exact h1, x.keep dx _ ho (fun z => z) (fun _ z => by cases z), VRs.ext x m ds vs h2, h3⟩
theorem SS.step (s : SS C B S w) (x : Gr w w') (hρ : w'.ρ = w.ρ) (hH : ∀ a ∈ w.ρ, w'.H a = w.H a)
    (hF : ∀ (n : Nat) (c : Cell) (a : Addr), S[n]? = some c → c.live → w.ρ[n]? = some a → ¬ w'.F a) (hT : ∀ a, w'.F a → ∃ o, w'.H a = some o) (hP : ∀ p ∈ C.lx.tabs, w'.H p.1 = w.H p.1 ∧ ¬ w'.F p.1) : SS C B S w' where
  tabs := s.tabs.of hP fun a h => ⟨x.fr a h, x.frz a h⟩
  len := by rw [hρ]; exact s.len
  inj := by rw [hρ]; exact s.inj
  cell := fun n c a h1 h2 => by
    rw [hρ] at h2
    exact (s.cell n c a h1 h2).ext x s.muts (hH a (List.mem_of_getElem? h2))
  nofr := fun n c a h1 h2 h3 => by rw [hρ] at h3; exact hF n c a h1 h2 h3
  there := hT
  muts := fun a h => by
    rw [hρ] at h; rw [hH a h]; exact s.muts a h
  low := s.low
theorem SS.in_none (s : SS C B S w) (h : w.H p = none) : p ∉ w.ρ := fun hm => by
  have := s.muts p hm
  rw [h] at this; exact this
theorem SS.F_none (s : SS C B S w) (h : w.H p = none) : ¬ w.F p := fun hf => by
  obtain ⟨o, e⟩ := s.there p hf
  rw [h] at e; cases e
/-- a new object -/
abbrev Wd.put (w : Wd) (p : Addr) (o : HO) : Wd := ⟨w.ρ, w.F, upd w.H p o⟩
theorem SS.ntab (s : SS C B S w) {q : Addr × Str} (hq : q ∈ C.lx.tabs) : ∃ ps, w.H q.1 = some (.tbl ps) := let ⟨_, ps, h, _⟩ := s.tabs q hq; ⟨ps, h⟩
theorem SS.ext_put (s : SS C B S w) (h : w.H p = none) : Ext w (w.put p o) where
  keepT := fun a ps e => ⟨ps, by
    show upd w.H p o a = _
    rw [upd_ne (ne_of_none e h)]; exact e⟩
  toGr := ⟨⟨[], by simp⟩, fun _ h => h, fun a u e _ _ => by
    show upd w.H p o a = _
    rw [upd_ne (ne_of_none e h)]; exact e, fun a hf => by
    show upd w.H p o a = _
    obtain ⟨u, e⟩ := s.there a hf
    rw [upd_ne (ne_of_none e h)]⟩
  keepA := fun a u e _ _ => by
    show upd w.H p o a = _
    rw [upd_ne (ne_of_none e h)]; exact e
  new := fun a h n => absurd h n
  newF := fun a h => .inl h
theorem SS.put (s : SS C B S w) (h : w.H p = none) : SS C B S (w.put p o) :=
  s.step (s.ext_put h).toGr rfl (fun a ha => by
    show upd w.H p o a = _
    rw [upd_ne]
    rintro rfl
    exact s.in_none h ha) (fun n c a h1 h2 h3 => s.nofr n c a h1 h2 h3) (fun a hf => by
    obtain ⟨u, e⟩ := s.there a hf
    exact ⟨u, by show upd w.H p o a = _; rw [upd_ne (ne_of_none e h)]; exact e⟩) (fun q hq => by
    obtain ⟨n, ps, e, _⟩ := s.tabs q hq
    exact ⟨by show upd w.H p o q.1 = _; rw [upd_ne (ne_of_none e h)], n⟩)
theorem VR.tup_new {ds : List D} {vs : List V} (s : SS C B S w) (h : w.H p = none) (r : VRs C w ds vs) : VR C (w.put p (.tup vs)) (.tup ds) (.ref p) := by
  unfold VR
  exact ⟨p, vs, rfl, SqT.of upd_same, VRs.ext (s.ext_put h).toGr s.muts ds vs r⟩
theorem FR.new {ds : List D} {vs : List V} (s : SS C B S w) (h : w.H p = none) (r : VRs C w ds vs) : FR C w S (w.put p (.lst vs)) ds (.ref p) :=
  ⟨p, vs, rfl, upd_same, VRs.ext (s.ext_put h).toGr s.muts ds vs r, s.F_none h, .inl h, fun n c h1 h2 h3 => s.in_none h (List.mem_of_getElem? h3)⟩
/-- a list that was new is frozen -/
abbrev Wd.ice (w : Wd) (p : Addr) : Wd := ⟨w.ρ, fun a => w.F a ∨ a = p, w.H⟩
theorem Gr.ice : Gr w (w.ice p) := ⟨⟨[], by simp⟩, fun _ h => .inl h, fun _ _ e _ _ => e, fun _ _ => rfl⟩
theorem Ext.ice {w0 : Wd} (x : Ext w0 w) (n : Nw w0 p) : Ext w0 (w.ice p) where
  toGr := ⟨x.pre, fun a h => .inl (x.fr a h), x.keep, x.frz⟩
  keepA := x.keepA
  keepT := x.keepT
  new := x.new
  newF := fun a h => by
    rcases h with h | rfl
    · exact x.newF a h
    · exact .inr n
theorem SS.ice (s : SS C B S w) (h : w.H p = some o) (ht : NT o) (hn : ∀ (n : Nat) (c : Cell), S[n]? = some c → c.live → w.ρ[n]? ≠ some p) : SS C B S (w.ice p) :=
  s.step .ice rfl (fun _ _ => rfl) (fun n c a h1 h2 h3 => by
    rintro (z | rfl)
    · exact s.nofr n c a h1 h2 h3 z
    · exact hn n c h1 h2 h3) (fun a h' => by
    rcases h' with h' | rfl
    · exact s.there a h'
    · exact ⟨o, h⟩) (fun q hq => by
    obtain ⟨n, ps, e, _⟩ := s.tabs q hq
    refine ⟨rfl, ?_⟩
    rintro (z | z)
    · exact n z
    · rw [z, h] at e
      exact ht ps (Option.some.inj e))
/-- a result is settled: what was new is frozen -/
theorem RR.settle {w0 : Wd} {fr : Bool} {d : D} {v : V} (x : Ext w0 w) (s : SS C B S w) (h : RR C fr w0 S w d v) : ∃ w', w'.H = w.H ∧ w'.ρ = w.ρ ∧ Ext w0 w' ∧ Gr w w' ∧ SS C B S w' ∧ VR C w' d v := by
  unfold RR at h
  split at h
  · obtain ⟨a, vs, e, h1, h2, h3, h4, h5⟩ := h
    refine ⟨w.ice a, rfl, rfl, x.ice h4, .ice, s.ice h1 (fun _ z => by cases z) h5, ?_⟩
    unfold VR
    exact ⟨a, vs, e, .inr rfl, h1, VRs.ext .ice s.muts _ _ h2⟩
  · exact ⟨w, rfl, rfl, x, .refl w, s, h⟩
/-- a cell more: at an address that is new -/
abbrev Wd.cell (w : Wd) (p : Addr) : Wd := ⟨w.ρ ++ [p], w.F, w.H⟩
theorem Ext.cell {w0 : Wd} (x : Ext w0 w) (n : Nw w0 p) : Ext w0 (w.cell p) where
  toGr := by
    obtain ⟨t, e⟩ := x.pre
    exact ⟨⟨t ++ [p], by show w.ρ ++ [p] = _; rw [e, List.append_assoc]⟩, x.fr, x.keep, x.frz⟩
  keepA := x.keepA
  keepT := x.keepT
  new := fun a h n' => by
    rcases List.mem_append.mp h with h | h
    · exact x.new a h n'
    · simp at h; subst h
      rcases n with n | n
      · exact n
      · exact absurd n n'
  newF := x.newF
theorem Gr.cell : Gr w (w.cell p) := ⟨⟨[p], rfl⟩, fun _ h => h, fun _ _ e _ _ => e, fun _ _ => rfl⟩
theorem SS.cell' (s : SS C B S w) {c : Cell} (hm : Mut (w.H p)) (hF : ¬ w.F p) (hn : ∀ (n : Nat) (c : Cell), S[n]? = some c → c.live → w.ρ[n]? ≠ some p) (hc : CelR C w p c) : SS C B (S ++ [c]) (w.cell p) where
  tabs := s.tabs
  len := by
    show (w.ρ ++ [p]).length = (S ++ [c]).length
    rw [List.length_append, List.length_append, s.len]; rfl
  inj := fun i j ci cj a h1 h2 h3 h4 h5 h6 => by
    have hl := s.len
    have h5' : (w.ρ ++ [p])[i]? = some a := h5
    have h6' : (w.ρ ++ [p])[j]? = some a := h6
    by_cases hi : i < S.length
    · rw [List.getElem?_append_left hi] at h1
      rw [List.getElem?_append_left (by omega)] at h5'
      by_cases hj : j < S.length
      · rw [List.getElem?_append_left hj] at h2
        rw [List.getElem?_append_left (by omega)] at h6'
        exact s.inj i j ci cj a h1 h2 h3 h4 h5' h6'
      · have hj' : j < (S ++ [c]).length := (List.getElem?_eq_some_iff.mp h2).1
        rw [List.length_append] at hj'
        have : j = w.ρ.length := by simp at hj'; omega
        subst this
        rw [List.getElem?_append_right (Nat.le_refl _)] at h6'
        simp at h6'; subst h6'
        exact absurd h5' (hn i ci h1 h3)
    · have hi' : i < (S ++ [c]).length := (List.getElem?_eq_some_iff.mp h1).1
      rw [List.length_append] at hi'
      have ei : i = w.ρ.length := by simp at hi'; omega
      subst ei
      rw [List.getElem?_append_right (Nat.le_refl _)] at h5'
      simp at h5'; subst h5'
      by_cases hj : j < S.length
      · rw [List.getElem?_append_left hj] at h2
        rw [List.getElem?_append_left (by omega)] at h6'
        exact absurd h6' (hn j cj h2 h4)
      · have hj' : j < (S ++ [c]).length := (List.getElem?_eq_some_iff.mp h2).1
        rw [List.length_append] at hj'
        simp at hj'; omega
  cell := fun n c' a h1 h2 => by
    have hl := s.len
    have h2' : (w.ρ ++ [p])[n]? = some a := h2
    by_cases hi : n < S.length
    · rw [List.getElem?_append_left hi] at h1
      rw [List.getElem?_append_left (by omega)] at h2'
      exact (s.cell n c' a h1 h2').ext .cell s.muts rfl
    · have hi' : n < (S ++ [c]).length := (List.getElem?_eq_some_iff.mp h1).1
      rw [List.length_append] at hi'
      have ei : n = w.ρ.length := by simp at hi'; omega
      subst ei
      rw [List.getElem?_append_right (by omega), s.len] at h1
      rw [List.getElem?_append_right (Nat.le_refl _)] at h2'
      simp at h1 h2'; subst h1; subst h2'
      exact hc.ext .cell s.muts rfl
  nofr := fun n c' a h1 h2 h3 => by
    have hl := s.len
    have h3' : (w.ρ ++ [p])[n]? = some a := h3
    by_cases hi : n < S.length
    · rw [List.getElem?_append_left hi] at h1
      rw [List.getElem?_append_left (by omega)] at h3'
      exact s.nofr n c' a h1 h2 h3'
    · have hi' : n < (S ++ [c]).length := (List.getElem?_eq_some_iff.mp h1).1
      rw [List.length_append] at hi'
      have ei : n = w.ρ.length := by simp at hi'; omega
      subst ei
      rw [List.getElem?_append_right (Nat.le_refl _)] at h3'
      simp at h3'; subst h3'
      exact hF
  there := s.there
  muts := fun a h => by
    have h' : a ∈ w.ρ ++ [p] := h
    rcases List.mem_append.mp h' with h | h
    · exact s.muts a h
    · simp at h; subst h; exact hm
  low := fun b hb => by
    obtain ⟨h1, h2⟩ := s.low b hb
    refine ⟨by rw [List.length_append]; omega, fun n c' hn e => h2 n c' hn ?_⟩
    rwa [List.getElem?_append_left (by omega)] at e
/-- a live cell is written -/
theorem SS.ext_wr (s : SS C B S w) {n : Nat} {c0 : Cell} (hn : S[n]? = some c0) (hl : c0.live) (ha : w.ρ[n]? = some a) : Ext w (w.put a o) where
  keepT := fun b ps e => ⟨ps, by
    show upd w.H a o b = _
    rw [upd_ne (by
      rintro rfl
      have := s.muts b (List.mem_of_getElem? ha)
      rw [e] at this; exact this)]; exact e⟩
  toGr := ⟨⟨[], by simp⟩, fun _ h => h, fun b u e hb _ => by
    show upd w.H a o b = _
    rw [upd_ne (by rintro rfl; exact hb (e ▸ s.muts b (List.mem_of_getElem? ha)))]; exact e, fun b hf => by
    show upd w.H a o b = _
    rw [upd_ne]
    rintro rfl
    exact s.nofr n c0 b hn hl ha hf⟩
  keepA := fun b u e hb _ => by
    show upd w.H a o b = _
    rw [upd_ne (by rintro rfl; exact hb (List.mem_of_getElem? ha))]; exact e
  new := fun a h n => absurd h n
  newF := fun a h => .inl h
theorem SS.wr (s : SS C B S w) {n : Nat} {c0 c : Cell} (hn : S[n]? = some c0) (hl : c0.live) (ha : w.ρ[n]? = some a) (hm : Mut (some o)) (hc : CelR C (w.put a o) a c) (hlow : ∀ b, B b → n < b → D.refsBs b c.vals = true) : SS C B (S.set n c) (w.put a o) := by
  have x := s.ext_wr (o := o) hn hl ha
  have hnl : n < S.length := (List.getElem?_eq_some_iff.mp hn).1
  refine ⟨by rw [List.length_set]; exact s.len, fun i j ci cj b h1 h2 h3 h4 h5 h6 => ?_, fun i c' b h1 h2 => ?_, fun i c' b h1 h2 h3 => ?_, fun b hf => ?_, fun b hb => ?_, fun b hb => ?_, s.tabs.of (fun q hq => ?_) fun b hf => ⟨hf, x.frz b hf⟩⟩
  case refine_7 =>
    obtain ⟨nq, ps, e, _⟩ := s.tabs q hq
    refine ⟨?_, nq⟩
    show upd w.H a o q.1 = _
    rw [upd_ne]
    intro z
    have := s.muts a (List.mem_of_getElem? ha)
    rw [← z, e] at this; exact this
  · by_cases hi : n = i
    · by_cases hj : n = j
      · omega
      · rw [List.getElem?_set_ne hj] at h2
        subst hi
        have : a = b := by have h5' : w.ρ[n]? = some b := h5; rw [ha] at h5'; exact Option.some.inj h5'
        subst this
        exact s.inj n j c0 cj a hn h2 hl h4 ha h6
    · rw [List.getElem?_set_ne hi] at h1
      by_cases hj : n = j
      · subst hj
        have : a = b := by have h6' : w.ρ[n]? = some b := h6; rw [ha] at h6'; exact Option.some.inj h6'
        subst this
        exact s.inj i n ci c0 a h1 hn h3 hl h5 ha
      · rw [List.getElem?_set_ne hj] at h2
        exact s.inj i j ci cj b h1 h2 h3 h4 h5 h6
  · by_cases hi : n = i
    · subst hi
      rw [List.getElem?_set_self hnl] at h1
      cases h1
      have : a = b := by have h2' : w.ρ[n]? = some b := h2; rw [ha] at h2'; exact Option.some.inj h2'
      subst this
      exact hc
    · rw [List.getElem?_set_ne hi] at h1
      cases hcl : c' with
      | dead => trivial
      | ice xs =>
        have r0 := s.cell i c' b h1 h2
        rw [hcl] at r0
        obtain ⟨vs, hf, _, _⟩ := id r0
        exact r0.ext x.toGr s.muts (x.frz b hf)
      | _ =>
        have hlive : c'.live := by rw [hcl]; trivial
        rw [← hcl]
        refine (s.cell i c' b h1 h2).ext x.toGr s.muts ?_
        show upd w.H a o b = _
        rw [upd_ne]
        rintro rfl
        exact hi (s.inj n i c0 c' b hn h1 hl hlive ha h2)
  · by_cases hi : n = i
    · subst hi
      have : a = b := by have h3' : w.ρ[n]? = some b := h3; rw [ha] at h3'; exact Option.some.inj h3'
      subst this
      exact s.nofr n c0 a hn hl ha
    · rw [List.getElem?_set_ne hi] at h1
      exact s.nofr i c' b h1 h2 h3
  · obtain ⟨u, e⟩ := s.there b hf
    refine ⟨u, ?_⟩
    show upd w.H a o b = _
    rw [upd_ne]
    · exact e
    · rintro rfl
      exact s.nofr n c0 b hn hl ha hf
  · show Mut (upd w.H a o b)
    by_cases hab : b = a
    · subst hab; rw [upd_same]; exact hm
    · rw [upd_ne hab]; exact s.muts b hb
  · obtain ⟨h1, h2⟩ := s.low b hb
    refine ⟨by rw [List.length_set]; exact h1, fun i c' hi e => ?_⟩
    by_cases hin : n = i
    · subst hin
      rw [List.getElem?_set_self hnl] at e
      cases e
      exact hlow b hb hi
    · rw [List.getElem?_set_ne hin] at e
      exact h2 i c' hi e
/-- a cell dies -/
theorem SS.kill (s : SS C B S w) {n : Nat} : SS C B (S.set n .dead) w := by
  refine ⟨by rw [List.length_set]; exact s.len, fun i j ci cj b h1 h2 h3 h4 h5 h6 => ?_, fun i c' b h1 h2 => ?_, fun i c' b h1 h2 h3 => ?_, s.there, s.muts, fun b hb => ?_, s.tabs⟩
  · by_cases hi : n = i
    · subst hi
      have hnl : n < (S.set n .dead).length := (List.getElem?_eq_some_iff.mp h1).1
      rw [List.length_set] at hnl
      rw [List.getElem?_set_self hnl] at h1
      cases h1; exact h3.elim
    · by_cases hj : n = j
      · subst hj
        have hnl : n < (S.set n .dead).length := (List.getElem?_eq_some_iff.mp h2).1
        rw [List.length_set] at hnl
        rw [List.getElem?_set_self hnl] at h2
        cases h2; exact h4.elim
      · rw [List.getElem?_set_ne hi] at h1
        rw [List.getElem?_set_ne hj] at h2
        exact s.inj i j ci cj b h1 h2 h3 h4 h5 h6
  · by_cases hi : n = i
    · subst hi
      have hnl : n < (S.set n .dead).length := (List.getElem?_eq_some_iff.mp h1).1
      rw [List.length_set] at hnl
      rw [List.getElem?_set_self hnl] at h1
      cases h1; trivial
    · rw [List.getElem?_set_ne hi] at h1
      exact s.cell i c' b h1 h2
  · by_cases hi : n = i
    · subst hi
      have hnl : n < (S.set n .dead).length := (List.getElem?_eq_some_iff.mp h1).1
      rw [List.length_set] at hnl
      rw [List.getElem?_set_self hnl] at h1
      cases h1; exact h2.elim
    · rw [List.getElem?_set_ne hi] at h1
      exact s.nofr i c' b h1 h2 h3
  · obtain ⟨h1, h2⟩ := s.low b hb
    refine ⟨by rw [List.length_set]; exact h1, fun i c' hi e => ?_⟩
    by_cases hin : n = i
    · subst hin
      rw [List.getElem?_set_self (by omega)] at e
      cases e; rfl
    · rw [List.getElem?_set_ne hin] at e
      exact h2 i c' hi e
/-- the cells beyond b are forgotten -/
abbrev Wd.cut (w : Wd) (b : Nat) : Wd := ⟨w.ρ.take b, w.F, w.H⟩
theorem SS.cut (s : SS C B S w) {b : Nat} (hb : b ≤ S.length) (hB : ∀ b', B b' → b' ≤ b) (hlow : ∀ (n : Nat) (c : Cell), n < b → S[n]? = some c → D.refsBs b c.vals = true) : SS C B (S.take b) (w.cut b) := by
  have hbr : b ≤ w.ρ.length := by rw [s.len]; exact hb
  have g1 : ∀ {n : Nat} {c : Cell}, (S.take b)[n]? = some c → n < b ∧ S[n]? = some c := fun {n c} e => by
    have hn : n < (S.take b).length := (List.getElem?_eq_some_iff.mp e).1
    rw [List.length_take] at hn
    have hn' : n < b := by omega
    rw [List.getElem?_take_of_lt hn'] at e
    exact ⟨hn', e⟩
  have g2 : ∀ {n : Nat} {a : Addr}, n < b → (w.ρ.take b)[n]? = some a → w.ρ[n]? = some a := fun {n a} h e => by
    rwa [List.getElem?_take_of_lt h] at e
  refine ⟨by show (w.ρ.take b).length = _; rw [List.length_take, List.length_take, s.len], fun i j ci cj a h1 h2 h3 h4 h5 h6 => ?_, fun n c a h1 h2 => ?_, fun n c a h1 h2 h3 => ?_, s.there, fun a ha => s.muts a (List.mem_of_mem_take ha), fun b' hb' => ?_, s.tabs⟩
  · obtain ⟨q1, q2⟩ := g1 h1
    obtain ⟨r1, r2⟩ := g1 h2
    exact s.inj i j ci cj a q2 r2 h3 h4 (g2 q1 h5) (g2 r1 h6)
  · obtain ⟨q1, q2⟩ := g1 h1
    have hc := s.cell n c a q2 (g2 q1 h2)
    have lw := hlow n c q1 q2
    cases c with
    | dead => trivial
    | lst xs => obtain ⟨vs, e1, e2⟩ := hc; exact ⟨vs, e1, VRs.cut hbr _ _ lw e2⟩
    | dct ks ds => obtain ⟨vs, e1, e2, e3⟩ := hc; exact ⟨vs, e1, VRs.cut hbr _ _ lw e2, e3⟩
    | ice xs => obtain ⟨vs, hf, e1, e2⟩ := hc; exact ⟨vs, hf, e1, VRs.cut hbr _ _ lw e2⟩
    | ins c ns ds => obtain ⟨cl, dx, vs, hcl, e1, ho, e2, e3⟩ := hc; exact ⟨cl, dx, vs, hcl, e1, ho, VRs.cut hbr _ _ lw e2, e3⟩
  · obtain ⟨q1, q2⟩ := g1 h1
    exact s.nofr n c a q2 h2 (g2 q1 h3)
  · obtain ⟨h1, h2⟩ := s.low b' hb'
    refine ⟨by rw [List.length_take]; have := hB b' hb'; omega, fun n c hn e => h2 n c hn (g1 e).2⟩
end
end Pi
end

section
/-! PiOps: the operations on values, over the hand layer's. -/
namespace L2
open PySem PySem.Spec PyProof.Rows
open PySem.SeqAt
open PySem.AutoSeq1 (wpAny_loadPart')
open PySem.MeetsSeq PySem.MeetsSeq2 PySem.MeetsSeq3
theorem tuple_mul_none (l : Addr) (items : Array Value) (n : Nat) (dd : Option Addr) (sl : Array (Option Value)) (x : Int) (u : Tok) (c0 : (decide (x < -(2 ^ 63)) || decide (x ≥ 2 ^ 63)) = false) (c1 : (items.isEmpty || x == 1) = false) (c2 : (decide (x ≤ 0) || items.isEmpty) = true) :
    Meets (Builtin.«tuple.__mul__» ⟨[.ref l, .int x u], []⟩) (fun _ R s => s.heap.get? l = some { cls := .type "tuple", dict := dd, data := .seq items n, slots := sl } ∧
      R (.ok (.ret (Value.ref s.heap.objs.size))) { s with heap := s.heap.push { cls := Value.type "tuple", data := Data.seq #[] }, toks := s.toks }) :=
  .of_wp fun prog w A R s h => by
    obtain ⟨hp, g, d, tk, os⟩ := s
    obtain ⟨hl, h⟩ := h
    have f1 := AutoSeq1.idx_int
    wp_walk using wpAny_loadPart' hl
    repeat (first
      | (refine wpAny_ite_false (decide_eq_false (by rw [c0]; exact Bool.false_ne_true)) ?_; wp_walk using wpAny_loadPart' hl)
      | (refine wpAny_ite_false (decide_eq_false (by rw [c1]; exact Bool.false_ne_true)) ?_; wp_walk using wpAny_loadPart' hl)
      | (refine wpAny_ite_true (decide_eq_true c2) ?_; wp_walk using wpAny_loadPart' hl))
    exact ⟨_, rfl, h⟩
theorem tuple_mul_same (l : Addr) (items : Array Value) (n : Nat) (dd : Option Addr) (sl : Array (Option Value)) (x : Int) (u : Tok) (c0 : (decide (x < -(2 ^ 63)) || decide (x ≥ 2 ^ 63)) = false) (c1 : (items.isEmpty || x == 1) = true) :
    Meets (Builtin.«tuple.__mul__» ⟨[.ref l, .int x u], []⟩) (fun _ R s => s.heap.get? l = some { cls := .type "tuple", dict := dd, data := .seq items n, slots := sl } ∧
      R (.ok (.ret (Value.ref l))) s) :=
  .of_wp fun prog w A R s h => by
    obtain ⟨hp, g, d, tk, os⟩ := s
    obtain ⟨hl, h⟩ := h
    have f1 := AutoSeq1.idx_int
    wp_walk using wpAny_loadPart' hl
    repeat (first
      | (refine wpAny_ite_false (decide_eq_false (by rw [c0]; exact Bool.false_ne_true)) ?_; wp_walk using wpAny_loadPart' hl)
      | (refine wpAny_ite_true (decide_eq_true c1) ?_; wp_walk using wpAny_loadPart' hl))
    exact ⟨_, rfl, h⟩

/-- t * k of any tuple -/
def rRepA (K : PySem.W.Frag) : R2 := fun x y H Q => ∃ l k xs, x = .ref l ∧ y = .int k ∧ SqT K H l xs ∧ 0 ≤ k ∧ k < 2 ^ 62 ∧ xs.length * k.toNat ≤ 1000000 ∧
  (xs = [] ∨ k = 1 → Q (.ref l) H) ∧ (xs ≠ [] → k ≠ 1 → ∀ p, H p = none → Q (.ref p) (upd H p (.tup (List.replicate k.toNat xs).flatten)))
theorem op_repA {X : Cx} : OpR X (binaryOp .Mult) (rRepA X.K) := by
  intro pins s σ H x y v u Q I rx ry h
  obtain ⟨l, k, xs, rfl, rfl, hT, h1, h2, hz, q1, q2⟩ := h
  cases rx
  obtain ⟨t, rfl⟩ := ry
  obtain ⟨its, r, ⟨⟨cls, dd, data, sl⟩, ho, hc, n, hd⟩, hs⟩ := I.tuple hT
  simp only at hc hd
  subst hc hd
  have hle : its.length = xs.length := r.length.symm
  have hie : its.toArray.isEmpty = decide (xs = []) := by
    cases its with
    | nil =>
      have : xs = [] := List.eq_nil_of_length_eq_zero (by simpa using hle.symm)
      subst this; simp
    | cons a b =>
      cases xs with
      | nil => simp at hle
      | cons c d => simp
  have hsz0 : its.toArray.size = xs.length := by rw [List.size_toArray, hle]
  have hm : ((its.toArray.size : Nat) : Int) * k ≤ 1000000 := by
    rw [hsz0]
    have e : k = (k.toNat : Int) := by omega
    rw [e]
    have := Int.ofNat_le.mpr hz
    rw [Int.natCast_mul] at this
    exact this
  have flen : (List.replicate k.toNat its).flatten.length ≤ sizeLine := by
    rw [PyProof.Rows.lm_len_rep_flat, hle, sizeLine_eq]
    rw [Nat.mul_comm] at hz
    omega
  have c0 : (decide (k < -(2 ^ 63)) || decide (k ≥ 2 ^ 63)) = false := by
    rw [decide_eq_false (by omega), decide_eq_false (by omega)] <;> rfl
  have c4 : Builtin.Tuple.tupleTooMany (((its.toArray.size : Nat) : Int) * k) = false := by
    unfold Builtin.Tuple.tupleTooMany
    rw [sizeLine_eq]
    exact decide_eq_false (by omega)
  by_cases hne : xs = [] ∨ k = 1
  · refine wpAny_binaryOp_repeat_ref (T := "tuple") (U := "int") (by decide) ⟨_, ho, rfl⟩ (fun s' => typeIs_int s' k t) noFill_tuple_mul F.fills_int_mul F.slot_int_rmul repeat_tuple F.slot_int_index.lookup
      (call_meets F.slot_int_rmul (typeIs_int s k t) F.entry_int_rmul (F.args_int_rmul_2 _ _) (int_rmul_tuple k t l its.toArray n dd sl)
        ⟨ho, rfl, ⟨_, ho, rfl⟩, call_meets F.slot_tuple_mul ⟨_, ho, rfl⟩ F.entry_tuple_mul (F.args_tuple_mul_2 _ _) (tuple_mul_same l its.toArray n dd sl k t c0 (by
          rw [hie]
          rcases hne with z | z
          · rw [decide_eq_true z]; rfl
          · rw [z]; simp)) ⟨ho, ?_⟩⟩)
    exact ⟨.ref l, H, I, rfl, q1 hne⟩
  · have n1 : xs ≠ [] := fun z => hne (.inl z)
    have n2 : k ≠ 1 := fun z => hne (.inr z)
    have c1 : (its.toArray.isEmpty || k == 1) = false := by
      rw [hie, decide_eq_false n1, Bool.false_or]
      exact beq_eq_false_iff_ne.mpr n2
    have q := q2 n1 n2
    by_cases hk : k ≤ 0
    · have hk0 : k = 0 := by omega
      subst hk0
      refine wpAny_binaryOp_repeat_ref (T := "tuple") (U := "int") (by decide) ⟨_, ho, rfl⟩ (fun s' => typeIs_int s' 0 t) noFill_tuple_mul F.fills_int_mul F.slot_int_rmul repeat_tuple F.slot_int_index.lookup
        (call_meets F.slot_int_rmul (typeIs_int s 0 t) F.entry_int_rmul (F.args_int_rmul_2 _ _) (int_rmul_tuple 0 t l its.toArray n dd sl)
          ⟨ho, rfl, ⟨_, ho, rfl⟩, call_meets F.slot_tuple_mul ⟨_, ho, rfl⟩ F.entry_tuple_mul (F.args_tuple_mul_2 _ _) (tuple_mul_none l its.toArray n dd sl 0 t c0 c1 (by simp)) ⟨ho, ?_⟩⟩)
      refine ⟨.ref s.heap.objs.size, _, I.laid (t' := s.toks) (o := .tup []) (fun b ob q => Heap.get?_push_of_some _ q) (Nat.le_refl _) ?_, rfl, q _ (I.hok.fresh (Nat.le_refl _))⟩
      exact ⟨Nat.zero_le _, [], .nil, IsTup.new _ _⟩
    · have c2 : (decide (k ≤ 0) || its.toArray.isEmpty) = false := by
        rw [hie, decide_eq_false n1, Bool.or_false]
        exact decide_eq_false hk
      refine wpAny_binaryOp_repeat_ref (T := "tuple") (U := "int") (by decide) ⟨_, ho, rfl⟩ (fun s' => typeIs_int s' k t) noFill_tuple_mul F.fills_int_mul F.slot_int_rmul repeat_tuple F.slot_int_index.lookup
        (call_meets F.slot_int_rmul (typeIs_int s k t) F.entry_int_rmul (F.args_int_rmul_2 _ _) (int_rmul_tuple k t l its.toArray n dd sl)
          ⟨ho, rfl, ⟨_, ho, rfl⟩, call_meets F.slot_tuple_mul ⟨_, ho, rfl⟩ F.entry_tuple_mul (F.args_tuple_mul_2 _ _) (tuple_mulW l its.toArray n dd sl k t c0 c1 c2 (by omega) c4 (by rw [size_rep, List.size_toArray]; exact flen)) ⟨ho, ?_⟩⟩)
      rw [size_rep]
      refine ⟨.ref s.heap.objs.size, _, I.laid (t' := s.toks) (o := .tup (List.replicate k.toNat xs).flatten) (fun b ob q => Heap.get?_push_of_some _ q) (Nat.le_refl _) ?_, rfl, q _ (I.hok.fresh (Nat.le_refl _))⟩
      exact ⟨by rw [← r.rep k.toNat |>.length] at flen; exact flen, _, r.rep k.toNat, IsTup.new _ _⟩
end L2

namespace Pi
open PySem PySem.Spec PyProof.Rows L2

/-- CL: the names of a law's classes -/
abbrev kt (CL : List String × List (String × String) × Lx) (X : Cx) : Kt := ⟨X.K, X.mg, CL.1, CL.2.1, X.base, CL.2.2⟩

section
variable {C : Kt} {B : Nat → Prop} {S : Store} {w : Wd}
theorem lst_rel (s : SS C B S w) {d : D} {v : V} {xs : List D} (h : VR C w d v) (e : lstOf S d = some xs) : ∃ a vs, v = .ref a ∧ w.H a = some (.lst vs) ∧ VRs C w xs vs := by
  cases d with
  | lst ys =>
    unfold VR at h
    obtain ⟨a, vs, e1, _, h1, h2⟩ := h
    have : ys = xs := by simpa [lstOf] using e
    subst this
    exact ⟨a, vs, e1, h1, h2⟩
  | obj n =>
    unfold VR at h
    obtain ⟨a, e1, h1⟩ := h
    simp only [lstOf] at e
    cases hc : S[n]? with
    | none => rw [hc] at e; simp at e
    | some c =>
      rw [hc] at e
      cases c with
      | lst ys =>
        simp at e; subst e
        obtain ⟨vs, q1, q2⟩ := s.cell n _ a hc h1
        exact ⟨a, vs, e1, q1, q2⟩
      | ice ys =>
        simp at e; subst e
        obtain ⟨vs, _, q1, q2⟩ := s.cell n _ a hc h1
        exact ⟨a, vs, e1, q1, q2⟩
      | _ => simp at e
  | _ => simp [lstOf] at e
theorem seq_rel (s : SS C B S w) {d : D} {v : V} {xs : List D} (h : VR C w d v) (e : seqOf S d = some xs) : ∃ a vs, v = .ref a ∧ (SqL C.K w.H a vs ∨ SqT C.K w.H a vs) ∧ VRs C w xs vs := by
  cases d with
  | tup ys =>
    unfold VR at h
    obtain ⟨a, vs, e1, h1, h2⟩ := h
    have : ys = xs := by simpa [seqOf] using e
    subst this
    exact ⟨a, vs, e1, .inr h1, h2⟩
  | scr ys =>
    unfold VR at h
    obtain ⟨a, vs, e1, h1, h2⟩ := h
    have : ys = xs := by simpa [seqOf] using e
    subst this
    exact ⟨a, vs, e1, .inl h1.sq, h2⟩
  | lst ys =>
    obtain ⟨a, vs, h1, h2, h3⟩ := lst_rel s h (xs := xs) (by simpa [seqOf, lstOf] using e)
    exact ⟨a, vs, h1, .inl (SqL.of h2), h3⟩
  | obj n =>
    obtain ⟨a, vs, h1, h2, h3⟩ := lst_rel s h (xs := xs) (by simpa [seqOf, lstOf] using e)
    exact ⟨a, vs, h1, .inl (SqL.of h2), h3⟩
  | _ => simp [seqOf] at e
theorem tup_rel {v : V} {xs : List D} (h : VR C w (.tup xs) v) : ∃ a vs, v = .ref a ∧ SqT C.K w.H a vs ∧ VRs C w xs vs := by
  unfold VR at h; exact h
end

/-! ### the ways out -/
section
variable {α β : Type} {C : Kt} {E : XK} {B : Nat → Prop} {S : Store} {w : Wd} {Q : V → Hp → Prop} {fr : Bool}
theorem po_val {d : D} {v : V} (s : SS C B S w) (h : Po C E B (rlD C fr) w (.ok d S) Q) (hl : fr = false ∨ isLst d = false) (r : VR C w d v) : Q v w.H :=
  h w v (.refl w) s (by
    show RR C fr w S w d v
    unfold RR
    cases fr with
    | false => exact r
    | true =>
      rcases hl with hl | hl
      · cases hl
      · cases d with
        | lst xs => cases hl
        | _ => exact r)
theorem po_tup {ds : List D} {vs : List V} (s : SS C B S w) (h : Po C E B (rlD C fr) w (.ok (.tup ds) S) Q) (r : VRs C w ds vs) : ∀ p, w.H p = none → Q (.ref p) (upd w.H p (.tup vs)) := fun p hp =>
  h (w.put p (.tup vs)) (.ref p) (s.ext_put hp) (s.put hp) (by
    show RR C fr w S _ _ _
    unfold RR
    have q := VR.tup_new s hp r
    cases fr <;> exact q)
theorem po_lst {ds : List D} {vs : List V} (s : SS C B S w) (h : Po C E B (rlD C fr) w (.ok (.lst ds) S) Q) (r : VRs C w ds vs) : ∀ p, w.H p = none → Q (.ref p) (upd w.H p (.lst vs)) := fun p hp => by
  have f := FR.new (C := C) s hp r
  cases fr with
  | true => exact h (w.put p (.lst vs)) (.ref p) (s.ext_put hp) (s.put hp) f
  | false =>
    have x : Ext w (w.put p (.lst vs)) := s.ext_put hp
    obtain ⟨w', e1, _, x', _, s', q⟩ := RR.settle (fr := true) (d := .lst ds) x (s.put hp) f
    have z := h w' (.ref p) x' s' (show RR C false w S w' (.lst ds) (.ref p) from q)
    rw [e1] at z
    exact z
theorem po_bl {c : Bool} (s : SS C B S w) (h : Po C E B (rlD C fr) w (.ok (.bl c) S) Q) : Q (.bl c) w.H := po_val s h (.inr rfl) (by unfold VR; rfl)
theorem po_int {i : Int} (s : SS C B S w) (h : Po C E B (rlD C fr) w (.ok (.int i) S) Q) : Q (.int i) w.H := po_val s h (.inr rfl) (by unfold VR; rfl)
theorem po_str {i : Str} (s : SS C B S w) (h : Po C E B (rlD C fr) w (.ok (.str i) S) Q) : Q (.str i) w.H := po_val s h (.inr rfl) (by unfold VR; rfl)
end

/-- a binary operation -/
def rB (C : Kt) (E : XK) (B : Nat → Prop) (f : Store → D → D → Option D) : R2 := fun x y H Q =>
  ∃ w S dx dy, w.H = H ∧ SS C B S w ∧ VR C w dx x ∧ VR C w dy y ∧ Po C E B (rlD C true) w (R.of (f S dx dy) S) Q
theorem vint {C : Kt} {w : Wd} {i : Int} {v : V} (h : VR C w (.int i) v) : v = .int i := by unfold VR at h; exact h
theorem vbl {C : Kt} {w : Wd} {i : Bool} {v : V} (h : VR C w (.bl i) v) : v = .bl i := by unfold VR at h; exact h
theorem vstr {C : Kt} {w : Wd} {i : Str} {v : V} (h : VR C w (.str i) v) : v = .str i := by unfold VR at h; exact h
theorem vnon {C : Kt} {w : Wd} {v : V} (h : VR C w .non v) : v = .non := by unfold VR at h; exact h

section
variable {CL : List String × List (String × String) × Lx} {X : Cx} {E : XK} {B : Nat → Prop}
theorem addD_inv {S : Store} {x y d : D} (h : addD S x y = some d) :
    (∃ i j, x = .int i ∧ y = .int j ∧ d = .int (i + j)) ∨ (∃ i j, x = .str i ∧ y = .str j ∧ i.length + j.length ≤ sizeLine ∧ d = .str (i ++ j)) ∨
    (∃ xs ys, x = .tup xs ∧ y = .tup ys ∧ xs.length + ys.length ≤ sizeLine ∧ d = .tup (xs ++ ys)) ∨
    (∃ xs ys, lstOf S x = some xs ∧ lstOf S y = some ys ∧ xs.length + ys.length ≤ sizeLine ∧ d = .lst (xs ++ ys)) := by
  unfold addD at h
  split at h
  · cases h; exact .inl ⟨_, _, rfl, rfl, rfl⟩
  · split at h <;> simp at h; subst h; rename_i q; exact .inr (.inl ⟨_, _, rfl, rfl, q, rfl⟩)
  · split at h <;> simp at h; subst h; rename_i q; exact .inr (.inr (.inl ⟨_, _, rfl, rfl, q, rfl⟩))
  · split at h
    · split at h <;> simp at h; subst h; rename_i e1 e2 q; exact .inr (.inr (.inr ⟨_, _, e1, e2, q, rfl⟩))
    · cases h
theorem sb_add : OpR X (binaryOp .Add) (rB (kt CL X) E B addD) := by
  intro pins s σ H x y v u Q I rx ry ⟨w, S, dx, dy, hH, ss, hx, hy, po⟩
  subst hH
  cases hb : addD S dx dy with
  | none => rw [hb] at po; exact po.elim
  | some d =>
    rw [hb] at po
    have po' : Po (kt CL X) E B (rlD (kt CL X) true) w (.ok d S) Q := po
    rcases addD_inv hb with ⟨i, j, rfl, rfl, rfl⟩ | ⟨i, j, rfl, rfl, q, rfl⟩ | ⟨xs, ys, rfl, rfl, q, rfl⟩ | ⟨xs, ys, e1, e2, q, rfl⟩
    · exact op_add pins s σ _ x y v u Q I rx ry ⟨i, j, vint hx, vint hy, po_int ss po'⟩
    · exact op_add_str pins s σ _ x y v u Q I rx ry ⟨i, j, vstr hx, vstr hy, q, po_str ss po'⟩
    · obtain ⟨a, vs, ea, ha, ra⟩ := tup_rel hx
      obtain ⟨b, us, eb, hb', rb⟩ := tup_rel hy
      refine op_catA pins s σ _ x y v u Q I rx ry ⟨a, b, vs, us, ea, eb, ha, hb', by rw [ra.length, rb.length]; exact q, fun z => ?_, fun _ z => ?_, fun _ _ => po_tup ss po' (ra.append rb)⟩
      · subst z
        have : xs = [] := by have := ra.length; simpa using this.symm
        subst this
        exact po_val ss po' (.inr rfl) (by rw [← eb]; exact hy)
      · subst z
        have : ys = [] := by have := rb.length; simpa using this.symm
        subst this
        exact po_val ss po' (.inr rfl) (by rw [← ea, List.append_nil]; exact hx)
    · obtain ⟨a, vs, ea, ha, ra⟩ := lst_rel ss hx e1
      obtain ⟨b, us, eb, hb', rb⟩ := lst_rel ss hy e2
      exact op_cat pins s σ _ x y v u Q I rx ry ⟨a, b, vs, us, ea, eb, ha, hb', by rw [ra.length, rb.length]; exact q, po_lst ss po' (ra.append rb)⟩

theorem mulD_inv {S : Store} {x y d : D} (h : mulD S x y = some d) :
    (∃ i j, x = .int i ∧ y = .int j ∧ mulOk i j = true ∧ d = .int (i * j)) ∨
    (∃ xs k, x = .tup xs ∧ y = .int k ∧ (0 ≤ k ∧ k < 2 ^ 62 ∧ xs.length * k.toNat ≤ 1000000) ∧ d = .tup (rep k.toNat xs)) ∨
    (∃ xs k, lstOf S x = some xs ∧ y = .int k ∧ (0 ≤ k ∧ k < 2 ^ 62 ∧ xs.length * k.toNat ≤ 1000000) ∧ d = .lst (rep k.toNat xs)) := by
  unfold mulD at h
  split at h
  · split at h <;> simp at h; subst h; rename_i q; exact .inl ⟨_, _, rfl, rfl, q, rfl⟩
  · split at h <;> simp at h; subst h; rename_i q; exact .inr (.inl ⟨_, _, rfl, rfl, q, rfl⟩)
  · split at h
    · split at h <;> simp at h; subst h; rename_i e1 q; exact .inr (.inr ⟨_, _, e1, rfl, q, rfl⟩)
    · cases h
  · cases h
theorem mulOk_ok {i j : Int} (h : mulOk i j = true) : IntMulOk i j := by
  unfold mulOk at h
  simp only [Bool.or_eq_true, decide_eq_true_eq] at h
  rcases h with (h | h) | h
  · exact .of_left h
  · exact .of_right h
  · exact CMulX.ok (show (Builtin.Int.intBits i : Int) + (Builtin.Int.intBits j : Int) ≤ 134217728 by omega)
theorem op_mulA : OpR X (binaryOp .Mult) (rI IntMulOk fun i j => .int (i * j)) := opI fun _ _ _ _ _ _ _ hc q => mul_int q hc
theorem sb_mul : OpR X (binaryOp .Mult) (rB (kt CL X) E B mulD) := by
  intro pins s σ H x y v u Q I rx ry ⟨w, S, dx, dy, hH, ss, hx, hy, po⟩
  subst hH
  cases hb : mulD S dx dy with
  | none => rw [hb] at po; exact po.elim
  | some d =>
    rw [hb] at po
    have po' : Po (kt CL X) E B (rlD (kt CL X) true) w (.ok d S) Q := po
    rcases mulD_inv hb with ⟨i, j, rfl, rfl, q, rfl⟩ | ⟨xs, k, rfl, rfl, q, rfl⟩ | ⟨xs, k, e1, rfl, q, rfl⟩
    · exact op_mulA pins s σ _ x y v u Q I rx ry ⟨i, j, vint hx, vint hy, mulOk_ok q, po_int ss po'⟩
    · obtain ⟨a, vs, ea, ha, ra⟩ := tup_rel hx
      refine op_repA pins s σ _ x y v u Q I rx ry ⟨a, k, vs, ea, vint hy, ha, q.1, q.2.1, by rw [ra.length]; exact q.2.2, fun z => ?_, fun _ _ => po_tup ss po' (ra.rep _)⟩
      refine po_val ss po' (.inr rfl) ?_
      rw [← ea]
      rcases z with z | z
      · subst z
        have : xs = [] := by have := ra.length; simpa using this.symm
        subst this
        have e : rep k.toNat ([] : List D) = [] := by unfold rep; simp
        rw [e]; exact hx
      · subst z
        have e : rep (1 : Int).toNat xs = xs := by unfold rep; simp
        rw [e]; exact hx
    · obtain ⟨a, vs, ea, ha, ra⟩ := lst_rel ss hx e1
      have hl : (1000000 : Nat) ≤ sizeLine := by rw [sizeLine_eq]; omega
      exact op_rep pins s σ _ x y v u Q I rx ry ⟨a, k, vs, ea, vint hy, ha, by omega, by omega, by rw [ra.length]; omega, po_lst ss po' (ra.rep _)⟩
theorem sb_int {op : Operator} {f : Int → Int → Option Int} (rule : ∀ (i j k : Int) (t u : Tok) (s : Shared) (Q : Value → Shared → Prop) (E : Value → Shared → Prop), f i j = some k → Q (.int k s.toks) { s with toks := s.toks + 1 } → wpAny (model X.prog X.w) X.A (binaryOp op (.int i t) (.int j u)) Q E s) :
    OpR X (binaryOp op) (rB (kt CL X) E B fun _ => intD f) := by
  intro pins s σ H x y v u Q I rx ry ⟨w, S, dx, dy, hH, ss, hx, hy, po⟩
  subst hH
  cases hb : intD f dx dy with
  | none => simp only [hb] at po; exact po.elim
  | some d =>
    simp only [hb] at po
    have po' : Po (kt CL X) E B (rlD (kt CL X) true) w (.ok d S) Q := po
    unfold intD at hb
    split at hb
    · rename_i i j
      cases hf : f i j with
      | none => rw [hf] at hb; cases hb
      | some k =>
        rw [hf] at hb
        cases hb
        have e1 := vint hx
        have e2 := vint hy
        subst e1 e2
        obtain ⟨t, rfl⟩ := rx
        obtain ⟨t', rfl⟩ := ry
        exact rule i j k t t' s _ _ hf ⟨.int k, w.H, I.tok _, ⟨_, rfl⟩, po_int ss po'⟩
    · cases hb
theorem sb_bin (op : Operator) : OpR X (binaryOp op) (rB (kt CL X) E B (binD op)) := by
  have no : ∀ {op}, (∀ S x y, binD op S x y = none) → OpR X (binaryOp op) (rB (kt CL X) E B (binD op)) := fun {op} hn => by
    intro pins s σ H x y v u Q I rx ry ⟨w, S, dx, dy, hH, ss, hx, hy, po⟩
    rw [hn] at po
    exact po.elim
  cases op with
  | Add => exact sb_add
  | Mult => exact sb_mul
  | Sub =>
    refine sb_int fun i j k _ _ _ _ _ hf h => ?_
    cases hf; exact sub_int h
  | FloorDiv =>
    refine sb_int fun i j k _ _ _ _ _ hf h => ?_
    split at hf
    · cases hf
    · rename_i n
      cases hf
      rw [not_or] at n
      exact floordiv_int n.1 h (.inl (by simpa using n.2))
  | Mod =>
    refine sb_int fun i j k _ _ _ _ _ hf h => ?_
    split at hf
    · cases hf
    · rename_i n
      cases hf
      exact mod_int' n h
  | Pow =>
    refine sb_int fun i j k _ _ _ _ _ hf h => ?_
    split at hf
    · rename_i n
      cases hf
      exact pow_int_small n.1 n.2.1 n.2.2 h
    · cases hf
  | MatMult => exact no fun _ _ _ => rfl
  | Div => exact no fun _ _ _ => rfl
  | LShift => exact no fun _ _ _ => rfl
  | RShift => exact no fun _ _ _ => rfl
  | BitOr => exact no fun _ _ _ => rfl
  | BitXor => exact no fun _ _ _ => rfl
  | BitAnd => exact no fun _ _ _ => rfl

mutual
theorem dp_of {C : Kt} {w : Wd} : ∀ (d : D) (v : V) (p : PyData), VR C w d v → d.toPy = some p → Dp C.K w.H v p
  | .non, v, p, h, e => by cases vnon h; cases e; exact .non
  | .bl b, v, p, h, e => by cases vbl h; cases e; exact .bl b
  | .int b, v, p, h, e => by cases vint h; cases e; exact .int b
  | .str b, v, p, h, e => by cases vstr h; cases e; exact .str b
  | .tup xs, v, p, h, e => by
    unfold VR at h
    obtain ⟨a, vs, rfl, h1, h2⟩ := h
    unfold D.toPy at e
    cases q : D.toPys xs with
    | none => rw [q] at e; cases e
    | some ps => rw [q] at e; cases e; exact .tup h1 (dps_of xs vs ps h2 q)
  | .lst xs, v, p, h, e => by
    unfold VR at h
    obtain ⟨a, vs, rfl, _, h1, h2⟩ := h
    unfold D.toPy at e
    cases q : D.toPys xs with
    | none => rw [q] at e; cases e
    | some ps => rw [q] at e; cases e; exact .lst (SqL.of h1) (dps_of xs vs ps h2 q)
  | .dct _ _, v, p, h, e => by cases e
  | .ins _ _ _, v, p, h, e => by cases e
  | .obj _, v, p, h, e => by cases e
  | .glob _, v, p, h, e => by cases e
  | .ty _, v, p, h, e => by cases e
  | .lam _ _, v, p, h, e => by cases e
  | .clo _ _, v, p, h, e => by cases e
  | .scr _, v, p, h, e => by cases e
theorem dps_of {C : Kt} {w : Wd} : ∀ (ds : List D) (vs : List V) (ps : List PyData), VRs C w ds vs → D.toPys ds = some ps → DpAll C.K w.H vs ps
  | [], vs, ps, h, e => by
    have := h.inv0
    subst this
    unfold D.toPys at e; cases e; exact .nil
  | d :: ds, vs, ps, h, e => by
    obtain ⟨v, r, rfl, h1, h2⟩ := h.inv
    unfold D.toPys at e
    split at e
    · rename_i p ps' e1 e2
      cases e
      exact .cons (dp_of d v p h1 e1) (dps_of ds r ps' h2 e2)
    · cases e
end
theorem dp_flat {C : Kt} {B : Nat → Prop} {S : Store} {w : Wd} (s : SS C B S w) {d : D} {v : V} {p : PyData} (h : VR C w d v) (e : (flat1 S d).toPy = some p) : Dp C.K w.H v p := by
  unfold flat1 at e
  split at e
  · rename_i xs hx
    obtain ⟨a, vs, rfl, h1, h2⟩ := lst_rel s h hx
    unfold D.toPy at e
    cases q : D.toPys xs with
    | none => rw [q] at e; cases e
    | some ps => rw [q] at e; cases e; exact .lst (SqL.of h1) (dps_of xs vs ps h2 q)
  · exact dp_of d v p h e
theorem vne {C : Kt} {w : Wd} : ∀ {d : D} {v : V}, VR C w d v → (v = .non ↔ d = .non)
  | .non, v, h => by cases vnon h; simp
  | .bl _, v, h => by cases vbl h; simp
  | .int _, v, h => by cases vint h; simp
  | .str _, v, h => by cases vstr h; simp
  | .tup _, v, h => by unfold VR at h; obtain ⟨a, _, rfl, _⟩ := h; simp
  | .lst _, v, h => by unfold VR at h; obtain ⟨a, _, rfl, _⟩ := h; simp
  | .scr _, v, h => by unfold VR at h; obtain ⟨a, _, rfl, _⟩ := h; simp
  | .dct _ _, v, h => by unfold VR at h; obtain ⟨a, _, rfl, _⟩ := h; simp
  | .ins _ _ _, v, h => by unfold VR at h; obtain ⟨a, _, _, _, rfl, _⟩ := h; simp
  | .obj _, v, h => by unfold VR at h; obtain ⟨a, rfl, _⟩ := h; simp
  | .glob _, v, h => by unfold VR at h; obtain ⟨a, rfl, _⟩ := h; simp
  | .ty _, v, h => by unfold VR at h; subst h; simp
  | .lam _ _, v, h => by unfold VR at h; obtain ⟨f, c', cl, t, rfl, _⟩ := h; simp
  | .clo _ _, v, h => by unfold VR at h; obtain ⟨f, c', cl, t, js, vs, rfl, _⟩ := h; simp

/-- a comparison -/
def rCm (C : Kt) (B : Nat → Prop) (f : Store → D → D → Option Bool) : R2 := fun x y H Q =>
  ∃ w S dx dy, w.H = H ∧ SS C B S w ∧ VR C w dx x ∧ VR C w dy y ∧ ∃ c, f S dx dy = some c ∧ Q (.bl c) H
theorem flatV_of {C : Kt} {w : Wd} {d : D} {v : V} (h : VR C w d v) (f : flatD d = true) : flatV v = true := by
  cases d with
  | non => cases vnon h; rfl
  | bl _ => cases vbl h; rfl
  | int _ => cases vint h; rfl
  | str _ => cases vstr h; rfl
  | _ => cases f
theorem flatVs_of {C : Kt} {w : Wd} : ∀ {ds : List D} {vs : List V}, VRs C w ds vs → ds.all flatD = true → vs.all flatV = true
  | [], vs, h, _ => by have := h.inv0; subst this; rfl
  | d :: ds, vs, h, f => by
    obtain ⟨v, r, rfl, h1, h2⟩ := h.inv
    rw [List.all_cons, Bool.and_eq_true] at f ⊢
    exact ⟨flatV_of h1 f.1, flatVs_of h2 f.2⟩
theorem eqF_of {C : Kt} {w : Wd} {d e : D} {v u : V} (h : VR C w d v) (k : VR C w e u) (f : flatD d = true) (g : flatD e = true) : eqV v u = eqF d e := by
  cases d with
  | non => cases vnon h; cases e <;> first | (cases g; done) | (first | cases vnon k | cases vbl k | cases vint k | cases vstr k) <;> rfl
  | bl _ => cases vbl h; cases e <;> first | (cases g; done) | (first | cases vnon k | cases vbl k | cases vint k | cases vstr k) <;> rfl
  | int _ => cases vint h; cases e <;> first | (cases g; done) | (first | cases vnon k | cases vbl k | cases vint k | cases vstr k) <;> rfl
  | str _ => cases vstr h; cases e <;> first | (cases g; done) | (first | cases vnon k | cases vbl k | cases vint k | cases vstr k) <;> rfl
  | _ => cases f
theorem inV_of {C : Kt} {w : Wd} {d : D} {v : V} (h : VR C w d v) (f : flatD d = true) : ∀ {ds : List D} {vs : List V}, VRs C w ds vs → ds.all flatD = true → inV v vs = ds.any fun z => eqF z d
  | [], vs, r, _ => by have := r.inv0; subst this; rfl
  | e :: ds, vs, r, g => by
    obtain ⟨u, r', rfl, h1, h2⟩ := r.inv
    rw [List.all_cons, Bool.and_eq_true] at g
    show (eqV u v || inV v r') = _
    rw [eqF_of h1 h g.1 f, inV_of h f h2 g.2]; rfl
section
variable {CL : List String × List (String × String) × Lx} {X : Cx} {B : Nat → Prop}
theorem sc_ord {op : CmpOp} {f : Int → Int → Bool} (h : OpR X (compareOp op) (rI0 fun i j => .bl (f i j))) : OpR X (compareOp op) (rCm (kt CL X) B fun _ => ordD f) := by
  intro pins s σ H x y v u Q I rx ry ⟨w, S, dx, dy, hH, ss, hx, hy, c, hc, q⟩
  subst hH
  have hc : ordD f dx dy = some c := hc
  unfold ordD at hc
  split at hc
  · cases hc
    exact h pins s σ _ x y v u Q I rx ry ⟨_, _, vint hx, vint hy, q⟩
  · cases hc
theorem isD_inv {x y : D} {c : Bool} (h : isD x y = some c) : (y = .non ∧ c = isNon x) ∨ ∃ a b, x = .bl a ∧ y = .bl b ∧ c = decide (a = b) := by
  unfold isD at h
  split at h
  · cases h; exact .inl ⟨rfl, rfl⟩
  · cases h; exact .inr ⟨_, _, rfl, rfl, rfl⟩
  · cases h
theorem isNon_of {C : Kt} {w : Wd} {d : D} {v : V} (h : VR C w d v) : decide (v = .non) = isNon d := by
  have q := vne h
  cases d <;> simp [isNon, q]
theorem sc_is : OpR X (compareOp .Is) (rCm (kt CL X) B fun _ => isD) := by
  intro pins s σ H x y v u Q I rx ry ⟨w, S, dx, dy, hH, ss, hx, hy, c, hc, q⟩
  subst hH
  rcases isD_inv hc with ⟨rfl, rfl⟩ | ⟨a, b, rfl, rfl, rfl⟩
  · exact op_isN pins s σ _ x y v u Q I rx ry ⟨vnon hy, by rw [isNon_of hx]; exact q⟩
  · exact op_isBl pins s σ _ x y v u Q I rx ry ⟨a, b, vbl hx, vbl hy, q⟩
theorem sc_isnot : OpR X (compareOp .IsNot) (rCm (kt CL X) B fun _ x y => (isD x y).map (!·)) := by
  intro pins s σ H x y v u Q I rx ry ⟨w, S, dx, dy, hH, ss, hx, hy, c, hc, q⟩
  subst hH
  cases hd : isD dx dy with
  | none => simp only [hd] at hc; cases hc
  | some k =>
    simp only [hd] at hc
    cases hc
    rcases isD_inv hd with ⟨rfl, rfl⟩ | ⟨a, b, rfl, rfl, rfl⟩
    · exact op_notN pins s σ _ x y v u Q I rx ry ⟨vnon hy, by rw [isNon_of hx]; exact q⟩
    · exact op_notBl pins s σ _ x y v u Q I rx ry ⟨a, b, vbl hx, vbl hy, q⟩
theorem eqG_inv {S : Store} {x y : D} {c : Bool} (h : eqG S x y = some c) : ∃ p q, (flat1 S x).toPy = some p ∧ (flat1 S y).toPy = some q ∧ SeqAt.shaped p = true ∧ SeqAt.shaped q = true ∧ c = PyData.eqv p q := by
  unfold eqG at h
  split at h
  · split at h
    · rename_i p q e1 e2 g
      rw [Bool.and_eq_true] at g
      cases h
      exact ⟨p, q, e1, e2, g.1, g.2, rfl⟩
    · cases h
  · cases h
theorem eqD_cases (S : Store) (x y : D) : (∃ a b, x = .str a ∧ y = .str b) ∨ (∃ a b, x = .int a ∧ y = .int b) ∨ eqD S x y = eqG S x y := by
  cases x with
  | int a => cases y with
    | int b => exact .inr (.inl ⟨a, b, rfl, rfl⟩)
    | _ => exact .inr (.inr rfl)
  | str a => cases y with
    | str b => exact .inl ⟨a, b, rfl, rfl⟩
    | _ => exact .inr (.inr rfl)
  | _ => exact .inr (.inr rfl)
theorem sc_eq (hu : X.A.units + 64 < cLine) : OpR X (compareOp .Eq) (rCm (kt CL X) B eqD) := by
  intro pins s σ H x y v u Q I rx ry ⟨w, S, dx, dy, hH, ss, hx, hy, c, hc, q⟩
  subst hH
  rcases eqD_cases S dx dy with ⟨a, b, rfl, rfl⟩ | ⟨a, b, rfl, rfl⟩ | e
  · cases vstr hx; cases vstr hy
    cases hc
    exact op_eq pins s σ _ _ _ v u Q I rx ry ⟨rfl, by simpa using q⟩
  · cases vint hx; cases vint hy
    cases hc
    exact op_eq pins s σ _ _ _ v u Q I rx ry ⟨rfl, by simpa using q⟩
  · rw [e] at hc
    obtain ⟨p, p', e1, e2, s1, s2, rfl⟩ := eqG_inv hc
    exact op_eqD hu pins s σ _ x y v u Q I rx ry ⟨p, p', dp_flat ss hx e1, dp_flat ss hy e2, s1, s2, q⟩
theorem sc_ne (hu : X.A.units + 64 < cLine) : OpR X (compareOp .NotEq) (rCm (kt CL X) B fun S x y => (eqD S x y).map (!·)) := by
  intro pins s σ H x y v u Q I rx ry ⟨w, S, dx, dy, hH, ss, hx, hy, c, hc, q⟩
  subst hH
  rcases eqD_cases S dx dy with ⟨a, b, rfl, rfl⟩ | ⟨a, b, rfl, rfl⟩ | e
  · cases vstr hx; cases vstr hy
    cases hc
    exact op_ne pins s σ _ _ _ v u Q I rx ry ⟨rfl, by simpa using q⟩
  · cases vint hx; cases vint hy
    cases hc
    exact op_ne pins s σ _ _ _ v u Q I rx ry ⟨rfl, by simpa using q⟩
  · simp only [e] at hc
    cases hd : eqG S dx dy with
    | none => simp only [hd] at hc; cases hc
    | some k =>
      simp only [hd] at hc
      cases hc
      obtain ⟨p, p', e1, e2, s1, s2, rfl⟩ := eqG_inv hd
      exact op_neD hu pins s σ _ x y v u Q I rx ry ⟨p, p', dp_flat ss hx e1, dp_flat ss hy e2, s1, s2, q⟩
theorem inD_inv {S : Store} {x y : D} {c : Bool} (h : inD S x y = some c) : ∃ ys, seqOf S y = some ys ∧
    ((flatD x = true ∧ ys.all flatD = true ∧ c = ys.any fun z => eqF z x) ∨
     (∃ zs p ps, lstOf S y = some zs ∧ x.toPy = some p ∧ D.toPys ys = some ps ∧ SeqAt.shaped p = true ∧ SeqAt.shaped (.list ps) = true ∧ c = ps.any fun z => PyData.eqv z p)) := by
  unfold inD at h
  split at h
  · cases h
  · rename_i ys e
    split at h
    · rename_i g
      rw [Bool.and_eq_true] at g
      cases h
      exact ⟨ys, e, .inl ⟨g.1, g.2, rfl⟩⟩
    · split at h
      · split at h
        · rename_i zs p ps e1 e2 e3 g
          rw [Bool.and_eq_true] at g
          cases h
          exact ⟨ys, e, .inr ⟨zs, p, ps, e1, e2, e3, g.1, g.2, rfl⟩⟩
        · cases h
      · cases h
theorem seq_lst {S : Store} {y : D} {ys zs : List D} (h : lstOf S y = some zs) (k : seqOf S y = some ys) : zs = ys := by
  cases y with
  | lst xs => simp [lstOf] at h; simp [seqOf] at k; rw [← h, ← k]
  | obj n =>
    simp only [lstOf] at h
    simp only [seqOf] at k
    rw [h] at k
    exact Option.some.inj k
  | _ => simp [lstOf] at h
theorem sc_in' (hu : X.A.units + 65 < cLine) {neg : Bool} {op : CmpOp} (h1 : OpR X (compareOp op) (rIn X.K neg))
    (h2 : OpR X (compareOp op) (fun x y H Q => ∃ d ds, Dp X.K H x d ∧ Dp X.K H y (.list ds) ∧ SeqAt.shaped d = true ∧ SeqAt.shaped (.list ds) = true ∧ Q (.bl (if neg then !(ds.any fun z => PyData.eqv z d) else ds.any fun z => PyData.eqv z d)) H)) :
    OpR X (compareOp op) (rCm (kt CL X) B fun S x y => (inD S x y).map fun b => if neg then !b else b) := by
  intro pins s σ H x y v u Q I rx ry ⟨w, S, dx, dy, hH, ss, hx, hy, c, hc, q⟩
  subst hH
  cases hd : inD S dx dy with
  | none => simp only [hd] at hc; cases hc
  | some k =>
    simp only [hd] at hc
    cases hc
    obtain ⟨ys, ey, z⟩ := inD_inv hd
    rcases z with ⟨f1, f2, rfl⟩ | ⟨zs, p, ps, e1, e2, e3, g1, g2, rfl⟩
    · obtain ⟨a, vs, ea, ha, ra⟩ := seq_rel ss hy ey
      refine h1 pins s σ _ x y v u Q I rx ry ⟨a, vs, ea, ha, flatV_of hx f1, flatVs_of ra f2, ?_⟩
      rw [inV_of hx f1 ra f2]; exact q
    · obtain ⟨a, vs, ea, ha, ra⟩ := lst_rel ss hy e1
      have := seq_lst e1 ey
      subst this
      exact h2 pins s σ _ x y v u Q I rx ry ⟨p, ps, dp_of dx x p hx e2, by rw [ea]; exact .lst (SqL.of ha) (dps_of _ _ _ ra e3), g1, g2, q⟩
theorem sc_in (hu : X.A.units + 65 < cLine) : OpR X (compareOp .In) (rCm (kt CL X) B inD) := by
  have h := sc_in' (CL := CL) (B := B) hu (neg := false) op_in_seq (fun pins s σ H x y v u Q I rx ry ⟨d, ds, a1, a2, a3, a4, q⟩ => op_inD hu pins s σ H x y v u Q I rx ry ⟨d, ds, a1, a2, a3, a4, q⟩)
  intro pins s σ H x y v u Q I rx ry ⟨w, S, dx, dy, hH, ss, hx, hy, c, hc, q⟩
  exact h pins s σ H x y v u Q I rx ry ⟨w, S, dx, dy, hH, ss, hx, hy, c, by simp [hc], q⟩
theorem sc_notin (hu : X.A.units + 65 < cLine) : OpR X (compareOp .NotIn) (rCm (kt CL X) B fun S x y => (inD S x y).map (!·)) :=
  sc_in' (CL := CL) (B := B) hu (neg := true) op_notIn_seq (fun pins s σ H x y v u Q I rx ry ⟨d, ds, a1, a2, a3, a4, q⟩ => op_notInD hu pins s σ H x y v u Q I rx ry ⟨d, ds, a1, a2, a3, a4, q⟩)
theorem sc_cmp (hu : X.A.units + 65 < cLine) (op : CmpOp) : OpR X (compareOp op) (rCm (kt CL X) B (cmpD op)) := by
  cases op with
  | Lt => exact sc_ord op_lt
  | LtE => exact sc_ord op_le
  | Gt => exact sc_ord op_gt
  | GtE => exact sc_ord op_ge
  | Is => exact sc_is
  | IsNot => exact sc_isnot
  | Eq => exact sc_eq (by omega)
  | NotEq => exact sc_ne (by omega)
  | In => exact sc_in hu
  | NotIn => exact sc_notin hu
/-- a one-place operation -/
def rUn (C : Kt) (E : XK) (B : Nat → Prop) (f : D → Option D) : V → Hp → VK → Prop := fun x H Q =>
  ∃ w S dx, w.H = H ∧ SS C B S w ∧ VR C w dx x ∧ Po C E B (rlD C false) w (R.of (f dx) S) Q
theorem su_un {E : XK} (op : UnaryOp) : UnR X (unaryOp op) (rUn (kt CL X) E B (unD op)) := by
  intro pins s σ H x v Q I rx ⟨w, S, dx, hH, ss, hx, po⟩
  subst hH
  cases op with
  | USub =>
    cases dx with
    | int i => exact un_neg pins s σ _ x v Q I rx ⟨i, vint hx, po_int ss po⟩
    | _ => exact po.elim
  | _ => exact po.elim
/-- a value's truth -/
def rTr (C : Kt) (B : Nat → Prop) : V → Hp → (Bool → Hp → Prop) → Prop := fun x H Q =>
  ∃ w S dx, w.H = H ∧ SS C B S w ∧ VR C w dx x ∧ ∃ c, truD S dx = some c ∧ Q c H
theorem truD_inv {S : Store} {x : D} {c : Bool} (h : truD S x = some c) : (x = .non ∧ c = false) ∨ (x = .bl c) ∨ (∃ i, x = .int i ∧ c = (i != 0)) ∨ (∃ s, x = .str s ∧ s.length ≤ sizeLine ∧ c = decide (s.length ≠ 0)) ∨ ∃ xs, seqOf S x = some xs ∧ c = !xs.isEmpty := by
  unfold truD at h
  split at h
  · cases h; exact .inl ⟨rfl, rfl⟩
  · cases h; exact .inr (.inl rfl)
  · cases h; exact .inr (.inr (.inl ⟨_, rfl, rfl⟩))
  · split at h
    · rename_i q
      cases h; exact .inr (.inr (.inr (.inl ⟨_, rfl, q, rfl⟩)))
    · cases h
  · cases e : seqOf S x with
    | none => rw [e] at h; cases h
    | some xs => rw [e] at h; cases h; exact .inr (.inr (.inr (.inr ⟨xs, rfl, rfl⟩)))
theorem st_tru : TruR X (rTr (kt CL X) B) := by
  intro pins s σ H x v Q I rx ⟨w, S, dx, hH, ss, hx, c, hc, q⟩
  subst hH
  refine tru_ok pins s σ _ x v Q I rx ⟨c, ?_, q⟩
  rcases truD_inv hc with ⟨rfl, rfl⟩ | rfl | ⟨i, rfl, rfl⟩ | ⟨i, rfl, hl, rfl⟩ | ⟨xs, e, rfl⟩
  · cases vnon hx; exact rfl
  · cases vbl hx; exact rfl
  · cases vint hx; exact rfl
  · cases vstr hx
    refine ⟨hl, ?_⟩
    by_cases hz : i.length = 0
    · rw [hz]; rfl
    · rw [decide_eq_true hz]
      symm
      exact bne_iff_ne.mpr (by omega)
  · obtain ⟨a, vs, rfl, ha, ra⟩ := seq_rel ss hx e
    have hl := ra.length
    have he : (!xs.isEmpty) = !vs.isEmpty := by
      cases xs <;> cases vs <;> simp at hl ⊢
    rw [he]
    rcases ha with ha | ha
    · exact .inl ⟨vs, ha, rfl⟩
    · exact .inr (.inl ⟨vs, ha, rfl⟩)

/-! ### subscripts, slices -/
section
variable {CL : List String × List (String × String) × Lx} {X : Cx} {E : XK} {B : Nat → Prop}
theorem atI_rel {C : Kt} {w : Wd} {ds : List D} {vs : List V} {i : Int} {d : D} (r : VRs C w ds vs) (h : atI ds i = some d) : ∃ v, atI vs i = some v ∧ VR C w d v := by
  unfold atI at h ⊢
  rw [r.length]
  cases e : ixN ds.length i with
  | none => rw [e] at h; cases h
  | some j =>
    rw [e] at h
    exact r.get h
/-- x[y] -/
def rIx' (C : Kt) (E : XK) (B : Nat → Prop) : R2 := fun x y H Q =>
  ∃ w S dx dy, w.H = H ∧ SS C B S w ∧ VR C w dx x ∧ VR C w dy y ∧ Po C E B (rlD C false) w (R.of (ixD S dx dy) S) Q
theorem ixD_inv {S : Store} {x y d : D} (h : ixD S x y = some d) :
    (∃ xs i, seqOf S x = some xs ∧ y = .int i ∧ atI xs i = some d) ∨ (∃ s i c, x = .str s ∧ y = .int i ∧ s.length ≤ sizeLine ∧ atI s.cps.toList i = some c ∧ d = .str ⟨#[c]⟩) ∨
    (∃ ks vs k, dctOf S x = some (ks, vs) ∧ keyOf y = some k ∧ look k ks vs = some d) := by
  unfold ixD at h
  split at h
  · rename_i xs i e
    exact .inl ⟨xs, i, e, rfl, h⟩
  · split at h
    · rename_i s i _
      split at h
      · rename_i hl
        cases e : atI s.cps.toList i with
        | none => rw [e] at h; cases h
        | some c => rw [e] at h; cases h; exact .inr (.inl ⟨s, i, c, rfl, rfl, hl, e, rfl⟩)
      · cases h
    · split at h
      · rename_i ks vs k e1 e2
        exact .inr (.inr ⟨ks, vs, k, e1, e2, h⟩)
      · cases h
theorem dct_rel {C : Kt} {S : Store} {w : Wd} (s : SS C B S w) {d : D} {v : V} {ks : List Key} {ds : List D} (h : VR C w d v) (e : dctOf S d = some (ks, ds)) : ∃ a vs, v = .ref a ∧ w.H a = some (.dK (ks.zip vs)) ∧ VRs C w ds vs ∧ ks.length = ds.length := by
  cases d with
  | dct ks' ds' =>
    unfold VR at h
    obtain ⟨a, vs, e1, _, h1, h2, h3⟩ := h
    simp [dctOf] at e
    obtain ⟨rfl, rfl⟩ := e
    exact ⟨a, vs, e1, h1, h2, h3⟩
  | obj n =>
    unfold VR at h
    obtain ⟨a, e1, h1⟩ := h
    simp only [dctOf] at e
    cases hc : S[n]? with
    | none => rw [hc] at e; simp at e
    | some c =>
      rw [hc] at e
      cases c with
      | dct ks' ds' =>
        simp at e
        obtain ⟨rfl, rfl⟩ := e
        obtain ⟨vs, q1, q2, q3⟩ := s.cell n _ a hc h1
        exact ⟨a, vs, e1, q1, q2, q3⟩
      | _ => simp at e
  | _ => simp [dctOf] at e
theorem ins_rel {C : Kt} {S : Store} {w : Wd} (s : SS C B S w) {d : D} {v : V} {c : String} {ns : List String} {ds : List D} (h : VR C w d v) (e : insOf S d = some (c, ns, ds)) :
    ∃ a cl dx vs, v = .ref a ∧ C.isC c cl ∧ w.H a = some (.ins cl dx ((ns.map Str.ofString).zip vs)) ∧ w.H dx = some (.own a) ∧ VRs C w ds vs ∧ ns.length = ds.length ∧ C.isF c ns := by
  cases d with
  | ins c' ns' ds' =>
    unfold VR at h
    obtain ⟨a, cl, dx, vs, e1, _, hc, h1, ho, h2, h3⟩ := h
    simp [insOf] at e
    obtain ⟨rfl, rfl, rfl⟩ := e
    exact ⟨a, cl, dx, vs, e1, hc, h1, ho, h2, h3⟩
  | obj n =>
    unfold VR at h
    obtain ⟨a, e1, h1⟩ := h
    simp only [insOf] at e
    cases hc : S[n]? with
    | none => rw [hc] at e; simp at e
    | some c0 =>
      rw [hc] at e
      cases c0 with
      | ins c' ns' ds' =>
        simp at e
        obtain ⟨rfl, rfl, rfl⟩ := e
        obtain ⟨cl, dx, vs, q1, q2, q3, q4, q5⟩ := s.cell n _ a hc h1
        exact ⟨a, cl, dx, vs, e1, q1, q2, q3, q4, q5⟩
      | _ => simp at e
  | _ => simp [insOf] at e
theorem key_rel {C : Kt} {w : Wd} {d : D} {v : V} {k : Key} (h : VR C w d v) (e : keyOf d = some k) : v = kV k := by
  cases d with
  | int i => cases vint h; cases e; rfl
  | str i => cases vstr h; cases e; rfl
  | _ => cases e
end
end
end
end Pi
end

section
/-! PiOps2: subscripts, slices, fields, stores, built-in functions and methods. -/
namespace Pi
open PySem PySem.Spec PyProof.Rows L2

theorem ofS_inj {a b : String} (h : Str.ofString a = Str.ofString b) : a = b := by
  rw [Str.ofString_eq_toList, Str.ofString_eq_toList] at h
  have h1 := congrArg (fun x : Str => x.cps.toList) h
  simp only [List.toList_toArray] at h1
  have h2 : a.toList = b.toList := by
    have inj : ∀ (l m : List Char), l.map Char.toNat = m.map Char.toNat → l = m := by
      intro l
      induction l with
      | nil => intro m h; cases m with
        | nil => rfl
        | cons _ _ => simp at h
      | cons c l ih => intro m h; cases m with
        | nil => simp at h
        | cons d m =>
          simp only [List.map_cons, List.cons.injEq] at h
          have : c = d := Char.toNat_inj.mp h.1
          rw [this, ih m h.2]
    exact inj _ _ h1
  exact String.toList_inj.mp h2
theorem look_dict {C : Kt} {w : Wd} {k : Key} : ∀ {ks : List Key} {ds : List D} {vs : List V} {d : D}, VRs C w ds vs → look k ks ds = some d → ∃ v, valV (ks.zip vs) k = some v ∧ VR C w d v
  | [], _, _, _, _, h => by simp [look] at h
  | a :: ks, [], _, _, _, h => by simp [look] at h
  | a :: ks, d' :: ds, vs, d, r, h => by
    obtain ⟨v, r', rfl, h1, h2⟩ := r.inv
    unfold look at h
    rw [List.zip_cons_cons]
    by_cases e : a = k
    · rw [if_pos e] at h
      cases h
      exact ⟨v, valV_pos e, h1⟩
    · rw [if_neg e] at h
      rw [valV_neg e]
      exact look_dict h2 h
theorem look_fld {C : Kt} {w : Wd} {k : String} : ∀ {ks : List String} {ds : List D} {vs : List V} {d : D}, VRs C w ds vs → look k ks ds = some d → ∃ v, ((ks.map Str.ofString).zip vs).lookup (Str.ofString k) = some v ∧ VR C w d v
  | [], _, _, _, _, h => by simp [look] at h
  | a :: ks, [], _, _, _, h => by simp [look] at h
  | a :: ks, d' :: ds, vs, d, r, h => by
    obtain ⟨v, r', rfl, h1, h2⟩ := r.inv
    unfold look at h
    rw [List.map_cons, List.zip_cons_cons, List.lookup_cons]
    by_cases e : a = k
    · rw [if_pos e] at h
      cases h
      subst e
      rw [beq_self_eq_true]
      exact ⟨v, rfl, h1⟩
    · rw [if_neg e] at h
      have : (Str.ofString k == Str.ofString a) = false := beq_eq_false_iff_ne.mpr fun z => e (ofS_inj z).symm
      rw [this]
      exact look_fld h2 h
theorem put_fld {C : Kt} {w : Wd} {k : String} {d : D} {v : V} (hv : VR C w d v) : ∀ {ks : List String} {ds : List D} {vs : List V}, VRs C w ds vs → ks.length = ds.length →
    ∃ vs', putF (Str.ofString k) v ((ks.map Str.ofString).zip vs) = ((put k d ks ds).1.map Str.ofString).zip vs' ∧ VRs C w (put k d ks ds).2 vs' ∧ (put k d ks ds).1.length = (put k d ks ds).2.length
  | [], ds, vs, r, hl => by
    have : ds = [] := by cases ds with
      | nil => rfl
      | cons _ _ => simp at hl
    subst this
    have := r.inv0
    subst this
    exact ⟨[v], by simp [put, putF], .cons hv .nil, rfl⟩
  | a :: ks, [], vs, r, hl => by simp at hl
  | a :: ks, d' :: ds, vs, r, hl => by
    obtain ⟨u, r', rfl, h1, h2⟩ := r.inv
    rw [List.map_cons, List.zip_cons_cons]
    unfold putF put
    by_cases e : a = k
    · subst e
      rw [if_pos rfl, if_pos rfl]
      exact ⟨v :: r', by simp, .cons hv h2, hl⟩
    · have e' : ¬ Str.ofString a = Str.ofString k := fun z => e (ofS_inj z)
      rw [if_neg e, if_neg e']
      obtain ⟨vs', q1, q2, q3⟩ := put_fld (k := k) hv h2 (by simpa using hl)
      refine ⟨u :: vs', ?_, .cons h1 q2, by simp [q3]⟩
      rw [q1]; simp
theorem put_dct {C : Kt} {w : Wd} {k : Key} {d : D} {v : V} (hv : VR C w d v) {ks : List Key} {ds : List D} {vs : List V} (r : VRs C w ds vs) (hl : ks.length = ds.length) :
    ∃ vs', putK (ks.zip vs) k v = (putD k d ks ds).1.zip vs' ∧ VRs C w (putD k d ks ds).2 vs' ∧ (putD k d ks ds).1.length = (putD k d ks ds).2.length := by
  have rl := r.length
  have ha : ((ks.zip vs).any fun kv => decide (kv.1 = k)) = ks.any fun a => decide (a = k) := by
    have : ∀ (ks : List Key) (vs : List V), ks.length = vs.length → ((ks.zip vs).any fun kv => decide (kv.1 = k)) = ks.any fun a => decide (a = k) := by
      intro ks
      induction ks with
      | nil => intro vs _; rfl
      | cons a ks ih => intro vs h; cases vs with
        | nil => simp at h
        | cons v vs => rw [List.zip_cons_cons, List.any_cons, List.any_cons, ih vs (by simpa using h)]
    exact this ks vs (by omega)
  unfold putK putD
  rw [ha]
  by_cases q : (ks.any fun a => decide (a = k)) = true
  · rw [if_pos q, if_pos q]
    have : ∀ (ks : List Key) (ds : List D) (vs : List V), VRs C w ds vs → ks.length = ds.length → ∃ vs', (ks.zip vs).map (fun kv => if kv.1 = k then (kv.1, v) else kv) = ks.zip vs' ∧ VRs C w ((ks.zip ds).map fun p => if p.1 = k then d else p.2) vs' := by
      intro ks
      induction ks with
      | nil => intro ds vs r h; exact ⟨[], rfl, .nil⟩
      | cons a ks ih => intro ds vs r h; cases ds with
        | nil => simp at h
        | cons d' ds =>
          obtain ⟨u, r', rfl, h1, h2⟩ := r.inv
          obtain ⟨vs', q1, q2⟩ := ih ds r' h2 (by simpa using h)
          by_cases e : a = k
          · refine ⟨v :: vs', ?_, ?_⟩
            · simp only [List.zip_cons_cons, List.map_cons, q1, if_pos e]
            · simp only [List.zip_cons_cons, List.map_cons, if_pos e]; exact .cons hv q2
          · refine ⟨u :: vs', ?_, ?_⟩
            · simp only [List.zip_cons_cons, List.map_cons, q1, if_neg e]
            · simp only [List.zip_cons_cons, List.map_cons, if_neg e]; exact .cons h1 q2
    obtain ⟨vs', q1, q2⟩ := this ks ds vs r hl
    exact ⟨vs', q1, q2, by show ks.length = _; rw [List.length_map, List.length_zip]; omega⟩
  · rw [if_neg q, if_neg q]
    refine ⟨vs ++ [v], ?_, r.append (.cons hv .nil), by simp [hl]⟩
    rw [List.zip_append (by omega)]; rfl

section
variable {CL : List String × List (String × String) × Lx} {X : Cx} {E : XK} {B : Nat → Prop}
theorem si_ix (hu : X.A.units + 1 < cLine) : IxR X (rIx' (kt CL X) E B) := by
  intro value slice pins s σ H x y v u Q I rx ry ⟨w, S, dx, dy, hH, ss, hx, hy, po⟩ hs
  subst hH
  cases hb : ixD S dx dy with
  | none => rw [hb] at po; exact po.elim
  | some d =>
    rw [hb] at po
    have po' : Po (kt CL X) E B (rlD (kt CL X) false) w (.ok d S) Q := po
    rcases ixD_inv hb with ⟨xs, i, e, rfl, e2⟩ | ⟨z, i, c, rfl, rfl, hl, e2, rfl⟩ | ⟨ks, vs, k, e, e2, e3⟩
    · obtain ⟨a, vs, rfl, ha, ra⟩ := seq_rel ss hx e
      obtain ⟨r, h1, h2⟩ := atI_rel ra e2
      refine ix_seq value slice pins s σ _ _ y v u Q I rx ry ?_ hs
      have q := po_val ss po' (.inl rfl) h2
      rcases ha with ha | ha
      · exact .inl ⟨a, vs, i, r, rfl, vint hy, ha, h1, q⟩
      · exact .inr (.inl ⟨a, vs, i, r, rfl, vint hy, ha, h1, q⟩)
    · exact ix_seq value slice pins s σ _ _ y v u Q I rx ry (.inr (.inr ⟨z, i, c, vstr hx, vint hy, hl, e2, po_str ss po'⟩)) hs
    · obtain ⟨a, us, rfl, ha, ra, rl⟩ := dct_rel ss hx e
      obtain ⟨r, h1, h2⟩ := look_dict ra e3
      have q := po_val ss po' (.inl rfl) h2
      cases rx
      have g : DGet w.H a y (some r) := by
        rw [key_rel hy e2, ← h1]; exact DGet.k ha
      exact tail_any (dict_typeIs I g) PySem.F.slot_dict_getitem.lookup (d_getItem hu I g ry fun w' s3 I3 rw' => ⟨r, w.H, I3, rw', q⟩) hs
/-- a slice -/
def rSl' (C : Kt) (E : XK) (B : Nat → Prop) : V → Option Int → Option Int → Hp → VK → Prop := fun x lo hi H Q =>
  ∃ w S dx, w.H = H ∧ SS C B S w ∧ VR C w dx x ∧ Po C E B (rlD C true) w (R.of (slD S dx lo hi) S) Q
theorem cut_rel {C : Kt} {w : Wd} {ds : List D} {vs : List V} (lo hi : Option Int) (r : VRs C w ds vs) : VRs C w (cutD ds lo hi) (cutV vs lo hi) := by
  unfold cutD cutV
  rw [r.length]
  exact (r.drop _).take _
theorem cut_whole {ds : List D} {lo hi : Option Int} (h : HT.sIx ds.length 0 lo = 0 ∧ HT.sIx ds.length ds.length hi = ds.length) : cutD ds lo hi = ds := by
  unfold cutD
  rw [h.1, h.2]
  simp
theorem ss_sl : SlR X (rSl' (kt CL X) E B) := by
  intro pins s σ H x v vl vu lo hi sl Q I rx hs pl pu ⟨w, S, dx, hH, ss, hx, po⟩
  subst hH
  unfold slD at po
  split at po
  · rename_i xs
    obtain ⟨a, vs, ea, ha, ra⟩ := tup_rel hx
    have po' : Po (kt CL X) E B (rlD (kt CL X) true) w (.ok (.tup (cutD xs lo hi)) S) Q := po
    refine sl_tupA pins s σ _ x v vl vu lo hi sl Q I rx hs pl pu ⟨a, vs, ea, ha, fun z => ?_, fun z => po_tup ss po' (cut_rel lo hi ra)⟩
    rw [ra.length] at z
    rw [cut_whole z] at po'
    exact po_val ss po' (.inr rfl) (by rw [← ea]; exact hx)
  · cases e : lstOf S dx with
    | none => rw [e] at po; exact po.elim
    | some xs =>
      rw [e] at po
      have po' : Po (kt CL X) E B (rlD (kt CL X) true) w (.ok (.lst (cutD xs lo hi)) S) Q := po
      obtain ⟨a, vs, ea, ha, ra⟩ := lst_rel ss hx e
      exact sl_list pins s σ _ x v vl vu lo hi sl Q I rx hs pl pu ⟨a, vs, ea, SqL.of ha, po_lst ss po' (cut_rel lo hi ra)⟩

/-! ### built-in functions -/
def BF.fresh : BF → Bool
  | .list => true
  | _ => false
def rCl (C : Kt) (E : XK) (B : Nat → Prop) (f : BF) : List V → Hp → VK → Prop := fun xs H Q =>
  ∃ w S ds, w.H = H ∧ SS C B S w ∧ VRs C w ds xs ∧ Po C E B (rlD C f.fresh) w (R.of (callD f S ds) S) Q
theorem vrs1 {C : Kt} {w : Wd} {d : D} {vs : List V} (h : VRs C w [d] vs) : ∃ v, vs = [v] ∧ VR C w d v := by
  obtain ⟨v, r, rfl, h1, h2⟩ := h.inv
  have := h2.inv0
  subst this
  exact ⟨v, rfl, h1⟩
theorem vrs2 {C : Kt} {w : Wd} {d e : D} {vs : List V} (h : VRs C w [d, e] vs) : ∃ v u, vs = [v, u] ∧ VR C w d v ∧ VR C w e u := by
  obtain ⟨v, r, rfl, h1, h2⟩ := h.inv
  obtain ⟨u, rfl, h3⟩ := vrs1 h2
  exact ⟨v, u, rfl, h1, h3⟩
theorem allBl_inv {C : Kt} {w : Wd} : ∀ {ds : List D} {vs : List V} {b : Bool}, VRs C w ds vs → allBl ds = some b → ∃ bs : List Bool, vs = bs.map V.bl ∧ b = bs.all id
  | [], vs, b, r, h => by have := r.inv0; subst this; cases h; exact ⟨[], rfl, rfl⟩
  | d :: ds, vs, b, r, h => by
    obtain ⟨v, r', rfl, h1, h2⟩ := r.inv
    cases d with
    | bl c =>
      unfold allBl at h
      cases e : allBl ds with
      | none => rw [e] at h; cases h
      | some b' =>
        rw [e] at h
        cases h
        obtain ⟨bs, e1, e2⟩ := allBl_inv h2 e
        exact ⟨c :: bs, by rw [vbl h1, e1]; rfl, by rw [e2]; rfl⟩
    | _ => cases h
theorem anyBl_inv {C : Kt} {w : Wd} : ∀ {ds : List D} {vs : List V} {b : Bool}, VRs C w ds vs → anyBl ds = some b → ∃ bs : List Bool, vs = bs.map V.bl ∧ b = bs.any id
  | [], vs, b, r, h => by have := r.inv0; subst this; cases h; exact ⟨[], rfl, rfl⟩
  | d :: ds, vs, b, r, h => by
    obtain ⟨v, r', rfl, h1, h2⟩ := r.inv
    cases d with
    | bl c =>
      unfold anyBl at h
      cases e : anyBl ds with
      | none => rw [e] at h; cases h
      | some b' =>
        rw [e] at h
        cases h
        obtain ⟨bs, e1, e2⟩ := anyBl_inv h2 e
        exact ⟨c :: bs, by rw [vbl h1, e1]; rfl, by rw [e2]; rfl⟩
    | _ => cases h
theorem lenD_inv {S : Store} {xs : List D} {d : D} (h : lenD S xs = some d) : (∃ s, xs = [.str s] ∧ s.length ≤ sizeLine ∧ d = .int s.length) ∨ ∃ x ys, xs = [x] ∧ seqOf S x = some ys ∧ d = .int ys.length := by
  unfold lenD at h
  split at h
  · split at h
    · rename_i q; cases h; exact .inl ⟨_, rfl, q, rfl⟩
    · cases h
  · split at h
    · rename_i e; cases h; exact .inr ⟨_, _, rfl, e, rfl⟩
    · cases h
  · cases h
theorem sk_len : CallR X (.builtin "len") (rCl (kt CL X) E B .len) := by
  intro pins s σ H xs us Q I r ⟨w, S, ds, hH, ss, hx, po⟩
  subst hH
  cases hb : callD .len S ds with
  | none => rw [hb] at po; exact po.elim
  | some d =>
    rw [hb] at po
    rcases lenD_inv hb with ⟨z, rfl, hl, rfl⟩ | ⟨x, ys, rfl, e, rfl⟩
    · obtain ⟨v, rfl, h1⟩ := vrs1 hx
      exact call_len_str pins s σ _ _ us Q I r ⟨z, by rw [vstr h1], hl, po_int ss po⟩
    · obtain ⟨v, rfl, h1⟩ := vrs1 hx
      obtain ⟨a, vs, rfl, ha, ra⟩ := seq_rel ss h1 e
      exact call_len_seq pins s σ _ _ us Q I r ⟨a, vs, rfl, ha, by rw [ra.length]; exact po_int ss po⟩
theorem sk_abs : CallR X (.builtin "abs") (rCl (kt CL X) E B .abs) := by
  intro pins s σ H xs us Q I r ⟨w, S, ds, hH, ss, hx, po⟩
  subst hH
  unfold callD at po
  simp only at po
  split at po
  · rename_i i
    obtain ⟨v, rfl, h1⟩ := vrs1 hx
    exact call_abs pins s σ _ _ us Q I r ⟨i, by rw [vint h1], po_int ss po⟩
  · exact po.elim
theorem sk_tuple : CallR X (.type "tuple") (rCl (kt CL X) E B .tuple) := by
  intro pins s σ H xs us Q I r ⟨w, S, ds, hH, ss, hx, po⟩
  subst hH
  unfold callD at po
  simp only at po
  split at po
  · rename_i x
    obtain ⟨v, rfl, h1⟩ := vrs1 hx
    cases e : seqOf S x with
    | none => rw [e] at po; exact po.elim
    | some ys =>
      rw [e] at po
      obtain ⟨a, vs, ea, ha, ra⟩ := seq_rel ss h1 e
      subst ea
      refine call_tuple_of pins s σ _ _ us Q I r ⟨a, vs, rfl, ?_⟩
      by_cases hl : SqL (kt CL X).K w.H a vs
      · exact .inl ⟨hl, po_tup ss po ra⟩
      · refine .inr ⟨ha.resolve_left hl, ?_⟩
        refine po_val (d := .tup ys) ss po (.inl rfl) ?_
        unfold VR
        exact ⟨a, vs, rfl, ha.resolve_left hl, ra⟩
  · exact po.elim
theorem sk_list : CallR X (.type "list") (rCl (kt CL X) E B .list) := by
  intro pins s σ H xs us Q I r ⟨w, S, ds, hH, ss, hx, po⟩
  subst hH
  unfold callD at po
  simp only at po
  split at po
  · rename_i x
    obtain ⟨v, rfl, h1⟩ := vrs1 hx
    cases e : seqOf S x with
    | none => rw [e] at po; exact po.elim
    | some ys =>
      rw [e] at po
      obtain ⟨a, vs, ea, ha, ra⟩ := seq_rel ss h1 e
      subst ea
      exact call_list_of pins s σ _ _ us Q I r ⟨a, vs, rfl, ha, po_lst ss po ra⟩
  · exact po.elim
theorem sk_all (hc : X.calm = true) : CallR X (.builtin "all") (rCl (kt CL X) E B .all) := by
  intro pins s σ H xs us Q I r ⟨w, S, ds, hH, ss, hx, po⟩
  subst hH
  unfold callD at po
  simp only at po
  split at po
  · rename_i x
    obtain ⟨v, rfl, h1⟩ := vrs1 hx
    cases e : lstOf S x with
    | none => rw [e] at po; exact po.elim
    | some ys =>
      rw [e] at po
      cases e2 : allBl ys with
      | none => simp only [Option.bind_some, e2] at po; exact po.elim
      | some b =>
        simp only [Option.bind_some, e2] at po
        obtain ⟨a, vs, ea, ha, ra⟩ := lst_rel ss h1 e
        subst ea
        obtain ⟨bs, e3, rfl⟩ := allBl_inv ra e2
        exact cr_all hc pins s σ _ _ us Q I r ⟨a, bs, rfl, by rw [← e3]; exact SqL.of ha, po_bl ss po⟩
  · exact po.elim
theorem sk_any (hc : X.calm = true) : CallR X (.builtin "any") (rCl (kt CL X) E B .any) := by
  intro pins s σ H xs us Q I r ⟨w, S, ds, hH, ss, hx, po⟩
  subst hH
  unfold callD at po
  simp only at po
  split at po
  · rename_i x
    obtain ⟨v, rfl, h1⟩ := vrs1 hx
    cases e : lstOf S x with
    | none => rw [e] at po; exact po.elim
    | some ys =>
      rw [e] at po
      cases e2 : anyBl ys with
      | none => simp only [Option.bind_some, e2] at po; exact po.elim
      | some b =>
        simp only [Option.bind_some, e2] at po
        obtain ⟨a, vs, ea, ha, ra⟩ := lst_rel ss h1 e
        subst ea
        obtain ⟨bs, e3, rfl⟩ := anyBl_inv ra e2
        exact cr_any hc pins s σ _ _ us Q I r ⟨a, bs, rfl, by rw [← e3]; exact SqL.of ha, po_bl ss po⟩
  · exact po.elim
theorem sk_gcd : CallR X (.builtin "math.gcd") (rCl (kt CL X) E B .gcd) := by
  intro pins s σ H xs us Q I r ⟨w, S, ds, hH, ss, hx, po⟩
  subst hH
  unfold callD at po
  simp only at po
  split at po
  · rename_i i j
    obtain ⟨v, u, rfl, h1, h2⟩ := vrs2 hx
    exact cr_gcd pins s σ _ _ us Q I r ⟨i, j, by rw [vint h1, vint h2], po_int ss po⟩
  · exact po.elim

end
mutual
theorem nodict {K : PySem.W.Frag} {H : Hp} : ∀ {v : V} {p : PyData}, Dp K H v p → p.hasDict = false
  | _, _, .non => rfl
  | _, _, .bl _ => rfl
  | _, _, .int _ => rfl
  | _, _, .str _ => rfl
  | _, _, .lst _ h => by unfold PyData.hasDict; exact nodicts h
  | _, _, .tup _ h => by unfold PyData.hasDict; exact nodicts h
theorem nodicts {K : PySem.W.Frag} {H : Hp} : ∀ {vs : List V} {ps : List PyData}, DpAll K H vs ps → PyData.hasDictAll ps = false
  | _, _, .nil => rfl
  | _, _, .cons h t => by unfold PyData.hasDictAll; rw [nodict h, nodicts t]; rfl
end
section
variable {CL : List String × List (String × String) × Lx} {X : Cx} {E : XK} {B : Nat → Prop}
theorem sk_int : CallR X (.type "int") (rCl (kt CL X) E B .int) := by
  intro pins s σ H xs us Q I r ⟨w, S, ds, hH, ss, hx, po⟩
  subst hH
  unfold callD at po
  simp only at po
  split at po
  · rename_i i
    obtain ⟨v, rfl, h1⟩ := vrs1 hx
    exact call_int1 pins s σ _ _ us Q I r (.inl ⟨i, by rw [vint h1], po_int ss po⟩)
  · rename_i k
    obtain ⟨v, rfl, h1⟩ := vrs1 hx
    exact call_int1 pins s σ _ _ us Q I r (.inr ⟨k, by rw [vbl h1], po_int ss po⟩)
  · exact po.elim
mutual
/-- what a value reads as, for repr -/
theorem readsR {pins : List (Addr × Obj)} {s : Shared} {σ : L2.St} {w : Wd} (I : Inv X pins σ w.H s) : ∀ (d : D) (v : V) (u : Value) (p : PyData), VR (kt CL X) w d v → RelV v u → d.toPyR = some p → ∃ as, Reads s.heap u p as ∧ (d.noLst = true → sysModules ∉ as)
  | .non, v, u, p, h, r, e => by cases vnon h; cases r; simp only [D.toPyR] at e; cases e; exact ⟨_, Reads.none, fun _ => by simp⟩
  | .bl b, v, u, p, h, r, e => by cases vbl h; cases r; simp only [D.toPyR] at e; cases e; exact ⟨_, Reads.bool b, fun _ => by simp⟩
  | .int i, v, u, p, h, r, e => by
    cases vint h
    obtain ⟨t, rfl⟩ := r
    simp only [D.toPyR] at e; cases e
    exact ⟨_, Reads.int i t, fun _ => by simp⟩
  | .str x, v, u, p, h, r, e => by
    cases vstr h
    obtain ⟨t, rfl⟩ := r
    simp only [D.toPyR] at e; cases e
    exact ⟨_, Reads.str x t, fun _ => by simp⟩
  | .tup xs, v, u, p, h, r, e => by
    simp only [D.toPyR] at e
    cases q : D.toPyRs xs with
    | none => rw [q] at e; cases e
    | some ps =>
      rw [q] at e; cases e
      unfold VR at h
      obtain ⟨a, vs, rfl, hs, hv⟩ := h
      cases r
      obtain ⟨its, rv, ⟨o, ho, hc, n, hd⟩, _⟩ := I.tuple hs
      obtain ⟨as, hr, hn⟩ := readsRs I xs vs its ps hv rv q
      exact ⟨_, Reads.tuple ho hc hd hr, fun z => hn (by unfold D.noLst at z; exact z)⟩
  | .lst xs, v, u, p, h, r, e => by
    simp only [D.toPyR] at e
    cases q : D.toPyRs xs with
    | none => rw [q] at e; cases e
    | some ps =>
      rw [q] at e; cases e
      unfold VR at h
      obtain ⟨a, vs, rfl, _, hs, hv⟩ := h
      cases r
      obtain ⟨its, rv, ⟨o, n, ho, hc, _, hd⟩, _⟩ := I.list (SqL.of hs)
      obtain ⟨as, hr, hn⟩ := readsRs I xs vs its ps hv rv q
      exact ⟨_, Reads.list ho hc hd hr, fun z => by simp [D.noLst] at z⟩
  | .dct ks ds, v, u, p, h, r, e => by
    cases ks with
    | cons _ _ => cases ds <;> simp [D.toPyR] at e
    | nil =>
      cases ds with
      | cons _ _ => simp [D.toPyR] at e
      | nil =>
        simp only [D.toPyR] at e; cases e
        unfold VR at h
        obtain ⟨a, vs, rfl, _, hs, hv, _⟩ := h
        have := hv.inv0
        subst this
        cases r
        obtain ⟨_, hsm, ws, kv, ob, es, ep, ho, hx, hd, _, hp, _⟩ := I.hok a _ hs
        have kv' : KV ([] : List (Key × V)) ws := kv
        cases kv'
        have he : es.toList = [] := by
          cases q : es.toList with
          | nil => rfl
          | cons x xs => rw [q] at hp; cases hp
        refine ⟨_, Reads.dict (kvs := []) ho hx.1 hd (by rw [he]; exact ReadsAll.nil) (by rw [he]; exact ReadsAll.nil), fun _ => ?_⟩
        simp only [List.append_nil, List.mem_singleton]
        rintro rfl
        simp at hsm
  | .ins _ _ _, v, u, p, h, r, e => by simp [D.toPyR] at e
  | .obj _, v, u, p, h, r, e => by simp [D.toPyR] at e
  | .glob _, v, u, p, h, r, e => by simp [D.toPyR] at e
  | .ty _, v, u, p, h, r, e => by simp [D.toPyR] at e
  | .scr _, v, u, p, h, r, e => by simp [D.toPyR] at e
  | .lam _ _, v, u, p, h, r, e => by simp [D.toPyR] at e
  | .clo _ _, v, u, p, h, r, e => by simp [D.toPyR] at e
theorem readsRs {pins : List (Addr × Obj)} {s : Shared} {σ : L2.St} {w : Wd} (I : Inv X pins σ w.H s) : ∀ (ds : List D) (vs : List V) (us : List Value) (ps : List PyData), VRs (kt CL X) w ds vs → Vals vs us → D.toPyRs ds = some ps → ∃ as, ReadsAll s.heap us ps as ∧ (D.noLsts ds = true → sysModules ∉ as)
  | [], vs, us, ps, h, r, e => by
    simp only [D.toPyRs] at e; cases e
    have := h.inv0
    subst this
    cases r
    exact ⟨_, ReadsAll.nil, fun _ => by simp⟩
  | d :: ds, vs, us, ps, h, r, e => by
    simp only [D.toPyRs] at e
    split at e
    · rename_i p ps' e1 e2
      cases e
      obtain ⟨v, vs', rfl, h1, h2⟩ := h.inv
      cases r with
      | cons r1 r2 =>
        obtain ⟨as, q1, n1⟩ := readsR I d v _ p h1 r1 e1
        obtain ⟨bs, q2, n2⟩ := readsRs I ds vs' _ ps' h2 r2 e2
        refine ⟨_, ReadsAll.cons q1 q2, fun z => ?_⟩
        unfold D.noLsts at z
        rw [Bool.and_eq_true] at z
        rw [List.mem_append]
        exact fun q => q.elim (n1 z.1) (n2 z.2)
    · cases e
end
theorem sk_repr (hg : X.A.guards = some []) (hu : X.A.units + 66 < cLine) : CallR X (.builtin "repr") (rCl (kt CL X) E B .repr) := by
  intro pins s σ H xs us Q I r ⟨w, S, ds, hH, ss, hx, po⟩
  subst hH
  unfold callD at po
  simp only at po
  split at po
  · rename_i x
    obtain ⟨v, rfl, h1⟩ := vrs1 hx
    obtain ⟨u, rfl, rv⟩ := vals1 r
    split at po
    · rename_i p hp
      split at po
      · rename_i ok
        rw [Bool.and_eq_true] at ok
        obtain ⟨ok, o4⟩ := ok
        unfold reprOk at ok
        rw [Bool.and_eq_true, Bool.and_eq_true] at ok
        obtain ⟨⟨o1, o2⟩, o3⟩ := ok
        have o2' := of_decide_eq_true o2
        have o3' := of_decide_eq_true o3
        have fin : Q (.str (PyData.shown p)) w.H := po_str ss po
        have big : ∀ (a : Addr) (as : List Addr), u = .ref a → Reads s.heap u p as → ((flat1 S x).noLst = true → sysModules ∉ as) → wpAny (model X.prog X.w) X.A (call (.builtin "repr") [u]) (EP X pins σ Q) X.xe s := fun a as ea rd hn => by
          subst ea
          refine repr_of_reads' rd o1 (fun z => ?_) hg (by omega) (fun _ _ e => e) (fun h' t tk k => ⟨.str (PyData.shown p), w.H, I.kept (t' := tk) k, ⟨_, rfl⟩, fin⟩) o2'
          rw [Bool.or_eq_true] at o4
          rcases o4 with o4 | o4
          · exact hn o4
          · rw [z] at o4; cases o4
        unfold flat1 at hp big
        split at hp
        · rename_i xs hx
          rw [hx] at big
          obtain ⟨a, vs, rfl, q1, q2⟩ := lst_rel ss h1 hx
          cases rv
          simp only [D.toPyR] at hp
          cases q : D.toPyRs xs with
          | none => rw [q] at hp; cases hp
          | some ps =>
            rw [q] at hp; cases hp
            obtain ⟨its, rv, ⟨o, n, ho, hc, _, hd⟩, _⟩ := I.list (SqL.of q1)
            obtain ⟨as, hr, hn⟩ := readsRs I xs vs its ps q2 rv q
            exact big a _ rfl (Reads.list ho hc hd hr) fun z => by simp [D.noLst] at z
        · rename_i hx
          rw [hx] at big
          obtain ⟨as, rd, hn⟩ := readsR I x v u p h1 rv hp
          cases x with
          | non => cases vnon h1; cases (show u = Value.none from rv); simp only [D.toPyR] at hp; cases hp; exact PySem.P.repr_of_none ⟨.str _, w.H, I.tok _, ⟨_, rfl⟩, fin⟩
          | bl b => cases vbl h1; cases (show u = Value.bool b from rv); simp only [D.toPyR] at hp; cases hp; exact PySem.P.repr_of_bool ⟨.str _, w.H, I.tok _, ⟨_, rfl⟩, fin⟩
          | int i =>
            cases vint h1
            obtain ⟨t, rfl⟩ := (show ∃ t, u = Value.int i t from rv)
            simp only [D.toPyR] at hp; cases hp
            exact PySem.P.repr_of_int (by simpa [PyData.showable] using o1) ⟨.str _, w.H, I.tok _, ⟨_, rfl⟩, fin⟩
          | str z =>
            cases vstr h1
            obtain ⟨t, rfl⟩ := (show ∃ t, u = Value.str z t from rv)
            simp only [D.toPyR] at hp; cases hp
            exact PySem.P.repr_of_str ⟨.str _, w.H, I.tok _, ⟨_, rfl⟩, fin⟩ (by simpa [PyData.shown] using o2')
          | tup xs =>
            unfold VR at h1
            obtain ⟨a, vs, rfl, _⟩ := h1
            exact big a _ rv rd hn
          | lst xs =>
            unfold VR at h1
            obtain ⟨a, vs, rfl, _⟩ := h1
            exact big a _ rv rd hn
          | dct ks ds =>
            unfold VR at h1
            obtain ⟨a, vs, rfl, _⟩ := h1
            exact big a _ rv rd hn
          | _ => simp [D.toPyR] at hp
      · exact po.elim
    · exact po.elim
  · exact po.elim
end
end Pi
end

section
/-! PiOps3: methods of built-in types, stores, fields, isinstance. -/
namespace Pi
open PySem PySem.Spec PyProof.Rows L2

section
variable {CL : List String × List (String × String) × Lx} {X : Cx} {E : XK} {B : Nat → Prop}
/-- a statement's or a method's way out behind a store -/
def rOut (C : Kt) (E : XK) (B : Nat → Prop) (d : D) (S' : Store) (w : Wd) (Q : V → Hp → Prop) : Prop := Po C E B (rlD C false) w (.ok d S') Q
/-- a cell is written: its new content -/
theorem low_of {C : Kt} {S : Store} {w : Wd} (s : SS C B S w) {n : Nat} {c c' : Cell} (hn : S[n]? = some c) (h : ∀ b, B b → n < b → D.refsBs b c.vals = true → D.refsBs b c'.vals = true) : ∀ b, B b → n < b → D.refsBs b c'.vals = true :=
  fun b hb hl => h b hb hl ((s.low b hb).2 n c hl hn)
theorem refsBs_append (b : Nat) : ∀ xs ys : List D, D.refsBs b (xs ++ ys) = (D.refsBs b xs && D.refsBs b ys)
  | [], ys => by simp [D.refsBs]
  | x :: xs, ys => by
    show (x.refsB b && D.refsBs b (xs ++ ys)) = ((x.refsB b && D.refsBs b xs) && D.refsBs b ys)
    rw [refsBs_append b xs ys, Bool.and_assoc]
theorem refsBs_mem {b : Nat} : ∀ {xs : List D}, D.refsBs b xs = true ↔ ∀ x ∈ xs, x.refsB b = true
  | [] => by simp [D.refsBs]
  | x :: xs => by unfold D.refsBs; rw [Bool.and_eq_true, refsBs_mem (xs := xs)]; simp
/-- what may be written: no reference at all, below the base -/
theorem wr_low {b n : Nat} {d : D} (hB : ∀ b', B b' → b' ≤ b) (h : wrOk b n d = true) : ∀ b', B b' → n < b' → d.refsB b' = true := fun b' hb hl => by
  have := hB b' hb
  unfold wrOk at h
  rw [if_pos (by omega)] at h
  exact D.refsB_mono (Nat.zero_le _) d h
/-- methods -/
def rMt (C : Kt) (E : XK) (B : Nat → Prop) (b : Nat) (m : MF) : V → List V → Hp → VK → Prop := fun x xs H Q =>
  ∃ w S dx ds, w.H = H ∧ SS C B S w ∧ VR C w dx x ∧ VRs C w ds xs ∧ (∀ b', B b' → b' ≤ b) ∧
    ∃ d S', methD m S dx ds = some (d, S') ∧ (∀ n, dx = .obj n → ds.all (fun d => wrOk b n d) = true) ∧ Po C E B (rlD C false) w (.ok d S') Q
theorem obj_lst {C : Kt} {S : Store} {w : Wd} (s : SS C B S w) {n : Nat} {v : V} {ys : List D} (h : VR C w (.obj n) v) (e : S[n]? = some (.lst ys)) : ∃ a vs, v = .ref a ∧ w.ρ[n]? = some a ∧ w.H a = some (.lst vs) ∧ VRs C w ys vs := by
  unfold VR at h
  obtain ⟨a, e1, h1⟩ := h
  obtain ⟨vs, q1, q2⟩ := s.cell n _ a e h1
  exact ⟨a, vs, e1, h1, q1, q2⟩
theorem po_wr {C : Kt} {S : Store} {w : Wd} {n : Nat} {c c' : Cell} {a : Addr} {o : HO} {d : D} {v : V} {Q : V → Hp → Prop} (s : SS C B S w) (hn : S[n]? = some c) (hl : c.live) (ha : w.ρ[n]? = some a) (hm : Mut (some o))
    (hc : CelR C (w.put a o) a c') (hlow : ∀ b, B b → n < b → D.refsBs b c'.vals = true) (hv : VR C w d v) (h : Po C E B (rlD C false) w (.ok d (S.set n c')) Q) : Q v (upd w.H a o) := by
  have x := s.ext_wr (o := o) hn hl ha
  exact h (w.put a o) v x (s.wr hn hl ha hm hc hlow) (VR.ext x.toGr s.muts d v hv)
theorem sm_append {b : Nat} : MtR X "list.append" (rMt (kt CL X) E B b .append) := by
  intro pins s σ H x xs v us Q I rx r ⟨w, S, dx, ds, hH, ss, hx, hd, hB, d, S', hm, hw, po⟩
  subst hH
  unfold methD at hm
  simp only at hm
  split at hm
  · rename_i n y
    split at hm
    · rename_i ys e
      split at hm
      · rename_i hl
        cases hm
        obtain ⟨a, vs, rfl, ha, h1, ra⟩ := obj_lst ss hx e
        obtain ⟨u, rfl, hu⟩ := vrs1 hd
        refine mt_append pins s σ _ _ _ v us Q I rx r ⟨a, vs, u, rfl, rfl, h1, by rw [ra.length]; exact hl, ?_⟩
        have x' := ss.ext_wr (o := .lst (vs ++ [u])) e trivial ha
        have wo : wrOk b n y = true := by
          have := hw n rfl
          simpa using this
        refine po_wr (c' := .lst (ys ++ [y])) ss e trivial ha trivial ⟨vs ++ [u], upd_same, (VRs.ext x'.toGr ss.muts _ _ ra).append (.cons (VR.ext x'.toGr ss.muts _ _ hu) .nil)⟩ ?_ (by unfold VR; rfl) po
        refine low_of ss e fun b' hb hl' q => ?_
        show D.refsBs b' (ys ++ [y]) = true
        rw [refsBs_append]
        have q' : D.refsBs b' ys = true := q
        rw [q', Bool.true_and]
        unfold D.refsBs
        rw [wr_low hB wo b' hb hl']; rfl
      · cases hm
    · cases hm
  · cases hm
theorem ix_bounds {n : Nat} {i : Int} {k : Nat} (h : ixN n i = some k) : seqIndex? i n = some k ∧ -(n : Int) ≤ i ∧ i < n := ⟨(ixN_seq h).1, (ixN_seq h).2.2.1, (ixN_seq h).2.2.2⟩
theorem refsBs_erase {b : Nat} {xs : List D} (k : Nat) (h : D.refsBs b xs = true) : D.refsBs b (xs.eraseIdx k) = true :=
  refsBs_mem.mpr fun x hx => refsBs_mem.mp h x (List.mem_of_mem_eraseIdx hx)
theorem sm_popAt {b : Nat} : MtR X "list.pop" (rMt (kt CL X) E B b .popAt) := by
  intro pins s σ H x xs v us Q I rx r ⟨w, S, dx, ds, hH, ss, hx, hd, hB, d, S', hm, hw, po⟩
  subst hH
  unfold methD at hm
  simp only at hm
  split at hm
  · rename_i n i
    split at hm
    · rename_i ys e
      split at hm
      · rename_i k hk
        split at hm
        · rename_i y hy
          cases hm
          obtain ⟨a, vs, rfl, ha, h1, ra⟩ := obj_lst ss hx e
          obtain ⟨u, rfl, hu⟩ := vrs1 hd
          obtain ⟨z, hz1, hz2⟩ := ra.get hy
          obtain ⟨k1, k2, k3⟩ := ix_bounds hk
          have hlen : ys.length ≤ sizeLine := by
            obtain ⟨q, _⟩ := (show ObjOk X.prog X.w w.H s.heap a (.lst vs) from I.hok a _ h1)
            rw [← ra.length]; exact q
          have hl63 := line63
          refine mt_popAt pins s σ _ _ _ v us Q I rx r ⟨a, vs, i, k, z, rfl, by rw [vint hu], h1, by omega, by omega, by rw [ra.length]; exact k1, hz1, ?_⟩
          have x' := ss.ext_wr (o := .lst (vs.eraseIdx k)) e trivial ha
          refine po_wr (c' := .lst (ys.eraseIdx k)) ss e trivial ha trivial ⟨vs.eraseIdx k, upd_same, (VRs.ext x'.toGr ss.muts _ _ ra).eraseIdx k⟩ ?_ hz2 po
          refine low_of ss e fun b' hb hl' q => ?_
          exact refsBs_erase k q
        · cases hm
      · cases hm
    · cases hm
  · cases hm
/-! ### o[i] = v -/
def rSt (C : Kt) (B : Nat → Prop) (b : Nat) : TSet := fun o i v H Q =>
  ∃ w S n di dv S', w.H = H ∧ SS C B S w ∧ VR C w (.obj n) o ∧ VR C w di i ∧ VR C w dv v ∧ (∀ b', B b' → b' ≤ b) ∧ wrOk b n dv = true ∧
    ((∃ xs k j, S[n]? = some (.lst xs) ∧ di = .int k ∧ ixN xs.length k = some j ∧ S' = S.set n (.lst (xs.set j dv))) ∨
     (∃ ks vs k, S[n]? = some (.dct ks vs) ∧ keyOf di = some k ∧ ks.length < 1000 ∧ S' = S.set n (.dct (putD k dv ks vs).1 (putD k dv ks vs).2))) ∧
    ∀ w', Ext w w' → SS C B S' w' → Q w'.H
theorem refsBs_set {b : Nat} {xs : List D} {d : D} (k : Nat) (h : D.refsBs b xs = true) (hd : d.refsB b = true) : D.refsBs b (xs.set k d) = true :=
  refsBs_mem.mpr fun x hx => by
    rcases List.mem_or_eq_of_mem_set hx with h' | rfl
    · exact refsBs_mem.mp h x h'
    · exact hd
theorem zip_vals {ks : List Key} {vs : List D} {k : Key} {d : D} : ∀ x ∈ (ks.zip vs).map (fun p => if p.1 = k then d else p.2), x = d ∨ x ∈ vs := fun x hx => by
  obtain ⟨⟨a, y⟩, hp, rfl⟩ := List.mem_map.mp hx
  have := (List.of_mem_zip hp).2
  simp only
  split
  · exact .inl rfl
  · exact .inr this
theorem refsBs_putD {b : Nat} {ks : List Key} {vs : List D} {k : Key} {d : D} (h : D.refsBs b vs = true) (hd : d.refsB b = true) : D.refsBs b (putD k d ks vs).2 = true := by
  unfold putD
  split
  · exact refsBs_mem.mpr fun x hx => by
      rcases zip_vals x hx with rfl | h'
      · exact hd
      · exact refsBs_mem.mp h x h'
  · show D.refsBs b (vs ++ [d]) = true
    rw [refsBs_append, h, Bool.true_and]
    unfold D.refsBs; rw [hd]; rfl
theorem ss_set {b : Nat} (hu : X.A.units + 1 < cLine) : PSet X (rSt (kt CL X) B b) := by
  intro pins s σ H o i v ov iv u Q I ro ri rv ⟨w, S, n, di, dv, S', hH, ss, ho, hi, hv, hB, wo, hs, q⟩
  subst hH
  rcases hs with ⟨xs, k, j, e, rfl, hj, rfl⟩ | ⟨ks, vs, k, e, hk, hl, rfl⟩
  · obtain ⟨a, us, rfl, ha, h1, ra⟩ := obj_lst ss ho e
    refine set_list pins s σ _ _ i v ov iv u Q I ro ri rv ⟨a, us, k, j, rfl, vint hi, h1, by rw [ra.length]; exact hj, ?_⟩
    have x' := ss.ext_wr (o := .lst (us.set j v)) e trivial ha
    refine q (w.put a (.lst (us.set j v))) x' (ss.wr e trivial ha trivial ⟨_, upd_same, (VRs.ext x'.toGr ss.muts _ _ ra).set (VR.ext x'.toGr ss.muts _ _ hv) j⟩ ?_)
    exact low_of ss e fun b' hb hl' z => refsBs_set j z (wr_low hB wo b' hb hl')
  · have ho' := ho
    unfold VR at ho'
    obtain ⟨a, rfl, ha⟩ := ho'
    obtain ⟨us, h1, ra, rl⟩ := ss.cell n _ a e ha
    obtain ⟨us', e1, r1, l1⟩ := put_dct (k := k) hv ra rl
    have hlz : (ks.zip us).length < sizeLine := by
      rw [List.length_zip]
      have : (1000 : Nat) < sizeLine := by rw [sizeLine_eq]; omega
      omega
    refine set_dict hu pins s σ _ _ i v ov iv u Q I ro ri rv ⟨a, _, rfl, by rw [key_rel hi hk]; exact DPut.k h1 hlz, ?_⟩
    have x' := ss.ext_wr (o := .dK (putK (ks.zip us) k v)) e trivial ha
    refine q (w.put a _) x' (ss.wr e trivial ha trivial ⟨us', ?_, VRs.ext x'.toGr ss.muts _ _ r1, l1⟩ ?_)
    · show upd w.H a _ a = _
      rw [upd_same, e1]
    · exact low_of ss e fun b' hb hl' z => refsBs_putD z (wr_low hB wo b' hb hl')
end

/-! ### fields -/
section
variable {X : Cx}
/-- o.f = .. as a target -/
def gAttr (K : PySem.W.Frag) (to : TE) (f : Str) : TG := fun v σ H Q => to σ H fun x H1 => ∃ a C dx fs, x = .ref a ∧ H1 a = some (.ins C dx fs) ∧ Cls K C ∧ NoAttr K C f ∧ fs.length < 1000 ∧ Q σ (upd H1 a (.ins C dx (putF f v fs)))
theorem pg_attr {o : Expr} {f : Str} {pos : Pos} {to : TE} (ho : PE X o to) : PG X (.Attribute o f pos) (gAttr X.K to f) := by
  refine ⟨fun pins s σ H v u Q I r h => ?_⟩
  rw [assign_Attribute]
  refine wpAny_bind (wpAny_holding (thn (ho.run pins s σ H _ I h) fun ov s1 ⟨x, H1, I1, r1, a, C, dx, fs, ex, ea, c, n, l, q⟩ => ?_))
  subst ex
  obtain rfl : ov = Value.ref a := r1
  refine wpAny_bind (wpAny_standAt (wpAny_bind (wpAny_holding (setattr_ok I1 ea c n l r fun s2 I2 => ?_))))
  exact wpAny_release ⟨σ, _, I2, q⟩
end
end Pi
end

section
/-! PiCall: a def's promise where no repr runs around; calls of defs and of classes. -/
namespace Pi
open PySem PySem.Spec PyProof.Rows L2

structure FnG (P : Program) (w : World) (K : PySem.W.Frag) (mg : Str → Option Value) (base : Heap) (k : Nat) (f : Addr) (fd : FuncData) (ps : List Str) (sp : Sp) : Prop where
  len : ∀ vs H Q E, sp vs H Q E → vs.length = ps.length
  run : ∀ (A : Around) (outer : List Env) (s : Shared) (H : Hp) (args : Args) (us : List Value) (vs : List V) (Q : VK) (E : XK), A.guards = some [] → Room k A → Env0 P w K mg base A outer s H → BindsTo s fd args (ps.zip us) → Vals vs us → sp vs H Q E →
    codeAny (model P w) A (.call (.ref f) args) (CR (L2.CX P w) outer P w H s Q E) s
theorem FnG.mono {P : Program} {w : World} {K : PySem.W.Frag} {mg : Str → Option Value} {base : Heap} {j k : Nat} {f : Addr} {fd : FuncData} {ps : List Str} {sp : Sp} (F : FnG P w K mg base j f fd ps sp) (h : j ≤ k) :
    FnG P w K mg base k f fd ps sp := ⟨F.len, fun A outer s H args us vs Q E hg hr => F.run A outer s H args us vs Q E hg (hr.mono h)⟩
theorem FnG.ok {P : Program} {w : World} {K : PySem.W.Frag} {mg : Str → Option Value} {base : Heap} {k : Nat} {f : Addr} {fd : FuncData} {ps : List Str} {sp : Sp} (F : FnOk P w K mg base (L2.CX P w) k f fd ps sp) : FnG P w K mg base k f fd ps sp :=
  ⟨F.len, fun A outer s H args us vs Q E _ hr => F.run A outer s H args us vs Q E hr⟩

/-- THE RULE: a def by its body -/
theorem fnG_of {P : Program} {w : World} {K : PySem.W.Frag} {mg : Str → Option Value} {base : Heap} {k : Nat} {x qual : Str} {st : Stmt} {f : Addr} {fd : FuncData} {N ps : List Str} {sp : Sp}
    (F : Fun K x qual st f fd) (S : FnScope N ps (defScope st)) (len : ∀ vs H Q E, sp vs H Q E → vs.length = ps.length)
    (hbody : ∀ (cdv : Value) (A : Around) (outer : List Env) (s : Shared) (H : Hp) (vs : List V) (Q : VK) (E : XK), fd.code = cdv → fd.qualname = qual → (A.deeper (envOfC qual (defScope st) s.heap.objs.size f cdv)).guards = some [] → Room k (A.deeper (envOfC qual (defScope st) s.heap.objs.size f cdv)) → sp vs H Q E →
      ∃ t, PSs (cxOf (L2.CX P w) P w K mg base N qual (defScope st) f cdv A outer s H E) (defBody st) t ∧ t { nx := fun _ H' => Q .non H', rt := Q } (start N vs) H) :
    FnG P w K mg base (k + 1) f fd ps sp := by
  obtain ⟨⟨oc, od, kV, doc, pm, an, cdv, ct, osl, rfl, lk, hcd⟩, kp⟩ := F
  refine ⟨len, fun A outer s H args us vs Q E hgd hr e0 hb r hsp => ?_⟩
  have hl := len _ _ _ _ hsp
  have KX : K.In s.heap := e0.mod.kin.keeps fun b o e => (e0.bs b o e).1
  have lim : s.heap.NoLimit := e0.mod.nolimit.keeps fun b o e => (e0.bs b o e).1
  have hkind : ∀ y ∈ ps.zip us, (defScope st).names.lookup y.1 = some .local ∨ ((defScope st).names.lookup y.1 = some .cell ∧ ((cellsFrom (s.heap.objs.size + 1) (defScope st).names []).lookup y.1).isSome = true) := fun ⟨n, v⟩ hy => by
    rcases S.par n (List.of_mem_zip hy).1 with q | q
    · exact .inl q
    · exact .inr ⟨q, PySem.W.cellsFrom_some _ _ _ (.inl q)⟩
  refine codeAny_call_function hr.depth (KX _ _ lk) rfl S.co S.gen rfl (PySem.W.codeRec_of KX hcd) (hb _ _ _ _ ?_)
  refine wpAny_newFunctionEnv_cells S.kind hkind fun env he s1 x => ?_
  subst he
  refine ⟨lim.keeps x.toInCall.keep, codeAny_func ?_⟩
  obtain ⟨t, ht, hq⟩ := hbody cdv A outer s H vs Q E rfl rfl hgd (hr.deeper _) hsp
  have I : Inv (cxOf (L2.CX P w) P w K mg base N qual (defScope st) f cdv A outer s H E) [] (start N vs) H s1 := inv_start S hr.hd e0 hl r x
  refine wpAny_mono (ht.run [] s1 (start N vs) H _ I hq) (fun fl s' hs => ?_) fun e s' hs => hs
  have fin : ∀ {σ' : L2.St} {H' : Hp} {v : V} {u : Value}, Inv (cxOf (L2.CX P w) P w K mg base N qual (defScope st) f cdv A outer s H E) [] σ' H' s' → RelV v u → Q v H' → CE outer P w H s Q u s' :=
    fun {σ' H' v u} J rv q => ⟨v, H', J.os, J.bare, J.base, J.hok, rv, q⟩
  cases fl with
  | ret u =>
    obtain ⟨v, σ', H', J, rv, q⟩ := hs
    exact fin J rv q
  | next =>
    obtain ⟨σ', H', J, q⟩ := hs
    exact fin (v := V.non) (u := Value.none) J rfl q
  | brk =>
    obtain ⟨_, _, _, q⟩ := hs
    exact False.elim q
  | cont =>
    obtain ⟨_, _, _, q⟩ := hs
    exact False.elim q

section
variable {X : Cx} {k : Nat} {f C : Addr} {fd : FuncData} {ps : List Str} {sp : Sp} {dvs : List V} {ds : List Value} {E : XK}
/-- what a callee lets out, this body wishes -/
def PassG (X : Cx) (E : XK) : Prop := Passes (L2.CX X.prog X.w) X E
theorem run_fnG {pins : List (Addr × Obj)} {σ : L2.St} {H : Hp} {s : Shared} {Q : VK} {us : List Value} {vs : List V} (hg : X.A.guards = some []) (F : FnG X.prog X.w X.K X.mg X.base k f fd ps sp) (hr : Room k X.A) (hb : Binds X.K fd ps ds) (hd : Vals dvs ds) (hx : PassG X E)
    (I : Inv X pins σ H s) (r : Vals vs us) (h : sp (vs ++ dvs) H Q E) : wpAny (model X.prog X.w) X.A (call (.ref f) us) (EP X pins σ Q) X.xe s := by
  have r2 : Vals (vs ++ dvs) (us ++ ds) := r.append hd
  have hl : (us ++ ds).length = ps.length := by rw [← r2.length]; exact F.len _ _ _ _ h
  refine wpAny_call (codeAny_mono (F.run X.A X.stack s H ⟨us, []⟩ (us ++ ds) (vs ++ dvs) Q E hg hr I.env0 (hb s us I.kIn hl) r2 h) fun r s' hq => ?_)
  cases r with
  | error e => exact hx pins σ H s e s' I hq
  | ok fl =>
    cases fl with
    | ret u => exact I.after hq
    | next => exact False.elim hq
    | brk => exact False.elim hq
    | cont => exact False.elim hq
theorem run_makeG {pins : List (Addr × Obj)} {σ : L2.St} {H : Hp} {s : Shared} {Q : VK} {us : List Value} {vs : List V} (hg : X.A.guards = some []) (M : Mk X.K C f) (F : FnG X.prog X.w X.K X.mg X.base k f fd ps sp) (hr : Room (k + 1) X.A) (hb : Binds X.K fd ps ds) (hd : Vals dvs ds)
    (hx : PassG X E) (I : Inv X pins σ H s) (r : Vals vs us)
    (h : ∀ x dx, H x = none → H dx = none → dx ≠ x → sp (.ref x :: (vs ++ dvs)) (upd (upd H dx (.own x)) x (.ins C dx [])) (fun v H2 => v = .non ∧ Q (.ref x) H2) E) :
    wpAny (model X.prog X.w) X.A (call (.ref C) us) (EP X pins σ Q) X.xe s := by
  have hq := h (s.heap.objs.size + 1) s.heap.objs.size (I.hok.fresh (Nat.le_succ _)) (I.hok.fresh (Nat.le_refl _)) (Nat.ne_of_lt (Nat.lt_succ_self _))
  have I2 := Inv.made (C := C) I
  have r2 : Vals (V.ref (s.heap.objs.size + 1) :: (vs ++ dvs)) (Value.ref (s.heap.objs.size + 1) :: (us ++ ds)) := .cons rfl (r.append hd)
  have hl : (Value.ref (s.heap.objs.size + 1) :: us ++ ds).length = ps.length := by
    have e := r2.length
    rw [F.len _ _ _ _ hq] at e
    exact e.symm
  have hg2 : (X.A.under (.builtin "type.__call__" ⟨.ref C :: us, []⟩)).guards = some [] := by
    have e : Code.isGuard (.builtin "type.__call__" ⟨.ref C :: us, []⟩) = false := show guardIds.contains "type.__call__" = false by decide +kernel
    unfold Around.under Code.guards
    rw [e]
    exact hg
  refine wpAny_call (make_map (f := f) I.kIn M.makes M.init (beq_iff_eq.mp M.fn) (codeAny_mono (F.run _ X.stack _ _ ⟨Value.ref (s.heap.objs.size + 1) :: us, []⟩ (Value.ref (s.heap.objs.size + 1) :: (us ++ ds)) _ _ E hg2 (hr.make C us [])
    (I2.env0.make C us []) (hb _ (Value.ref (s.heap.objs.size + 1) :: us) I2.kIn hl) r2 hq) fun r s' hq' => ?_))
  cases r with
  | error e => exact hx pins σ _ _ e s' I2 hq'
  | ok fl =>
    cases fl with
    | ret u =>
      obtain ⟨v, H', I3, rv, ev, q3⟩ := I2.after hq'
      subst ev
      exact ⟨rv, ⟨V.ref (s.heap.objs.size + 1), H', I3, rfl, q3⟩⟩
    | next => exact False.elim hq'
    | brk => exact False.elim hq'
    | cont => exact False.elim hq'
end
end Pi
end

section
/-! PiMatch: when a text of Python is a term of the small syntax. -/
namespace Pi
open PySem PySem.Spec PyProof.Rows L2

/-- what a program's text may name -/
structure Tb where
  /-- defs of the module -/
  fns : List String
  /-- math.gcd is there -/
  gcd : Bool
  /-- classes; those with an own __init__, its def's name -/
  cls : List String
  /-- fields: class, name -/
  flds : List (String × String)
  /-- methods: class, name, the def -/
  mths : List (String × String × String)
  /-- classes made: class, the __init__'s def -/
  inits : List (String × String)
  /-- constants of the module -/
  cons : List (String × D)
  /-- lambdas: name, captured slots, text -/
  lam : String → List Nat → LamT → Bool := fun _ _ _ => false
  /-- errors that are raised: class, fields -/
  excs : List (String × List String) := []
  /-- their base -/
  exb : String := "ValueError"

/-- where one stands: the scope, which names may be stored as cells -/
structure Sco where
  sc : Scope
  fn : Str → Bool
  /-- lambdas may be made here -/
  lam : Bool := false

def BF.nm : BF → String
  | .len => "len" | .abs => "abs" | .int => "int" | .tuple => "tuple" | .list => "list" | .all => "all" | .any => "any" | .repr => "repr" | .gcd => "gcd"
def MF.nm : MF → String
  | .bits => "bit_length" | .append => "append" | .popAt => "pop"

def visB (sc : Scope) (x : Str) : Bool := match sc.names.lookup x with
  | some .local | some .cell | some .free => true
  | _ => false
def glB (sc : Scope) (x : Str) : Bool := match sc.names.lookup x with
  | some .globalImplicit => true
  | _ => false
def plainBase : Expr → Bool
  | .Call _ [] [] _ => false
  | _ => true
def notSlice : Expr → Bool
  | .Slice .. => false
  | _ => true
def notSet : Expr → Bool
  | .Set .. => false
  | _ => true
def notStar : Expr → Bool
  | .Starred .. => false
  | _ => true
def notComp : Expr → Bool
  | .ListComp .. | .SetComp .. | .DictComp .. => false
  | _ => true

def mCon : D → Const → Bool
  | .non, .none => true
  | .bl a, .bool b => a == b
  | .int a, .int b => a == b
  | .str a, .str b => decide (a = b)
  | _, _ => false
def mTy1 (T : Tb) (sc : Scope) : TyN → Expr → Bool
  | .bt n, .Name x _ => decide (x = Str.ofString n) && glB sc x && askTys.contains n
  | .cl c, .Name x _ => decide (x = Str.ofString c) && glB sc x && T.cls.contains c
  | _, _ => false
def mTys (T : Tb) (sc : Scope) : List TyN → List Expr → Bool
  | [], [] => true
  | t :: ts, e :: es => mTy1 T sc t e && mTys T sc ts es
  | _, _ => false
/-- the second argument of isinstance -/
def mTy (T : Tb) (sc : Scope) (ts : List TyN) : Expr → Bool
  | .Tuple es _ _ => mTys T sc ts es && decide (2 ≤ ts.length) && decide (ts.length ≤ 50)
  | e => match ts with
    | [t] => mTy1 T sc t e
    | _ => false
/-- the keys of a dict display -/
def mKeys : List Str → List (Option Expr) → Bool
  | [], [] => true
  | k :: ks, some (.Constant (.str x) _ _) :: es => decide (k = x) && mKeys ks es
  | _, _ => false
/-- the comprehension's own names with their slots -/
def ownOf (N : List Str) (own : List Nat) : List (Str × Nat) := own.filterMap fun i => N[i]?.map fun x => (x, i)

/-- the names that are captured -/
def frOf (N : List Str) (js : List Nat) : List Str := js.filterMap fun j => N[j]?
def lamHere (N : List Str) (sc : Scope) (js : List Nat) (scope : Scope) : Bool := decide (js.map (fun j => N[j]?) = (frOf N js).map some) && (frOf N js).all fun y => decide ((y, NameKind.free) ∈ scope.names) && (match sc.names.lookup y with | some .cell => true | some .free => true | _ => false)
def noPars (ps : Arguments) : Bool := ps.posonlyargs.isEmpty && ps.args.isEmpty && ps.vararg.isNone && ps.kwonlyargs.isEmpty && ps.kw_defaults.isEmpty && ps.kwarg.isNone && ps.defaults.isEmpty
section
variable (T : Tb) (N : List Str)
mutual
def mE : IE → Sco → Expr → Bool
  | .var i, s, e => match e with
    | .Name x _ => decide (N[i]? = some x) && visB s.sc x && !(x == ("__debug__" : Str)) && !(x == ("__classdict__" : Str))
    | _ => false
  | .con d, _, e => match e with
    | .Constant c _ _ => mCon d c
    | _ => false
  | .glb x d, s, e => match e with
    | .Name y _ => decide (y = Str.ofString x) && glB s.sc y && T.cons.any fun p => p.1 == x && D.beq p.2 d
    | _ => false
  | .bin op a b, s, e => match e with
    | .BinOp x op' y _ => decide (op = op') && mE a s x && mE b s y
    | _ => false
  | .un op a, s, e => match e with
    | .UnaryOp op' x _ => decide (op = op') && decide (op ≠ .Not) && mE a s x
    | _ => false
  | .not a, s, e => match e with
    | .UnaryOp .Not x _ => mE a s x
    | _ => false
  | .cmp op a b, s, e => match e with
    | .Compare x [op'] [y] _ => decide (op = op') && notSet y && mE a s x && mE b s y
    | _ => false
  | .chain op1 op2 a b c, s, e => match e with
    | .Compare x [o1, o2] [y, z] _ => decide (op1 = o1) && decide (op2 = o2) && notSet z && mE a s x && mE b s y && mE c s z
    | _ => false
  | .chain3 op1 op2 op3 a b c d, s, e => match e with
    | .Compare x [o1, o2, o3] [y, z, u] _ => decide (op1 = o1) && decide (op2 = o2) && decide (op3 = o3) && notSet u && mE a s x && mE b s y && mE c s z && mE d s u
    | _ => false
  | .band a b, s, e => match e with
    | .BoolOp .And [x, y] _ => mE a s x && mE b s y
    | .BoolOp .And (x :: y :: z :: r) pos => mE a s x && mE b s (.BoolOp .And (y :: z :: r) pos)
    | _ => false
  | .bor a b, s, e => match e with
    | .BoolOp .Or [x, y] _ => mE a s x && mE b s y
    | .BoolOp .Or (x :: y :: z :: r) pos => mE a s x && mE b s (.BoolOp .Or (y :: z :: r) pos)
    | _ => false
  | .ite c a b, s, e => match e with
    | .IfExp t x y _ => mE c s t && mE a s x && mE b s y
    | _ => false
  | .attr a f, s, e => match e with
    | .Attribute x y _ => decide (y = Str.ofString f) && plainBase x && mE a s x
    | _ => false
  | .ix a b, s, e => match e with
    | .Subscript x y _ => notSlice y && mE a s x && mE b s y
    | _ => false
  | .sl a lo hi, s, e => match e with
    | .Subscript x (.Slice l h none _) _ => mE a s x && mO lo s l && mO hi s h
    | _ => false
  | .tup es, s, e => match e with
    | .Tuple xs _ _ => mEs es s xs
    | _ => false
  | .lst es, s, e => match e with
    | .List xs _ => mEs es s xs
    | _ => false
  | .dic ks es, s, e => match e with
    | .Dict keys vals _ => mKeys ks keys && mEs es s vals && decide (1 ≤ ks.length) && decide (ks.length ≤ 15) && decide ks.Nodup && decide (ks.length = es.length)
    | _ => false
  | .dic0, _, e => match e with
    | .Dict [] [] _ => true
    | _ => false
  | .isi a ts, s, e => match e with
    | .Call (.Name f _) [x, t] [] _ => decide (f = ("isinstance" : Str)) && glB s.sc f && mE a s x && mTy T s.sc ts t && notStar t && notStar x
    | _ => false
  | .bi f es, s, e => match e with
    | .Call (.Name y _) (x :: xs) [] _ => decide (y = Str.ofString f.nm) && glB s.sc y && (T.gcd || decide (f ≠ .gcd)) && mEs es s (x :: xs)
    | _ => false
  | .mt m a es, s, e => match e with
    | .Call (.Attribute x y apos) xs [] cpos => decide (y = Str.ofString m.nm) && plainBase x && (apos.endLine == cpos.line) && mE a s x && mEs es s xs && (match m with | .bits => xs.isEmpty | _ => decide (xs.length = 1))
    | _ => false
  | .call f es, s, e => match e with
    | .Call (.Name y _) xs [] _ => decide (y = Str.ofString f) && glB s.sc y && !(y == ("__debug__" : Str)) && T.fns.contains f && mEs es s xs
    | _ => false
  | .meth c m a es, s, e => match e with
    | .Call (.Attribute x y apos) xs [] cpos => plainBase x && (apos.endLine == cpos.line) && decide (xs.length < 29) && (T.mths.any fun p => p.1 == c && p.2.2 == m && decide (y = Str.ofString p.2.1)) && mE a s x && mEs es s xs
    | _ => false
  | .new c init p es, s, e => match e with
    | .Call (.Name y _) xs [] _ => decide (y = Str.ofString c) && glB s.sc y && !(y == ("__debug__" : Str)) && T.cls.contains c && (T.inits.any fun q => q.1 == c && q.2 == init) && mEs es s xs
    | _ => false
  | .comp e0 g it ifs own, s, e => match e with
    | .ListComp elt [⟨tg, iter, fs, 0⟩] scope _ => blkC N s.sc scope (ownOf N own) && decide ((ownOf N own).map (·.2) = own) && mI it s tg iter &&
        mG g ⟨relS scope s.sc, fun x => scope.names.lookup x == some .cell, false⟩ tg && ownG g own && mTO ifs ⟨relS scope s.sc, fun x => scope.names.lookup x == some .cell, false⟩ fs && mE e0 ⟨relS scope s.sc, fun x => scope.names.lookup x == some .cell, false⟩ elt
    | _ => false
  | .cellL a, s, e => a.fresh && mE a s e
  | .cellD ks es, s, e => match e with
    | .Dict keys vals _ => mKeys ks keys && mEs es s vals && decide (1 ≤ ks.length) && decide (ks.length ≤ 15) && decide ks.Nodup && decide (ks.length = es.length)
    | _ => false
  | .cellC f es, s, e => match e with
    | .Call (.Name y _) xs [] _ => decide (y = Str.ofString f) && glB s.sc y && !(y == ("__debug__" : Str)) && T.fns.contains f && mEs es s xs
    | _ => false
  | .move a, s, e => mE a s e
  | .lam k js, s, e => match e with
    | .Lambda ps body scope _ => s.lam && LamX.lamSB s.sc scope && lamHere N s.sc js scope && noPars ps && T.lam k js ⟨default, ps, body, scope, frOf N js⟩
    | _ => false
  | .act i, s, e => match e with
    | .Call (.Name x _) [] [] _ => decide (N[i]? = some x) && visB s.sc x && !(x == ("__debug__" : Str)) && !(x == ("__classdict__" : Str))
    | _ => false
  | .callS f es, s, e => match e with
    | .Call (.Name y _) xs [] _ => s.lam && decide (y = Str.ofString f) && glB s.sc y && !(y == ("__debug__" : Str)) && T.fns.contains f && mEs es s xs
    | _ => false
def mEs : List IE → Sco → List Expr → Bool
  | [], _, xs => xs.isEmpty
  | i :: is, s, xs => match xs with
    | x :: r => notStar x && mE i s x && mEs is s r
    | [] => false
def mO : Option IE → Sco → Option Expr → Bool
  | none, _, x => x.isNone
  | some i, s, x => match x with
    | some e => mE i s e
    | none => false
def mTO : Option IE → Sco → List Expr → Bool
  | none, _, xs => xs.isEmpty
  | some i, s, xs => match xs with
    | [e] => mE i s e
    | _ => false
def mG : IG → Sco → Expr → Bool
  | .var i, s, e => match e with
    | .Name x _ => decide (N[i]? = some x) && (match s.sc.names.lookup x with | some .local => true | some .cell => s.fn x | _ => false)
    | _ => false
  | .tup gs, s, e => match e with
    | .Tuple xs _ _ => mGs gs s xs
    | _ => false
  | .sub a b, s, e => match e with
    | .Subscript x y _ => notSlice y && mE a s x && mE b s y
    | _ => false
  | .attr c a f, s, e => match e with
    | .Attribute x y _ => decide (y = Str.ofString f) && T.flds.contains (c, f) && mE a s x
    | _ => false
def mGs : List IG → Sco → List Expr → Bool
  | [], _, xs => xs.isEmpty
  | g :: gs, s, xs => match xs with
    | x :: r => notStar x && mG g s x && mGs gs s r
    | [] => false
/-- the target, what is walked -/
def mI : II → Sco → Expr → Expr → Bool
  | .seq a, s, _, e => notSet e && mE a s e
  | .range1 a, s, _, e => match e with
    | .Call (.Name f _) [x] [] _ => decide (f = ("range" : Str)) && glB s.sc f && notStar x && mE a s x
    | _ => false
  | .range2 a b, s, _, e => match e with
    | .Call (.Name f _) [x, y] [] _ => decide (f = ("range" : Str)) && glB s.sc f && notStar x && notStar y && mE a s x && mE b s y
    | _ => false
  | .enum a, s, tg, e => match tg, e with
    | .Tuple _ _ _, .Call (.Name f _) [x] [] _ => decide (f = ("enumerate" : Str)) && glB s.sc f && notStar x && mE a s x
    | _, _ => false
  | .zip a b, s, tg, e => match tg, e with
    | .Tuple _ _ _, .Call (.Name f _) [x, y] [] _ => decide (f = ("zip" : Str)) && glB s.sc f && notStar x && notStar y && mE a s x && mE b s y
    | _, _ => false
  | .zip3 a b c, s, tg, e => match tg, e with
    | .Tuple _ _ _, .Call (.Name f _) [x, y, z] [] _ => decide (f = ("zip" : Str)) && glB s.sc f && notStar x && notStar y && notStar z && mE a s x && mE b s y && mE c s z
    | _, _ => false
/-- a comprehension's target stores its own names alone -/
def ownG : IG → List Nat → Bool
  | .var i, own => own.contains i
  | .tup gs, own => ownGs gs own
  | _, _ => false
def ownGs : List IG → List Nat → Bool
  | [], _ => true
  | g :: gs, own => ownG g own && ownGs gs own
end
end
end Pi
end

section
/-! PiRules: one rule a construct: the readings by the small interpreter. -/
namespace Pi
open PySem PySem.Spec PyProof.Rows L2

mutual
/-- slots that a target stores -/
def slotsG : IG → List Nat
  | .var i => [i]
  | .tup gs => slotsGs gs
  | _ => []
def slotsGs : List IG → List Nat
  | [] => []
  | g :: gs => slotsG g ++ slotsGs gs
end
/-- behind a target's store: the slots, those elsewhere as they were -/
def rlG (C : Kt) (σ0 : L2.St) (ks : List Nat) : Rl Slots L2.St where
  r := fun _ _ w env σ => EE C env σ w ∧ σ.length = σ0.length ∧ ∀ i, i ∉ ks → σ[i]? = σ0[i]?
  back := fun _ h => h
/-- what is walked: the items as they come -/
def ItOk (C : Kt) (B : Nat → Prop) (J : It) (items : List D) (g1 g2 : Guard) (w0 : Wd) : Prop :=
  ∀ (w : Wd) (S : Store) (i : Nat), Ext w0 w → SS C B S w → okG S g1 = true → okG S g2 = true →
    (∀ d, items[i]? = some d → J.go i w.H ∧ ∀ x H', J.yld i w.H x H' → ∃ w', w'.H = H' ∧ Ext w w' ∧ SS C B S w' ∧ VR C w' d x) ∧ (items.length = i → J.stop i w.H)
def rlI (C : Kt) (B : Nat → Prop) : Rl (List D × Guard × Guard) It where
  r := fun _ _ w a J => ItOk C B J a.1 a.2.1 a.2.2 w
  back := fun _ h => h

/-- the state of a frame -/
structure At (C : Kt) (B : Nat → Prop) (b : Nat) (S : Store) (env : Slots) (w : Wd) (σ : L2.St) (H : Hp) : Prop where
  hp : w.H = H
  ss : SS C B S w
  ee : EE C env σ w
  bb : ∀ b', B b' → b' ≤ b
theorem At.ext {C : Kt} {B : Nat → Prop} {b : Nat} {S S' : Store} {env : Slots} {w w' : Wd} {σ : L2.St} {H : Hp} (a : At C B b S env w σ H) (x : Ext w w') (s : SS C B S' w') : At C B b S' env w' σ w'.H :=
  ⟨rfl, s, a.ee.ext x.toGr a.ss.muts, a.bb⟩
theorem At.gr {C : Kt} {B : Nat → Prop} {b : Nat} {S S' : Store} {env : Slots} {w w' : Wd} {σ : L2.St} {H : Hp} (a : At C B b S env w σ H) (x : Gr w w') (s : SS C B S' w') : At C B b S' env w' σ w'.H :=
  ⟨rfl, s, a.ee.ext x a.ss.muts, a.bb⟩

section
variable (C : Kt) (E : XK) (κ : Calls) (b : Nat)
def tI (i : IE) : TE := fun σ H Q => ∃ B w S env, At C B b S env w σ H ∧ Po C E B (rlD C i.fresh) w (ev κ b false i env S) Q
def tT (i : IE) : TT := fun σ H Q => ∃ B w S env, At C B b S env w σ H ∧ Po C E B (rlE Bool) w (asB (ev κ b true i env S)) Q
def tIs (is : List IE) : TA := fun σ H Q => ∃ B w S env, At C B b S env w σ H ∧ Po C E B (rlDs C) w (evEs κ b is env S) Q
def tOp' (o : Option IE) : TO := fun σ H Q => ∃ B w S env, At C B b S env w σ H ∧ Po C E B (rlE (Option Int)) w (evO κ b o env S) Q
def tTO (o : Option IE) : TT := fun σ H Q => ∃ B w S env, At C B b S env w σ H ∧ Po C E B (rlE Bool) w (evTO κ b o env S) Q
def tGt (g : IG) : TG := fun v σ H Q => ∃ B w S env d, At C B b S env w σ H ∧ VR C w d v ∧ Po C E B (rlG C σ (slotsG g)) w (evG κ b g d env S) Q
def tGts (gs : List IG) : TGs := fun vs σ H Q => ∃ B w S env ds, At C B b S env w σ H ∧ VRs C w ds vs ∧ Po C E B (rlG C σ (slotsGs gs)) w (evGs κ b gs ds env S) Q
def tIt (i : II) : TI := fun σ H R => ∃ B w S env, At C B b S env w σ H ∧ Po C E B (rlI C B) w (evI κ b i env S) R
end

theorem PE.imp {X : Cx} {e : Expr} {t t' : TE} (h : PE X e t) (i : ∀ σ H Q, t' σ H Q → t σ H Q) : PE X e t' := ⟨fun pins s σ H Q I q => h.run pins s σ H Q I (i _ _ _ q)⟩
theorem PT.imp {X : Cx} {e : Expr} {t t' : TT} (h : PT X e t) (i : ∀ σ H Q, t' σ H Q → t σ H Q) : PT X e t' := ⟨fun pins s σ H Q I q => h.run pins s σ H Q I (i _ _ _ q)⟩
theorem PW.imp {X : Cx} {e : Expr} {t t' : TT} (h : PW X e t) (i : ∀ σ H Q, t' σ H Q → t σ H Q) : PW X e t' := ⟨fun wh pins s σ H Q I q => h.run wh pins s σ H Q I (i _ _ _ q)⟩
theorem PA.imp {X : Cx} {e : List Expr} {t t' : TA} (h : PA X e t) (i : ∀ σ H Q, t' σ H Q → t σ H Q) : PA X e t' := ⟨fun pos pins s σ H Q I q => h.run pos pins s σ H Q I (i _ _ _ q)⟩
theorem PO.imp {X : Cx} {e : Option Expr} {t t' : TO} (h : PO X e t) (i : ∀ σ H Q, t' σ H Q → t σ H Q) : PO X e t' := ⟨fun pins s σ H Q I q => h.run pins s σ H Q I (i _ _ _ q)⟩
theorem PS.imp {X : Cx} {e : Stmt} {t t' : TS} (h : PS X e t) (i : ∀ D σ H, t' D σ H → t D σ H) : PS X e t' := ⟨fun pins s σ H D I q => h.run pins s σ H D I (i _ _ _ q)⟩
theorem PSs.imp {X : Cx} {e : List Stmt} {t t' : TS} (h : PSs X e t) (i : ∀ D σ H, t' D σ H → t D σ H) : PSs X e t' := ⟨fun pins s σ H D I q => h.run pins s σ H D I (i _ _ _ q)⟩
theorem PG.imp {X : Cx} {e : Expr} {t t' : TG} (h : PG X e t) (i : ∀ v σ H Q, t' v σ H Q → t v σ H Q) : PG X e t' := ⟨fun pins s σ H v u Q I r q => h.run pins s σ H v u Q I r (i _ _ _ _ q)⟩
theorem PI.imp {X : Cx} {tg e : Expr} {t t' : TI} (h : PI X tg e t) (i : ∀ σ H R, t' σ H R → t σ H R) : PI X tg e t' := ⟨fun pins s σ H R I q => h.run pins s σ H R I (i _ _ _ q)⟩

section
variable {C : Kt} {E : XK} {κ : Calls} {b : Nat} {B : Nat → Prop} {S : Store} {env : Slots} {w : Wd} {σ : L2.St} {H : Hp} {γ δ : Type} {rel2 : Rl γ δ} {Q2 : δ → Hp → Prop}
/-- an expression, then what follows: with its value settled -/
theorem tI_bind {i : IE} {f : D → Store → R γ} {Q : V → Hp → Prop} (a : At C B b S env w σ H) (h : Po C E B rel2 w ((ev κ b false i env S).bind f) Q2)
    (k : ∀ w1 S1 d v, At C B b S1 env w1 σ w1.H → Ext w w1 → VR C w1 d v → Po C E B rel2 w1 (f d S1) Q2 → Q v w1.H) : tI C E κ b i σ H Q :=
  ⟨B, w, S, env, a, (Po.bind h).mono fun v H1 ⟨w1, S1, d, e, x, s, r, p⟩ => by
    obtain ⟨w2, e2, er, x2, g2, s2, r2⟩ := RR.settle x s r
    subst e
    have := k w2 S1 d v (a.ext x2 s2) x2 r2 (p.ext x2)
    rw [e2] at this
    exact this⟩
theorem tT_bind {i : IE} {f : Bool → Store → R γ} {Q : Bool → Hp → Prop} (a : At C B b S env w σ H) (h : Po C E B rel2 w ((asB (ev κ b true i env S)).bind f) Q2)
    (k : ∀ w1 S1 c, At C B b S1 env w1 σ w1.H → Ext w w1 → Po C E B rel2 w1 (f c S1) Q2 → Q c w1.H) : tT C E κ b i σ H Q :=
  ⟨B, w, S, env, a, (Po.bind h).mono fun v H1 ⟨w1, S1, d, e, x, s, r, p⟩ => by
    subst e
    have r' : d = v := r
    subst r'
    exact k w1 S1 d (a.ext x s) x (p.ext x)⟩
theorem tIs_bind {is : List IE} {f : List D → Store → R γ} {Q : List V → Hp → Prop} (a : At C B b S env w σ H) (h : Po C E B rel2 w ((evEs κ b is env S).bind f) Q2)
    (k : ∀ w1 S1 ds vs, At C B b S1 env w1 σ w1.H → Ext w w1 → VRs C w1 ds vs → Po C E B rel2 w1 (f ds S1) Q2 → Q vs w1.H) : tIs C E κ b is σ H Q :=
  ⟨B, w, S, env, a, (Po.bind h).mono fun v H1 ⟨w1, S1, d, e, x, s, r, p⟩ => by
    subst e
    exact k w1 S1 d v (a.ext x s) x r (p.ext x)⟩
theorem tO_bind {o : Option IE} {f : Option Int → Store → R γ} {Q : Option Int → Hp → Prop} (a : At C B b S env w σ H) (h : Po C E B rel2 w ((evO κ b o env S).bind f) Q2)
    (k : ∀ w1 S1 c, At C B b S1 env w1 σ w1.H → Ext w w1 → Po C E B rel2 w1 (f c S1) Q2 → Q c w1.H) : tOp' C E κ b o σ H Q :=
  ⟨B, w, S, env, a, (Po.bind h).mono fun v H1 ⟨w1, S1, d, e, x, s, r, p⟩ => by
    subst e
    have r' : d = v := r
    subst r'
    exact k w1 S1 d (a.ext x s) x (p.ext x)⟩
/-- an option, then what follows: it is there -/
theorem po_of {α : Type} {o : Option α} {f : α → Store → R γ} (h : Po C E B rel2 w ((R.of o S).bind f) Q2) : ∃ a, o = some a ∧ Po C E B rel2 w (f a S) Q2 := by
  cases o with
  | none => exact h.elim
  | some a => exact ⟨a, rfl, h⟩
/-- a truth value at the end -/
theorem po_tf {c : Bool} {fr : Bool} {Q : V → Hp → Prop} (s : SS C B S w) (h : Po C E B (rlD C fr) w (.ok (.bl c) S) Q) : Q (.bl c) w.H := po_bl s h
theorem po_eq {α : Type} {c : α} {Q : α → Hp → Prop} (s : SS C B S w) (h : Po C E B (rlE α) w (.ok c S) Q) : Q c w.H := h w c (.refl w) s rfl
end

/-! ### the bases are any -/
section
variable {X : Cx}
theorem OpR.ex {ι : Type} {f : Value → Value → Sem Value} {r : ι → R2} (h : ∀ B, OpR X f (r B)) : OpR X f (fun x y H Q => ∃ B, r B x y H Q) := fun pins s σ H x y v u Q I rx ry ⟨B, q⟩ => h B pins s σ H x y v u Q I rx ry q
theorem UnR.ex {ι : Type} {f : Value → Sem Value} {r : ι → V → Hp → VK → Prop} (h : ∀ B, UnR X f (r B)) : UnR X f (fun x H Q => ∃ B, r B x H Q) := fun pins s σ H x v Q I rx ⟨B, q⟩ => h B pins s σ H x v Q I rx q
theorem CallR.ex {ι : Type} {f : Value} {r : ι → List V → Hp → VK → Prop} (h : ∀ B, CallR X f (r B)) : CallR X f (fun x H Q => ∃ B, r B x H Q) := fun pins s σ H x v Q I rx ⟨B, q⟩ => h B pins s σ H x v Q I rx q
theorem MtR.ex {ι : Type} {id : String} {r : ι → V → List V → Hp → VK → Prop} (h : ∀ B, MtR X id (r B)) : MtR X id (fun x xs H Q => ∃ B, r B x xs H Q) := fun pins s σ H x xs v us Q I rx rs ⟨B, q⟩ => h B pins s σ H x xs v us Q I rx rs q
theorem IxR.ex {ι : Type} {r : ι → R2} (h : ∀ B, IxR X (r B)) : IxR X (fun x y H Q => ∃ B, r B x y H Q) := fun value slice pins s σ H x y v u Q I rx ry ⟨B, q⟩ => h B value slice pins s σ H x y v u Q I rx ry q
theorem SlR.ex {ι : Type} {r : ι → V → Option Int → Option Int → Hp → VK → Prop} (h : ∀ B, SlR X (r B)) : SlR X (fun x l u H Q => ∃ B, r B x l u H Q) := fun pins s σ H x v vl vu lo hi sl Q I rx hs pl pu ⟨B, q⟩ => h B pins s σ H x v vl vu lo hi sl Q I rx hs pl pu q
theorem TruR.ex {ι : Type} {r : ι → V → Hp → (Bool → Hp → Prop) → Prop} (h : ∀ B, TruR X (r B)) : TruR X (fun x H Q => ∃ B, r B x H Q) := fun pins s σ H x v Q I rx ⟨B, q⟩ => h B pins s σ H x v Q I rx q
theorem PSet.ex {ι : Type} {r : ι → TSet} (h : ∀ B, PSet X (r B)) : PSet X (fun o i v H Q => ∃ B, r B o i v H Q) := fun pins s σ H o i v ov iv u Q I ro ri rv ⟨B, q⟩ => h B pins s σ H o i v ov iv u Q I ro ri rv q
end

/-! ### expressions -/
section
variable {CL : List String × List (String × String) × Lx} {X : Cx} {E : XK} {κ : Calls} {b : Nat} {x y z : Expr} {i j k : IE} {pos : Pos}
/-- an expression that is no test by itself, as a test -/
theorem rt_of (he : PE X x (tI (kt CL X) E κ b i)) (hw : ∀ whole, isTrue x X.env whole = (do let v ← whole; standAt x.pos; holding [v] (truthy v)))
    (hf : ∀ env S, ev κ b true i env S = (ev κ b false i env S).bind fun u S => (R.of (truD S u) S).bind fun c S => .ok (.bl c) S) : PT X x (tT (kt CL X) E κ b i) := by
  refine ⟨fun pins s σ H Q I ⟨B, w, S, env, a, h⟩ => ?_⟩
  rw [hf] at h
  have h' : Po (kt CL X) E B (rlE Bool) w ((ev κ b false i env S).bind fun u S => (R.of (truD S u) S)) Q := by
    cases q : ev κ b false i env S with
    | bad => rw [q] at h; exact h.elim
    | err e S' => rw [q] at h; exact h
    | ok d S' =>
      rw [q] at h
      cases q2 : truD S' d with
      | none =>
        have : Po (kt CL X) E B (rlE Bool) w (asB ((R.of (truD S' d) S').bind fun c S => .ok (.bl c) S)) Q := h
        rw [q2] at this
        exact this.elim
      | some c =>
        have : Po (kt CL X) E B (rlE Bool) w (asB ((R.of (truD S' d) S').bind fun c S => .ok (.bl c) S)) Q := h
        rw [q2] at this
        show Po (kt CL X) E B (rlE Bool) w (R.of (truD S' d) S') Q
        rw [q2]
        exact this
  refine isTrue_plain (thn (he.run pins s σ H (fun v H1 => ∃ B w1 S1 d c, w1.H = H1 ∧ SS (kt CL X) B S1 w1 ∧ VR (kt CL X) w1 d v ∧ truD S1 d = some c ∧ Q c H1) I ?_) fun v s1 ⟨y, H1, I1, r1, B', w1, S1, d, c, e, ss, rv, hc, q⟩ => ?_) (hw _)
  · refine tI_bind a h' fun w1 S1 d v a1 x1 r1 p1 => ?_
    cases q2 : truD S1 d with
    | none => rw [q2] at p1; exact p1.elim
    | some c =>
      rw [q2] at p1
      exact ⟨B, w1, S1, d, c, rfl, a1.ss, r1, q2, po_eq a1.ss p1⟩
  · exact st_tru (CL := CL) (B := B') pins s1 σ H1 y v Q I1 r1 ⟨w1, S1, d, e, ss, rv, c, hc, q⟩
theorem re_bin {op : Operator} (hx : PE X x (tI (kt CL X) E κ b i)) (hy : PE X y (tI (kt CL X) E κ b j)) : PE X (.BinOp x op y pos) (tI (kt CL X) E κ b (.bin op i j)) :=
  PE.imp (pe_op (OpR.ex fun B => sb_bin (E := E) (B := B) op) hx hy) fun σ H Q ⟨B, w, S, env, a, h⟩ => by
    have h' : Po (kt CL X) E B (rlD (kt CL X) true) w ((ev κ b false i env S).bind fun u S => (ev κ b false j env S).bind fun v S => R.of (binD op S u v) S) Q := h
    refine tI_bind a h' fun w1 S1 d v a1 x1 r1 p1 => ?_
    refine tI_bind a1 p1 fun w2 S2 e u a2 x2 r2 p2 => ?_
    exact ⟨B, w2, S2, d, e, rfl, a2.ss, VR.ext x2.toGr a1.ss.muts _ _ r1, r2, p2⟩
theorem re_un {op : UnaryOp} (hx : PE X x (tI (kt CL X) E κ b i)) : PE X (.UnaryOp op x pos) (tI (kt CL X) E κ b (.un op i)) :=
  PE.imp (pe_un (UnR.ex fun B => su_un (E := E) (B := B) op) hx) fun σ H Q ⟨B, w, S, env, a, h⟩ => by
    have h' : Po (kt CL X) E B (rlD (kt CL X) false) w ((ev κ b false i env S).bind fun u S => R.of (unD op u) S) Q := h
    refine tI_bind a h' fun w1 S1 d v a1 x1 r1 p1 => ?_
    exact ⟨B, w1, S1, d, rfl, a1.ss, r1, p1⟩
theorem re_var {n : Nat} {id : Str} (hN : X.N[n]? = some id) (hv : Vis X.env.scope id) (hd : (id == ("__debug__" : Str)) = false) (hcd : (id == ("__classdict__" : Str)) = false) : PE X (.Name id pos) (tI (kt CL X) E κ b (.var n)) :=
  PE.imp (pe_var hN hv hd hcd) fun σ H Q ⟨B, w, S, env, a, h⟩ => by
    have h' : Po (kt CL X) E B (rlD (kt CL X) false) w (R.of (env[n]?.bind fun x => x) S) Q := h
    cases q : env[n]? with
    | none => rw [q] at h'; exact h'.elim
    | some o =>
      rw [q] at h'
      cases o with
      | none => exact h'.elim
      | some d =>
        obtain ⟨v, e1, r⟩ := a.ee.slot n d q
        refine ⟨v, e1, ?_⟩
        rw [← a.hp]
        exact po_val a.ss h' (.inl rfl) r
theorem re_con {d : D} {c : Const} {n : Nat} (hm : mCon d c = true) : PE X (.Constant c n pos) (tI (kt CL X) E κ b (.con d)) := by
  have fin : ∀ (v : V), (∀ w, VR (kt CL X) w d v) → (∀ σ H Q, tC v σ H Q → tC v σ H Q) → ∀ σ H Q, tI (kt CL X) E κ b (.con d) σ H Q → tC v σ H Q := fun v hv _ σ H Q ⟨B, w, S, env, a, h⟩ => by
    have h' : Po (kt CL X) E B (rlD (kt CL X) false) w (.ok d S) Q := h
    show Q v H
    rw [← a.hp]
    exact po_val a.ss h' (.inl rfl) (hv w)
  cases d <;> cases c <;> first
    | (simp [mCon] at hm; done)
    | (simp only [mCon, beq_iff_eq, decide_eq_true_eq] at hm; subst hm; exact PE.imp pe_bl (fin _ (fun _ => by unfold VR; rfl) fun _ _ _ h => h))
    | (simp only [mCon, beq_iff_eq, decide_eq_true_eq] at hm; subst hm; exact PE.imp pe_int (fin _ (fun _ => by unfold VR; rfl) fun _ _ _ h => h))
    | (simp only [mCon, beq_iff_eq, decide_eq_true_eq] at hm; subst hm; exact PE.imp pe_str (fin _ (fun _ => by unfold VR; rfl) fun _ _ _ h => h))
    | exact PE.imp pe_non (fin _ (fun _ => by unfold VR; rfl) fun _ _ _ h => h)
theorem re_glb {d : D} {n : String} {id : Str} {u : Value} {v : V} (hg : Gl X id) (hm : X.mg id = some u) (r : RelV v u) (hv : ∀ w, VR (kt CL X) w d v) (hd : (id == ("__debug__" : Str)) = false) : PE X (.Name id pos) (tI (kt CL X) E κ b (.glb n d)) :=
  PE.imp (pe_glob hg hm r hd) fun σ H Q ⟨B, w, S, env, a, h⟩ => by
    have h' : Po (kt CL X) E B (rlD (kt CL X) false) w (.ok d S) Q := h
    show Q v H
    rw [← a.hp]
    exact po_val a.ss h' (.inl rfl) (hv w)
theorem re_cmp {op : CmpOp} (hu : X.A.units + 65 < cLine) (hm : behindInMarks op y = false) (hx : PE X x (tI (kt CL X) E κ b i)) (hy : PE X y (tI (kt CL X) E κ b j)) : PE X (.Compare x [op] [y] pos) (tI (kt CL X) E κ b (.cmp op i j)) :=
  PE.imp (pe_cmpR (OpR.ex fun B => sc_cmp (CL := CL) (B := B) hu op) hx hy hm) fun σ H Q ⟨B, w, S, env, a, h⟩ => by
    have h' : Po (kt CL X) E B (rlD (kt CL X) false) w ((ev κ b false i env S).bind fun u S => (ev κ b false j env S).bind fun v S => (R.of (cmpD op S u v) S).bind fun c S => .ok (.bl c) S) Q := h
    refine tI_bind a h' fun w1 S1 d v a1 x1 r1 p1 => ?_
    refine tI_bind a1 p1 fun w2 S2 e u a2 x2 r2 p2 => ?_
    obtain ⟨c, hc, p3⟩ := po_of p2
    exact ⟨B, w2, S2, d, e, rfl, a2.ss, VR.ext x2.toGr a1.ss.muts _ _ r1, r2, c, hc, po_bl a2.ss p3⟩
theorem asB_bind {α : Type} {r : R α} {f : α → Store → R D} : asB (r.bind f) = r.bind fun a S => asB (f a S) := by
  cases r <;> rfl
theorem rt_cmp {op : CmpOp} (hu : X.A.units + 65 < cLine) (hm : behindInMarks op y = false) (hx : PE X x (tI (kt CL X) E κ b i)) (hy : PE X y (tI (kt CL X) E κ b j)) : PT X (.Compare x [op] [y] pos) (tT (kt CL X) E κ b (.cmp op i j)) :=
  PT.imp (pt_cmpR (OpR.ex fun B => sc_cmp (CL := CL) (B := B) hu op) hx hy hm) fun σ H Q ⟨B, w, S, env, a, h⟩ => by
    have h' : Po (kt CL X) E B (rlE Bool) w (asB ((ev κ b false i env S).bind fun u S => (ev κ b false j env S).bind fun v S => (R.of (cmpD op S u v) S).bind fun c S => .ok (.bl c) S)) Q := h
    simp only [asB_bind] at h'
    refine tI_bind a h' fun w1 S1 d v a1 x1 r1 p1 => ?_
    refine tI_bind a1 p1 fun w2 S2 e u a2 x2 r2 p2 => ?_
    obtain ⟨c, hc, p3⟩ := po_of p2
    exact ⟨B, w2, S2, d, e, rfl, a2.ss, VR.ext x2.toGr a1.ss.muts _ _ r1, r2, c, hc, c, rfl, po_eq a2.ss p3⟩
theorem re_chain {op op' : CmpOp} (hu : X.A.units + 65 < cLine) (hm : lastMarks [op, op'] [y, z] = false) (hx : PE X x (tI (kt CL X) E κ b i)) (hy : PE X y (tI (kt CL X) E κ b j)) (hz : PE X z (tI (kt CL X) E κ b k)) : PE X (.Compare x [op, op'] [y, z] pos) (tI (kt CL X) E κ b (.chain op op' i j k)) :=
  PE.imp (pe_chain (OpR.ex fun B => sc_cmp (CL := CL) (B := B) hu op) (OpR.ex fun B => sc_cmp (CL := CL) (B := B) hu op') hx hy hz hm) fun σ H Q ⟨B, w, S, env, a, h⟩ => by
    have h' : Po (kt CL X) E B (rlD (kt CL X) false) w ((ev κ b false i env S).bind fun u S => (ev κ b false j env S).bind fun v S => (R.of (cmpD op S u v) S).bind fun c S =>
      if c then (ev κ b false k env S).bind fun w S => (R.of (cmpD op' S v w) S).bind fun c S => .ok (.bl c) S else .ok (.bl false) S) Q := h
    refine tI_bind a h' fun w1 S1 d v a1 x1 r1 p1 => ?_
    refine tI_bind a1 p1 fun w2 S2 e u a2 x2 r2 p2 => ?_
    obtain ⟨c, hc, p3⟩ := po_of p2
    refine ⟨B, w2, S2, d, e, rfl, a2.ss, VR.ext x2.toGr a1.ss.muts _ _ r1, r2, c, hc, c, rfl, ?_⟩
    cases c with
    | false => exact po_bl a2.ss p3
    | true =>
      refine tI_bind a2 p3 fun w3 S3 f t a3 x3 r3 p4 => ?_
      obtain ⟨c', hc', p5⟩ := po_of p4
      exact ⟨B, w3, S3, e, f, rfl, a3.ss, VR.ext x3.toGr a2.ss.muts _ _ r2, r3, c', hc', po_bl a3.ss p5⟩
theorem rt_chain {op op' : CmpOp} (hu : X.A.units + 65 < cLine) (hm : lastMarks [op, op'] [y, z] = false) (hx : PE X x (tI (kt CL X) E κ b i)) (hy : PE X y (tI (kt CL X) E κ b j)) (hz : PE X z (tI (kt CL X) E κ b k)) : PT X (.Compare x [op, op'] [y, z] pos) (tT (kt CL X) E κ b (.chain op op' i j k)) :=
  PT.imp (pt_chain (OpR.ex fun B => sc_cmp (CL := CL) (B := B) hu op) (OpR.ex fun B => sc_cmp (CL := CL) (B := B) hu op') hx hy hz hm) fun σ H Q ⟨B, w, S, env, a, h⟩ => by
    have h' : Po (kt CL X) E B (rlE Bool) w (asB ((ev κ b false i env S).bind fun u S => (ev κ b false j env S).bind fun v S => (R.of (cmpD op S u v) S).bind fun c S =>
      if c then (ev κ b false k env S).bind fun w S => (R.of (cmpD op' S v w) S).bind fun c S => .ok (.bl c) S else .ok (.bl false) S)) Q := h
    simp only [asB_bind] at h'
    refine tI_bind a h' fun w1 S1 d v a1 x1 r1 p1 => ?_
    refine tI_bind a1 p1 fun w2 S2 e u a2 x2 r2 p2 => ?_
    obtain ⟨c, hc, p3⟩ := po_of p2
    refine ⟨B, w2, S2, d, e, rfl, a2.ss, VR.ext x2.toGr a1.ss.muts _ _ r1, r2, c, hc, c, rfl, ?_⟩
    cases c with
    | false => exact ⟨false, rfl, po_eq a2.ss p3⟩
    | true =>
      simp only [if_true, asB_bind] at p3
      refine tI_bind a2 p3 fun w3 S3 f t a3 x3 r3 p4 => ?_
      obtain ⟨c', hc', p5⟩ := po_of p4
      exact ⟨B, w3, S3, e, f, rfl, a3.ss, VR.ext x3.toGr a2.ss.muts _ _ r2, r3, c', hc', c', rfl, po_eq a3.ss p5⟩
end
end Pi
end

section
/-! PiRules2: more constructs. -/
namespace Pi
open PySem PySem.Spec PyProof.Rows L2

section
variable {α : Type} {C : Kt} {E : XK} {B : Nat → Prop} {S : Store} {w : Wd} {Q : V → Hp → Prop} {r : R D} {fr : Bool}
theorem rr_of {C : Kt} {w0 : Wd} {S : Store} {w : Wd} {d : D} {v : V} (h : VR C w d v) : (rlD C false).r w0 S w d v := h
/-- what is wanted of a value is wanted of a new list too -/
theorem po_fr (h : Po C E B (rlD C false) w r Q) : Po C E B (rlD C fr) w r Q := by
  cases r with
  | bad => exact h
  | err x S' => exact h
  | ok d S' =>
    intro w' v x s q
    obtain ⟨w2, e, _, x2, g2, s2, r2⟩ := RR.settle x s q
    rw [← e]
    exact h w2 v x2 s2 (show RR C false w S' w2 d v from RR.of r2)
theorem asB_bnd {β : Type} {r : R D} {f : Bool → Store → R β} : (asB r).bind f = r.bind fun u S => match u with | .bl c => f c S | _ => .bad := by
  cases r with
  | ok d S => cases d <;> rfl
  | _ => rfl
end
theorem tI_fr {C : Kt} {E : XK} {κ : Calls} {b : Nat} {B : Nat → Prop} {S : Store} {env : Slots} {w : Wd} {σ : L2.St} {H : Hp} {i : IE} {Q : VK} (a : At C B b S env w σ H) (h : Po C E B (rlD C false) w (ev κ b false i env S) Q) : tI C E κ b i σ H Q := ⟨B, w, S, env, a, po_fr h⟩
theorem tT_of {C : Kt} {E : XK} {κ : Calls} {b : Nat} {B : Nat → Prop} {S : Store} {env : Slots} {w : Wd} {σ : L2.St} {H : Hp} {i : IE} {Q : Bool → Hp → Prop} (a : At C B b S env w σ H) (h : Po C E B (rlE Bool) w (asB (ev κ b true i env S)) Q) : tT C E κ b i σ H Q := ⟨B, w, S, env, a, h⟩
theorem truV_of {C : Kt} {B : Nat → Prop} {S : Store} {w : Wd} {d : D} {v : V} {c : Bool} (ss : SS C B S w) (hx : VR C w d v) (hc : truD S d = some c) : TruV C.K v w.H c := by
  rcases truD_inv hc with ⟨rfl, rfl⟩ | rfl | ⟨i, rfl, rfl⟩ | ⟨i, rfl, hl, rfl⟩ | ⟨xs, e, rfl⟩
  · cases vnon hx; exact rfl
  · cases vbl hx; exact rfl
  · cases vint hx; exact rfl
  · cases vstr hx
    refine ⟨hl, ?_⟩
    by_cases hz : i.length = 0
    · rw [hz]; rfl
    · rw [decide_eq_true hz]
      symm
      exact bne_iff_ne.mpr (by omega)
  · obtain ⟨a, vs, rfl, ha, ra⟩ := seq_rel ss hx e
    have hl := ra.length
    have he : (!xs.isEmpty) = !vs.isEmpty := by
      cases xs <;> cases vs <;> simp at hl ⊢
    rw [he]
    rcases ha with ha | ha
    · exact .inl ⟨vs, ha, rfl⟩
    · exact .inr (.inl ⟨vs, ha, rfl⟩)

/-! ### no star -/
theorem star_one {e : Expr} {es : List Expr} {env : Env} (h : notStar e = true) : starEach (e :: es) env = (false, eval e env) :: starEach es env := by
  cases e <;> first | rfl | (simp [notStar] at h)
theorem star_all {env : Env} {pos : Pos} : ∀ {es : List Expr}, es.all notStar = true → (backTo pos (starEach es env)).any (·.1) = false
  | [], _ => rfl
  | e :: es, h => by
    simp only [List.all_cons, Bool.and_eq_true] at h
    rw [star_one h.1]
    have := star_all (env := env) (pos := pos) h.2
    show ((false, _) :: backTo pos (starEach es env)).any (·.1) = false
    rw [List.any_cons, this]; rfl
theorem star_not {env : Env} {pos : Pos} : ∀ {es : List Expr}, es.all notStar = true → (backTo pos (starEach es env)).all (fun x => !x.1) = true
  | [], _ => rfl
  | e :: es, h => by
    simp only [List.all_cons, Bool.and_eq_true] at h
    rw [star_one h.1]
    have := star_not (env := env) (pos := pos) h.2
    show ((false, _) :: backTo pos (starEach es env)).all (fun x => !x.1) = true
    rw [List.all_cons, this]; rfl
theorem base_ok {e : Expr} {f : Str} {env : Env} (h : plainBase e = true) : attributeBase e f env (eval e env) = eval e env := by
  unfold plainBase at h
  cases e with
  | Call fn as ks p =>
    cases fn <;> first | rfl | skip
    cases as <;> first | rfl | skip
    cases ks <;> first | rfl | skip
    simp at h
  | _ => rfl
theorem plainIx_ok {e : Expr} (h : notSlice e = true) : PlainIx e := by
  intro o i
  cases e <;> first | rfl | (simp [notSlice] at h)

/-! ### and, or, not, if -/
section
variable {CL : List String × List (String × String) × Lx} {X : Cx} {E : XK} {κ : Calls} {b : Nat} {x y z : Expr} {r : List Expr} {i j k : IE} {pos : Pos}
theorem re_band (hx : PE X x (tI (kt CL X) E κ b i)) (hy : PE X (.BoolOp .And (y :: r) pos) (tI (kt CL X) E κ b j)) : PE X (.BoolOp .And (x :: y :: r) pos) (tI (kt CL X) E κ b (.band i j)) :=
  PE.imp (pe_and hx hy) fun σ H Q ⟨B, w, S, env, a, h⟩ => by
    have h' : Po (kt CL X) E B (rlD (kt CL X) false) w ((asB (ev κ b false i env S)).bind fun c S => if c then ev κ b false j env S else .ok (.bl false) S) Q := h
    rw [asB_bnd] at h'
    refine tI_bind a h' fun w1 S1 d v a1 x1 r1 p1 => ?_
    cases d with
    | bl c =>
      refine ⟨c, vbl r1, ?_⟩
      cases c with
      | true => exact tI_fr a1 p1
      | false => exact po_bl a1.ss p1
    | _ => exact p1.elim
theorem re_bor (hx : PE X x (tI (kt CL X) E κ b i)) (hy : PE X (.BoolOp .Or (y :: r) pos) (tI (kt CL X) E κ b j)) : PE X (.BoolOp .Or (x :: y :: r) pos) (tI (kt CL X) E κ b (.bor i j)) :=
  PE.imp (pe_or hx hy) fun σ H Q ⟨B, w, S, env, a, h⟩ => by
    have h' : Po (kt CL X) E B (rlD (kt CL X) false) w ((asB (ev κ b false i env S)).bind fun c S => if c then .ok (.bl true) S else ev κ b false j env S) Q := h
    rw [asB_bnd] at h'
    refine tI_bind a h' fun w1 S1 d v a1 x1 r1 p1 => ?_
    cases d with
    | bl c =>
      refine ⟨c, vbl r1, ?_⟩
      cases c with
      | false => exact tI_fr a1 p1
      | true => exact po_bl a1.ss p1
    | _ => exact p1.elim
theorem rw_band (hx : PT X x (tT (kt CL X) E κ b i)) (hy : PW X (.BoolOp .And (y :: r) pos) (tT (kt CL X) E κ b j)) : PW X (.BoolOp .And (x :: y :: r) pos) (tT (kt CL X) E κ b (.band i j)) :=
  PW.imp (pw_and hx hy) fun σ H Q ⟨B, w, S, env, a, h⟩ => by
    have h' : Po (kt CL X) E B (rlE Bool) w (asB ((asB (ev κ b true i env S)).bind fun c S => if c then ev κ b true j env S else .ok (.bl false) S)) Q := h
    simp only [asB_bind] at h'
    refine tT_bind a h' fun w1 S1 c a1 x1 p1 => ?_
    cases c with
    | true => exact tT_of a1 p1
    | false => exact po_eq a1.ss p1
theorem rw_bor (hx : PT X x (tT (kt CL X) E κ b i)) (hy : PW X (.BoolOp .Or (y :: r) pos) (tT (kt CL X) E κ b j)) : PW X (.BoolOp .Or (x :: y :: r) pos) (tT (kt CL X) E κ b (.bor i j)) :=
  PW.imp (pw_or hx hy) fun σ H Q ⟨B, w, S, env, a, h⟩ => by
    have h' : Po (kt CL X) E B (rlE Bool) w (asB ((asB (ev κ b true i env S)).bind fun c S => if c then .ok (.bl true) S else ev κ b true j env S)) Q := h
    simp only [asB_bind] at h'
    refine tT_bind a h' fun w1 S1 c a1 x1 p1 => ?_
    cases c with
    | false => exact tT_of a1 p1
    | true => exact po_eq a1.ss p1
theorem re_not (hx : PE X x (tI (kt CL X) E κ b i)) : PE X (.UnaryOp .Not x pos) (tI (kt CL X) E κ b (.not i)) :=
  PE.imp (pe_notT hx) fun σ H Q ⟨B, w, S, env, a, h⟩ => by
    have h' : Po (kt CL X) E B (rlD (kt CL X) false) w ((ev κ b false i env S).bind fun u S => (R.of (truD S u) S).bind fun c S => .ok (.bl !c) S) Q := h
    refine tI_bind a h' fun w1 S1 d v a1 x1 r1 p1 => ?_
    obtain ⟨c, hc, p3⟩ := po_of p1
    exact ⟨c, truV_of a1.ss r1 hc, po_bl a1.ss p3⟩
theorem rt_not (hx : PT X x (tT (kt CL X) E κ b i)) : PT X (.UnaryOp .Not x pos) (tT (kt CL X) E κ b (.not i)) :=
  PT.imp (pt_not hx) fun σ H Q ⟨B, w, S, env, a, h⟩ => by
    have h' : Po (kt CL X) E B (rlE Bool) w (asB ((asB (ev κ b true i env S)).bind fun c S => .ok (.bl !c) S)) Q := h
    simp only [asB_bind] at h'
    refine tT_bind a h' fun w1 S1 c a1 x1 p1 => ?_
    exact po_eq a1.ss p1
theorem re_ite (hx : PT X x (tT (kt CL X) E κ b i)) (hy : PE X y (tI (kt CL X) E κ b j)) (hz : PE X z (tI (kt CL X) E κ b k)) : PE X (.IfExp x y z pos) (tI (kt CL X) E κ b (.ite i j k)) :=
  PE.imp (pe_ifExp hx hy hz) fun σ H Q ⟨B, w, S, env, a, h⟩ => by
    have h' : Po (kt CL X) E B (rlD (kt CL X) false) w ((asB (ev κ b true i env S)).bind fun c S => if c then ev κ b false j env S else ev κ b false k env S) Q := h
    refine tT_bind a h' fun w1 S1 c a1 x1 p1 => ?_
    cases c with
    | true => exact tI_fr a1 p1
    | false => exact tI_fr a1 p1

def tIfT (t u v : TT) : TT := fun σ H Q => t σ H fun c H1 => if c = true then u σ H1 Q else v σ H1 Q
theorem pt_ifT {tA tB' tC' : TT} (hx : PT X x tA) (hy : PT X y tB') (hz : PT X z tC') : PT X (.IfExp x y z pos) (tIfT tA tB' tC') := by
  refine ⟨fun pins s σ H Q I h => ?_⟩
  refine isTrue_IfExp (thn (hx.run pins s σ H _ I h) fun d s1 ⟨H1, I1, q1⟩ => ?_)
  cases d with
  | true => exact hy.run pins s1 σ H1 Q I1 q1
  | false => exact hz.run pins s1 σ H1 Q I1 q1
theorem rt_ite (hx : PT X x (tT (kt CL X) E κ b i)) (hy : PT X y (tT (kt CL X) E κ b j)) (hz : PT X z (tT (kt CL X) E κ b k)) : PT X (.IfExp x y z pos) (tT (kt CL X) E κ b (.ite i j k)) :=
  PT.imp (pt_ifT hx hy hz) fun σ H Q ⟨B, w, S, env, a, h⟩ => by
    have h' : Po (kt CL X) E B (rlE Bool) w (asB ((asB (ev κ b true i env S)).bind fun c S => if c then ev κ b true j env S else ev κ b true k env S)) Q := h
    simp only [asB_bind] at h'
    refine tT_bind a h' fun w1 S1 c a1 x1 p1 => ?_
    cases c with
    | true => exact tT_of a1 p1
    | false => exact tT_of a1 p1
/-! ### attributes, subscripts, slices -/
/-- fields of the classes may be read, stored -/
def FldOk (CL : List String × List (String × String) × Lx) (X : Cx) : Prop := ∀ c f, (c, f) ∈ CL.2.1 → ∀ cl, X.mg (Str.ofString c) = some (.ref cl) → Cls X.K cl ∧ NoAttr X.K cl (Str.ofString f)
theorem look_mem {f : String} : ∀ {ns : List String} {ds : List D} {d : D}, look f ns ds = some d → f ∈ ns
  | [], ds, d, h => by simp [look] at h
  | n :: ns, [], d, h => by simp [look] at h
  | n :: ns, e :: ds, d, h => by
    unfold look at h
    split at h
    · rename_i q; rw [← q]; exact List.mem_cons_self ..
    · exact List.mem_cons_of_mem _ (look_mem h)
theorem re_attr {f : String} (fo : FldOk CL X) (hb : plainBase x = true) (hx : PE X x (tI (kt CL X) E κ b i)) : PE X (.Attribute x (Str.ofString f) pos) (tI (kt CL X) E κ b (.attr i f)) :=
  PE.imp (pe_fld hx (base_ok hb)) fun σ H Q ⟨B, w, S, env, a, h⟩ => by
    have h' : Po (kt CL X) E B (rlD (kt CL X) false) w ((ev κ b false i env S).bind fun u S => match insOf S u with
      | some (_, ns, vs) => R.of (look f ns vs) S
      | none => .bad) Q := h
    refine tI_bind a h' fun w1 S1 d v a1 x1 r1 p1 => ?_
    cases e : insOf S1 d with
    | none => rw [e] at p1; exact p1.elim
    | some t =>
      obtain ⟨c, ns, ds⟩ := t
      rw [e] at p1
      obtain ⟨ad, cl, dx, vs, e1, hc, h1, ho, rs, hl, hf⟩ := ins_rel a1.ss r1 e
      cases q : look f ns ds with
      | none =>
        have p1 : Po (kt CL X) E B (rlD (kt CL X) false) w1 (R.of (look f ns ds) S1) Q := p1
        rw [q] at p1; exact p1.elim
      | some d' =>
        have p1 : Po (kt CL X) E B (rlD (kt CL X) false) w1 (R.of (look f ns ds) S1) Q := p1
        rw [q] at p1
        obtain ⟨v', hv', rv'⟩ := look_fld rs q
        obtain ⟨k1, k2⟩ := fo c f (hf f (look_mem q)) cl hc.2
        exact ⟨ad, cl, dx, _, v', e1, h1, k1, k2, hv', po_val a1.ss p1 (.inl rfl) rv'⟩
theorem re_ix (hu : X.A.units + 1 < cLine) (hs : notSlice y = true) (hx : PE X x (tI (kt CL X) E κ b i)) (hy : PE X y (tI (kt CL X) E κ b j)) : PE X (.Subscript x y pos) (tI (kt CL X) E κ b (.ix i j)) :=
  PE.imp (pe_ix (IxR.ex fun B => si_ix (CL := CL) (E := E) (B := B) hu) hx hy (plainIx_ok hs)) fun σ H Q ⟨B, w, S, env, a, h⟩ => by
    have h' : Po (kt CL X) E B (rlD (kt CL X) false) w ((ev κ b false i env S).bind fun u S => (ev κ b false j env S).bind fun v S => R.of (ixD S u v) S) Q := h
    refine tI_bind a h' fun w1 S1 d v a1 x1 r1 p1 => ?_
    refine tI_bind a1 p1 fun w2 S2 e u a2 x2 r2 p2 => ?_
    exact ⟨B, w2, S2, d, e, rfl, a2.ss, VR.ext x2.toGr a1.ss.muts _ _ r1, r2, p2⟩
theorem re_sl {lo hi : Option Expr} {p2 : Pos} {jl jh : Option IE} (hx : PE X x (tI (kt CL X) E κ b i)) (hl : PO X lo (tOp' (kt CL X) E κ b jl)) (hh : PO X hi (tOp' (kt CL X) E κ b jh)) : PE X (.Subscript x (.Slice lo hi none p2) pos) (tI (kt CL X) E κ b (.sl i jl jh)) :=
  PE.imp (pe_slice (SlR.ex fun B => ss_sl (CL := CL) (E := E) (B := B)) hx hl hh) fun σ H Q ⟨B, w, S, env, a, h⟩ => by
    have h' : Po (kt CL X) E B (rlD (kt CL X) true) w ((ev κ b false i env S).bind fun u S => (evO κ b jl env S).bind fun l S => (evO κ b jh env S).bind fun h S => R.of (slD S u l h) S) Q := h
    refine tI_bind a h' fun w1 S1 d v a1 x1 r1 p1 => ?_
    refine tO_bind a1 p1 fun w2 S2 l a2 x2 p2 => ?_
    refine tO_bind a2 p2 fun w3 S3 u a3 x3 p3 => ?_
    exact ⟨B, w3, S3, d, rfl, a3.ss, VR.ext (x2.trans x3).toGr a1.ss.muts _ _ r1, p3⟩
theorem ro_none : PO X none (tOp' (kt CL X) E κ b none) :=
  PO.imp po_none fun σ H Q ⟨B, w, S, env, a, h⟩ => by
    have h' : Po (kt CL X) E B (rlE (Option Int)) w (.ok none S) Q := h
    have := po_eq a.ss h'
    rw [a.hp] at this
    exact this
theorem ro_some (hx : PE X x (tI (kt CL X) E κ b i)) : PO X (some x) (tOp' (kt CL X) E κ b (some i)) :=
  PO.imp (po_some hx) fun σ H Q ⟨B, w, S, env, a, h⟩ => by
    have h' : Po (kt CL X) E B (rlE (Option Int)) w ((ev κ b false i env S).bind fun u S => (R.of (intOf u) S).bind fun i S => .ok (some i) S) Q := h
    refine tI_bind a h' fun w1 S1 d v a1 x1 r1 p1 => ?_
    obtain ⟨c, hc, p3⟩ := po_of p1
    cases d with
    | int n =>
      obtain rfl : n = c := by simpa [intOf] using hc
      exact ⟨n, vint r1, po_eq a1.ss p3⟩
    | _ => simp [intOf] at hc

/-! ### lists of expressions, displays -/
theorem ra_nil : PA X [] (tIs (kt CL X) E κ b []) :=
  PA.imp pa_nil fun σ H Q ⟨B, w, S, env, a, h⟩ => by
    have h' : Po (kt CL X) E B (rlDs (kt CL X)) w (.ok [] S) Q := h
    show Q [] H
    rw [← a.hp]
    exact h' w [] (.refl w) a.ss (show VRs (kt CL X) w [] [] from .nil)
theorem ra_cons {is : List IE} {es : List Expr} (hs : notStar x = true) (hx : PE X x (tI (kt CL X) E κ b i)) (hes : PA X es (tIs (kt CL X) E κ b is)) : PA X (x :: es) (tIs (kt CL X) E κ b (i :: is)) :=
  PA.imp (pa_cons hx hes (star_one hs)) fun σ H Q ⟨B, w, S, env, a, h⟩ => by
    have h' : Po (kt CL X) E B (rlDs (kt CL X)) w ((ev κ b false i env S).bind fun u S => (evEs κ b is env S).bind fun us S => .ok (u :: us) S) Q := h
    refine tI_bind a h' fun w1 S1 d v a1 x1 r1 p1 => ?_
    refine tIs_bind a1 p1 fun w2 S2 ds vs a2 x2 r2 p2 => ?_
    exact p2 w2 (v :: vs) (.refl w2) a2.ss (show VRs (kt CL X) w2 (d :: ds) (v :: vs) from .cons (VR.ext x2.toGr a1.ss.muts _ _ r1) r2)
theorem re_tup {es : List Expr} {is : List IE} {x1} (hes : PA X es (tIs (kt CL X) E κ b is)) : PE X (.Tuple es x1 pos) (tI (kt CL X) E κ b (.tup is)) :=
  PE.imp (pe_tup hes) fun σ H Q ⟨B, w, S, env, a, h⟩ => by
    have h' : Po (kt CL X) E B (rlD (kt CL X) false) w ((evEs κ b is env S).bind fun us S => if us.length ≤ 1000 then .ok (.tup us) S else .bad) Q := h
    refine tIs_bind a h' fun w1 S1 ds vs a1 x1 r1 p1 => ?_
    have hl := r1.length
    split at p1
    · rename_i hz
      exact ⟨by rw [sizeLine_eq]; omega, po_tup a1.ss p1 r1⟩
    · exact p1.elim
theorem re_lst {es : List Expr} {is : List IE} (hes : PA X es (tIs (kt CL X) E κ b is)) : PE X (.List es pos) (tI (kt CL X) E κ b (.lst is)) :=
  PE.imp (pe_lst hes) fun σ H Q ⟨B, w, S, env, a, h⟩ => by
    have h' : Po (kt CL X) E B (rlD (kt CL X) true) w ((evEs κ b is env S).bind fun us S => if us.length ≤ 1000 then .ok (.lst us) S else .bad) Q := h
    refine tIs_bind a h' fun w1 S1 ds vs a1 x1 r1 p1 => ?_
    have hl := r1.length
    split at p1
    · rename_i hz
      exact ⟨by rw [sizeLine_eq]; omega, po_lst a1.ss p1 r1⟩
    · exact p1.elim

/-! ### chains of three -/
def tChain3 (r r' r2 : R2) (ta tb tc td : TE) : TE := fun σ H Q => ta σ H fun x H1 => tb σ H1 fun y H2 => r x y H2 fun z H3 => ∃ k, z = .bl k ∧
  (if k = true then tc σ H3 fun w' H4 => r' y w' H4 (fun z H5 => ∃ k, z = .bl k ∧ if k = true then td σ H5 fun u H6 => r2 w' u H6 Q else Q (.bl false) H5) else Q (.bl false) H3)
theorem pe_chain3 {op op' op2 : CmpOp} {r r' r2 : R2} {a b c d : Expr} {ta tb tc td : TE} (ho : OpR X (compareOp op) r) (ho' : OpR X (compareOp op') r') (ho2 : OpR X (compareOp op2) r2) (ha : PE X a ta) (hb : PE X b tb) (hc : PE X c tc) (hd : PE X d td)
    (hm : lastMarks [op, op', op2] [b, c, d] = false) : PE X (.Compare a [op, op', op2] [b, c, d] pos) (tChain3 r r' r2 ta tb tc td) := by
  refine ⟨fun pins s σ H Q I h => ?_⟩
  refine Compare_chain (thn (ha.run pins s σ H _ I h) fun v s1 ⟨x, H1, I1, r1, q1⟩ => chain_link (thn (hb.run pins s1 σ H1 _ I1 q1) fun u s2 ⟨y, H2, I2, r2, q2⟩ =>
    thn (ho pins s2 σ H2 x y v u _ I2 r1 r2 q2) fun d s3 ⟨z, H3, I3, r3, k, e, q3⟩ => ?_)) hm
  subst e
  cases r3
  refine wpAny_truthy_bool ?_
  cases k with
  | false => exact ite_ff ⟨.bl false, H3, I3, rfl, q3⟩
  | true =>
    refine ite_tt (chain_link (thn (hc.run pins s3 σ H3 _ I3 q3) fun w' s4 ⟨z', H4, I4, r4, q4⟩ => thn (ho' pins s4 σ H4 y z' u w' _ I4 r2 r4 q4) fun d s5 ⟨z2, H5, I5, r5, k2, e2, q5⟩ => ?_))
    subst e2
    cases r5
    refine wpAny_truthy_bool ?_
    cases k2 with
    | false => exact ite_ff ⟨.bl false, H5, I5, rfl, q5⟩
    | true => exact ite_tt (chain_last (thn (hd.run pins s5 σ H5 _ I5 q5) fun w2 s6 ⟨z3, H6, I6, r6, q6⟩ => ho2 pins s6 σ H6 z' z3 w' w2 Q I6 r4 r6 q6))
theorem pt_chain3 {op op' op2 : CmpOp} {r r' r2 : R2} {a b c d : Expr} {ta tb tc td : TE} (ho : OpR X (compareOp op) r) (ho' : OpR X (compareOp op') r') (ho2 : OpR X (compareOp op2) r2) (ha : PE X a ta) (hb : PE X b tb) (hc : PE X c tc) (hd : PE X d td)
    (hm : lastMarks [op, op', op2] [b, c, d] = false) : PT X (.Compare a [op, op', op2] [b, c, d] pos) (tTest (tChain3 r r' r2 ta tb tc td)) := by
  refine ⟨fun pins s σ H Q I h => ?_⟩
  refine isTrue_chain (thn (ha.run pins s σ H _ I h) fun v s1 ⟨x, H1, I1, r1, q1⟩ => test_link (thn (hb.run pins s1 σ H1 _ I1 q1) fun u s2 ⟨y, H2, I2, r2, q2⟩ =>
    thn (ho pins s2 σ H2 x y v u _ I2 r1 r2 q2) fun d s3 ⟨z, H3, I3, r3, k, e, q3⟩ => ?_)) hm
  subst e
  cases r3
  refine wpAny_truthy_bool ?_
  cases k with
  | false =>
    obtain ⟨k', e', q'⟩ := q3
    cases e'
    exact ite_ff ⟨H3, I3, q'⟩
  | true =>
    refine ite_tt (test_link (thn (hc.run pins s3 σ H3 _ I3 q3) fun w' s4 ⟨z', H4, I4, r4, q4⟩ => thn (ho' pins s4 σ H4 y z' u w' _ I4 r2 r4 q4) fun d' s5 ⟨z2, H5, I5, r5, k2, e2, q5⟩ => ?_))
    subst e2
    cases r5
    refine wpAny_truthy_bool ?_
    cases k2 with
    | false =>
      obtain ⟨k', e', q'⟩ := q5
      cases e'
      exact ite_ff ⟨H5, I5, q'⟩
    | true =>
      refine ite_tt (test_last (thn (hd.run pins s5 σ H5 _ I5 q5) fun w2 s6 ⟨z3, H6, I6, r6, q6⟩ => thn (ho2 pins s6 σ H6 z' z3 w' w2 _ I6 r4 r6 q6) fun d' s7 ⟨z4, H7, I7, r7, k3, e3, q7⟩ => ?_))
      subst e3
      cases r7
      exact wpAny_truthy_bool ⟨H7, I7, q7⟩
theorem re_chain3 {op op' op2 : CmpOp} {u : Expr} {l : IE} (hu : X.A.units + 65 < cLine) (hm : lastMarks [op, op', op2] [y, z, u] = false) (hx : PE X x (tI (kt CL X) E κ b i)) (hy : PE X y (tI (kt CL X) E κ b j)) (hz : PE X z (tI (kt CL X) E κ b k)) (hl : PE X u (tI (kt CL X) E κ b l)) : PE X (.Compare x [op, op', op2] [y, z, u] pos) (tI (kt CL X) E κ b (.chain3 op op' op2 i j k l)) :=
  PE.imp (pe_chain3 (OpR.ex fun B => sc_cmp (CL := CL) (B := B) hu op) (OpR.ex fun B => sc_cmp (CL := CL) (B := B) hu op') (OpR.ex fun B => sc_cmp (CL := CL) (B := B) hu op2) hx hy hz hl hm) fun σ H Q ⟨B, w, S, env, a, h⟩ => by
    have h' : Po (kt CL X) E B (rlD (kt CL X) false) w ((ev κ b false i env S).bind fun a S => (ev κ b false j env S).bind fun b' S => (R.of (cmpD op S a b') S).bind fun c S =>
      if c then (ev κ b false k env S).bind fun d S => (R.of (cmpD op' S b' d) S).bind fun c S =>
        if c then (ev κ b false l env S).bind fun e S => (R.of (cmpD op2 S d e) S).bind fun c S => .ok (.bl c) S else .ok (.bl false) S
      else .ok (.bl false) S) Q := h
    refine tI_bind a h' fun w1 S1 d v a1 x1 r1 p1 => ?_
    refine tI_bind a1 p1 fun w2 S2 e u a2 x2 r2 p2 => ?_
    obtain ⟨c, hc, p3⟩ := po_of p2
    refine ⟨B, w2, S2, d, e, rfl, a2.ss, VR.ext x2.toGr a1.ss.muts _ _ r1, r2, c, hc, c, rfl, ?_⟩
    cases c with
    | false => exact po_bl a2.ss p3
    | true =>
      refine tI_bind a2 p3 fun w3 S3 f t a3 x3 r3 p4 => ?_
      obtain ⟨c', hc', p5⟩ := po_of p4
      refine ⟨B, w3, S3, e, f, rfl, a3.ss, VR.ext x3.toGr a2.ss.muts _ _ r2, r3, c', hc', c', rfl, ?_⟩
      cases c' with
      | false => exact po_bl a3.ss p5
      | true =>
        refine tI_bind a3 p5 fun w4 S4 g t' a4 x4 r4 p6 => ?_
        obtain ⟨c2, hc2, p7⟩ := po_of p6
        exact ⟨B, w4, S4, f, g, rfl, a4.ss, VR.ext x4.toGr a3.ss.muts _ _ r3, r4, c2, hc2, po_bl a4.ss p7⟩
theorem rt_chain3 {op op' op2 : CmpOp} {u : Expr} {l : IE} (hu : X.A.units + 65 < cLine) (hm : lastMarks [op, op', op2] [y, z, u] = false) (hx : PE X x (tI (kt CL X) E κ b i)) (hy : PE X y (tI (kt CL X) E κ b j)) (hz : PE X z (tI (kt CL X) E κ b k)) (hl : PE X u (tI (kt CL X) E κ b l)) : PT X (.Compare x [op, op', op2] [y, z, u] pos) (tT (kt CL X) E κ b (.chain3 op op' op2 i j k l)) :=
  PT.imp (pt_chain3 (OpR.ex fun B => sc_cmp (CL := CL) (B := B) hu op) (OpR.ex fun B => sc_cmp (CL := CL) (B := B) hu op') (OpR.ex fun B => sc_cmp (CL := CL) (B := B) hu op2) hx hy hz hl hm) fun σ H Q ⟨B, w, S, env, a, h⟩ => by
    have h' : Po (kt CL X) E B (rlE Bool) w (asB ((ev κ b false i env S).bind fun a S => (ev κ b false j env S).bind fun b' S => (R.of (cmpD op S a b') S).bind fun c S =>
      if c then (ev κ b false k env S).bind fun d S => (R.of (cmpD op' S b' d) S).bind fun c S =>
        if c then (ev κ b false l env S).bind fun e S => (R.of (cmpD op2 S d e) S).bind fun c S => .ok (.bl c) S else .ok (.bl false) S
      else .ok (.bl false) S)) Q := h
    simp only [asB_bind] at h'
    refine tI_bind a h' fun w1 S1 d v a1 x1 r1 p1 => ?_
    refine tI_bind a1 p1 fun w2 S2 e u a2 x2 r2 p2 => ?_
    obtain ⟨c, hc, p3⟩ := po_of p2
    refine ⟨B, w2, S2, d, e, rfl, a2.ss, VR.ext x2.toGr a1.ss.muts _ _ r1, r2, c, hc, c, rfl, ?_⟩
    cases c with
    | false => exact ⟨false, rfl, po_eq a2.ss p3⟩
    | true =>
      simp only [if_true, asB_bind] at p3
      refine tI_bind a2 p3 fun w3 S3 f t a3 x3 r3 p4 => ?_
      obtain ⟨c', hc', p5⟩ := po_of p4
      refine ⟨B, w3, S3, e, f, rfl, a3.ss, VR.ext x3.toGr a2.ss.muts _ _ r2, r3, c', hc', c', rfl, ?_⟩
      cases c' with
      | false => exact ⟨false, rfl, po_eq a3.ss p5⟩
      | true =>
        simp only [if_true, asB_bind] at p5
        refine tI_bind a3 p5 fun w4 S4 g t' a4 x4 r4 p6 => ?_
        obtain ⟨c2, hc2, p7⟩ := po_of p6
        exact ⟨B, w4, S4, f, g, rfl, a4.ss, VR.ext x4.toGr a3.ss.muts _ _ r3, r4, c2, hc2, c2, rfl, po_eq a4.ss p7⟩
end
end Pi
end

section
/-! PiRules3: calls. -/
namespace Pi
open PySem PySem.Spec PyProof.Rows L2

/-! ### calls of defs -/
def rlDB (C : Kt) : Rl (D × Bool) V where
  r := fun w0 S w p v => RR C p.2 w0 S w p.1 v
  back := fun {w w1 S w' a b} x h => (rlD C a.2).back x h
/-- what a def promises: what the small interpreter says of the call -/
def spOf (C : Kt) (κ : Calls) (f : String) : Sp := fun vs H Q E => ∃ B b w S ds, w.H = H ∧ SS C B S w ∧ (∀ b', B b' → b' ≤ b) ∧ VRs C w ds vs ∧ Po C E B (rlDB C) w (κ f b ds S) Q

theorem passF {X : Cx} {s : Shared} {H : Hp} {scope : Scope} {cenv : Env} {fp : List Addr} : PassG (X.blk s H scope cenv fp) fun _ _ _ => False := by
  intro pins σ H s e s' I ⟨_, _, _, _, _, _, _, _, _, _, _, _, h⟩
  exact h.elim

section
variable {CL : List String × List (String × String) × Lx} {X : Cx} {E : XK} {κ : Calls} {b : Nat} {x : Expr} {es : List Expr} {is : List IE} {i : IE} {pos p apos : Pos} {k : Nat} {y : Str}
/-- a def is called by its name -/
theorem pe_callG {f : Addr} {fd : FuncData} {ps : List Str} {sp : Sp} {t : TA} (hgd : X.A.guards = some []) (F : FnG X.prog X.w X.K X.mg X.base k f fd ps sp) (hr : Room k X.A) (hg : Gl X y) (hm : X.mg y = some (.ref f)) (hk : PySem.W.keepIn X.K (.ref f) = true) (hb : Binds X.K fd ps []) (hx : PassG X E)
    (ha : PA X es t) (h0 : es = [] → ∀ σ H Q, t σ H Q → Q [] H) (hns : es.all notStar = true) (hdb : (y == ("__debug__" : Str)) = false) : PE X (.Call (.Name y p) es [] pos) (tCall sp [] E t) := by
  refine ⟨fun pins s σ H Q I h => ?_⟩
  refine wpAny_Call_Name_kw (ld_glob I hg hm ?_ hdb)
  cases es with
  | nil =>
    refine PySem.W.callWith_K0 I.kIn hk ?_
    exact run_fnG (us := []) hgd F hr hb .nil hx I .nil (h0 rfl _ _ _ h)
  | cons e es =>
    simp only [List.all_cons, Bool.and_eq_true] at hns
    refine PySem.W.callWith_K (h₀ := X.base) I.ok.mod.kin hk (thn (ha.run pos pins s σ H _ I h) fun us s1 ⟨vs, H1, I1, r, q⟩ => ⟨I1.kIn, ?_⟩) (star_one hns.1) (star_all hns.2)
    exact run_fnG hgd F hr hb .nil hx I1 r q
theorem tIs_nil {C : Kt} {σ : L2.St} {H : Hp} {Q : List V → Hp → Prop} (h : tIs C E κ b [] σ H Q) : Q [] H := by
  obtain ⟨B, w, S, env, a, h⟩ := h
  have h' : Po C E B (rlDs C) w (.ok [] S) Q := h
  have := h' w [] (.refl w) a.ss (show VRs C w [] [] from .nil)
  rw [a.hp] at this; exact this
/-- a call's promise from what is wanted behind the call -/
theorem sp_of {C : Kt} {E : XK} {B : Nat → Prop} {w : Wd} {S : Store} {ds : List D} {vs : List V} {f : String} {Q : V → Hp → Prop} (ss : SS C B S w) (hB : ∀ b', B b' → b' ≤ b) (r : VRs C w ds vs)
    (h : Po C E B (rlD C false) w ((κ f b ds S).bind fun r S => .ok r.1 S) Q) : spOf C κ f vs w.H Q E := by
  refine ⟨B, b, w, S, ds, rfl, ss, hB, r, ?_⟩
  cases e : κ f b ds S with
  | bad => rw [e] at h; exact h
  | err x S' => rw [e] at h; exact h
  | ok d S' =>
    rw [e] at h
    intro w' v x s q
    obtain ⟨d, fr⟩ := d
    exact (po_fr (fr := fr) (show Po C E B (rlD C false) w (.ok d S') Q from h)) w' v x s q
theorem re_call {f : String} {fa : Addr} {fd : FuncData} {ps : List Str} (hgd : X.A.guards = some []) (F : FnG X.prog X.w X.K X.mg X.base k fa fd ps (spOf (kt CL X) κ f)) (hr : Room k X.A) (hg : Gl X y) (hm : X.mg y = some (.ref fa)) (hk : PySem.W.keepIn X.K (.ref fa) = true) (hb : Binds X.K fd ps []) (hx : PassG X E)
    (ha : PA X es (tIs (kt CL X) E κ b is)) (hl : es = [] → is = []) (hns : es.all notStar = true) (hdb : (y == ("__debug__" : Str)) = false) : PE X (.Call (.Name y p) es [] pos) (tI (kt CL X) E κ b (.call f is)) :=
  PE.imp (pe_callG hgd F hr hg hm hk hb hx ha (fun e σ H Q h => by cases hl e; exact tIs_nil h) hns hdb) fun σ H Q ⟨B, w, S, env, a, h⟩ => by
    have h' : Po (kt CL X) E B (rlD (kt CL X) false) w ((evEs κ b is env S).bind fun us S => (κ f b us S).bind fun r S => .ok r.1 S) Q := h
    refine tIs_bind a h' fun w1 S1 ds vs a1 x1 r1 p1 => ?_
    rw [List.append_nil]
    exact sp_of a1.ss a1.bb r1 p1

/-! ### methods of instances -/
def tMethG (c : Addr) (m : Str) (sp : Sp) (E : XK) (ta : TE) (t : TA) : TE := fun σ H Q => ta σ H fun v H1 => ∃ a dx fs, v = .ref a ∧ H1 a = some (.ins c dx fs) ∧ fs.lookup m = none ∧ t σ H1 fun vs H2 => sp (v :: vs) H2 Q E
theorem pe_methG {C f : Addr} {m : Str} {fd : FuncData} {ps : List Str} {sp : Sp} {ta : TE} {t : TA} (hgd : X.A.guards = some []) (hx : PE X x ta) (c : Cls X.K C) (hm : Meth X.K C m f) (F : FnG X.prog X.w X.K X.mg X.base k f fd ps sp) (hr : Room k X.A) (hb : Binds X.K fd ps []) (hp : PassG X E)
    (ha : PA X es t) (h0 : es = [] → ∀ σ H Q, t σ H Q → Q [] H) (hns : es.all notStar = true) (hpb : plainBase x = true) (hl : es.length < 29) (hli : (apos.endLine == pos.line) = true) :
    PE X (.Call (.Attribute x m apos) es [] pos) (tMethG C m sp E ta t) := by
  refine ⟨fun pins s σ H Q I h => ?_⟩
  rw [arm_eval_Call, base_ok hpb]
  refine wpAny_bind (thn (hx.run pins s σ H _ I h) fun u s1 ⟨v, H1, I1, rv, a, dx, fs, ev, ea, lo, q⟩ => ?_)
  subst ev
  obtain rfl : u = Value.ref a := rv
  refine wpAny_bind (wpAny_standAt ?_)
  have hform : methodCallForm (es.length + ([] : List Keyword).length) (backTo pos (starEach es X.env)) (backToKw pos (keywordEach [] X.env)) = true := by
    unfold methodCallForm
    rw [star_not hns]
    show (true && true && decide (es.length + 0 + 0 < 30)) = true
    simp only [Bool.true_and, decide_eq_true_eq]
    omega
  have hpos : methodCallPos true x X.env apos pos = pure pos := by unfold methodCallPos; simp [hli]
  unfold methodCall
  rw [hform]
  refine wpAny_bind (wpAny_holding (getmeth_ok I1 ea c hm lo ?_))
  refine wpAny_bind (wpAny_of_eq hpos ?_)
  cases es with
  | nil => exact PySem.W.callWith_K0 (first := [.ref a]) I1.kIn hm.kp (run_fnG (us := [.ref a]) (vs := [.ref a]) hgd F hr hb .nil hp I1 (.cons rfl .nil) (by have := h0 rfl _ _ _ q; exact this))
  | cons e es =>
    simp only [List.all_cons, Bool.and_eq_true] at hns
    refine PySem.W.callWith_K (first := [.ref a]) (h₀ := X.base) I1.ok.mod.kin hm.kp (thn (ha.run pos pins s1 σ H1 _ I1 q) fun us s2 ⟨vs, H2, I2, r, q2⟩ => ⟨I2.kIn, ?_⟩) (star_one hns.1) (star_all hns.2)
    exact run_fnG (us := .ref a :: us) (vs := .ref a :: vs) hgd F hr hb .nil hp I2 (.cons rfl r) (by rw [List.append_nil]; exact q2)
theorem look_flds {C : Kt} {f : String} {c : String} {ns : List String} {vs : List V} (hf : C.isF c ns) (h : (c, f) ∉ C.flds) : ((ns.map Str.ofString).zip vs).lookup (Str.ofString f) = none := by
  have hn : f ∉ ns := fun z => h (hf f z)
  clear hf h
  induction ns generalizing vs with
  | nil => rfl
  | cons n ns ih =>
    cases vs with
    | nil => rfl
    | cons v vs =>
      simp only [List.mem_cons, not_or] at hn
      show List.lookup (Str.ofString f) ((Str.ofString n, v) :: ((ns.map Str.ofString).zip vs)) = none
      rw [List.lookup_cons]
      have : (Str.ofString f == Str.ofString n) = false := by
        rw [beq_eq_false_iff_ne]
        exact fun z => hn.1 (ofS_inj z)
      rw [this]
      exact ih hn.2
theorem re_meth {c m nm : String} {fa : Addr} {fd : FuncData} {ps : List Str} (hgd : X.A.guards = some []) (hx : PE X x (tI (kt CL X) E κ b i)) (hc : ∀ cl, X.mg (Str.ofString c) = some (.ref cl) → Cls X.K cl ∧ Meth X.K cl (Str.ofString nm) fa) (hcf : (c, nm) ∉ CL.2.1)
    (hcl : ∃ cl, X.mg (Str.ofString c) = some (.ref cl)) (F : FnG X.prog X.w X.K X.mg X.base k fa fd ps (spOf (kt CL X) κ m)) (hr : Room k X.A) (hb : Binds X.K fd ps []) (hp : PassG X E)
    (ha : PA X es (tIs (kt CL X) E κ b is)) (he : es = [] → is = []) (hns : es.all notStar = true) (hpb : plainBase x = true) (hl : es.length < 29) (hli : (apos.endLine == pos.line) = true) :
    PE X (.Call (.Attribute x (Str.ofString nm) apos) es [] pos) (tI (kt CL X) E κ b (.meth c m i is)) := by
  obtain ⟨cl, hmc⟩ := hcl
  obtain ⟨h1, h2⟩ := hc cl hmc
  refine PE.imp (pe_methG hgd hx h1 h2 F hr hb hp ha (fun e σ H Q h => by cases he e; exact tIs_nil h) hns hpb hl hli) fun σ H Q ⟨B, w, S, env, a, h⟩ => ?_
  have h' : Po (kt CL X) E B (rlD (kt CL X) false) w ((ev κ b false i env S).bind fun u S => match insOf S u with
      | some (c', _, _) => if c' = c then (evEs κ b is env S).bind fun us S => (κ m b (u :: us) S).bind fun r S => .ok r.1 S else .bad
      | none => .bad) Q := h
  refine tI_bind a h' fun w1 S1 d v a1 x1 r1 p1 => ?_
  cases e : insOf S1 d with
  | none => rw [e] at p1; exact p1.elim
  | some t =>
    obtain ⟨c', ns, ds⟩ := t
    rw [e] at p1
    obtain ⟨ad, cl', dx, vs, e1, hcc, q1, ho, rs, hll, hf⟩ := ins_rel a1.ss r1 e
    have p3 : Po (kt CL X) E B (rlD (kt CL X) false) w1 (if c' = c then (evEs κ b is env S1).bind fun us S => (κ m b (d :: us) S).bind fun r S => .ok r.1 S else .bad) Q := p1
    clear p1
    split at p3
    · rename_i ec
      subst ec
      have : cl' = cl := by have z : X.mg (Str.ofString c') = some (.ref cl') := hcc.2; rw [hmc] at z; cases z; rfl
      subst this
      refine ⟨ad, dx, _, e1, q1, look_flds hf hcf, ?_⟩
      refine tIs_bind a1 p3 fun w2 S2 ds2 vs2 a2 x2 r2 p2 => ?_
      exact sp_of a2.ss a2.bb (.cons (VR.ext x2.toGr a1.ss.muts _ _ r1) r2) p2
    · exact p3.elim
end
end Pi
end

section
/-! PiRules4: instances made, cells, dicts, built-ins. -/
namespace Pi
open PySem PySem.Spec PyProof.Rows L2

/-! ### instances made -/
theorem pe_makeG {X : Cx} {E : XK} {k : Nat} {y : Str} {es : List Expr} {p pos : Pos} {C f : Addr} {fd : FuncData} {ps : List Str} {sp : Sp} {t : TA} (hgd : X.A.guards = some []) (M : Mk X.K C f) (F : FnG X.prog X.w X.K X.mg X.base k f fd ps sp) (hr : Room (k + 1) X.A) (hg : Gl X y) (hm : X.mg y = some (.ref C)) (hb : Binds X.K fd ps []) (hx : PassG X E)
    (ha : PA X es t) (h0 : es = [] → ∀ σ H Q, t σ H Q → Q [] H) (hns : es.all notStar = true) (hdb : (y == ("__debug__" : Str)) = false) : PE X (.Call (.Name y p) es [] pos) (tMake C sp [] E t) := by
  refine ⟨fun pins s σ H Q I h => ?_⟩
  refine wpAny_Call_Name_kw (ld_glob I hg hm ?_ hdb)
  cases es with
  | nil => exact PySem.W.callWith_K0 I.kIn M.kp (run_makeG (us := []) hgd M F hr hb .nil hx I .nil (h0 rfl _ _ _ h))
  | cons e es =>
    simp only [List.all_cons, Bool.and_eq_true] at hns
    refine PySem.W.callWith_K (h₀ := X.base) I.ok.mod.kin M.kp (thn (ha.run pos pins s σ H _ I h) fun us s1 ⟨vs, H1, I1, r, q⟩ => ⟨I1.kIn, ?_⟩) (star_one hns.1) (star_all hns.2)
    exact run_makeG hgd M F hr hb .nil hx I1 r q

section
variable {C : Kt} {B : Nat → Prop} {S : Store} {w : Wd} {x dx cl : Addr} {c : String}
/-- the world with a new instance -/
abbrev Wd.made (w : Wd) (x dx cl : Addr) : Wd := ((w.put dx (.own x)).put x (.ins cl dx [])).cell x
theorem SS.ext_made (s : SS C B S w) (h1 : w.H x = none) (h2 : w.H dx = none) (h3 : dx ≠ x) : Ext w (w.made x dx cl) := by
  have e1 : (w.put dx (.own x)).H x = none := by show upd w.H dx _ x = none; rw [upd_ne (Ne.symm h3)]; exact h1
  exact Ext.cell ((s.ext_put h2).trans ((s.put h2).ext_put e1)) (.inl h1)
theorem SS.made (s : SS C B S w) (h1 : w.H x = none) (h2 : w.H dx = none) (h3 : dx ≠ x) (hc : C.isC c cl) : SS C (fun b => B b ∨ b = S.length) (S ++ [.ins c [] []]) (w.made x dx cl) := by
  have e1 : (w.put dx (.own x)).H x = none := by show upd w.H dx _ x = none; rw [upd_ne (Ne.symm h3)]; exact h1
  have s2 := (s.put (o := .own x) h2).put (o := .ins cl dx []) e1
  have s3 : SS C B (S ++ [.ins c [] []]) (w.made x dx cl) := by
    refine s2.cell' ?_ (s.F_none h1) (fun n c h4 h5 h6 => s.in_none h1 (List.mem_of_getElem? h6)) ⟨cl, dx, [], hc, ?_, ?_, .nil, rfl, ?_⟩
    · show Mut (upd _ x _ x); rw [upd_same]; trivial
    · show upd _ x _ x = _; rw [upd_same]; rfl
    · show upd (upd w.H dx (.own x)) x _ dx = _; rw [upd_ne h3, upd_same]
    · intro f hf; cases hf
  refine ⟨s3.len, s3.inj, s3.cell, s3.nofr, s3.there, s3.muts, fun b hb => ?_, s3.tabs⟩
  rcases hb with hb | rfl
  · exact s3.low b hb
  · refine ⟨by rw [List.length_append]; omega, fun n c' hn e => ?_⟩
    rw [List.getElem?_append_left hn] at e
    have hw : n < w.ρ.length := by rw [s.len]; exact hn
    have hc := s.cell n c' _ e (List.getElem?_eq_getElem hw)
    rw [← s.len]
    cases c' with
    | dead => rfl
    | lst xs => obtain ⟨vs, _, q⟩ := hc; exact VRs.refs _ _ q
    | dct ks ds => obtain ⟨vs, _, q, _⟩ := hc; exact VRs.refs _ _ q
    | ins c ns ds => obtain ⟨_, _, vs, _, _, _, q, _⟩ := hc; exact VRs.refs _ _ q
    | ice xs => obtain ⟨vs, _, _, q⟩ := hc; exact VRs.refs _ _ q
theorem SS.fewer {B' : Nat → Prop} (s : SS C B S w) (h : ∀ b, B' b → B b) : SS C B' S w := ⟨s.len, s.inj, s.cell, s.nofr, s.there, s.muts, fun b hb => s.low b (h b hb), s.tabs⟩
/-- the instance made is frozen: the world behind -/
theorem made_pure {w2 : Wd} {S2 : Store} {ns : List String} {ds : List D} (s : SS C B S w) (h1 : w.H x = none) (h2 : w.H dx = none) (h3 : dx ≠ x) (x2 : Ext (w.made x dx cl) w2) (s2 : SS C (fun b => B b ∨ b = S.length) S2 w2)
    (e : S2[S.length]? = some (.ins c ns ds)) (hr : D.refsBs S.length ds = true) : ∃ w3, w3.H = w2.H ∧ Ext w w3 ∧ SS C B (S2.take S.length) w3 ∧ VR C w3 (.ins c ns ds) (.ref x) := by
  have hlen : S.length < S2.length := (List.getElem?_eq_some_iff.mp e).1
  have ex1 : w2.ρ[S.length]? = some x := x2.toGr.get (by show (w.ρ ++ [x])[S.length]? = some x; rw [← s.len]; simp)
  have hm : Ext w (w.made x dx cl) := s.ext_made h1 h2 h3
  have hlw := s.len
  have hρ : w2.ρ.take S.length = w.ρ := by
    obtain ⟨t, ht⟩ := x2.pre
    have : w2.ρ = w.ρ ++ ([x] ++ t) := by rw [ht]; show (w.ρ ++ [x]) ++ t = _; rw [List.append_assoc]
    rw [this, ← s.len]
    simp
  have sc := (s2.cut (b := S.length) (by omega) (fun b' hb => by
    rcases hb with hb | rfl
    · exact (s.low b' hb).1
    · exact Nat.le_refl _) (fun n c' hn e' => (s2.low S.length (.inr rfl)).2 n c' hn e')).fewer (B' := B) fun b hb => .inl hb
  obtain ⟨cl', dx', vs, q1, q2, q3, q4, q5, q6⟩ := s2.cell _ _ _ e ex1
  have hnl : ∀ (n : Nat) (c' : Cell), (S2.take S.length)[n]? = some c' → c'.live → (w2.cut S.length).ρ[n]? ≠ some x := fun n c' h4 h5 h6 => by
    have hn : n < S.length := by
      have := (List.getElem?_eq_some_iff.mp h4).1
      rw [List.length_take] at this; omega
    rw [List.getElem?_take_of_lt hn] at h4
    have h6' : (w2.ρ.take S.length)[n]? = some x := h6
    rw [List.getElem?_take_of_lt hn] at h6'
    have := s2.inj n S.length _ _ x h4 e h5 (by trivial) h6' ex1
    omega
  have si := sc.ice (p := x) q2 (fun _ z => by cases z) hnl
  refine ⟨(w2.cut S.length).ice x, rfl, ⟨⟨⟨[], by show w2.ρ.take S.length = _; rw [hρ]; simp⟩, fun a ha => .inl (x2.fr a (hm.fr a ha)), fun a o ha hn ht => x2.keep a o (hm.keep a o ha hn ht) hn ht, fun a ha => (x2.frz a (hm.fr a ha)).trans (hm.frz a ha)⟩, fun a o ha hn ht => ?_, fun a ps ha => let ⟨ps', e'⟩ := hm.keepT a ps ha; x2.keepT a ps' e', fun a ha hn => ?_, fun a ha => ?_⟩, si, ?_⟩
  · have hax : a ≠ x := by rintro rfl; rw [h1] at ha; cases ha
    refine x2.keepA a o (hm.keepA a o ha hn ht) ?_ ht
    show a ∉ w.ρ ++ [x]
    simp [hn, hax]
  · have ha' : a ∈ w2.ρ.take S.length := ha
    rw [hρ] at ha'
    exact absurd ha' hn
  · rcases ha with ha | rfl
    · have ha : w2.F a := ha
      rcases x2.newF a ha with z | z | z
      · exact hm.newF a z
      · rcases hm.none z with z | z
        · exact .inr (.inl z)
        · exact .inr (.inr z)
      · have z : a ∈ w.ρ ++ [x] := z
        simp at z
        rcases z with z | rfl
        · exact .inr (.inr z)
        · exact .inr (.inl h1)
    · exact .inr (.inl h1)
  · have hb : S.length ≤ w2.ρ.length := by have := s2.len; omega
    unfold VR
    exact ⟨x, cl', dx', vs, rfl, .inr rfl, q1, q2, q3, VRs.ext .ice sc.muts _ _ (VRs.cut hb _ _ hr q4), q5, q6⟩
end
section
variable {CL : List String × List (String × String) × Lx} {X : Cx} {E : XK} {κ : Calls} {b : Nat} {x : Expr} {es : List Expr} {is : List IE} {i : IE} {pos p apos : Pos} {k : Nat} {y : Str}
theorem re_new {c init : String} {pu : Bool} {C fa : Addr} {fd : FuncData} {ps : List Str} (hgd : X.A.guards = some []) (M : Mk X.K C fa) (hcl : c ∈ CL.1) (F : FnG X.prog X.w X.K X.mg X.base k fa fd ps (spOf (kt CL X) κ init)) (hr : Room (k + 1) X.A) (hg : Gl X (Str.ofString c)) (hm : X.mg (Str.ofString c) = some (.ref C)) (hb : Binds X.K fd ps []) (hx : PassG X E)
    (ha : PA X es (tIs (kt CL X) E κ b is)) (hl : es = [] → is = []) (hns : es.all notStar = true) (hdb : (Str.ofString c == ("__debug__" : Str)) = false) : PE X (.Call (.Name (Str.ofString c) p) es [] pos) (tI (kt CL X) E κ b (.new c init pu is)) :=
  PE.imp (pe_makeG hgd M F hr hg hm hb hx ha (fun e σ H Q h => by cases hl e; exact tIs_nil h) hns hdb) fun σ H Q ⟨B, w, S, env, a, h⟩ => by
    have h' : Po (kt CL X) E B (rlD (kt CL X) false) w ((evEs κ b is env S).bind fun us S => (κ init (if pu then S.length else b) (.obj S.length :: us) (S ++ [.ins c [] []])).bind fun r S' =>
      if false || !isNon r.1 then .bad else if pu then match S'[S.length]? with
        | some (.ins c' ns vs) => if c' = c ∧ D.refsBs S.length vs = true ∧ S'.length = S.length + 1 then .ok (.ins c ns vs) (S'.take S.length) else .bad
        | _ => .bad
      else .ok (.obj S.length) S') Q := h
    refine tIs_bind a h' fun w1 S1 ds vs a1 x1 r1 p1 => ?_
    intro ad dx h1 h2 h3
    rw [List.append_nil]
    have hic : (kt CL X).isC c C := ⟨hcl, hm⟩
    have hme := a1.ss.ext_made (cl := C) h1 h2 h3
    have hms := a1.ss.made h1 h2 h3 hic
    have hself : VR (kt CL X) (w1.made ad dx C) (.obj S1.length) (.ref ad) := by
      unfold VR
      exact ⟨ad, rfl, by show (w1.ρ ++ [ad])[S1.length]? = some ad; rw [← a1.ss.len]; simp⟩
    have hvs : VRs (kt CL X) (w1.made ad dx C) (.obj S1.length :: ds) (.ref ad :: vs) := .cons hself (VRs.ext hme.toGr a1.ss.muts _ _ r1)
    cases pu with
    | true =>
      refine ⟨fun b' => B b' ∨ b' = S1.length, S1.length, w1.made ad dx C, S1 ++ [.ins c [] []], _, rfl, hms, fun b' hb' => ?_, hvs, ?_⟩
      · rcases hb' with hb' | rfl
        · exact (a1.ss.low b' hb').1
        · exact Nat.le_refl _
      · have p1 : Po (kt CL X) E B (rlD (kt CL X) false) w1 ((κ init S1.length (.obj S1.length :: ds) (S1 ++ [.ins c [] []])).bind fun r S' =>
          if false || !isNon r.1 then .bad else match S'[S1.length]? with
          | some (.ins c' ns vs) => if c' = c ∧ D.refsBs S1.length vs = true ∧ S'.length = S1.length + 1 then .ok (.ins c ns vs) (S'.take S1.length) else .bad
          | _ => .bad) Q := p1
        cases e : κ init S1.length (.obj S1.length :: ds) (S1 ++ [.ins c [] []]) with
        | bad => rw [e] at p1; exact p1
        | err z S' =>
          rw [e] at p1
          intro w' cls dd xx ss xr
          exact p1 w' cls dd (hme.trans xx) (ss.fewer fun b hb => .inl hb) xr
        | ok d S' =>
          rw [e] at p1
          obtain ⟨d, fr⟩ := d
          intro w' v xx ss rr
          have p1 : Po (kt CL X) E B (rlD (kt CL X) false) w1 (if false || !isNon d then .bad else match S'[S1.length]? with
            | some (.ins c' ns vs) => if c' = c ∧ D.refsBs S1.length vs = true ∧ S'.length = S1.length + 1 then .ok (.ins c ns vs) (S'.take S1.length) else .bad
            | _ => .bad) Q := p1
          cases d <;> simp only [isNon, Bool.not_false, Bool.not_true, Bool.or_true, Bool.or_self, if_true, Bool.false_eq_true, if_false] at p1 <;> first | exact p1.elim | skip
          have hv : v = .non := by
            have : VR (kt CL X) w' .non v := by cases fr <;> exact rr
            exact vnon this
          refine ⟨hv, ?_⟩
          cases eq : S'[S1.length]? with
          | none => rw [eq] at p1; exact p1.elim
          | some cc =>
            rw [eq] at p1
            cases cc with
            | ins c' ns fs =>
              simp only at p1
              split at p1
              · rename_i hc
                obtain ⟨rfl, hrf, hln⟩ := hc
                obtain ⟨w3, e3, x3, s3, r3⟩ := made_pure a1.ss h1 h2 h3 xx ss eq hrf
                rw [← e3]
                exact p1 w3 _ x3 s3 (rr_of r3)
              · exact p1.elim
            | _ => exact p1.elim
    | false =>
      refine ⟨B, b, w1.made ad dx C, S1 ++ [.ins c [] []], _, rfl, hms.fewer fun b hb => .inl hb, a1.bb, hvs, ?_⟩
      have p1 : Po (kt CL X) E B (rlD (kt CL X) false) w1 ((κ init b (.obj S1.length :: ds) (S1 ++ [.ins c [] []])).bind fun r S' =>
          if false || !isNon r.1 then .bad else .ok (.obj S1.length) S') Q := p1
      cases e : κ init b (.obj S1.length :: ds) (S1 ++ [.ins c [] []]) with
      | bad => rw [e] at p1; exact p1
      | err z S' =>
        rw [e] at p1
        intro w' cls dd xx ss xr
        exact p1 w' cls dd (hme.trans xx) ss xr
      | ok d S' =>
        rw [e] at p1
        obtain ⟨d, fr⟩ := d
        intro w' v xx ss rr
        have p1 : Po (kt CL X) E B (rlD (kt CL X) false) w1 (if false || !isNon d then .bad else .ok (.obj S1.length) S') Q := p1
        cases d <;> simp only [isNon, Bool.not_false, Bool.not_true, Bool.or_true, Bool.or_self, if_true, Bool.false_eq_true, if_false] at p1 <;> first | exact p1.elim | skip
        have hv : v = .non := by
          have : VR (kt CL X) w' .non v := by cases fr <;> exact rr
          exact vnon this
        refine ⟨hv, p1 w' _ (hme.trans xx) ss (rr_of ?_)⟩
        have : VR (kt CL X) (w1.made ad dx C) (.obj S1.length) (.ref ad) := hself
        exact VR.ext xx.toGr (hms.muts) _ _ this
end
end Pi
end

section
/-! PiRules5: built-in functions and methods, isinstance, dicts, cells. -/
namespace Pi
open PySem PySem.Spec PyProof.Rows L2

/-- the built-in names a law calls -/
def bltNames : List String := ["len", "abs", "int", "tuple", "list", "all", "any", "repr", "range", "enumerate", "zip", "isinstance", "bool", "str", "dict"]
theorem bt_boot (n : String) (h : askTys.contains n = true) : bootBuiltins (Str.ofString n) = some (.type n) := by
  unfold askTys at h
  simp only [List.contains_cons, List.contains_nil, Bool.or_false, Bool.or_eq_true, beq_iff_eq] at h
  rcases h with rfl | rfl | rfl | rfl | rfl | rfl <;> decide +kernel
theorem bt_name (n : String) (h : askTys.contains n = true) : Str.ofString n ≠ ("__name__" : Str) ∧ (Str.ofString n == ("__debug__" : Str)) = false := by
  unfold askTys at h
  simp only [List.contains_cons, List.contains_nil, Bool.or_false, Bool.or_eq_true, beq_iff_eq] at h
  rcases h with rfl | rfl | rfl | rfl | rfl | rfl <;> exact ⟨by decide +kernel, by decide +kernel⟩

section
variable {CL : List String × List (String × String) × Lx} {X : Cx} {E : XK} {κ : Calls} {b : Nat} {x : Expr} {es : List Expr} {is : List IE} {i : IE} {pos p apos : Pos} {k : Nat} {y : Str}
theorem ti_bi {f : BF} (hf : (IE.bi f is).fresh = f.fresh) {σ : L2.St} {H : Hp} {Q : VK} (h : tI (kt CL X) E κ b (.bi f is) σ H Q) : tCB (fun xs H Q => ∃ B, rCl (kt CL X) E B f xs H Q) (tIs (kt CL X) E κ b is) σ H Q := by
  obtain ⟨B, w, S, env, a, h⟩ := h
  rw [hf] at h
  have h' : Po (kt CL X) E B (rlD (kt CL X) f.fresh) w ((evEs κ b is env S).bind fun us S => R.of (callD f S us) S) Q := h
  refine tIs_bind a h' fun w1 S1 ds vs a1 x1 r1 p1 => ?_
  exact ⟨B, w1, S1, ds, rfl, a1.ss, r1, p1⟩
theorem re_bi {f : BF} (hc : X.calm = true) (hgd : X.A.guards = some []) (hu : X.A.units + 66 < cLine) (hg : Gl X (Str.ofString f.nm)) (hm : ∀ n ∈ bltNames, X.mg (Str.ofString n) = none) (hgc : f = .gcd → X.mg "gcd" = some (.builtin "math.gcd"))
    (ha : PA X (x :: es) (tIs (kt CL X) E κ b is)) (hns : (x :: es).all notStar = true) : PE X (.Call (.Name (Str.ofString f.nm) p) (x :: es) [] pos) (tI (kt CL X) E κ b (.bi f is)) := by
  simp only [List.all_cons, Bool.and_eq_true] at hns
  have h1 := star_one (env := X.env) (es := es) hns.1
  have h2 := star_all (env := X.env) (pos := pos) hns.2
  cases f with
  | len => exact PE.imp (pe_callB (CallR.ex fun B => sk_len (CL := CL) (E := E) (B := B)) hg (hm "len" (by decide)) (by decide +kernel) ha (by decide) (by decide) h1 h2) fun σ H Q h => ti_bi rfl h
  | abs => exact PE.imp (pe_callB (CallR.ex fun B => sk_abs (CL := CL) (E := E) (B := B)) hg (hm "abs" (by decide)) (by decide +kernel) ha (by decide) (by decide) h1 h2) fun σ H Q h => ti_bi rfl h
  | int => exact PE.imp (pe_callTy (CallR.ex fun B => sk_int (CL := CL) (E := E) (B := B)) hg (hm "int" (by decide)) (by decide +kernel) ha (by decide) (by decide) h1 h2) fun σ H Q h => ti_bi rfl h
  | tuple => exact PE.imp (pe_callTy (CallR.ex fun B => sk_tuple (CL := CL) (E := E) (B := B)) hg (hm "tuple" (by decide)) (by decide +kernel) ha (by decide) (by decide) h1 h2) fun σ H Q h => ti_bi rfl h
  | list => exact PE.imp (pe_callTy (CallR.ex fun B => sk_list (CL := CL) (E := E) (B := B)) hg (hm "list" (by decide)) (by decide +kernel) ha (by decide) (by decide) h1 h2) fun σ H Q h => ti_bi rfl h
  | all => exact PE.imp (pe_callB (CallR.ex fun B => sk_all (CL := CL) (E := E) (B := B) hc) hg (hm "all" (by decide)) (by decide +kernel) ha (by decide) (by decide) h1 h2) fun σ H Q h => ti_bi rfl h
  | any => exact PE.imp (pe_callB (CallR.ex fun B => sk_any (CL := CL) (E := E) (B := B) hc) hg (hm "any" (by decide)) (by decide +kernel) ha (by decide) (by decide) h1 h2) fun σ H Q h => ti_bi rfl h
  | repr => exact PE.imp (pe_callB (CallR.ex fun B => sk_repr (CL := CL) (E := E) (B := B) hgd hu) hg (hm "repr" (by decide)) (by decide +kernel) ha (by decide) (by decide) h1 h2) fun σ H Q h => ti_bi rfl h
  | gcd => exact PE.imp (pe_callBfun (CallR.ex fun B => sk_gcd (CL := CL) (E := E) (B := B)) hg (hgc rfl) ha (by decide) h1 h2) fun σ H Q h => ti_bi rfl h

/-! ### methods of built-ins -/
theorem obj_ty {C : Kt} {B : Nat → Prop} {S : Store} {w : Wd} (s : SS C B S w) {n : Nat} {v : V} {ys : List D} (h : VR C w (.obj n) v) (e : S[n]? = some (.lst ys)) : tyV C.K "list" v w.H := by
  obtain ⟨a, vs, rfl, _, h1, _⟩ := obj_lst s h e
  exact .inl ⟨rfl, vs, SqL.of h1⟩
theorem re_bits (hx : PE X x (tI (kt CL X) E κ b i)) (hpb : plainBase x = true) (hli : (apos.endLine == pos.line) = true) : PE X (.Call (.Attribute x "bit_length" apos) [] [] pos) (tI (kt CL X) E κ b (.mt .bits i [])) :=
  PE.imp (pe_bits hx (base_ok hpb) hli) fun σ H Q ⟨B, w, S, env, a, h⟩ => by
    have h' : Po (kt CL X) E B (rlD (kt CL X) false) w ((ev κ b false i env S).bind fun u S => match methD .bits S u [] with
      | some (d, S') => match u with
        | .obj n => if ([] : List D).all fun d => wrOk b n d then .ok d S' else .bad
        | _ => .ok d S'
      | none => .bad) Q := h
    refine tI_bind a h' fun w1 S1 d v a1 x1 r1 p1 => ?_
    cases d with
    | int j => exact ⟨j, vint r1, po_int a1.ss p1⟩
    | _ => exact p1.elim
theorem mtOk_inv {m : MF} {S : Store} {u : D} (hm : m ≠ .bits) (h : mtOk m S u = true) : ∃ n ys, u = .obj n ∧ S[n]? = some (.lst ys) := by
  cases m with
  | bits => exact absurd rfl hm
  | _ =>
    cases u with
    | obj n =>
      simp only [mtOk] at h
      split at h
      · rename_i ys e; exact ⟨n, ys, rfl, e⟩
      · cases h
    | _ => simp [mtOk] at h
theorem ti_mt {m : MF} (hm : m ≠ .bits) {σ : L2.St} {H : Hp} {Q : VK} (h : tI (kt CL X) E κ b (.mt m i is) σ H Q) : tBM X.K "list" (fun x xs H Q => ∃ B, rMt (kt CL X) E B b m x xs H Q) (tI (kt CL X) E κ b i) (tIs (kt CL X) E κ b is) σ H Q := by
  obtain ⟨B, w, S, env, a, h⟩ := h
  have h' : Po (kt CL X) E B (rlD (kt CL X) false) w ((ev κ b false i env S).bind fun u S => if mtOk m S u then (evEs κ b is env S).bind fun us S => match methD m S u us with
      | some (d, S') => match u with
        | .obj n => if us.all fun d => wrOk b n d then .ok d S' else .bad
        | _ => .ok d S'
      | none => .bad else .bad) Q := h
  refine tI_bind a h' fun w1 S1 d v a1 x1 r1 p1 => ?_
  split at p1
  · rename_i ho
    obtain ⟨n, ys, rfl, e⟩ := mtOk_inv hm ho
    refine ⟨obj_ty a1.ss r1 e, ?_⟩
    refine tIs_bind a1 p1 fun w2 S2 ds vs a2 x2 r2 p2 => ?_
    cases e2 : methD m S2 (.obj n) ds with
    | none => rw [e2] at p2; exact p2.elim
    | some t =>
      obtain ⟨d', S'⟩ := t
      rw [e2] at p2
      have p3 : Po (kt CL X) E B (rlD (kt CL X) false) w2 (if ds.all fun d => wrOk b n d then .ok d' S' else .bad) Q := p2
      clear p2
      split at p3
      · rename_i hw
        exact ⟨B, w2, S2, _, ds, rfl, a2.ss, VR.ext x2.toGr a1.ss.muts _ _ r1, r2, a2.bb, d', S', e2, fun n' en => by cases en; exact hw, p3⟩
      · exact p3.elim
  · exact p1.elim
theorem re_mt {m : MF} {e : Expr} (hm : m ≠ .bits) (hx : PE X x (tI (kt CL X) E κ b i)) (ha : PA X (e :: es) (tIs (kt CL X) E κ b is)) (hns : (e :: es).all notStar = true) (hpb : plainBase x = true) (hl : (e :: es).length < 29) (hli : (apos.endLine == pos.line) = true) :
    PE X (.Call (.Attribute x (Str.ofString m.nm) apos) (e :: es) [] pos) (tI (kt CL X) E κ b (.mt m i is)) := by
  have hfew : ((backTo pos (starEach (e :: es) X.env)).all (fun x => !x.1) && (backToKw pos (keywordEach [] X.env)).all (fun x => x.1.isSome)
      && decide ((e :: es).length + ([] : List Keyword).length + (if ([] : List Keyword).isEmpty then 0 else 1) < 30)) = true := by
    rw [star_not hns]
    show (true && true && decide ((e :: es).length + 0 + 0 < 30)) = true
    simp only [Bool.true_and, decide_eq_true_eq]
    omega
  simp only [List.all_cons, Bool.and_eq_true] at hns
  cases m with
  | bits => exact absurd rfl hm
  | append => exact PE.imp (pe_bm PySem.F.plainAttrs_list PySem.F.slot_list_append PySem.F.type_list_append (MtR.ex fun B => sm_append (CL := CL) (E := E) (B := B) (b := b)) hx ha (base_ok hpb) hfew hli (star_one hns.1) (star_all hns.2)) fun σ H Q h => ti_mt hm h
  | popAt => exact PE.imp (pe_bm PySem.F.plainAttrs_list PySem.F.slot_list_pop PySem.F.type_list_pop (MtR.ex fun B => sm_popAt (CL := CL) (E := E) (B := B) (b := b)) hx ha (base_ok hpb) hfew hli (star_one hns.1) (star_all hns.2)) fun σ H Q h => ti_mt hm h

/-! ### isinstance -/
/-- a class as a value -/
inductive TagV (mg : Str → Option Value) : TyN → V → Value → Prop where
  | bt (n : String) : TagV mg (.bt n) (.ty n) (.type n)
  | cl (c : String) (a : Addr) (h : mg (Str.ofString c) = some (.ref a)) : TagV mg (.cl c) (.ref a) (.ref a)
theorem TagV.clsV {mg : Str → Option Value} {t : TyN} {v : V} {u : Value} (h : TagV mg t v u) : ClsV v u := by
  cases h with
  | bt n => exact .ty n
  | cl c a h => exact .own a
/-- what is known of the classes -/
structure KitOk (CL : List String × List (String × String) × Lx) (X : Cx) : Prop where
  own : ∀ c ∈ CL.1, ∀ cl, X.mg (Str.ofString c) = some (.ref cl) → Cls X.K cl ∧ PySem.W.findIn X.K (.ref cl) "__class__" = some (some (.builtin "object.__class__")) ∧ PySem.W.mroIn X.K cl (.type "object") = some true
  get : PySem.W.specialIn X.K (.builtin "object.__class__") "__get__" = some (some (.builtin "getset_descriptor.__get__"))
  tk : PySem.W.takesIn X.K (.builtin "object.__class__") = some true
  bb : ∀ c ∈ CL.1, ∀ cl, X.mg (Str.ofString c) = some (.ref cl) → ∀ n ∈ "NoneType" :: askTys, PySem.W.kitOne X.K (.type n) (.ref cl) = some false ∧ PySem.W.kitOne X.K (.ref cl) (.type n) = some false
  oo : ∀ c ∈ CL.1, ∀ cl, X.mg (Str.ofString c) = some (.ref cl) → ∀ c' ∈ CL.1, ∀ cl', X.mg (Str.ofString c') = some (.ref cl') → PySem.W.kitOne X.K (.ref cl) (.ref cl') = some (decide (c = c'))
theorem kit_bb {K : PySem.W.Frag} {a b : String} {r : Bool} (ha : a ∈ "NoneType" :: askTys) (h : tagIs (.bt a) (.bt b) = some r) : PySem.W.kitOne K (.type a) (.type b) = some r := by
  unfold tagIs at h
  simp only at h
  split at h
  · rename_i hb
    cases h
    refine kit_ty ?_
    unfold askTys at ha hb
    simp only [List.contains_cons, List.contains_nil, Bool.or_false, Bool.or_eq_true, beq_iff_eq] at hb
    simp only [List.mem_cons, List.not_mem_nil, or_false] at ha
    rcases ha with rfl | rfl | rfl | rfl | rfl | rfl | rfl <;> rcases hb with rfl | rfl | rfl | rfl | rfl | rfl <;> decide +kernel
  · cases h
/-- a value's class -/
theorem tag_ty {B : Nat → Prop} {S : Store} {w : Wd} {d : D} {v : V} {t : TyN} (ko : KitOk CL X) (s : SS (kt CL X) B S w) (rv : VR (kt CL X) w d v) (h : tagOf S d = some t) :
    ∃ u, TyX X.K w.H v u ∧ ((∃ n, t = .bt n ∧ u = .type n ∧ n ∈ "NoneType" :: askTys) ∨ ∃ c cl, t = .cl c ∧ u = .ref cl ∧ c ∈ CL.1 ∧ X.mg (Str.ofString c) = some (.ref cl)) := by
  have inst : ∀ (c : String) (a cl dx : Addr) (fs : List (Str × V)), w.H a = some (.ins cl dx fs) → (kt CL X).isC c cl → ∃ u, TyX X.K w.H (.ref a) u ∧ ((∃ n, TyN.cl c = .bt n ∧ u = .type n ∧ n ∈ "NoneType" :: askTys) ∨ ∃ c' cl, TyN.cl c = .cl c' ∧ u = .ref cl ∧ c' ∈ CL.1 ∧ X.mg (Str.ofString c') = some (.ref cl)) := fun c a cl dx fs e hc => by
    obtain ⟨k1, k2, k3⟩ := ko.own c hc.1 cl hc.2
    exact ⟨.ref cl, .base (.ins e k1 k2 ko.get ko.tk k3), .inr ⟨c, cl, rfl, rfl, hc.1, hc.2⟩⟩
  cases d with
  | non => cases h; cases vnon rv; exact ⟨_, .base .non, .inl ⟨_, rfl, rfl, by decide⟩⟩
  | bl c => cases h; cases vbl rv; exact ⟨_, .base (.bl _), .inl ⟨_, rfl, rfl, by decide⟩⟩
  | int c => cases h; cases vint rv; exact ⟨_, .base (.int _), .inl ⟨_, rfl, rfl, by decide⟩⟩
  | str c => cases h; cases vstr rv; exact ⟨_, .base (.str _), .inl ⟨_, rfl, rfl, by decide⟩⟩
  | tup xs =>
    cases h
    obtain ⟨a, vs, rfl, q, r⟩ := tup_rel rv
    rcases q with (q | ⟨o, q⟩) | ⟨o, its, n, q1, q2, _⟩
    · exact ⟨_, .base (.tup q), .inl ⟨_, rfl, rfl, by decide⟩⟩
    · exact ⟨_, .fTuple q, .inl ⟨_, rfl, rfl, by decide⟩⟩
    · exact ⟨_, .kTuple q1 q2, .inl ⟨_, rfl, rfl, by decide⟩⟩
  | lst xs =>
    cases h
    unfold VR at rv
    obtain ⟨a, vs, rfl, _, q, r⟩ := rv
    exact ⟨_, .base (.lst q), .inl ⟨_, rfl, rfl, by decide⟩⟩
  | scr xs =>
    cases h
    unfold VR at rv
    obtain ⟨a, vs, rfl, ⟨o, q⟩ | ⟨o, its, n, q1, q2, _⟩, r⟩ := rv
    · exact ⟨_, .base (.frz q), .inl ⟨_, rfl, rfl, by decide⟩⟩
    · exact ⟨_, .kList q1 q2, .inl ⟨_, rfl, rfl, by decide⟩⟩
  | dct ks ds =>
    cases h
    unfold VR at rv
    obtain ⟨a, vs, rfl, _, q, r⟩ := rv
    exact ⟨_, .base (.dK q), .inl ⟨_, rfl, rfl, by decide⟩⟩
  | ins c ns ds =>
    cases h
    unfold VR at rv
    obtain ⟨a, cl, dx, vs, rfl, _, hc, q, _⟩ := rv
    exact inst c a cl dx _ q hc
  | obj n =>
    unfold VR at rv
    obtain ⟨a, rfl, ha⟩ := rv
    simp only [tagOf] at h
    cases e : S[n]? with
    | none => rw [e] at h; cases h
    | some c0 =>
      rw [e] at h
      cases c0 with
      | dead => cases h
      | lst xs =>
        cases h
        obtain ⟨vs, q, _⟩ := s.cell n _ a e ha
        exact ⟨_, .base (.lst q), .inl ⟨_, rfl, rfl, by decide⟩⟩
      | ice xs =>
        cases h
        obtain ⟨vs, _, q, _⟩ := s.cell n _ a e ha
        exact ⟨_, .base (.lst q), .inl ⟨_, rfl, rfl, by decide⟩⟩
      | dct ks ds =>
        cases h
        obtain ⟨vs, q, _⟩ := s.cell n _ a e ha
        exact ⟨_, .base (.dK q), .inl ⟨_, rfl, rfl, by decide⟩⟩
      | ins c ns ds =>
        cases h
        obtain ⟨cl, dx, vs, hc, q, _⟩ := s.cell n _ a e ha
        exact inst c a cl dx _ q hc
  | glob _ => cases h
  | ty _ => cases h
  | lam _ _ => cases h
  | clo _ _ => cases h
theorem kit_is (ko : KitOk CL X) {t u : TyN} {vt : Value} {c : V} {vu : Value} {r : Bool} (ht : (∃ n, t = .bt n ∧ vt = .type n ∧ n ∈ "NoneType" :: askTys) ∨ ∃ c cl, t = .cl c ∧ vt = .ref cl ∧ c ∈ CL.1 ∧ X.mg (Str.ofString c) = some (.ref cl))
    (hu : TagV X.mg u c vu) (hcl : ∀ c, u = .cl c → c ∈ CL.1) (h : tagIs t u = some r) : PySem.W.kitOne X.K vt vu = some r := by
  rcases ht with ⟨n, rfl, rfl, hn⟩ | ⟨c1, cl1, rfl, rfl, h1, h2⟩
  · cases hu with
    | bt m => exact kit_bb hn h
    | cl c a hm =>
      simp only [tagIs] at h
      cases h
      exact (ko.bb c (hcl c rfl) a hm n hn).1
  · cases hu with
    | bt m =>
      simp only [tagIs] at h
      split at h
      · rename_i hb
        cases h
        exact (ko.bb c1 h1 cl1 h2 m (List.mem_cons_of_mem _ (by simpa using hb))).2
      · cases h
    | cl c a hm =>
      simp only [tagIs] at h
      cases h
      exact ko.oo c1 h1 cl1 h2 c (hcl c rfl) a hm
inductive TagVs (mg : Str → Option Value) : List TyN → List V → List Value → Prop where
  | nil : TagVs mg [] [] []
  | cons {t : TyN} {ts : List TyN} {c : V} {cs : List V} {u : Value} {us : List Value} : TagV mg t c u → TagVs mg ts cs us → TagVs mg (t :: ts) (c :: cs) (u :: us)
theorem TagVs.clsV {mg : Str → Option Value} {ts : List TyN} {cs : List V} {us : List Value} (h : TagVs mg ts cs us) : Paired ClsV cs us := by
  induction h with
  | nil => exact .nil
  | cons h _ ih => exact .cons h.clsV ih
theorem kit_any (ko : KitOk CL X) {S : Store} {d : D} {t : TyN} (ht : tagOf S d = some t) {vt : Value} (hv : (∃ n, t = .bt n ∧ vt = .type n ∧ n ∈ "NoneType" :: askTys) ∨ ∃ c cl, t = .cl c ∧ vt = .ref cl ∧ c ∈ CL.1 ∧ X.mg (Str.ofString c) = some (.ref cl))
    {ts : List TyN} {cs : List V} {us : List Value} {r : Bool} (h : TagVs X.mg ts cs us) (hc : ∀ c, TyN.cl c ∈ ts → c ∈ CL.1) (hi : isAny S d ts = some r) : PySem.W.kitAny X.K vt us = some r := by
  induction h with
  | nil => simp only [isAny] at hi; cases hi; exact kitAny_nil
  | @cons t1 ts c cs u us h1 h2 ih =>
    simp only [isAny] at hi
    cases q : isOne S d t1 with
    | none => rw [q] at hi; cases hi
    | some b1 =>
      rw [q] at hi
      have hk : PySem.W.kitOne X.K vt u = some b1 := kit_is ko hv h1 (fun c hc' => hc c (by rw [hc']; exact List.mem_cons_self ..)) (by
        unfold isOne at q
        rw [ht] at q
        exact q)
      refine kitAny_cons hk (fun e => ?_) (fun e => ?_)
      · subst e
        exact ih (fun c hcm => hc c (List.mem_cons_of_mem _ hcm)) hi
      · subst e
        cases hi; rfl
theorem TagVs.len {mg : Str → Option Value} {ts : List TyN} {cs : List V} {us : List Value} (h : TagVs mg ts cs us) : cs.length = ts.length := by
  induction h with
  | nil => rfl
  | cons _ _ ih => simp [ih]
theorem isAny_tag {S : Store} {d : D} {ts : List TyN} {c : Bool} (h : ts ≠ []) (hc : isAny S d ts = some c) : ∃ t, tagOf S d = some t := by
  cases ts with
  | nil => exact absurd rfl h
  | cons t ts =>
    cases q : tagOf S d with
    | some t => exact ⟨t, rfl⟩
    | none => simp [isAny, isOne, q] at hc
/-- a class, named -/
theorem pe_cls {T : Tb} {t : TyN} (hTc : T.cls = CL.1) (hm : ∀ n ∈ bltNames, X.mg (Str.ofString n) = none) (hcm : ∀ c ∈ CL.1, ∃ a, X.mg (Str.ofString c) = some (.ref a) ∧ (Str.ofString c == ("__debug__" : Str)) = false) (h : mTy1 T X.env.scope t x = true) : (∃ c u, TagV X.mg t c u ∧ PE X x (tC c) ∧ notStar x = true) ∧ ∀ c, t = .cl c → c ∈ CL.1 := by
  have gl : ∀ {y : Str}, glB X.env.scope y = true → Gl X y := fun {y} h => by
    unfold glB at h
    unfold Gl
    rw [show X.env.kindOf y = X.env.scope.names.lookup y from rfl]
    split at h
    · assumption
    · cases h
  cases t with
  | bt n =>
    refine ⟨?_, fun c e => nomatch e⟩
    cases x <;> simp only [mTy1] at h <;> try (cases h; done)
    rename_i id pos
    simp only [Bool.and_eq_true, decide_eq_true_eq] at h
    obtain ⟨⟨rfl, h2⟩, h3⟩ := h
    obtain ⟨n1, n2⟩ := bt_name n h3
    refine ⟨.ty n, .type n, .bt n, pe_bltn (gl h2) (hm n ?_) (bt_boot n h3) rfl n1 n2, rfl⟩
    unfold askTys at h3
    simp only [List.contains_cons, List.contains_nil, Bool.or_false, Bool.or_eq_true, beq_iff_eq] at h3
    rcases h3 with rfl | rfl | rfl | rfl | rfl | rfl <;> decide
  | cl c =>
    cases x <;> simp only [mTy1] at h <;> try (cases h; done)
    rename_i id pos
    simp only [Bool.and_eq_true, decide_eq_true_eq] at h
    obtain ⟨⟨rfl, h2⟩, h3⟩ := h
    have hc : c ∈ CL.1 := by rw [← hTc]; simpa using h3
    refine ⟨?_, fun c' e => by cases e; exact hc⟩
    obtain ⟨a, ha, hd⟩ := hcm c hc
    exact ⟨.ref a, .ref a, .cl c a ha, pe_glob (gl h2) ha rfl hd, rfl⟩
theorem pa_cls {T : Tb} (hTc : T.cls = CL.1) (hm : ∀ n ∈ bltNames, X.mg (Str.ofString n) = none) (hcm : ∀ c ∈ CL.1, ∃ a, X.mg (Str.ofString c) = some (.ref a) ∧ (Str.ofString c == ("__debug__" : Str)) = false) : ∀ {ts : List TyN} {es : List Expr}, mTys T X.env.scope ts es = true →
    (∃ cs us, TagVs X.mg ts cs us ∧ PA X es (fun _ H Q => Q cs H)) ∧ ∀ c, TyN.cl c ∈ ts → c ∈ CL.1
  | [], [], _ => ⟨⟨[], [], .nil, pa_nil⟩, fun c h => nomatch h⟩
  | [], _ :: _, h => by simp [mTys] at h
  | _ :: _, [], h => by simp [mTys] at h
  | t :: ts, e :: es, h => by
    simp only [mTys, Bool.and_eq_true] at h
    obtain ⟨⟨c, u, k1, k2, k3⟩, k4⟩ := pe_cls hTc hm hcm h.1
    obtain ⟨⟨cs, us, q1, q2⟩, q3⟩ := pa_cls hTc hm hcm h.2
    refine ⟨⟨c :: cs, u :: us, .cons k1 q1, PA.imp (pa_cons k2 q2 (star_one k3)) fun σ H Q h => h⟩, fun c hc => ?_⟩
    rcases List.mem_cons.mp hc with e | e
    · exact k4 c e.symm
    · exact q3 c e
theorem re_isi {T : Tb} {ts : List TyN} {y : Expr} (ko : KitOk CL X) (hTc : T.cls = CL.1) (hm : ∀ n ∈ bltNames, X.mg (Str.ofString n) = none) (hcm : ∀ c ∈ CL.1, ∃ a, X.mg (Str.ofString c) = some (.ref a) ∧ (Str.ofString c == ("__debug__" : Str)) = false)
    (hg : Gl X "isinstance") (hx : PE X x (tI (kt CL X) E κ b i)) (h : mTy T X.env.scope ts y = true) (hns : notStar x = true) (hns2 : notStar y = true) : PE X (.Call (.Name "isinstance" p) [x, y] [] pos) (tI (kt CL X) E κ b (.isi i ts)) := by
  have h1 : starEach [x, y] X.env = (false, eval x X.env) :: starEach [y] X.env := star_one hns
  have h2 : (backTo pos (starEach [y] X.env)).any (·.1) = false := star_all (by simp [hns2])
  by_cases hT : ∃ es k q, y = .Tuple es k q
  · obtain ⟨es, kk, q, rfl⟩ := hT
    simp only [mTy, Bool.and_eq_true, decide_eq_true_eq] at h
    obtain ⟨⟨cs, us, q1, q2⟩, q3⟩ := pa_cls hTc hm hcm h.1.1
    have pa : PA X [x, .Tuple es kk q] (tCons (tI (kt CL X) E κ b i) (tCons (tTup fun _ H Q => Q cs H) tNil)) := pa_cons hx (pa_cons (pe_tup q2) pa_nil (star_one rfl)) h1
    refine PE.imp (pe_callB call_isiT hg (hm "isinstance" (by decide)) PyProof.Rows.boot_isinstance pa (by decide) (by decide) h1 h2) fun σ H Q ⟨B, w, S, env, a, hh⟩ => ?_
    have h' : Po (kt CL X) E B (rlD (kt CL X) false) w ((ev κ b false i env S).bind fun u S => (R.of (isAny S u ts) S).bind fun c S => .ok (.bl c) S) Q := hh
    refine tI_bind a h' fun w1 S1 d v a1 x1 r1 p1 => ?_
    obtain ⟨c, hc, p3⟩ := po_of p1
    have hlen : cs.length ≤ sizeLine := by rw [sizeLine_eq, q1.len]; omega
    refine ⟨hlen, fun tp htp => ?_⟩
    obtain ⟨t, ht⟩ := isAny_tag (by intro e; rw [e] at h; simp at h) hc
    have x2 := a1.ss.ext_put (o := .tup cs) htp
    have s2 := a1.ss.put (o := .tup cs) htp
    obtain ⟨vt, ty, tv⟩ := tag_ty ko s2 (VR.ext x2.toGr a1.ss.muts _ _ r1) ht
    exact ⟨v, tp, cs, vt, us, c, rfl, upd_same, q1.clsV, ty, kit_any ko ht tv q1 q3 hc, po_bl s2 (p3.ext x2)⟩
  · unfold mTy at h
    split at h
    · exact absurd ⟨_, _, _, rfl⟩ hT
    · split at h
      · rename_i t
        obtain ⟨⟨cv, cu, k1, k2, k3⟩, k4⟩ := pe_cls hTc hm hcm h
        have pa : PA X [x, y] (tCons (tI (kt CL X) E κ b i) (tCons (tC cv) tNil)) := pa_cons hx (pa_cons k2 pa_nil (star_one hns2)) h1
        refine PE.imp (pe_callB call_isi hg (hm "isinstance" (by decide)) PyProof.Rows.boot_isinstance pa (by decide) (by decide) h1 h2) fun σ H Q ⟨B, w, S, env, a, hh⟩ => ?_
        have h' : Po (kt CL X) E B (rlD (kt CL X) false) w ((ev κ b false i env S).bind fun u S => (R.of (isAny S u [t]) S).bind fun c S => .ok (.bl c) S) Q := hh
        refine tI_bind a h' fun w1 S1 d v a1 x1 r1 p1 => ?_
        obtain ⟨c, hc, p3⟩ := po_of p1
        obtain ⟨t', ht⟩ := isAny_tag (by simp) hc
        obtain ⟨vt, ty, tv⟩ := tag_ty ko a1.ss r1 ht
        have hk : PySem.W.kitOne X.K vt cu = some c := kit_is ko tv k1 k4 (by
          simp only [isAny, isOne, ht, Option.bind_some] at hc
          cases q : tagIs t' t with
          | none => rw [q] at hc; cases hc
          | some r => rw [q] at hc; cases r <;> exact hc)
        exact ⟨v, cv, vt, cu, c, rfl, k1.clsV, ty, hk, po_bl a1.ss p3⟩
      · cases h
end
end Pi
end

section
/-! PiRules6: dicts written out, cells. -/
namespace Pi
open PySem PySem.Spec PyProof.Rows L2

section
variable {CL : List String × List (String × String) × Lx} {X : Cx} {E : XK} {κ : Calls} {b : Nat} {x : Expr} {es : List Expr} {is : List IE} {i : IE} {pos p apos : Pos} {k : Nat} {y : Str}
/-- values with written keys -/
def trsOf (C : Kt) (E : XK) (κ : Calls) (b : Nat) : List Str → List IE → List (TE × TE)
  | k :: ks, i :: is => (tC (.str k), tI C E κ b i) :: trsOf C E κ b ks is
  | _, _ => []
theorem tp_of {C : Kt} {B : Nat → Prop} {env : Slots} {σ : L2.St} : ∀ {ks : List Str} {is : List IE} {w : Wd} {S : Store} {H : Hp} {Q : List V → Hp → Prop} {Q' : List (V × V) → Hp → Prop}, ks.length = is.length → At C B b S env w σ H → Po C E B (rlDs C) w (evEs κ b is env S) Q →
    (∀ vs H2, vs.length = ks.length → Q vs H2 → Q' ((ks.zip vs).map (fun kv => (V.str kv.1, kv.2))) H2) → tPairs (trsOf C E κ b ks is) σ H Q'
  | [], [], w, S, H, Q, Q', hl, a, h, hk => by
    have h' : Po C E B (rlDs C) w (.ok [] S) Q := h
    have := h' w [] (.refl w) a.ss (show VRs C w [] [] from .nil)
    rw [a.hp] at this
    exact hk [] H rfl this
  | k :: ks, i :: is, w, S, H, Q, Q', hl, a, h, hk => by
    have h' : Po C E B (rlDs C) w ((ev κ b false i env S).bind fun u S => (evEs κ b is env S).bind fun us S => .ok (u :: us) S) Q := h
    show tC (.str k) σ H _
    refine tI_bind a h' fun w1 S1 d v a1 x1 r1 p1 => ?_
    have p2 : Po C E B (rlDs C) w1 (evEs κ b is env S1) (fun vs H => Q (v :: vs) H) := by
      cases e : evEs κ b is env S1 with
      | bad => rw [e] at p1; exact p1
      | err z S' => rw [e] at p1; exact p1
      | ok ds S' =>
        rw [e] at p1
        intro w2 vs x2 s2 r2
        exact p1 w2 (v :: vs) x2 s2 (show VRs C w2 (d :: ds) (v :: vs) from .cons (VR.ext x2.toGr a1.ss.muts _ _ r1) r2)
    exact tp_of (ks := ks) (by simpa using hl) a1 p2 fun vs H2 hl q => hk (v :: vs) H2 (by simp [hl]) q
  | [], _ :: _, _, _, _, _, _, hl, _, _, _ => by simp at hl
  | _ :: _, [], _, _, _, _, _, hl, _, _, _ => by simp at hl
theorem mKeys_inv : ∀ {ks : List Str} {keys : List (Option Expr)}, mKeys ks keys = true → keys.length = ks.length ∧ keys.all (·.isSome) = true
  | [], [], _ => ⟨rfl, rfl⟩
  | [], _ :: _, h => by simp [mKeys] at h
  | _ :: _, [], h => by simp [mKeys] at h
  | k :: ks, none :: es, h => by simp [mKeys] at h
  | k :: ks, some e :: es, h => by
    cases e with
    | Constant c n p =>
      cases c with
      | str x =>
        simp only [mKeys, Bool.and_eq_true] at h
        obtain ⟨h1, h2⟩ := mKeys_inv h.2
        exact ⟨by simp [h1], by simp [h2]⟩
      | _ => simp [mKeys] at h
    | _ => simp [mKeys] at h
/-- the values' rules -/
inductive PEs (X : Cx) (C : Kt) (E : XK) (κ : Calls) (b : Nat) : List Expr → List IE → Prop where
  | nil : PEs X C E κ b [] []
  | cons {e : Expr} {i : IE} {es : List Expr} {is : List IE} : PE X e (tI C E κ b i) → PEs X C E κ b es is → PEs X C E κ b (e :: es) (i :: is)
theorem PEs.len {C : Kt} {es : List Expr} {is : List IE} (h : PEs X C E κ b es is) : es.length = is.length := by
  induction h with
  | nil => rfl
  | cons _ _ ih => simp [ih]
theorem pps_of {C : Kt} : ∀ {ks : List Str} {keys : List (Option Expr)} {es : List Expr} {is : List IE}, mKeys ks keys = true → ks.length = is.length → PEs X C E κ b es is → PPs X pos keys es (trsOf C E κ b ks is)
  | [], [], _, _, h, hl, .nil => pps_nil
  | [], _ :: _, _, _, h, hl, _ => by simp [mKeys] at h
  | _ :: _, [], _, _, h, hl, _ => by simp [mKeys] at h
  | k :: ks, none :: keys, _, _, h, hl, _ => by simp [mKeys] at h
  | k :: ks, some e :: keys, _, _, h, hl, .cons h1 h2 => by
    cases e with
    | Constant c n p =>
      cases c with
      | str x =>
        simp only [mKeys, Bool.and_eq_true, decide_eq_true_eq] at h
        obtain ⟨rfl, h⟩ := h
        exact pps_cons pe_str h1 (pps_of h (by simpa using hl) h2)
      | _ => simp [mKeys] at h
    | _ => simp [mKeys] at h
theorem putK_end {kvs : List (Key × V)} {k : Key} {v : V} (h : k ∉ kvs.map (·.1)) : putK kvs k v = kvs ++ [(k, v)] := by
  unfold putK
  rw [if_neg]
  intro hh
  rw [List.any_eq_true] at hh
  obtain ⟨kv, h1, h2⟩ := hh
  exact h (List.mem_map.mpr ⟨kv, h1, of_decide_eq_true h2⟩)
theorem mergeK_nodup : ∀ {more kvs : List (Key × V)}, ((kvs ++ more).map (·.1)).Nodup → mergeK kvs more = kvs ++ more
  | [], kvs, _ => by simp [mergeK]
  | p :: more, kvs, h => by
    have hp : p.1 ∉ kvs.map (·.1) := fun z => by
      rw [List.map_append, List.nodup_append] at h
      exact h.2.2 p.1 z p.1 (by simp) rfl
    show mergeK (putK kvs p.1 p.2) more = _
    rw [putK_end hp, mergeK_nodup (by simpa using h)]
    simp
/-- the dict just made, its world -/
theorem dic_world {B : Nat → Prop} {S S1 : Store} {w w1 : Wd} {q : Addr} {kvs : List (Key × V)} {C : Kt} (s : SS C B S w) (hq : w.H q = none) (x : Ext (w.put q (.dK [])) w1) (s1 : SS C B S1 w1) :
    w1.H q = some (.dK []) ∧ Ext w (w1.put q (.dK kvs)) ∧ SS C B S1 (w1.put q (.dK kvs)) ∧ Gr w1 (w1.put q (.dK kvs)) ∧ q ∉ w1.ρ ∧ ¬ w1.F q := by
  have hqr : q ∉ w.ρ := s.in_none hq
  have hqF : ¬ w.F q := s.F_none hq
  have hp : (w.put q (.dK [])).H q = some (.dK []) := upd_same
  have h1 : w1.H q = some (.dK []) := x.keepA q _ hp hqr (fun _ z => by cases z)
  have hqr1 : q ∉ w1.ρ := fun hm => by
    have := x.new q hm hqr
    rw [hp] at this; cases this
  have hqF1 : ¬ w1.F q := fun hf => by
    rcases x.newF q hf with z | z | z
    · exact hqF z
    · rw [hp] at z; cases z
    · exact hqr z
  have g : Gr w1 (w1.put q (.dK kvs)) := ⟨⟨[], by simp⟩, fun _ h => h, fun a o e hm _ => by
    show upd w1.H q _ a = _
    rw [upd_ne]
    · exact e
    · rintro rfl
      rw [h1] at e; cases e
      exact hm trivial, fun a hf => by
    show upd w1.H q _ a = _
    rw [upd_ne]
    rintro rfl
    exact hqF1 hf⟩
  have xx := (s.ext_put (o := .dK []) hq).trans x
  refine ⟨h1, ⟨⟨xx.pre, xx.fr, fun a o e hm ht => g.keep a o (xx.keep a o e hm ht) hm ht, fun a hf => (g.frz a (xx.fr a hf)).trans (xx.frz a hf)⟩, fun a o e hm ht => ?_, fun a ps e => ?_, xx.new, xx.newF⟩, s1.step g rfl (fun a ha => ?_) s1.nofr (fun a hf => ?_) (fun r hr => ?_), g, hqr1, hqF1⟩
  · show upd w1.H q _ a = _
    rw [upd_ne]
    · exact xx.keepA a o e hm ht
    · rintro rfl
      rw [hq] at e; cases e
  · obtain ⟨ps', e'⟩ := xx.keepT a ps e
    refine ⟨ps', ?_⟩
    show upd w1.H q _ a = _
    rw [upd_ne]
    · exact e'
    · rintro rfl
      rw [hq] at e; cases e
  · show upd w1.H q _ a = _
    rw [upd_ne]
    rintro rfl
    exact hqr1 ha
  · by_cases hax : a = q
    · exact ⟨_, by rw [hax]; exact upd_same⟩
    · obtain ⟨o, e⟩ := s1.there a hf
      exact ⟨o, by show upd w1.H q _ a = _; rw [upd_ne hax]; exact e⟩
  · obtain ⟨n, ps, e, _⟩ := s1.tabs r hr
    refine ⟨?_, n⟩
    show upd w1.H q _ r.1 = _
    rw [upd_ne]
    rintro z
    rw [z, h1] at e; cases e
theorem nodup_inr {ks : List Str} (h : ks.Nodup) : (ks.map (Sum.inr : Str → Key)).Nodup := by
  induction ks with
  | nil => exact List.nodup_nil
  | cons k ks ih =>
    rw [List.nodup_cons] at h
    rw [List.map_cons, List.nodup_cons]
    refine ⟨fun hm => ?_, ih h.2⟩
    obtain ⟨a, h1, h2⟩ := List.mem_map.mp hm
    cases h2
    exact h.1 h1
theorem zip_inr (ks : List Str) (vs : List V) : (ks.zip vs).map (fun kv => (V.str kv.1, kv.2)) = ((ks.map (Sum.inr : Str → Key)).zip vs).map (fun kv => (kV kv.1, kv.2)) := by
  induction ks generalizing vs with
  | nil => rfl
  | cons k ks ih =>
    cases vs with
    | nil => rfl
    | cons v vs => simp only [List.zip_cons_cons, List.map_cons, ih]; rfl
theorem fst_zip {α β : Type} : ∀ (ks : List α) (vs : List β), vs.length = ks.length → (ks.zip vs).map (·.1) = ks
  | [], [], _ => rfl
  | [], _ :: _, h => by simp at h
  | _ :: _, [], h => by simp at h
  | k :: ks, v :: vs, h => by simp [fst_zip ks vs (by simpa using h)]
/-- a dict written out: what its world gives -/
theorem ti_dic {ks : List Str} {Q : VK} {σ : L2.St} {H : Hp} {B : Nat → Prop} {w : Wd} {S : Store} {env : Slots} {f : List D → Store → R D} (hlen : ks.length = is.length) (h15 : ks.length ≤ 15) (hnd : ks.Nodup) (a : At (kt CL X) B b S env w σ H)
    (h : Po (kt CL X) E B (rlD (kt CL X) false) w ((evEs κ b is env S).bind f) Q)
    (hf : ∀ (w1 w2 : Wd) (S1 : Store) (ds : List D) (vs : List V) (q : Addr), ds.length = ks.length → Ext w w1 → w.H q = none → SS (kt CL X) B S1 w1 → w1.H q = some (.dK ((ks.map Sum.inr).zip vs)) → VRs (kt CL X) w1 ds vs → q ∉ w1.ρ → ¬ w1.F q → Po (kt CL X) E B (rlD (kt CL X) false) w (f ds S1) Q → Q (.ref q) w1.H) :
    tDisp (trsOf (kt CL X) E κ b ks is) σ H Q := by
  intro q hq
  rw [← a.hp] at hq
  have s1 := a.ss.put (o := .dK []) hq
  have x1 := a.ss.ext_put (o := .dK []) hq
  have a1 : At (kt CL X) B b S env (w.put q (.dK [])) σ (upd H q (.dK [])) := by
    have := a.ext x1 s1
    rw [show (w.put q (.dK [])).H = upd H q (.dK []) from by rw [← a.hp]] at this
    exact this
  refine tp_of (Q := fun vs H2 => ∃ w1 S1 ds, w1.H = H2 ∧ Ext (w.put q (.dK [])) w1 ∧ SS (kt CL X) B S1 w1 ∧ VRs (kt CL X) w1 ds vs ∧ Po (kt CL X) E B (rlD (kt CL X) false) w (f ds S1) Q) hlen a1 ?_ fun vs H2 hl ⟨w1, S1, ds, e, x2, s2, r2, p2⟩ => ?_
  · cases e : evEs κ b is env S with
    | bad => rw [e] at h; exact h
    | err z S' =>
      rw [e] at h
      exact (show Po (kt CL X) E B (rlD (kt CL X) false) w (.err z S' : R D) Q from h).ext x1 |> fun hh => hh
    | ok ds S' =>
      rw [e] at h
      intro w2 vs x2 s2 r2
      exact ⟨w2, S', ds, rfl, x2, s2, r2, h⟩
  · subst e
    obtain ⟨h1, xx, ss, g, n1, n2⟩ := dic_world (kvs := (ks.map Sum.inr).zip vs) a.ss hq x2 s2
    refine ⟨h1, (ks.map Sum.inr).zip vs, zip_inr ks vs, by simp; omega, ?_⟩
    rw [mergeK_nodup (by rw [List.nil_append, fst_zip _ _ (by simpa using hl)]; exact nodup_inr hnd), List.nil_append]
    refine hf (w1.put q (.dK ((ks.map Sum.inr).zip vs))) w1 S1 ds vs q ?_ xx hq ss upd_same (VRs.ext g s2.muts _ _ r2) n1 n2 p2
    rw [← r2.length]; exact hl
theorem re_dic0 : PE X (.Dict [] [] pos) (tI (kt CL X) E κ b .dic0) :=
  PE.imp pe_dnewK fun σ H Q ⟨B, w, S, env, a, h⟩ p hp => by
    have h' : Po (kt CL X) E B (rlD (kt CL X) false) w (.ok (.dct [] []) S) Q := h
    have eH := a.hp
    subst eH
    have s2 := (a.ss.put (o := .dK []) hp).ice (p := p) upd_same (fun _ z => by cases z) fun n c h1 h2 h3 => a.ss.in_none hp (List.mem_of_getElem? h3)
    have x2 : Ext w ((w.put p (.dK [])).ice p) := (a.ss.ext_put hp).ice (.inl hp)
    refine h' _ (.ref p) x2 s2 (rr_of ?_)
    unfold VR
    exact ⟨p, [], rfl, .inr rfl, upd_same, .nil, rfl⟩
theorem re_dic {ks : List Str} {keys : List (Option Expr)} (hk : mKeys ks keys = true) (hes : PEs X (kt CL X) E κ b es is) (hlen : ks.length = is.length) (h1 : 1 ≤ ks.length) (h15 : ks.length ≤ 15) (hnd : ks.Nodup) : PE X (.Dict keys es pos) (tI (kt CL X) E κ b (.dic ks is)) := by
  obtain ⟨k1, k2⟩ := mKeys_inv hk
  refine PE.imp (pe_disp (pps_of hk hlen hes) k2 (by rw [k1, hlen, hes.len]) (by rintro rfl; simp at k1; omega) (by omega)) fun σ H Q ⟨B, w, S, env, a, h⟩ => ?_
  have h' : Po (kt CL X) E B (rlD (kt CL X) false) w ((evEs κ b is env S).bind fun us S => if us.length = ks.length ∧ ks.length ≤ 15 then .ok (.dct (ks.map .inr) us) S else .bad) Q := h
  refine ti_dic hlen h15 hnd a h' fun w1 w2 S1 ds vs q hl x1 hq s1 e r n1 n2 p => ?_
  rw [if_pos ⟨hl, h15⟩] at p
  have hx := x1.ice (p := q) (.inl hq)
  have hs := s1.ice (p := q) e (fun _ z => by cases z) fun n c h2 h3 h4 => n1 (List.mem_of_getElem? h4)
  refine p (w1.ice q) (.ref q) hx hs (rr_of ?_)
  unfold VR
  exact ⟨q, vs, rfl, .inr rfl, e, VRs.ext .ice s1.muts _ _ r, by simp [hl]⟩
theorem re_cellD {ks : List Str} {keys : List (Option Expr)} (hk : mKeys ks keys = true) (hes : PEs X (kt CL X) E κ b es is) (hlen : ks.length = is.length) (h1 : 1 ≤ ks.length) (h15 : ks.length ≤ 15) (hnd : ks.Nodup) : PE X (.Dict keys es pos) (tI (kt CL X) E κ b (.cellD ks is)) := by
  obtain ⟨k1, k2⟩ := mKeys_inv hk
  refine PE.imp (pe_disp (pps_of hk hlen hes) k2 (by rw [k1, hlen, hes.len]) (by rintro rfl; simp at k1; omega) (by omega)) fun σ H Q ⟨B, w, S, env, a, h⟩ => ?_
  have h' : Po (kt CL X) E B (rlD (kt CL X) false) w ((evEs κ b is env S).bind fun us S => if us.length = ks.length ∧ ks.length ≤ 15 then .ok (.obj S.length) (S ++ [.dct (ks.map .inr) us]) else .bad) Q := h
  refine ti_dic hlen h15 hnd a h' fun w1 w2 S1 ds vs q hl x1 hq s1 e r n1 n2 p => ?_
  rw [if_pos ⟨hl, h15⟩] at p
  have hx := x1.cell (p := q) (.inl hq)
  have hs := s1.cell' (p := q) (c := .dct (ks.map .inr) ds) (by rw [e]; trivial) n2 (fun n c h2 h3 h4 => n1 (List.mem_of_getElem? h4)) ⟨vs, e, r, by simp [hl]⟩
  refine p (w1.cell q) (.ref q) hx hs (rr_of ?_)
  unfold VR
  exact ⟨q, rfl, by show (w1.ρ ++ [q])[S1.length]? = some q; rw [← s1.len]; simp⟩
/-- a list that is new, as a cell -/
theorem re_cellL (hf : i.fresh = true) (hx : PE X x (tI (kt CL X) E κ b i)) : PE X x (tI (kt CL X) E κ b (.cellL i)) :=
  PE.imp hx fun σ H Q ⟨B, w, S, env, a, h⟩ => by
    have h' : Po (kt CL X) E B (rlD (kt CL X) false) w (if false || !i.fresh then .bad else (ev κ b false i env S).bind fun u S => match u with
      | .lst xs => .ok (.obj S.length) (S ++ [.lst xs])
      | _ => .bad) Q := h
    rw [hf] at h'
    refine ⟨B, w, S, env, a, ?_⟩
    rw [hf]
    have h2 : Po (kt CL X) E B (rlD (kt CL X) false) w ((ev κ b false i env S).bind fun u S => match u with
      | .lst xs => .ok (.obj S.length) (S ++ [.lst xs])
      | _ => .bad) Q := h'
    cases e : ev κ b false i env S with
    | bad => rw [e] at h2; exact h2
    | err z S' => rw [e] at h2; exact h2
    | ok d S' =>
      rw [e] at h2
      cases d with
      | lst xs =>
        have h2 : Po (kt CL X) E B (rlD (kt CL X) false) w (.ok (.obj S'.length) (S' ++ [.lst xs])) Q := h2
        intro w' v x s r
        obtain ⟨ad, vs, rfl, q1, q2, q3, q4, q5⟩ := (show FR (kt CL X) w S' w' xs v from r)
        refine h2 (w'.cell ad) (.ref ad) (x.cell q4) (s.cell' (by rw [q1]; trivial) q3 q5 ⟨vs, q1, q2⟩) (rr_of ?_)
        unfold VR
        exact ⟨ad, rfl, by show (w'.ρ ++ [ad])[S'.length]? = some ad; rw [← s.len]; simp⟩
      | _ => exact h2.elim
theorem re_move (hx : PE X x (tI (kt CL X) E κ b i)) : PE X x (tI (kt CL X) E κ b (.move i)) :=
  PE.imp hx fun σ H Q ⟨B, w, S, env, a, h⟩ => by
    have h' : Po (kt CL X) E B (rlD (kt CL X) true) w ((ev κ b false i env S).bind fun u S => match u with
      | .obj n => match S[n]? with
        | some (.lst xs) => .ok (.lst xs) (S.set n .dead)
        | _ => .bad
      | _ => .bad) Q := h
    refine tI_bind a h' fun w1 S1 d v a1 x1 r1 p1 => ?_
    cases d with
    | obj n =>
      have p1 : Po (kt CL X) E B (rlD (kt CL X) true) w1 (match S1[n]? with
        | some (.lst xs) => .ok (.lst xs) (S1.set n .dead)
        | _ => .bad) Q := p1
      cases e : S1[n]? with
      | none => rw [e] at p1; exact p1.elim
      | some c =>
        rw [e] at p1
        cases c with
        | lst xs =>
          obtain ⟨ad, vs, rfl, q1, q2, q3⟩ := obj_lst a1.ss r1 e
          refine p1 w1 (.ref ad) (.refl w1) a1.ss.kill (show FR (kt CL X) w1 (S1.set n .dead) w1 xs (.ref ad) from ⟨ad, vs, rfl, q2, q3, a1.ss.nofr n _ ad e trivial q1, .inr (List.mem_of_getElem? q1), fun m c h2 h3 h4 => ?_⟩)
          by_cases hm : n = m
          · subst hm
            have hnl : n < S1.length := (List.getElem?_eq_some_iff.mp e).1
            rw [List.getElem?_set_self hnl] at h2
            cases h2; exact h3
          · rw [List.getElem?_set_ne hm] at h2
            exact hm (a1.ss.inj n m _ _ ad e h2 trivial h3 q1 h4)
        | _ => exact p1.elim
    | _ => exact p1.elim
theorem re_cellC {f : String} {fa : Addr} {fd : FuncData} {ps : List Str} (hgd : X.A.guards = some []) (F : FnG X.prog X.w X.K X.mg X.base k fa fd ps (spOf (kt CL X) κ f)) (hr : Room k X.A) (hg : Gl X y) (hm : X.mg y = some (.ref fa)) (hk : PySem.W.keepIn X.K (.ref fa) = true) (hb : Binds X.K fd ps []) (hx : PassG X E)
    (ha : PA X es (tIs (kt CL X) E κ b is)) (hl : es = [] → is = []) (hns : es.all notStar = true) (hdb : (y == ("__debug__" : Str)) = false) : PE X (.Call (.Name y p) es [] pos) (tI (kt CL X) E κ b (.cellC f is)) :=
  PE.imp (pe_callG hgd F hr hg hm hk hb hx ha (fun e σ H Q h => by cases hl e; exact tIs_nil h) hns hdb) fun σ H Q ⟨B, w, S, env, a, h⟩ => by
    have h' : Po (kt CL X) E B (rlD (kt CL X) false) w ((evEs κ b is env S).bind fun us S => (κ f b us S).bind fun r S => match r with
        | (.lst xs, true) => .ok (.obj S.length) (S ++ [.lst xs])
        | _ => .bad) Q := h
    refine tIs_bind a h' fun w1 S1 ds vs a1 x1 r1 p1 => ?_
    rw [List.append_nil]
    refine ⟨B, b, w1, S1, ds, rfl, a1.ss, a1.bb, r1, ?_⟩
    cases e : κ f b ds S1 with
    | bad => rw [e] at p1; exact p1
    | err z S' => rw [e] at p1; exact p1
    | ok d S' =>
      rw [e] at p1
      obtain ⟨d, fr⟩ := d
      cases d with
      | lst xs =>
        cases fr with
        | true =>
          have p1 : Po (kt CL X) E B (rlD (kt CL X) false) w1 (.ok (.obj S'.length) (S' ++ [.lst xs])) Q := p1
          intro w' v x s r
          obtain ⟨ad, vs, rfl, q1, q2, q3, q4, q5⟩ := (show FR (kt CL X) w1 S' w' xs v from r)
          refine p1 (w'.cell ad) (.ref ad) (x.cell q4) (s.cell' (by rw [q1]; trivial) q3 q5 ⟨vs, q1, q2⟩) (rr_of ?_)
          unfold VR
          exact ⟨ad, rfl, by show (w'.ρ ++ [ad])[S'.length]? = some ad; rw [← s.len]; simp⟩
        | false => exact p1.elim
      | _ => exact p1.elim
end
end Pi
end

section
/-! PiIter: enumerate of a list or a tuple; zip of two, of three, each a list or a tuple. -/
namespace Pi
open PySem PySem.Spec PyProof.Rows L2

/-- a list (false), a tuple (true) -/
def SqB (K : PySem.W.Frag) (t : Bool) (H : Hp) (a : Addr) (xs : List V) : Prop := if t = true then SqT K H a xs else SqL K H a xs
def SrcOf (t : Bool) (h : Heap) (a : Addr) (items : Array Value) : Prop := if t = true then h.IsTuple a items else h.IsList a items
def SrcIt (t : Bool) (h : Heap) (it a : Addr) (i : Nat) : Prop := if t = true then h.IsTupleIter it a i else h.IsListIter it a i
def objB (t : Bool) (a : Addr) : Obj := { cls := .type (if t = true then "tuple_iterator" else "list_iterator"), data := .fields #[.ref a, .int 0 0] }
theorem Inv.src {X : Cx} {pins : List (Addr × Obj)} {σ : L2.St} {H : Hp} {s : Shared} (I : Inv X pins σ H s) {t : Bool} {a : Addr} {xs : List V} (h : SqB X.K t H a xs) : ∃ its : List Value, Vals xs its ∧ SrcOf t s.heap a its.toArray ∧ xs.length ≤ sizeLine := by
  cases t with
  | true =>
    obtain ⟨its, r, p, z⟩ := I.tuple h
    exact ⟨its, r, (show s.heap.IsTuple a its.toArray from p), z⟩
  | false =>
    obtain ⟨its, r, p, z⟩ := I.list h
    exact ⟨its, r, p.isList, z⟩
theorem Inv.src_inj {X : Cx} {pins : List (Addr × Obj)} {σ : L2.St} {H : Hp} {s : Shared} (I : Inv X pins σ H s) {t : Bool} {a : Addr} {xs ys : List V} (h : SqB X.K t H a xs) (h' : SqB X.K t H a ys) : xs = ys := by
  cases t with
  | true => exact I.tuple_inj h h'
  | false => exact I.list_inj h h'
theorem drawsB {prog : Program} {w : World} {A : Around} (hh : A.handled = none) (t : Bool) (it a : Addr) (hne : a ≠ it) (items : Array Value) :
    Draws prog w A it [it, a] items.size (fun i v => items[i]? = some v) (fun i h => SrcIt t h it a i ∧ SrcOf t h a items) := by
  cases t with
  | true => exact Draws.tuple hh it a hne items
  | false => exact Draws.list hh it a hne items
theorem beginsB (t : Bool) (a : Addr) (items : Array Value) : Begins (.ref a) (objB t a) fun h => SrcOf t h a items := by
  cases t with
  | true => exact begins_tuple a items
  | false => exact begins_list a items
theorem SrcIt.obj {t : Bool} {h : Heap} {it a : Addr} {i : Nat} (x : SrcIt t h it a i) : ∃ o, h.get? it = some o ∧ (∀ v, o.data ≠ .cell v) ∧ ∃ n, o.cls = .type n ∧ (n = "tuple_iterator" ∨ n = "list_iterator") := by
  cases t with
  | true =>
    obtain ⟨o, e, c, d⟩ := (show h.IsTupleIter it a i from x)
    exact ⟨o, e, (fun v z => by rw [d] at z; cases z), _, c, .inl rfl⟩
  | false =>
    obtain ⟨o, e, c, d⟩ := (show h.IsListIter it a i from x)
    exact ⟨o, e, (fun v z => by rw [d] at z; cases z), _, c, .inr rfl⟩
theorem SrcIt.at {t : Bool} {h h' : Heap} {it a : Addr} {i : Nat} (x : SrcIt t h it a i) (k : ∀ o, h.get? it = some o → h'.get? it = some o) : SrcIt t h' it a i := by
  cases t with
  | true => exact Heap.IsTupleIter.at (show h.IsTupleIter it a i from x) fun o e => k o e
  | false => exact Heap.IsListIter.at (show h.IsListIter it a i from x) fun o e => k o e
theorem SrcIt.new {t : Bool} {h : Heap} {it a : Addr} (x : h.get? it = some (objB t a)) : SrcIt t h it a 0 := by
  cases t with
  | true => exact ⟨_, x, rfl, rfl⟩
  | false => exact ⟨_, x, rfl, rfl⟩
theorem SrcOf.cls {t : Bool} {h : Heap} {a : Addr} {items : Array Value} (x : SrcOf t h a items) : ∃ o n, h.get? a = some o ∧ o.cls = .type n ∧ (n = "tuple" ∨ n = "list") := by
  cases t with
  | true =>
    obtain ⟨o, e, c, _⟩ := (show h.IsTuple a items from x)
    exact ⟨o, _, e, c, .inl rfl⟩
  | false =>
    obtain ⟨o, e, c, _⟩ := (show h.IsList a items from x)
    exact ⟨o, _, e, c, .inr rfl⟩
theorem src_ne {t t' : Bool} {h : Heap} {it a b : Addr} {i : Nat} {items : Array Value} (x : SrcIt t h it b i) (y : SrcOf t' h a items) : a ≠ it := by
  rintro rfl
  obtain ⟨o, e, _, n, c, hn⟩ := x.obj
  obtain ⟨o', n', e', c', hn'⟩ := y.cls
  rw [e] at e'; cases e'
  rw [c] at c'; cases c'
  rcases hn with rfl | rfl <;> rcases hn' with h | h <;> exact absurd h (by decide)
theorem src_ne2 {t' : Bool} {h : Heap} {e a : Addr} {items : Array Value} {o : Obj} {m : String} (x : h.get? e = some o) (hc : o.cls = .type m) (h1 : m ≠ "tuple") (h2 : m ≠ "list") (y : SrcOf t' h a items) : e ≠ a := by
  rintro rfl
  obtain ⟨o', n', e', c', hn'⟩ := y.cls
  rw [x] at e'; cases e'
  rw [hc] at c'; cases c'
  rcases hn' with h | h
  · exact h1 h
  · exact h2 h

/-! ### enumerate -/
def ItE (K : PySem.W.Frag) (t : Bool) (a : Addr) : It :=
  ⟨fun i H => ∃ (xs : List V) (x : V), SqB K t H a xs ∧ xs[i]? = some x, fun i H v H' => ∃ T x, v = .ref T ∧ H T = none ∧ H' = upd H T (.tup [.int (i : Nat), x]) ∧ ∀ xs, SqB K t H a xs → xs[i]? = some x, fun i H => ∃ xs : List V, SqB K t H a xs ∧ xs.length = i⟩
theorem turn_E {P : Program} {w : World} {K : PySem.W.Frag} {elts : List Expr} {kk : Nat} {tpos : Pos} (t : Bool) (a e it : Addr) :
    Turn P w K (.Tuple elts kk tpos) (ItE K t a) [e, it] e (fun i h => (∃ old, IsEnum h e it ((i : Nat) : Int) old) ∧ SrcIt t h it a i ∧ e ≠ it) where
  mem := by simp
  obj := fun i h st b hb => by
    obtain ⟨⟨old, he⟩, hi, _⟩ := st
    have e' : b = e ∨ b = it := by simpa using hb
    rcases e' with z | z
    · rw [z]; exact ⟨_, he, fun v q => nomatch q⟩
    · rw [z]; obtain ⟨o, ho, hc, _⟩ := hi.obj; exact ⟨o, ho, hc⟩
  keep := fun i h h' st k => let ⟨⟨old, he⟩, hi, hne⟩ := st; ⟨⟨old, k e (by simp) _ he⟩, hi.at fun o q => k it (by simp) o q, hne⟩
  item := by
    intro X hP hw hK hc i pins s σ H E I hf st hg
    subst hP hw hK
    obtain ⟨⟨old, he⟩, hit, hne⟩ := st
    obtain ⟨xs, x, hq, hx⟩ := hg
    obtain ⟨its, rv, p, hz⟩ := Inv.src I hq
    obtain ⟨u, hu, ru⟩ := rv.get hx
    have hel : e < s.heap.objs.size := Heap.lt_size he
    have hil : it < s.heap.objs.size := by obtain ⟨_, q, _⟩ := hit.obj; exact Heap.lt_size q
    have hea : e ≠ a := src_ne2 he rfl (by decide) (by decide) p
    have hil2 : i < its.toArray.size := by
      rw [List.size_toArray]
      exact (List.getElem?_eq_some_iff.mp hu).1
    refine wpAny_pyNext_enum_itemD (drawsB (show X.A.in1.handled = none from I.ok.hd hc) t it a (src_ne hit p) its.toArray) he ⟨hit, p⟩ hil2 hne (by simp [hne, hea]) fun x' h' tk hx' ho st' hT hsz hk => ?_
    have ex : x' = u := by
      have h1 : its.toArray[i]? = some x' := hx'
      rw [List.getElem?_toArray, hu] at h1
      cases h1; rfl
    subst ex
    refine ⟨_, rfl, wpAny_letOwnedTupleGo_enum (s := { s with heap := h', toks := tk + 1 }) ho fun h'' he' sb => ?_⟩
    have hT2 : h''.get? s.heap.objs.size = some { cls := .type "tuple", data := .seq #[.int i tk, x'] } := (sb.2 _ (Nat.ne_of_gt hel)).trans hT
    have new : ObjOk X.prog X.w (upd H s.heap.objs.size (.tup [.int (i : Nat), x])) h'' s.heap.objs.size (.tup [.int (i : Nat), x]) :=
      ⟨by show 2 ≤ sizeLine; decide, [.int i tk, x'], .cons ⟨_, rfl⟩ (.cons ru .nil), ⟨_, hT2, rfl, _, rfl⟩⟩
    have I1 : Inv X pins σ (upd H s.heap.objs.size (.tup [.int (i : Nat), x])) { s with heap := h'', toks := tk + 1 } :=
      I.turnedNew (ch := [e, it]) (fun b ob hb q => (sb.2 b (fun z => hb (by simp [z]))).trans (hk b ob (fun z => hb (by simp [z])) (fun z => hb (by simp [z])) q)) hf (Nat.le_refl _) new
    refine ⟨.ref s.heap.objs.size, _, I1, rfl, ⟨_, x, rfl, I.hok.fresh (Nat.le_refl _), rfl, fun ys hy => by rw [Inv.src_inj I hy hq]; exact hx⟩, ⟨⟨x', ?_⟩, st'.1.at fun o q => (sb.2 it (Ne.symm hne)).trans q, hne⟩, fun b hb => ?_⟩
    · have e1 : ((i + 1 : Nat) : Int) = (i : Int) + 1 := by omega
      rw [e1]; exact he'
    · have hb' : b < s.heap.objs.size := by
        have e' : b = e ∨ b = it := by simpa using hb
        rcases e' with z | z
        · rw [z]; exact hel
        · rw [z]; exact hil
      rw [upd_ne (Nat.ne_of_lt hb')]
      exact (hf b hb).1
  done := by
    intro X hP hw hK hc i pins s σ H E I hf st hg
    subst hP hw hK
    obtain ⟨⟨old, he⟩, hit, hne⟩ := st
    obtain ⟨xs, hq, hx⟩ := hg
    obtain ⟨its, rv, p, hz⟩ := Inv.src I hq
    obtain ⟨f0, f1, f2, f3, f4, f5⟩ := hf it (by simp)
    have hl := rv.length
    have hsz : its.toArray.size = i := by rw [List.size_toArray]; omega
    refine wpAny_pyNext_enum_endD (drawsB (show X.A.in1.handled = none from I.ok.hd hc) t it a (src_ne hit p) its.toArray) he ⟨by rw [hsz]; exact hit, p⟩ fun h' eb => ⟨rfl, I.turned (t' := s.toks) (fun b o hb q => eb b o hb q) f0 f1 f3 f4 f5⟩
  self := fun A i s Q E st h => let ⟨⟨_, he⟩, _⟩ := st; wpAny_pyIter_enum he h
/-! ### zip of two, of three -/
def ItZ2 (K : PySem.W.Frag) (t1 t2 : Bool) (a b : Addr) : It :=
  ⟨fun i H => ∃ (xs ys : List V) (x y : V), SqB K t1 H a xs ∧ SqB K t2 H b ys ∧ xs[i]? = some x ∧ ys[i]? = some y,
    fun i H v H' => ∃ T x y, v = .ref T ∧ H T = none ∧ H' = upd H T (.tup [x, y]) ∧ (∀ xs, SqB K t1 H a xs → xs[i]? = some x) ∧ ∀ ys, SqB K t2 H b ys → ys[i]? = some y,
    fun i H => ∃ xs ys : List V, SqB K t1 H a xs ∧ SqB K t2 H b ys ∧ i ≤ xs.length ∧ i ≤ ys.length ∧ (i = xs.length ∨ i = ys.length)⟩
theorem item_eq {its : List Value} {i : Nat} {x' u : Value} (h1 : its.toArray[i]? = some x') (hu : its[i]? = some u) : x' = u := by
  rw [List.getElem?_toArray, hu] at h1
  cases h1; rfl
theorem lt_of_get {its : List Value} {i : Nat} {u : Value} (hu : its[i]? = some u) : i < its.toArray.size := by
  rw [List.size_toArray]
  exact (List.getElem?_eq_some_iff.mp hu).1
/-- the cells of a zip lie apart, those walked too -/
theorem sep2_of {h : Heap} {z TI TO i1 i2 a b : Addr} {t1 t2 : Bool} {k1 k2 : Nat} {xs ys : Array Value} {r : Value} (hz : IsZip h z TI TO r) (nTT : TI ≠ TO) (n1 : TI ≠ a) (n2 : TI ≠ b) (n3 : TO ≠ a) (n4 : TO ≠ b) (n5 : i1 ≠ i2) {x1 x2 y1 y2 : Value}
    (hTI : IsTupOf2 h TI x1 x2) (hTO : IsTupOf2 h TO y1 y2) (h1 : SrcIt t1 h i1 a k1) (h2 : SrcIt t2 h i2 b k2) (p1 : SrcOf t1 h a xs) (p2 : SrcOf t2 h b ys) : ZipSep2 z TI TO i1 i2 [i1, a] [i2, b] := by
  have zc : ∀ {c : Addr} {o : Obj} {n : String}, h.get? c = some o → o.cls = .type n → n ≠ "zip" → c ≠ z := fun {c o n} e hc hn => by
    rintro rfl
    rw [show h.get? c = _ from hz] at e
    cases e
    cases hc
    exact hn rfl
  have it1 := h1.obj
  have it2 := h2.obj
  obtain ⟨o1, e1, _, m1, c1, hm1⟩ := it1
  obtain ⟨o2, e2, _, m2, c2, hm2⟩ := it2
  have ic : ∀ {c i : Addr} {o : Obj} {n : String} {x y : Value}, h.get? i = some o → o.cls = .type n → (n = "tuple_iterator" ∨ n = "list_iterator") → IsTupOf2 h c x y → c ≠ i := fun {c i o n x y} e hc hn ht => by
    rintro rfl
    rw [show h.get? c = _ from ht] at e
    cases e
    cases hc
    rcases hn with h | h <;> exact absurd h (by decide)
  have iz : ∀ {n : String}, (n = "tuple_iterator" ∨ n = "list_iterator") → n ≠ "zip" := fun {n} hn => by rcases hn with rfl | rfl <;> decide
  obtain ⟨oa, na, ea, ca, ha⟩ := p1.cls
  obtain ⟨ob, nb, eb, cb, hb⟩ := p2.cls
  have az : a ≠ z := zc ea ca (by rcases ha with rfl | rfl <;> decide)
  have bz : b ≠ z := zc eb cb (by rcases hb with rfl | rfl <;> decide)
  have z1 := zc e1 c1 (iz hm1)
  have z2 := zc e2 c2 (iz hm2)
  exact ⟨zc hTI rfl (by decide), zc hTO rfl (by decide), nTT, ic e1 c1 hm1 hTI, by simp, by simp [Ne.symm z1, Ne.symm az], by simp [ic e1 c1 hm1 hTO, n3], ic e2 c2 hm2 hTI, by simp, by simp [Ne.symm z2, Ne.symm bz], by simp [ic e2 c2 hm2 hTO, n4], by simp [n5, Ne.symm (src_ne h1 p2)], by simp [Ne.symm n5, Ne.symm (src_ne h2 p1)]⟩
theorem turn_Z2 {P : Program} {w : World} {K : PySem.W.Frag} {elts : List Expr} {kk : Nat} {tpos : Pos} {t1 t2 : Bool} {a b z TI TO i1 i2 : Addr} (nTT : TI ≠ TO) (n1 : TI ≠ a) (n2 : TI ≠ b) (n3 : TO ≠ a) (n4 : TO ≠ b) (n5 : i1 ≠ i2) :
    Turn P w K (.Tuple elts kk tpos) (ItZ2 K t1 t2 a b) [z, TI, TO, i1, i2] z (fun i h => IsZip h z TI TO .none ∧ IsTupOf2 h TI (.ref i1) (.ref i2) ∧ (∃ x y, IsTupOf2 h TO x y) ∧ SrcIt t1 h i1 a i ∧ SrcIt t2 h i2 b i) where
  mem := by simp
  obj := fun i h st c hc => by
    obtain ⟨hz, hTI, ⟨x, y, hTO⟩, h1, h2⟩ := st
    have e' : c = z ∨ c = TI ∨ c = TO ∨ c = i1 ∨ c = i2 := by simpa using hc
    rcases e' with q | q | q | q | q
    · rw [q]; exact ⟨_, hz, fun v q => nomatch q⟩
    · rw [q]; exact ⟨_, hTI, fun v q => nomatch q⟩
    · rw [q]; exact ⟨_, hTO, fun v q => nomatch q⟩
    · rw [q]; obtain ⟨o, ho, hc, _⟩ := h1.obj; exact ⟨o, ho, hc⟩
    · rw [q]; obtain ⟨o, ho, hc, _⟩ := h2.obj; exact ⟨o, ho, hc⟩
  keep := fun i h h' st k => by
    obtain ⟨hz, hTI, ⟨x, y, hTO⟩, h1, h2⟩ := st
    exact ⟨k z (by simp) _ hz, k TI (by simp) _ hTI, ⟨x, y, k TO (by simp) _ hTO⟩, h1.at fun o q => k i1 (by simp) o q, h2.at fun o q => k i2 (by simp) o q⟩
  item := by
    intro X hP hw hK hc i pins s σ H E I hf st hg
    subst hP hw hK
    obtain ⟨hz, hTI, ⟨x0, y0, hTO⟩, h1, h2⟩ := st
    obtain ⟨xs, ys, x, y, hqx, hqy, hx, hy⟩ := hg
    obtain ⟨its, rv, p, _⟩ := Inv.src I hqx
    obtain ⟨its2, rv2, p2, _⟩ := Inv.src I hqy
    obtain ⟨u, hu, ru⟩ := rv.get hx
    obtain ⟨u2, hu2, ru2⟩ := rv2.get hy
    have D := sep2_of hz nTT n1 n2 n3 n4 n5 hTI hTO h1 h2 p p2
    have hh : X.A.in1.handled = none := I.ok.hd hc
    have hzl : z < s.heap.objs.size := Heap.lt_size hz
    refine wpAny_pyNext_zipD2_item D (drawsB hh t1 i1 a (src_ne h1 p) its.toArray) (drawsB hh t2 i2 b (src_ne h2 p2) its2.toArray) hz hTI hTO ⟨h1, p⟩ ⟨h2, p2⟩ (lt_of_get hu) (lt_of_get hu2) fun x1 x2 h' tk q1 q2 z' TO' s1' s2' hT hsz hk => ?_
    have ex1 := item_eq q1 hu
    have ex2 := item_eq q2 hu2
    subst ex1 ex2
    refine ⟨_, rfl, wpAny_letOwnedTupleGo_zip (s := { s with heap := h', toks := tk }) z' fun h'' z'' sb => ?_⟩
    have hT2 : h''.get? s.heap.objs.size = some { cls := .type "tuple", data := .seq #[x1, x2] } := (sb.2 _ (Nat.ne_of_gt hzl)).trans hT
    have new : ObjOk X.prog X.w (upd H s.heap.objs.size (.tup [x, y])) h'' s.heap.objs.size (.tup [x, y]) :=
      ⟨by show 2 ≤ sizeLine; decide, [x1, x2], .cons ru (.cons ru2 .nil), ⟨_, hT2, rfl, _, rfl⟩⟩
    have I1 : Inv X pins σ (upd H s.heap.objs.size (.tup [x, y])) { s with heap := h'', toks := tk } :=
      I.turnedNew (t' := tk) (ch := [z, TI, TO, i1, i2]) (fun c o hb q => (sb.2 c (fun q' => hb (by simp [q']))).trans (hk c o (fun q' => hb (by simp [q'])) (fun q' => hb (by simp [q'])) (fun q' => hb (by simp [q'])) (fun q' => hb (by simp [q'])) q)) hf (Nat.le_refl _) new
    refine ⟨.ref s.heap.objs.size, _, I1, rfl, ⟨_, x, y, rfl, I.hok.fresh (Nat.le_refl _), rfl, fun l hl => by rw [Inv.src_inj I hl hqx]; exact hx, fun l hl => by rw [Inv.src_inj I hl hqy]; exact hy⟩, ⟨z'', ?_, ⟨x1, x2, ?_⟩, ?_, ?_⟩, fun c hcm => ?_⟩
    · exact (sb.2 _ D.TIz).trans (hk _ _ D.TIz D.TITO D.TIi1 D.TIi2 hTI)
    · exact (sb.2 _ D.TOz).trans TO'
    · exact s1'.1.at fun o q => (sb.2 _ (Ne.symm D.zi1)).trans q
    · exact s2'.1.at fun o q => (sb.2 _ (Ne.symm D.zi2)).trans q
    · have hlt : c < s.heap.objs.size := by
        have e' : c = z ∨ c = TI ∨ c = TO ∨ c = i1 ∨ c = i2 := by simpa using hcm
        rcases e' with q | q | q | q | q
        · rw [q]; exact hzl
        · rw [q]; exact Heap.lt_size hTI
        · rw [q]; exact Heap.lt_size hTO
        · rw [q]; obtain ⟨_, e1, _⟩ := h1.obj; exact Heap.lt_size e1
        · rw [q]; obtain ⟨_, e2, _⟩ := h2.obj; exact Heap.lt_size e2
      rw [upd_ne (Nat.ne_of_lt hlt)]
      exact (hf c hcm).1
  done := by
    intro X hP hw hK hc i pins s σ H E I hf st hg
    subst hP hw hK
    obtain ⟨hz, hTI, ⟨x0, y0, hTO⟩, h1, h2⟩ := st
    obtain ⟨xs, ys, hqx, hqy, g1, g2, hend⟩ := hg
    obtain ⟨its, rv, p, _⟩ := Inv.src I hqx
    obtain ⟨its2, rv2, p2, _⟩ := Inv.src I hqy
    have l1 := rv.length
    have l2 := rv2.length
    have D := sep2_of hz nTT n1 n2 n3 n4 n5 hTI hTO h1 h2 p p2
    have hh : X.A.in1.handled = none := I.ok.hd hc
    refine wpAny_pyNext_zipD2_end D (drawsB hh t1 i1 a (src_ne h1 p) its.toArray) (drawsB hh t2 i2 b (src_ne h2 p2) its2.toArray) hz hTI hTO ⟨h1, p⟩ ⟨h2, p2⟩ (by rw [List.size_toArray]; omega) (by rw [List.size_toArray]; omega) (by rw [List.size_toArray, List.size_toArray]; omega) fun h' tk hk => ⟨rfl, I.turnedL (t' := tk) (ch := [z, TI, TO, i1, i2]) (fun c o hb q =>
      hk c o (fun q' => hb (by simp [q'])) (fun q' => hb (by simp [q'])) (fun q' => hb (by simp [q'])) (fun q' => hb (by simp [q'])) q) hf⟩
  self := fun A i s Q E st h => wpAny_pyIter_zip st.1 h
end Pi
end

section
/-! PiIter2: enumerate(v), zip(..) are made. -/
namespace Pi
open PySem PySem.Spec PyProof.Rows L2

set_option maxHeartbeats 2000000 in
theorem meets_enum1 {v : Value} {o : Obj} {H : Heap → Prop} (B : Begins v o H) :
    Meets (Builtin.«enumerate.__new__» ⟨[.type "enumerate", v], []⟩) (fun _ R s => H s.heap ∧
      R (.ok (.ret (.ref (s.heap.push o).objs.size))) { s with heap := (s.heap.push o).push { cls := .type "enumerate", data := .fields #[.none, .bool false, .ref s.heap.objs.size, rawInt 0, .none, .none] } }) :=
  .of_wp fun prog w A R s h => by
    obtain ⟨hp, g, d, tk, os⟩ := s; obtain ⟨h1, h⟩ := h
    have hsub := sub_enumerate
    have q1 : ∀ {A' : Around} {E : Value → Shared → Prop} {Q : Value → Shared → Prop}, Q (.ref hp.objs.size) ⟨hp.push o, g, d, tk, os⟩ → wpAny (model prog w) A' (pyIter v) Q E ⟨hp, g, d, tk, os⟩ :=
      fun q => B.iter prog w _ _ ⟨hp, g, d, tk, os⟩ _ h1 q
    wp_walk using q1
    refine wpAny_stack_any fun st => wpAny_pure ?_
    split
    · rename_i c _ _ _ _ _
      cases (c == Value.type "enumerate")
      · wp_walk using q1
        exact ⟨_, rfl, h⟩
      · wp_walk using q1
        exact ⟨_, rfl, h⟩
    · wp_walk using q1
      exact ⟨_, rfl, h⟩
section
variable {prog : Program} {w : World} {A : Around} {E : Value → Shared → Prop} {s : Shared}
theorem enum_begins1 {v : Value} {o : Obj} {H : Heap → Prop} {Q : Value → Shared → Prop} (B : Begins v o H) (h1 : H s.heap)
    (h : ∀ h', IsEnum h' (s.heap.objs.size + 1) s.heap.objs.size 0 .none → h'.get? s.heap.objs.size = some o → h'.objs.size = s.heap.objs.size + 2 →
      (∀ b o, s.heap.get? b = some o → h'.get? b = some o) → Q (.ref (s.heap.objs.size + 1)) { s with heap := h' }) :
    wpAny (model prog w) A (call (.type "enumerate") [v]) Q E s := by
  refine callType_new F.called_enumerate (by decide) (F.typeCall_enumerate_1 _) (F.newCall_enumerate_1 _) (fun obj => F.args_object_init_2 obj _) F.entry_enumerate_new
    (meets_enum1 B) ⟨h1, ?_⟩
  have hz : (s.heap.push o).objs.size = s.heap.objs.size + 1 := Heap.size_push ..
  show _ ∧ _
  rw [hz]
  have he : IsEnum ((s.heap.push o).push { cls := .type "enumerate", data := .fields #[.none, .bool false, .ref s.heap.objs.size, rawInt 0, .none, .none] }) (s.heap.objs.size + 1) s.heap.objs.size 0 .none := by
    have := Heap.get?_push_size (s.heap.push o) (o := { cls := .type "enumerate", data := .fields #[.none, .bool false, .ref s.heap.objs.size, rawInt 0, .none, .none] }) rfl
    rw [hz] at this; exact this
  refine ⟨⟨_, he, rfl⟩, h _ he (Heap.get?_push_of_some _ (Heap.get?_push_size _ B.free)) (by rw [Heap.size_push, hz]) fun b o x => Heap.get?_push_of_some _ (Heap.get?_push_of_some _ x)⟩
end
section
variable {X : Cx} {tg e e2 : Expr} {ta : TA} {p pos tpos : Pos} {elts : List Expr} {kk : Nat}
def iEnumB (K : PySem.W.Frag) (ta : TA) : TI := fun σ H R => ta σ H fun vs H1 => ∃ a t xs, vs = [.ref a] ∧ SqB K t H1 a xs ∧ R (ItE K t a) H1
theorem pi_enumB (hg : Gl X "enumerate") (hm : X.mg "enumerate" = none) (ha : PA X [e] ta) (hs : starEach [e] X.env = [(false, eval e X.env)]) :
    PI X (.Tuple elts kk tpos) (.Call (.Name "enumerate" p) [e] [] pos) (iEnumB X.K ta) := by
  refine ⟨fun pins s σ H R I h => ?_⟩
  refine Call_ (ld_blt I hg hm boot_enumerate (PyProof.Rows.callWith_type1 (thn (ha.run pos pins s σ H _ I h) fun us s1 ⟨vs, H1, I1, r1, q1⟩ => ?_) hs rfl))
  obtain ⟨a, t, xs, ex, hq, q⟩ := q1
  subst ex
  cases r1 with
  | cons r rr =>
    cases rr
    cases r
    obtain ⟨its, rv, p', hz⟩ := Inv.src I1 hq
    refine enum_begins1 (beginsB t a its.toArray) p' fun h' he hit hsz hk => wpAny_pyIter_enum he ?_
    have I2 : Inv X pins σ H1 { s1 with heap := h' } := I1.kept (t' := s1.toks) hk
    refine ⟨s1.heap.objs.size + 1, [s1.heap.objs.size + 1, s1.heap.objs.size], _, _, H1, rfl, I2, turn_E t a (s1.heap.objs.size + 1) s1.heap.objs.size, ⟨⟨.none, he⟩, .new hit, Nat.succ_ne_self _⟩, fun b hb => ?_, q⟩
    have e' : b = s1.heap.objs.size + 1 ∨ b = s1.heap.objs.size := by simpa using hb
    have hle : s1.heap.objs.size ≤ b := by
      rcases e' with z | z
      · rw [z]; exact Nat.le_add_right _ _
      · rw [z]; exact Nat.le_refl _
    exact I1.fpOk hle (I1.hok.fresh hle)
theorem SrcOf.lt {t : Bool} {h : Heap} {a : Addr} {items : Array Value} (x : SrcOf t h a items) : a < h.objs.size := by
  obtain ⟨o, n, e, _⟩ := x.cls
  exact Heap.lt_size e
theorem add_ne {n i j : Nat} (h : i ≠ j) : n + i ≠ n + j := fun e => h (Nat.add_left_cancel e)
theorem gt_ne {n i a : Nat} (h : a < n) : n + i ≠ a := Nat.ne_of_gt (Nat.lt_of_lt_of_le h (Nat.le_add_right _ _))
def iZip2B (K : PySem.W.Frag) (ta : TA) : TI := fun σ H R => ta σ H fun vs H1 => ∃ a b t1 t2 xs ys, vs = [.ref a, .ref b] ∧ SqB K t1 H1 a xs ∧ SqB K t2 H1 b ys ∧ R (ItZ2 K t1 t2 a b) H1
theorem pi_zip2B (hg : Gl X "zip") (hm : X.mg "zip" = none) (ha : PA X [e, e2] ta)
    (hs : starEach [e, e2] X.env = (false, eval e X.env) :: starEach [e2] X.env) (hpl : (backTo pos (starEach [e2] X.env)).any (·.1) = false) :
    PI X (.Tuple elts kk tpos) (.Call (.Name "zip" p) [e, e2] [] pos) (iZip2B X.K ta) := by
  refine ⟨fun pins s σ H R I h => ?_⟩
  refine Call_ (ld_blt I hg hm PyProof.Rows.boot_zip (PyProof.Rows.callWith_type1 (thn (ha.run pos pins s σ H _ I h) fun us s1 ⟨vs, H1, I1, r1, q1⟩ => ?_) hs hpl))
  obtain ⟨a, b, t1, t2, xs, ys, ex, hqx, hqy, q⟩ := q1
  subst ex
  cases r1 with
  | cons r rr =>
    cases rr with
    | cons r' rr =>
      cases rr
      cases r
      cases r'
      obtain ⟨its, rv, p1, _⟩ := Inv.src I1 hqx
      obtain ⟨its2, rv2, p2, _⟩ := Inv.src I1 hqy
      have la := p1.lt
      have lb := p2.lt
      refine zip_begins2 (beginsB t1 a its.toArray) (beginsB t2 b its2.toArray) p1 p2 fun h' hz hTI hTO h1 h2 hsz hk => wpAny_pyIter_zip hz ?_
      have I2 : Inv X pins σ H1 { s1 with heap := h' } := I1.kept (t' := s1.toks) hk
      refine ⟨s1.heap.objs.size + 4, [s1.heap.objs.size + 4, s1.heap.objs.size + 2, s1.heap.objs.size + 3, s1.heap.objs.size, s1.heap.objs.size + 1], _, _, H1, rfl, I2, turn_Z2 (t1 := t1) (t2 := t2) (a := a) (b := b) (TI := s1.heap.objs.size + 2) (TO := s1.heap.objs.size + 3) (i1 := s1.heap.objs.size) (i2 := s1.heap.objs.size + 1) (add_ne (by decide)) (gt_ne la) (gt_ne lb) (gt_ne la) (gt_ne lb) (show s1.heap.objs.size + 0 ≠ s1.heap.objs.size + 1 from add_ne (by decide)), ⟨hz, hTI, ⟨_, _, hTO⟩, .new h1, .new h2⟩, fun c hcm => ?_, q⟩
      have e' : c = s1.heap.objs.size + 4 ∨ c = s1.heap.objs.size + 2 ∨ c = s1.heap.objs.size + 3 ∨ c = s1.heap.objs.size ∨ c = s1.heap.objs.size + 1 := by simpa using hcm
      have hle : s1.heap.objs.size ≤ c := by
        rcases e' with z | z | z | z | z <;> rw [z] <;> first | exact Nat.le_add_right _ _ | exact Nat.le_refl _
      exact I1.fpOk hle (I1.hok.fresh hle)
end
end Pi
end

section
/-! PiIter3: zip of three. -/
namespace Pi
open PySem PySem.Spec PyProof.Rows L2

def ItZ3 (K : PySem.W.Frag) (t1 t2 t3 : Bool) (a b c : Addr) : It :=
  ⟨fun i H => ∃ (xs ys zs : List V) (x y z : V), SqB K t1 H a xs ∧ SqB K t2 H b ys ∧ SqB K t3 H c zs ∧ xs[i]? = some x ∧ ys[i]? = some y ∧ zs[i]? = some z,
    fun i H v H' => ∃ T x y z, v = .ref T ∧ H T = none ∧ H' = upd H T (.tup [x, y, z]) ∧ (∀ xs, SqB K t1 H a xs → xs[i]? = some x) ∧ (∀ ys, SqB K t2 H b ys → ys[i]? = some y) ∧ ∀ zs, SqB K t3 H c zs → zs[i]? = some z,
    fun i H => ∃ xs ys zs : List V, SqB K t1 H a xs ∧ SqB K t2 H b ys ∧ SqB K t3 H c zs ∧ i ≤ xs.length ∧ i ≤ ys.length ∧ i ≤ zs.length ∧ (i = xs.length ∨ i = ys.length ∨ i = zs.length)⟩
theorem sep3_of {h : Heap} {z TI TO i1 i2 i3 a b c : Addr} {t1 t2 t3 : Bool} {k1 k2 k3 : Nat} {xs ys zs : Array Value} {r : Value} (hz : IsZip h z TI TO r) (nTT : TI ≠ TO) (n1 : TO ≠ a) (n2 : TO ≠ b) (n3 : TO ≠ c) (n5 : i1 ≠ i2) (n6 : i1 ≠ i3) (n7 : i2 ≠ i3) {x1 x2 x3 y1 y2 y3 : Value}
    (hTI : IsTupOf3 h TI x1 x2 x3) (hTO : IsTupOf3 h TO y1 y2 y3) (h1 : SrcIt t1 h i1 a k1) (h2 : SrcIt t2 h i2 b k2) (h3 : SrcIt t3 h i3 c k3) (p1 : SrcOf t1 h a xs) (p2 : SrcOf t2 h b ys) (p3 : SrcOf t3 h c zs) : ZipSep3 z TI TO i1 i2 i3 [i1, a] [i2, b] [i3, c] := by
  have zc : ∀ {c : Addr} {o : Obj} {n : String}, h.get? c = some o → o.cls = .type n → n ≠ "zip" → c ≠ z := fun {c o n} e hc hn => by
    rintro rfl
    rw [show h.get? c = _ from hz] at e
    cases e
    cases hc
    exact hn rfl
  obtain ⟨o1, e1, _, m1, c1, hm1⟩ := h1.obj
  obtain ⟨o2, e2, _, m2, c2, hm2⟩ := h2.obj
  obtain ⟨o3, e3, _, m3, c3, hm3⟩ := h3.obj
  have ic : ∀ {c i : Addr} {o : Obj} {n : String} {x y u : Value}, h.get? i = some o → o.cls = .type n → (n = "tuple_iterator" ∨ n = "list_iterator") → IsTupOf3 h c x y u → c ≠ i := fun {c i o n x y u} e hc hn ht => by
    rintro rfl
    rw [show h.get? c = _ from ht] at e
    cases e
    cases hc
    rcases hn with h | h <;> exact absurd h (by decide)
  have iz : ∀ {n : String}, (n = "tuple_iterator" ∨ n = "list_iterator") → n ≠ "zip" := fun {n} hn => by rcases hn with rfl | rfl <;> decide
  have sz : ∀ {n : String}, (n = "tuple" ∨ n = "list") → n ≠ "zip" := fun {n} hn => by rcases hn with rfl | rfl <;> decide
  obtain ⟨oa, na, ea, ca, ha⟩ := p1.cls
  obtain ⟨ob, nb, eb, cb, hb⟩ := p2.cls
  obtain ⟨oc, nc, ec, cc, hc⟩ := p3.cls
  have az : a ≠ z := zc ea ca (sz ha)
  have bz : b ≠ z := zc eb cb (sz hb)
  have cz : c ≠ z := zc ec cc (sz hc)
  have z1 := zc e1 c1 (iz hm1)
  have z2 := zc e2 c2 (iz hm2)
  have z3 := zc e3 c3 (iz hm3)
  refine ⟨zc hTI rfl (by decide), zc hTO rfl (by decide), nTT, ic e1 c1 hm1 hTI, ?_, ?_, ?_, ic e2 c2 hm2 hTI, ?_, ?_, ?_, ic e3 c3 hm3 hTI, ?_, ?_, ?_, ?_, ?_, ?_, ?_, ?_, ?_⟩
  · simp
  · simp [Ne.symm z1, Ne.symm az]
  · simp [ic e1 c1 hm1 hTO, n1]
  · simp
  · simp [Ne.symm z2, Ne.symm bz]
  · simp [ic e2 c2 hm2 hTO, n2]
  · simp
  · simp [Ne.symm z3, Ne.symm cz]
  · simp [ic e3 c3 hm3 hTO, n3]
  · simp [n5, Ne.symm (src_ne h1 p2)]
  · simp [n6, Ne.symm (src_ne h1 p3)]
  · simp [Ne.symm n5, Ne.symm (src_ne h2 p1)]
  · simp [n7, Ne.symm (src_ne h2 p3)]
  · simp [Ne.symm n6, Ne.symm (src_ne h3 p1)]
  · simp [Ne.symm n7, Ne.symm (src_ne h3 p2)]
theorem turn_Z3 {P : Program} {w : World} {K : PySem.W.Frag} {elts : List Expr} {kk : Nat} {tpos : Pos} {t1 t2 t3 : Bool} {a b c z TI TO i1 i2 i3 : Addr} (nTT : TI ≠ TO) (n1 : TO ≠ a) (n2 : TO ≠ b) (n3 : TO ≠ c) (n5 : i1 ≠ i2) (n6 : i1 ≠ i3) (n7 : i2 ≠ i3) :
    Turn P w K (.Tuple elts kk tpos) (ItZ3 K t1 t2 t3 a b c) [z, TI, TO, i1, i2, i3] z (fun i h => IsZip h z TI TO .none ∧ IsTupOf3 h TI (.ref i1) (.ref i2) (.ref i3) ∧ (∃ x y u, IsTupOf3 h TO x y u) ∧ SrcIt t1 h i1 a i ∧ SrcIt t2 h i2 b i ∧ SrcIt t3 h i3 c i) where
  mem := by simp
  obj := fun i h st d hd => by
    obtain ⟨hz, hTI, ⟨x, y, u, hTO⟩, h1, h2, h3⟩ := st
    have e' : d = z ∨ d = TI ∨ d = TO ∨ d = i1 ∨ d = i2 ∨ d = i3 := by simpa using hd
    rcases e' with q | q | q | q | q | q
    · rw [q]; exact ⟨_, hz, fun v q => nomatch q⟩
    · rw [q]; exact ⟨_, hTI, fun v q => nomatch q⟩
    · rw [q]; exact ⟨_, hTO, fun v q => nomatch q⟩
    · rw [q]; obtain ⟨o, ho, hc, _⟩ := h1.obj; exact ⟨o, ho, hc⟩
    · rw [q]; obtain ⟨o, ho, hc, _⟩ := h2.obj; exact ⟨o, ho, hc⟩
    · rw [q]; obtain ⟨o, ho, hc, _⟩ := h3.obj; exact ⟨o, ho, hc⟩
  keep := fun i h h' st k => by
    obtain ⟨hz, hTI, ⟨x, y, u, hTO⟩, h1, h2, h3⟩ := st
    exact ⟨k z (by simp) _ hz, k TI (by simp) _ hTI, ⟨x, y, u, k TO (by simp) _ hTO⟩, h1.at fun o q => k i1 (by simp) o q, h2.at fun o q => k i2 (by simp) o q, h3.at fun o q => k i3 (by simp) o q⟩
  item := by
    intro X hP hw hK hc i pins s σ H E I hf st hg
    subst hP hw hK
    obtain ⟨hz, hTI, ⟨x0, y0, u0, hTO⟩, h1, h2, h3⟩ := st
    obtain ⟨xs, ys, zs, x, y, v, hqx, hqy, hqz, hx, hy, hv⟩ := hg
    obtain ⟨its, rv, p, _⟩ := Inv.src I hqx
    obtain ⟨its2, rv2, p2, _⟩ := Inv.src I hqy
    obtain ⟨its3, rv3, p3, _⟩ := Inv.src I hqz
    obtain ⟨u, hu, ru⟩ := rv.get hx
    obtain ⟨u2, hu2, ru2⟩ := rv2.get hy
    obtain ⟨u3, hu3, ru3⟩ := rv3.get hv
    have D := sep3_of hz nTT n1 n2 n3 n5 n6 n7 hTI hTO h1 h2 h3 p p2 p3
    have hh : X.A.in1.handled = none := I.ok.hd hc
    have hzl : z < s.heap.objs.size := Heap.lt_size hz
    refine wpAny_pyNext_zipD3_item D (drawsB hh t1 i1 a (src_ne h1 p) its.toArray) (drawsB hh t2 i2 b (src_ne h2 p2) its2.toArray) (drawsB hh t3 i3 c (src_ne h3 p3) its3.toArray) hz hTI hTO ⟨h1, p⟩ ⟨h2, p2⟩ ⟨h3, p3⟩ (lt_of_get hu) (lt_of_get hu2) (lt_of_get hu3) fun x1 x2 x3 h' tk q1 q2 q3 z' TO' s1' s2' s3' hT hsz hk => ?_
    have ex1 := item_eq q1 hu
    have ex2 := item_eq q2 hu2
    have ex3 := item_eq q3 hu3
    subst ex1 ex2 ex3
    refine ⟨_, rfl, wpAny_letOwnedTupleGo_zip (s := { s with heap := h', toks := tk }) z' fun h'' z'' sb => ?_⟩
    have hT2 : h''.get? s.heap.objs.size = some { cls := .type "tuple", data := .seq #[x1, x2, x3] } := (sb.2 _ (Nat.ne_of_gt hzl)).trans hT
    have new : ObjOk X.prog X.w (upd H s.heap.objs.size (.tup [x, y, v])) h'' s.heap.objs.size (.tup [x, y, v]) :=
      ⟨by show 3 ≤ sizeLine; decide, [x1, x2, x3], .cons ru (.cons ru2 (.cons ru3 .nil)), ⟨_, hT2, rfl, _, rfl⟩⟩
    have I1 : Inv X pins σ (upd H s.heap.objs.size (.tup [x, y, v])) { s with heap := h'', toks := tk } :=
      I.turnedNew (t' := tk) (ch := [z, TI, TO, i1, i2, i3]) (fun c o hb q => (sb.2 c (fun q' => hb (by simp [q']))).trans (hk c o (fun q' => hb (by simp [q'])) (fun q' => hb (by simp [q'])) (fun q' => hb (by simp [q'])) (fun q' => hb (by simp [q'])) (fun q' => hb (by simp [q'])) q)) hf (Nat.le_refl _) new
    refine ⟨.ref s.heap.objs.size, _, I1, rfl, ⟨_, x, y, v, rfl, I.hok.fresh (Nat.le_refl _), rfl, fun l hl => by rw [Inv.src_inj I hl hqx]; exact hx, fun l hl => by rw [Inv.src_inj I hl hqy]; exact hy, fun l hl => by rw [Inv.src_inj I hl hqz]; exact hv⟩, ⟨z'', ?_, ⟨x1, x2, x3, ?_⟩, ?_, ?_, ?_⟩, fun d hdm => ?_⟩
    · exact (sb.2 _ D.TIz).trans (hk _ _ D.TIz D.TITO D.TIi1 D.TIi2 D.TIi3 hTI)
    · exact (sb.2 _ D.TOz).trans TO'
    · exact s1'.1.at fun o q => (sb.2 _ (Ne.symm D.zi1)).trans q
    · exact s2'.1.at fun o q => (sb.2 _ (Ne.symm D.zi2)).trans q
    · exact s3'.1.at fun o q => (sb.2 _ (Ne.symm D.zi3)).trans q
    · have hlt : d < s.heap.objs.size := by
        have e' : d = z ∨ d = TI ∨ d = TO ∨ d = i1 ∨ d = i2 ∨ d = i3 := by simpa using hdm
        rcases e' with q | q | q | q | q | q
        · rw [q]; exact hzl
        · rw [q]; exact Heap.lt_size hTI
        · rw [q]; exact Heap.lt_size hTO
        · rw [q]; obtain ⟨_, e1, _⟩ := h1.obj; exact Heap.lt_size e1
        · rw [q]; obtain ⟨_, e2, _⟩ := h2.obj; exact Heap.lt_size e2
        · rw [q]; obtain ⟨_, e3, _⟩ := h3.obj; exact Heap.lt_size e3
      rw [upd_ne (Nat.ne_of_lt hlt)]
      exact (hf d hdm).1
  done := by
    intro X hP hw hK hc i pins s σ H E I hf st hg
    subst hP hw hK
    obtain ⟨hz, hTI, ⟨x0, y0, u0, hTO⟩, h1, h2, h3⟩ := st
    obtain ⟨xs, ys, zs, hqx, hqy, hqz, g1, g2, g3, hend⟩ := hg
    obtain ⟨its, rv, p, _⟩ := Inv.src I hqx
    obtain ⟨its2, rv2, p2, _⟩ := Inv.src I hqy
    obtain ⟨its3, rv3, p3, _⟩ := Inv.src I hqz
    have l1 := rv.length
    have l2 := rv2.length
    have l3 := rv3.length
    have D := sep3_of hz nTT n1 n2 n3 n5 n6 n7 hTI hTO h1 h2 h3 p p2 p3
    have hh : X.A.in1.handled = none := I.ok.hd hc
    refine wpAny_pyNext_zipD3_end D (drawsB hh t1 i1 a (src_ne h1 p) its.toArray) (drawsB hh t2 i2 b (src_ne h2 p2) its2.toArray) (drawsB hh t3 i3 c (src_ne h3 p3) its3.toArray) hz hTI hTO ⟨h1, p⟩ ⟨h2, p2⟩ ⟨h3, p3⟩ (by rw [List.size_toArray]; omega) (by rw [List.size_toArray]; omega) (by rw [List.size_toArray]; omega) (by rw [List.size_toArray, List.size_toArray, List.size_toArray]; omega) fun h' tk hk => ⟨rfl, I.turnedL (t' := tk) (ch := [z, TI, TO, i1, i2, i3]) (fun c o hb q =>
      hk c o (fun q' => hb (by simp [q'])) (fun q' => hb (by simp [q'])) (fun q' => hb (by simp [q'])) (fun q' => hb (by simp [q'])) (fun q' => hb (by simp [q'])) q) hf⟩
  self := fun A i s Q E st h => wpAny_pyIter_zip st.1 h
section
variable {X : Cx} {tg e e2 e3 : Expr} {ta : TA} {p pos tpos : Pos} {elts : List Expr} {kk : Nat}
def iZip3B (K : PySem.W.Frag) (ta : TA) : TI := fun σ H R => ta σ H fun vs H1 => ∃ a b c t1 t2 t3 xs ys zs, vs = [.ref a, .ref b, .ref c] ∧ SqB K t1 H1 a xs ∧ SqB K t2 H1 b ys ∧ SqB K t3 H1 c zs ∧ R (ItZ3 K t1 t2 t3 a b c) H1
theorem pi_zip3B (hg : Gl X "zip") (hm : X.mg "zip" = none) (ha : PA X [e, e2, e3] ta)
    (hs : starEach [e, e2, e3] X.env = (false, eval e X.env) :: starEach [e2, e3] X.env) (hpl : (backTo pos (starEach [e2, e3] X.env)).any (·.1) = false) :
    PI X (.Tuple elts kk tpos) (.Call (.Name "zip" p) [e, e2, e3] [] pos) (iZip3B X.K ta) := by
  refine ⟨fun pins s σ H R I h => ?_⟩
  refine Call_ (ld_blt I hg hm PyProof.Rows.boot_zip (PyProof.Rows.callWith_type1 (thn (ha.run pos pins s σ H _ I h) fun us s1 ⟨vs, H1, I1, r1, q1⟩ => ?_) hs hpl))
  obtain ⟨a, b, c, t1, t2, t3, xs, ys, zs, ex, hqx, hqy, hqz, q⟩ := q1
  subst ex
  obtain ⟨v1, us1, rfl, k1, r2⟩ : ∃ v us1, us = v :: us1 ∧ RelV (.ref a) v ∧ Vals [.ref b, .ref c] us1 := by cases r1 with | cons r rr => exact ⟨_, _, rfl, r, rr⟩
  obtain ⟨v2, v3, rfl, k2, k3⟩ := Vals.two r2
  cases k1
  cases k2
  cases k3
  obtain ⟨its, rv, p1, _⟩ := Inv.src I1 hqx
  obtain ⟨its2, rv2, p2, _⟩ := Inv.src I1 hqy
  obtain ⟨its3, rv3, p3, _⟩ := Inv.src I1 hqz
  have la := p1.lt
  have lb := p2.lt
  have lc := p3.lt
  refine zip_begins3 (beginsB t1 a its.toArray) (beginsB t2 b its2.toArray) (beginsB t3 c its3.toArray) p1 p2 p3 fun h' hz hTI hTO h1 h2 h3 hsz hk => wpAny_pyIter_zip hz ?_
  have I2 : Inv X pins σ H1 { s1 with heap := h' } := I1.kept (t' := s1.toks) hk
  refine ⟨s1.heap.objs.size + 5, [s1.heap.objs.size + 5, s1.heap.objs.size + 3, s1.heap.objs.size + 4, s1.heap.objs.size, s1.heap.objs.size + 1, s1.heap.objs.size + 2], _, _, H1, rfl, I2, turn_Z3 (t1 := t1) (t2 := t2) (t3 := t3) (a := a) (b := b) (c := c) (TI := s1.heap.objs.size + 3) (TO := s1.heap.objs.size + 4) (i1 := s1.heap.objs.size) (i2 := s1.heap.objs.size + 1) (i3 := s1.heap.objs.size + 2) (add_ne (by decide)) (gt_ne la) (gt_ne lb) (gt_ne lc) (show s1.heap.objs.size + 0 ≠ s1.heap.objs.size + 1 from add_ne (by decide)) (show s1.heap.objs.size + 0 ≠ s1.heap.objs.size + 2 from add_ne (by decide)) (add_ne (by decide)), ⟨hz, hTI, ⟨_, _, _, hTO⟩, .new h1, .new h2, .new h3⟩, fun d hdm => ?_, q⟩
  have e' : d = s1.heap.objs.size + 5 ∨ d = s1.heap.objs.size + 3 ∨ d = s1.heap.objs.size + 4 ∨ d = s1.heap.objs.size ∨ d = s1.heap.objs.size + 1 ∨ d = s1.heap.objs.size + 2 := by simpa using hdm
  have hle : s1.heap.objs.size ≤ d := by
    rcases e' with z | z | z | z | z | z <;> rw [z] <;> first | exact Nat.le_add_right _ _ | exact Nat.le_refl _
  exact I1.fpOk hle (I1.hok.fresh hle)
end
end Pi
end

section
/-! PiRules7: what is walked; targets. -/
namespace Pi
open PySem PySem.Spec PyProof.Rows L2

mutual
theorem D.beq_eq : ∀ {x y : D}, D.beq x y = true → x = y
  | .non, y, h => by cases y <;> simp [D.beq] at h <;> rfl
  | .bl a, y, h => by cases y <;> simp [D.beq] at h; rw [h]
  | .int a, y, h => by cases y <;> simp [D.beq] at h; rw [h]
  | .str a, y, h => by cases y <;> simp [D.beq] at h; rw [h]
  | .tup xs, y, h => by cases y <;> simp [D.beq] at h; rw [D.beqs_eq h]
  | .lst xs, y, h => by cases y <;> simp [D.beq] at h; rw [D.beqs_eq h]
  | .scr xs, y, h => by cases y <;> simp [D.beq] at h; rw [D.beqs_eq h]
  | .dct ks vs, y, h => by cases y <;> simp [D.beq] at h; rw [h.1, D.beqs_eq h.2]
  | .ins c ns vs, y, h => by cases y <;> simp [D.beq] at h; rw [h.1.1, h.1.2, D.beqs_eq h.2]
  | .obj n, y, h => by cases y <;> simp [D.beq] at h; rw [h]
  | .glob a, y, h => by cases y <;> simp [D.beq] at h; rw [h]
  | .ty a, y, h => by cases y <;> simp [D.beq] at h; rw [h]
  | .lam a b, y, h => by cases y <;> simp [D.beq] at h; rw [h.1, h.2]
  | .clo a ws, y, h => by cases y <;> simp [D.beq] at h; rw [h.1, D.beqs_eq h.2]
theorem D.beqs_eq : ∀ {xs ys : List D}, D.beqs xs ys = true → xs = ys
  | [], [], _ => rfl
  | [], _ :: _, h => by simp [D.beqs] at h
  | _ :: _, [], h => by simp [D.beqs] at h
  | x :: xs, y :: ys, h => by
    simp only [D.beqs, Bool.and_eq_true] at h
    rw [D.beq_eq h.1, D.beqs_eq h.2]
end

mutual
theorem D.beq_refl : ∀ x : D, D.beq x x = true
  | .non => rfl
  | .bl a => by simp [D.beq]
  | .int a => by simp [D.beq]
  | .str a => by simp [D.beq]
  | .tup xs => by simp [D.beq, D.beqs_refl xs]
  | .lst xs => by simp [D.beq, D.beqs_refl xs]
  | .scr xs => by simp [D.beq, D.beqs_refl xs]
  | .dct ks vs => by simp [D.beq, D.beqs_refl vs]
  | .ins c ns vs => by simp [D.beq, D.beqs_refl vs]
  | .obj n => by simp [D.beq]
  | .glob a => by simp [D.beq]
  | .ty a => by simp [D.beq]
  | .lam a b => by simp [D.beq]
  | .clo a ws => by simp [D.beq, D.beqs_refl ws]
theorem D.beqs_refl : ∀ xs : List D, D.beqs xs xs = true
  | [] => rfl
  | x :: xs => by simp [D.beqs, D.beq_refl x, D.beqs_refl xs]
end
section
variable {C : Kt} {B : Nat → Prop} {S S0 : Store} {w w0 : Wd} {d : D} {v : V} {xs : List D}
/-- a sequence that is walked, as it stands at each turn -/
theorem seq_at (s0 : SS C B S0 w0) (r : VR C w0 d v) (e : seqOf S0 d = some xs) : ∃ a, v = .ref a ∧ ∀ w S, Ext w0 w → SS C B S w → okG S (guardOf d xs) = true → ∃ vs, VRs C w xs vs ∧ (isTup d = false → SqL C.K w.H a vs) ∧ (isTup d = true → SqT C.K w.H a vs) := by
  cases d with
  | tup ys =>
    obtain ⟨a, vs, rfl, q, rs⟩ := tup_rel r
    simp only [seqOf] at e; cases e
    exact ⟨a, rfl, fun w S x s g => ⟨vs, VRs.ext x.toGr s0.muts _ _ rs, fun h => by simp [isTup] at h, fun _ => SqT.ext x.toGr s0.muts q⟩⟩
  | lst ys =>
    unfold VR at r
    obtain ⟨a, vs, rfl, hf, q, rs⟩ := r
    simp only [seqOf] at e; cases e
    exact ⟨a, rfl, fun w S x s g => ⟨vs, VRs.ext x.toGr s0.muts _ _ rs, fun _ => SqL.of (by rw [x.frz a hf]; exact q), fun h => by simp [isTup] at h⟩⟩
  | scr ys =>
    unfold VR at r
    obtain ⟨a, vs, rfl, q, rs⟩ := r
    simp only [seqOf] at e; cases e
    exact ⟨a, rfl, fun w S x s g => ⟨vs, VRs.ext x.toGr s0.muts _ _ rs, fun _ => (q.ext fun o z => x.keep a _ z (fun z => z) (fun _ z => by cases z)).sq, fun h => by simp [isTup] at h⟩⟩
  | obj n =>
    unfold VR at r
    obtain ⟨a, rfl, ha⟩ := r
    refine ⟨a, rfl, fun w S x s g => ?_⟩
    simp only [guardOf, okG] at g
    cases q : S[n]? with
    | none => rw [q] at g; cases g
    | some c =>
      rw [q] at g
      cases c with
      | lst ys =>
        have : xs = ys := D.beqs_eq g
        subst this
        obtain ⟨vs, h1, h2⟩ := s.cell n _ a q (x.toGr.get ha)
        exact ⟨vs, h2, fun _ => SqL.of h1, fun h => by simp [isTup] at h⟩
      | ice ys =>
        have : xs = ys := D.beqs_eq g
        subst this
        obtain ⟨vs, _, h1, h2⟩ := s.cell n _ a q (x.toGr.get ha)
        exact ⟨vs, h2, fun _ => SqL.of h1, fun h => by simp [isTup] at h⟩
      | _ => cases g
  | _ => simp [seqOf] at e
theorem okG_now (e : seqOf S d = some xs) : okG S (guardOf d xs) = true := by
  cases d with
  | obj n =>
    simp only [seqOf] at e
    cases q : S[n]? with
    | none => rw [q] at e; cases e
    | some c =>
      rw [q] at e
      cases c with
      | lst ys => cases e; simp only [guardOf, okG, q]; exact D.beqs_refl _
      | ice ys => cases e; simp only [guardOf, okG, q]; exact D.beqs_refl _
      | _ => cases e
  | _ => rfl
end

section
variable {CL : List String × List (String × String) × Lx} {X : Cx} {E : XK} {κ : Calls} {b : Nat} {x y tg : Expr} {es : List Expr} {is : List IE} {i j : IE} {pos p tpos : Pos} {k : Nat}
def iSeq (K : PySem.W.Frag) (tl : TE) : TI := fun σ H R => tl σ H fun x H1 => ∃ a, x = .ref a ∧ (((∃ xs, SqL K H1 a xs) ∧ R (Itl K a) H1) ∨ ((∃ xs, SqT K H1 a xs) ∧ R (Itt K a) H1))
theorem pi_seq {l : Expr} {tl : TE} (hl : PE X l tl) : PI X tg l (iSeq X.K tl) := by
  refine ⟨fun pins s σ H R I h => ?_⟩
  refine thn (hl.run pins s σ H _ I h) fun v s1 ⟨x, H1, I1, r1, q1⟩ => ?_
  obtain ⟨a, e, q⟩ := q1
  subst e
  cases r1
  have fr : ∀ b ∈ [s1.heap.objs.size], FpOk X pins H1 b := fun b hb => by
    have e : b = s1.heap.objs.size := by simpa using hb
    subst e
    exact I1.fpOk (Nat.le_refl _) (I1.hok.fresh (Nat.le_refl _))
  rcases q with ⟨⟨xs, hq⟩, q⟩ | ⟨⟨xs, hq⟩, q⟩
  · obtain ⟨its, rv, p, hz⟩ := I1.list hq
    refine wpAny_pyIter_list p.isList ?_
    exact ⟨s1.heap.objs.size, [s1.heap.objs.size], _, _, H1, rfl, I1.kept (t' := s1.toks) fun b o e => Heap.get?_push_of_some _ e, turn_list a _, ⟨_, Heap.get?_push_size _ rfl, rfl, rfl⟩, fr, q⟩
  · obtain ⟨its, rv, p, hz⟩ := I1.tuple hq
    refine wpAny_pyIter_tuple (show s1.heap.IsTuple a its.toArray from p) ?_
    exact ⟨s1.heap.objs.size, [s1.heap.objs.size], _, _, H1, rfl, I1.kept (t' := s1.toks) fun b o e => Heap.get?_push_of_some _ e, turn_tuple a _, ⟨_, Heap.get?_push_size _ rfl, rfl, rfl⟩, fr, q⟩
theorem VRs.getD {C : Kt} {w : Wd} {ds : List D} {vs : List V} {i : Nat} {d : D} {x : V} (h : VRs C w ds vs) (e : ds[i]? = some d) (e2 : vs[i]? = some x) : VR C w d x := by
  obtain ⟨v, h1, h2⟩ := h.get e
  rw [e2] at h1; cases h1; exact h2
theorem it_list {C : Kt} {B : Nat → Prop} {w0 : Wd} {a : Addr} {xs : List D} {g : Guard} (h : ∀ w S, Ext w0 w → SS C B S w → okG S g = true → ∃ vs, VRs C w xs vs ∧ SqL C.K w.H a vs) : ItOk C B (Itl C.K a) xs g none w0 := by
  intro w S n x s g1 _
  obtain ⟨vs, r, q⟩ := h w S x s g1
  refine ⟨fun d e => ?_, fun hn => ⟨vs, q, by rw [r.length]; omega⟩⟩
  obtain ⟨v, e2, _⟩ := r.get e
  exact ⟨⟨vs, v, q, e2⟩, fun y H' ⟨e3, hy⟩ => ⟨w, e3.symm, .refl w, s, r.getD e (hy vs q)⟩⟩
theorem it_tup {C : Kt} {B : Nat → Prop} {w0 : Wd} {a : Addr} {xs : List D} {g : Guard} (h : ∀ w S, Ext w0 w → SS C B S w → okG S g = true → ∃ vs, VRs C w xs vs ∧ SqT C.K w.H a vs) : ItOk C B (Itt C.K a) xs g none w0 := by
  intro w S n x s g1 _
  obtain ⟨vs, r, q⟩ := h w S x s g1
  refine ⟨fun d e => ?_, fun hn => ⟨vs, q, by rw [r.length]; omega⟩⟩
  obtain ⟨v, e2, _⟩ := r.get e
  exact ⟨⟨vs, v, q, e2⟩, fun y H' ⟨e3, hy⟩ => ⟨w, e3.symm, .refl w, s, r.getD e (hy vs q)⟩⟩
theorem ri_seq (hx : PE X x (tI (kt CL X) E κ b i)) : PI X tg x (tIt (kt CL X) E κ b (.seq i)) :=
  PI.imp (pi_seq hx) fun σ H RI ⟨B, w, S, env, a, h⟩ => by
    have h' : Po (kt CL X) E B (rlI (kt CL X) B) w ((ev κ b false i env S).bind fun u S => (R.of (seqOf S u) S).bind fun xs S => .ok (xs, guardOf u xs, none) S) RI := h
    refine tI_bind a h' fun w1 S1 d v a1 x1 r1 p1 => ?_
    obtain ⟨xs, e, p2⟩ := po_of p1
    obtain ⟨ad, rfl, hs⟩ := seq_at a1.ss r1 e
    refine ⟨ad, rfl, ?_⟩
    obtain ⟨vs, _, q1, q2⟩ := hs w1 S1 (.refl w1) a1.ss (okG_now e)
    cases ht : isTup d with
    | false => exact .inl ⟨⟨vs, q1 ht⟩, p2 w1 _ (.refl w1) a1.ss (it_list fun w S x s g => let ⟨vs, r, z, _⟩ := hs w S x s g; ⟨vs, r, z ht⟩)⟩
    | true => exact .inr ⟨⟨vs, q2 ht⟩, p2 w1 _ (.refl w1) a1.ss (it_tup fun w S x s g => let ⟨vs, r, _, z⟩ := hs w S x s g; ⟨vs, r, z ht⟩)⟩
theorem rangeL_get {lo hi : Int} {n : Nat} : (rangeL lo hi)[n]? = if n < (hi - lo).toNat then some (.int (lo + n)) else none := by
  unfold rangeL
  rw [List.getElem?_map]
  by_cases h : n < (hi - lo).toNat
  · rw [if_pos h, List.getElem?_range h]; rfl
  · rw [if_neg h, List.getElem?_eq_none (by simp; omega)]; rfl
theorem it_range {C : Kt} {B : Nat → Prop} {w0 : Wd} {lo hi : Int} : ItOk C B (Itr lo (hi - lo).toNat) (rangeL lo hi) none none w0 := by
  intro w S n x s _ _
  refine ⟨fun d e => ?_, fun hn => ?_⟩
  · rw [rangeL_get] at e
    split at e
    · rename_i hn
      cases e
      exact ⟨hn, fun y H' ⟨e1, e2⟩ => ⟨w, e1.symm, .refl w, s, by rw [e2]; unfold VR; rfl⟩⟩
    · cases e
  · have : (rangeL lo hi).length = (hi - lo).toNat := by unfold rangeL; simp
    show (hi - lo).toNat ≤ n
    omega
theorem ri_range1 (hg : Gl X "range") (hm : X.mg "range" = none) (hns : notStar x = true) (hx : PE X x (tI (kt CL X) E κ b i)) : PI X tg (.Call (.Name "range" p) [x] [] pos) (tIt (kt CL X) E κ b (.range1 i)) :=
  PI.imp (pi_range1 hg hm (pa_cons hx pa_nil (star_one hns)) (star_one hns)) fun σ H RI ⟨B, w, S, env, a, h⟩ => by
    have h' : Po (kt CL X) E B (rlI (kt CL X) B) w ((ev κ b false i env S).bind fun u S => match u with
      | .int i => if -(2 ^ 62) ≤ i ∧ i < 2 ^ 62 then .ok (rangeL 0 i, none, none) S else .bad
      | _ => .bad) RI := h
    refine tI_bind a h' fun w1 S1 d v a1 x1 r1 p1 => ?_
    cases d with
    | int n =>
      have p1 : Po (kt CL X) E B (rlI (kt CL X) B) w1 (if -(2 ^ 62) ≤ n ∧ n < 2 ^ 62 then .ok (rangeL 0 n, none, none) S1 else .bad) RI := p1
      split at p1
      · rename_i hn
        refine ⟨n, by rw [vint r1], hn.1, hn.2, ?_⟩
        have := it_range (C := kt CL X) (B := B) (w0 := w1) (lo := 0) (hi := n)
        rw [Int.sub_zero] at this
        exact p1 w1 _ (.refl w1) a1.ss this
      · exact p1.elim
    | _ => exact p1.elim
theorem ri_range2 (hg : Gl X "range") (hm : X.mg "range" = none) (hns : notStar x = true) (hns2 : notStar y = true) (hx : PE X x (tI (kt CL X) E κ b i)) (hy : PE X y (tI (kt CL X) E κ b j)) : PI X tg (.Call (.Name "range" p) [x, y] [] pos) (tIt (kt CL X) E κ b (.range2 i j)) :=
  PI.imp (pi_range2 hg hm (pa_cons hx (pa_cons hy pa_nil (star_one hns2)) (star_one hns)) (by rw [star_one hns, star_one hns2]; rfl) (star_one hns2)) fun σ H RI ⟨B, w, S, env, a, h⟩ => by
    have h' : Po (kt CL X) E B (rlI (kt CL X) B) w ((ev κ b false i env S).bind fun u S => (ev κ b false j env S).bind fun v S => match u, v with
      | .int i, .int j => if -(2 ^ 62) ≤ i ∧ i < 2 ^ 62 ∧ -(2 ^ 62) ≤ j ∧ j < 2 ^ 62 then .ok (rangeL i j, none, none) S else .bad
      | _, _ => .bad) RI := h
    refine tI_bind a h' fun w1 S1 d v a1 x1 r1 p1 => ?_
    refine tI_bind a1 p1 fun w2 S2 e u a2 x2 r2 p2 => ?_
    cases d with
    | int n =>
      cases e with
      | int m =>
        have p2 : Po (kt CL X) E B (rlI (kt CL X) B) w2 (if -(2 ^ 62) ≤ n ∧ n < 2 ^ 62 ∧ -(2 ^ 62) ≤ m ∧ m < 2 ^ 62 then .ok (rangeL n m, none, none) S2 else .bad) RI := p2
        split at p2
        · rename_i hn
          exact ⟨n, m, by rw [vint r1, vint r2], hn, p2 w2 _ (.refl w2) a2.ss it_range⟩
        · exact p2.elim
      | _ => exact p2.elim
    | _ => exact p2.elim
theorem enumL_get : ∀ (xs : List D) (k n : Nat), (enumL k xs)[n]? = xs[n]?.map fun d => .tup [.int ((k + n : Nat) : Int), d]
  | [], k, n => by simp [enumL]
  | x :: xs, k, 0 => by simp [enumL]
  | x :: xs, k, n + 1 => by
    simp only [enumL, List.getElem?_cons_succ]
    rw [enumL_get xs (k + 1) n]
    have : k + 1 + n = k + (n + 1) := by omega
    rw [this]
theorem enumL_len : ∀ (xs : List D) (k : Nat), (enumL k xs).length = xs.length
  | [], _ => rfl
  | x :: xs, k => by simp [enumL, enumL_len xs (k + 1)]
theorem seq_atB {C : Kt} {B : Nat → Prop} {S0 : Store} {w0 : Wd} {d : D} {v : V} {xs : List D} (s0 : SS C B S0 w0) (r : VR C w0 d v) (e : seqOf S0 d = some xs) : ∃ a, v = .ref a ∧ ∀ w S, Ext w0 w → SS C B S w → okG S (guardOf d xs) = true → ∃ vs, VRs C w xs vs ∧ SqB C.K (isTup d) w.H a vs := by
  obtain ⟨a, e1, h⟩ := seq_at s0 r e
  refine ⟨a, e1, fun w S x s g => ?_⟩
  obtain ⟨vs, q, q1, q2⟩ := h w S x s g
  refine ⟨vs, q, ?_⟩
  cases ht : isTup d with
  | false => exact q1 ht
  | true => exact q2 ht
theorem ri_enum {elts : List Expr} {kk : Nat} (hg : Gl X "enumerate") (hm : X.mg "enumerate" = none) (hns : notStar x = true) (hx : PE X x (tI (kt CL X) E κ b i)) : PI X (.Tuple elts kk tpos) (.Call (.Name "enumerate" p) [x] [] pos) (tIt (kt CL X) E κ b (.enum i)) :=
  PI.imp (pi_enumB hg hm (pa_cons hx pa_nil (star_one hns)) (star_one hns)) fun σ H RI ⟨B, w, S, env, a, h⟩ => by
    have h' : Po (kt CL X) E B (rlI (kt CL X) B) w ((ev κ b false i env S).bind fun u S => (R.of (seqOf S u) S).bind fun xs S => .ok (enumL 0 xs, guardOf u xs, none) S) RI := h
    refine tI_bind a h' fun w1 S1 d v a1 x1 r1 p1 => ?_
    obtain ⟨xs, e, p2⟩ := po_of p1
    obtain ⟨ad, rfl, hs⟩ := seq_atB a1.ss r1 e
    obtain ⟨vs, _, q1⟩ := hs w1 S1 (.refl w1) a1.ss (okG_now e)
    refine ⟨ad, isTup d, vs, rfl, q1, p2 w1 _ (.refl w1) a1.ss fun w S n x s g _ => ?_⟩
    obtain ⟨us, ru, qu⟩ := hs w S x s g
    refine ⟨fun d' e' => ?_, fun hn => ⟨us, qu, ?_⟩⟩
    · have e' : (enumL 0 xs)[n]? = some d' := e'
      rw [enumL_get] at e'
      cases q : xs[n]? with
      | none => rw [q] at e'; cases e'
      | some d0 =>
        rw [q] at e'
        cases e'
        obtain ⟨u0, e2, _⟩ := ru.get q
        refine ⟨⟨us, u0, qu, e2⟩, fun y H' ⟨T, x0, ey, hT, eH, hx0⟩ => ?_⟩
        subst ey
        subst eH
        have rx := ru.getD q (hx0 us qu)
        refine ⟨w.put T (.tup [.int (n : Nat), x0]), rfl, s.ext_put hT, s.put hT, VR.tup_new s hT (.cons ?_ (.cons rx .nil))⟩
        unfold VR
        rw [Nat.zero_add]
    · have hn : (enumL 0 xs).length = n := hn
      rw [enumL_len] at hn
      rw [ru.length]; exact hn
theorem zipL_get : ∀ (xs ys : List D) (n : Nat), (zipL xs ys)[n]? = match xs[n]?, ys[n]? with | some x, some y => some (.tup [x, y]) | _, _ => none
  | [], ys, n => by simp [zipL]
  | x :: xs, [], n => by
    simp only [zipL, List.getElem?_nil]
    cases (x :: xs)[n]? <;> rfl
  | x :: xs, y :: ys, 0 => by simp [zipL]
  | x :: xs, y :: ys, n + 1 => by
    simp only [zipL, List.getElem?_cons_succ]
    exact zipL_get xs ys n
theorem zipL_len : ∀ (xs ys : List D), (zipL xs ys).length = min xs.length ys.length
  | [], ys => by simp [zipL]
  | x :: xs, [] => by simp [zipL]
  | x :: xs, y :: ys => by simp [zipL, zipL_len xs ys]
theorem ri_zip {elts : List Expr} {kk : Nat} (hg : Gl X "zip") (hm : X.mg "zip" = none) (hns : notStar x = true) (hns2 : notStar y = true) (hx : PE X x (tI (kt CL X) E κ b i)) (hy : PE X y (tI (kt CL X) E κ b j)) : PI X (.Tuple elts kk tpos) (.Call (.Name "zip" p) [x, y] [] pos) (tIt (kt CL X) E κ b (.zip i j)) :=
  PI.imp (pi_zip2B hg hm (pa_cons hx (pa_cons hy pa_nil (star_one hns2)) (star_one hns)) (star_one hns) (star_all (by simp [hns2]))) fun σ H RI ⟨B, w, S, env, a, h⟩ => by
    have h' : Po (kt CL X) E B (rlI (kt CL X) B) w ((ev κ b false i env S).bind fun u S => (ev κ b false j env S).bind fun v S => (R.of (seqOf S u) S).bind fun xs S => (R.of (seqOf S v) S).bind fun ys S =>
      .ok (zipL xs ys, guardOf u xs, guardOf v ys) S) RI := h
    refine tI_bind a h' fun w1 S1 d v a1 x1 r1 p1 => ?_
    refine tI_bind a1 p1 fun w2 S2 d2 v2 a2 x2 r2 p2 => ?_
    obtain ⟨xs, e, p2⟩ := po_of p2
    obtain ⟨ys, e2, p2⟩ := po_of p2
    obtain ⟨ad, rfl, hs⟩ := seq_atB a2.ss (VR.ext x2.toGr a1.ss.muts _ _ r1) e
    obtain ⟨ad2, rfl, hs2⟩ := seq_atB a2.ss r2 e2
    obtain ⟨vs, _, q1⟩ := hs w2 S2 (.refl w2) a2.ss (okG_now e)
    obtain ⟨vs2, _, q2⟩ := hs2 w2 S2 (.refl w2) a2.ss (okG_now e2)
    refine ⟨ad, ad2, isTup d, isTup d2, vs, vs2, rfl, q1, q2, p2 w2 _ (.refl w2) a2.ss fun w S n x s g g2 => ?_⟩
    obtain ⟨us, ru, qu⟩ := hs w S x s g
    obtain ⟨us2, ru2, qu2⟩ := hs2 w S x s g2
    have l1 := ru.length
    have l2 := ru2.length
    refine ⟨fun d' e' => ?_, fun hn => ⟨us, us2, qu, qu2, ?_⟩⟩
    · have e' : (zipL xs ys)[n]? = some d' := e'
      rw [zipL_get] at e'
      split at e'
      · rename_i x0 y0 h1 h2
        cases e'
        obtain ⟨u0, k1, _⟩ := ru.get h1
        obtain ⟨u1, k2, _⟩ := ru2.get h2
        refine ⟨⟨us, us2, u0, u1, qu, qu2, k1, k2⟩, fun y H' ⟨T, z1, z2, ey, hT, eH, hz1, hz2⟩ => ?_⟩
        subst ey
        subst eH
        exact ⟨w.put T (.tup [z1, z2]), rfl, s.ext_put hT, s.put hT, VR.tup_new s hT (.cons (ru.getD h1 (hz1 us qu)) (.cons (ru2.getD h2 (hz2 us2 qu2)) .nil))⟩
      · cases e'
    · have hn : (zipL xs ys).length = n := hn
      rw [zipL_len] at hn
      omega
theorem zipL3_get : ∀ (xs ys zs : List D) (n : Nat), (zipL3 xs ys zs)[n]? = match xs[n]?, ys[n]?, zs[n]? with | some x, some y, some z => some (.tup [x, y, z]) | _, _, _ => none
  | [], ys, zs, n => by simp [zipL3]
  | x :: xs, [], zs, n => by
    simp only [zipL3, List.getElem?_nil]
    cases (x :: xs)[n]? <;> rfl
  | x :: xs, y :: ys, [], n => by
    simp only [zipL3, List.getElem?_nil]
    cases (x :: xs)[n]? <;> cases (y :: ys)[n]? <;> rfl
  | x :: xs, y :: ys, z :: zs, 0 => by simp [zipL3]
  | x :: xs, y :: ys, z :: zs, n + 1 => by
    simp only [zipL3, List.getElem?_cons_succ]
    exact zipL3_get xs ys zs n
theorem zipL3_len : ∀ (xs ys zs : List D), (zipL3 xs ys zs).length = min (min xs.length ys.length) zs.length
  | [], ys, zs => by simp [zipL3]
  | x :: xs, [], zs => by simp [zipL3]
  | x :: xs, y :: ys, [] => by simp [zipL3]
  | x :: xs, y :: ys, z :: zs => by
    simp only [zipL3, List.length_cons, zipL3_len xs ys zs]
    omega
theorem okG_frozen {S : Store} {d : D} {xs : List D} (h : isObj d = false) : okG S (guardOf d xs) = true := by
  cases d <;> first | rfl | (simp [isObj] at h)
theorem ri_zip3 {elts : List Expr} {kk : Nat} {z : Expr} {l : IE} (hg : Gl X "zip") (hm : X.mg "zip" = none) (hns : notStar x = true) (hns2 : notStar y = true) (hns3 : notStar z = true) (hx : PE X x (tI (kt CL X) E κ b i)) (hy : PE X y (tI (kt CL X) E κ b j)) (hz : PE X z (tI (kt CL X) E κ b l)) : PI X (.Tuple elts kk tpos) (.Call (.Name "zip" p) [x, y, z] [] pos) (tIt (kt CL X) E κ b (.zip3 i j l)) :=
  PI.imp (pi_zip3B hg hm (pa_cons hx (pa_cons hy (pa_cons hz pa_nil (star_one hns3)) (star_one hns2)) (star_one hns)) (star_one hns) (star_all (by simp [hns2, hns3]))) fun σ H RI ⟨B, w, S, env, a, h⟩ => by
    have h' : Po (kt CL X) E B (rlI (kt CL X) B) w ((ev κ b false i env S).bind fun u S => (ev κ b false j env S).bind fun v S => (ev κ b false l env S).bind fun w S => (R.of (seqOf S u) S).bind fun xs S => (R.of (seqOf S v) S).bind fun ys S => (R.of (seqOf S w) S).bind fun zs S =>
      if isObj w then .bad else .ok (zipL3 xs ys zs, guardOf u xs, guardOf v ys) S) RI := h
    refine tI_bind a h' fun w1 S1 d v a1 x1 r1 p1 => ?_
    refine tI_bind a1 p1 fun w2 S2 d2 v2 a2 x2 r2 p2 => ?_
    refine tI_bind a2 p2 fun w3 S3 d3 v3 a3 x3 r3 p3 => ?_
    obtain ⟨xs, e, p3⟩ := po_of p3
    obtain ⟨ys, e2, p3⟩ := po_of p3
    obtain ⟨zs, e3, p3⟩ := po_of p3
    obtain ⟨ad, rfl, hs⟩ := seq_atB a3.ss (VR.ext (x2.trans x3).toGr a1.ss.muts _ _ r1) e
    obtain ⟨ad2, rfl, hs2⟩ := seq_atB a3.ss (VR.ext x3.toGr a2.ss.muts _ _ r2) e2
    obtain ⟨ad3, rfl, hs3⟩ := seq_atB a3.ss r3 e3
    obtain ⟨vs, _, q1⟩ := hs w3 S3 (.refl w3) a3.ss (okG_now e)
    obtain ⟨vs2, _, q2⟩ := hs2 w3 S3 (.refl w3) a3.ss (okG_now e2)
    obtain ⟨vs3, _, q3⟩ := hs3 w3 S3 (.refl w3) a3.ss (okG_now e3)
    split at p3
    · exact p3.elim
    · rename_i ho
      have ho : isObj d3 = false := by simpa using ho
      refine ⟨ad, ad2, ad3, isTup d, isTup d2, isTup d3, vs, vs2, vs3, rfl, q1, q2, q3, p3 w3 _ (.refl w3) a3.ss fun w S n x s g g2 => ?_⟩
      obtain ⟨us, ru, qu⟩ := hs w S x s g
      obtain ⟨us2, ru2, qu2⟩ := hs2 w S x s g2
      obtain ⟨us3, ru3, qu3⟩ := hs3 w S x s (okG_frozen ho)
      have l1 := ru.length
      have l2 := ru2.length
      have l3 := ru3.length
      refine ⟨fun d' e' => ?_, fun hn => ⟨us, us2, us3, qu, qu2, qu3, ?_⟩⟩
      · have e' : (zipL3 xs ys zs)[n]? = some d' := e'
        rw [zipL3_get] at e'
        split at e'
        · rename_i x0 y0 z0 h1 h2 h3
          cases e'
          obtain ⟨u0, k1, _⟩ := ru.get h1
          obtain ⟨u1, k2, _⟩ := ru2.get h2
          obtain ⟨u2, k3, _⟩ := ru3.get h3
          refine ⟨⟨us, us2, us3, u0, u1, u2, qu, qu2, qu3, k1, k2, k3⟩, fun y H' ⟨T, z1, z2, z3, ey, hT, eH, hz1, hz2, hz3⟩ => ?_⟩
          subst ey
          subst eH
          exact ⟨w.put T (.tup [z1, z2, z3]), rfl, s.ext_put hT, s.put hT, VR.tup_new s hT (.cons (ru.getD h1 (hz1 us qu)) (.cons (ru2.getD h2 (hz2 us2 qu2)) (.cons (ru3.getD h3 (hz3 us3 qu3)) .nil)))⟩
        · cases e'
      · have hn : (zipL3 xs ys zs).length = n := hn
        rw [zipL3_len] at hn
        omega
end
end Pi
end

section
/-! PiRules8: targets; comprehensions. -/
namespace Pi
open PySem PySem.Spec PyProof.Rows L2

theorem Po.rel {α β : Type} {C : Kt} {E : XK} {B : Nat → Prop} {rel rel' : Rl α β} {w : Wd} {r : R α} {Q : β → Hp → Prop} (h : Po C E B rel w r Q) (i : ∀ w0 S w' a b, rel'.r w0 S w' a b → rel.r w0 S w' a b) : Po C E B rel' w r Q := by
  cases r with
  | ok a S' => exact fun w' b x s q => h w' b x s (i _ _ _ _ _ q)
  | err e S' => exact h
  | bad => exact h
theorem EE.set {C : Kt} {env : Slots} {σ : L2.St} {w : Wd} {d : D} {v : V} (h : EE C env σ w) (i : Nat) (r : VR C w d v) : EE C (env.set i (some d)) (σ.set i (some v)) w := by
  refine ⟨by rw [List.length_set, List.length_set]; exact h.len, fun j d' e => ?_⟩
  by_cases hj : i = j
  · subst hj
    have hl : i < env.length := by
      have := (List.getElem?_eq_some_iff.mp e).1
      rwa [List.length_set] at this
    rw [List.getElem?_set_self hl] at e
    cases e
    exact ⟨v, List.getElem?_set_self (by rw [← h.len]; exact hl), r⟩
  · rw [List.getElem?_set_ne hj] at e
    rw [List.getElem?_set_ne hj]
    exact h.slot j d' e
theorem assign_len {env : Env} : ∀ es : List Expr, (assignEach es env).length = es.length
  | [] => rfl
  | e :: es => by cases e <;> (show (_ :: assignEach es env).length = _; rw [List.length_cons, assign_len es]; rfl)
theorem assign_star {env : Env} : ∀ {es : List Expr}, es.all notStar = true → (assignEach es env).findIdx? (·.1) = none
  | [], _ => rfl
  | e :: es, h => by
    simp only [List.all_cons, Bool.and_eq_true] at h
    have := assign_star (env := env) h.2
    have h1 : assignEach (e :: es) env = (false, assign e env) :: assignEach es env := by
      cases e <;> first | rfl | (simp [notStar] at h)
    rw [h1, List.findIdx?_cons]
    simp [this]
theorem assign_one {env : Env} {e : Expr} {es : List Expr} (h : notStar e = true) : (assignEach (e :: es) env).map (·.2) = assign e env :: (assignEach es env).map (·.2) := by
  cases e <;> first | rfl | (simp [notStar] at h)

section
variable {CL : List String × List (String × String) × Lx} {X : Cx} {E : XK} {κ : Calls} {b : Nat} {x y tg : Expr} {es : List Expr} {gs : List IG} {i j : IE} {pos p tpos : Pos} {k : Nat} {g : IG}
theorem rg_var {n : Nat} {id : Str} (hN : X.N.Nodup) (hi : X.N[n]? = some id) (hx : Loc X.env.scope id) (hf : X.fn id = true ∨ X.env.scope.names.lookup id = some .local) : PG X (.Name id pos) (tGt (kt CL X) E κ b (.var n)) :=
  PG.imp (pg_name hN hi hx hf) fun v σ H Q ⟨B, w, S, env, d, a, rv, h⟩ => by
    have h' : Po (kt CL X) E B (rlG (kt CL X) σ [n]) w (.ok (env.set n (some d)) S) Q := h
    have := h' w (σ.set n (some v)) (.refl w) a.ss ⟨a.ee.set n rv, List.length_set .., fun m hm => List.getElem?_set_ne (by simpa using Ne.symm (by simpa using hm))⟩
    rw [a.hp] at this
    exact this
theorem rg_nil : PGs X [] (tGts (kt CL X) E κ b []) := by
  refine ⟨fun pins s σ H vs us Q I r ⟨B, w, S, env, ds, a, rs, h⟩ => ?_⟩
  cases ds with
  | nil =>
    have e := rs.inv0
    have h' : Po (kt CL X) E B (rlG (kt CL X) σ []) w (.ok env S) Q := h
    have := h' w σ (.refl w) a.ss ⟨a.ee, rfl, fun _ _ => rfl⟩
    rw [a.hp] at this
    exact (pgs_nil (X := X)).run pins s σ H vs us Q I r ⟨e, this⟩
  | cons d ds => exact (show False from h).elim
theorem rg_cons (hs : notStar x = true) (hx : PG X x (tGt (kt CL X) E κ b g)) (hes : PGs X es (tGts (kt CL X) E κ b gs)) : PGs X (x :: es) (tGts (kt CL X) E κ b (g :: gs)) := by
  refine ⟨fun pins s σ H vs us Q I r ⟨B, w, S, env, ds, a, rs, h⟩ => ?_⟩
  cases ds with
  | nil => exact (show False from h).elim
  | cons d ds =>
    obtain ⟨v, vr, rfl, r1, r2⟩ := rs.inv
    refine (pgs_cons hx hes (assign_one hs)).run pins s σ H _ us Q I r ⟨v, vr, rfl, B, w, S, env, d, a, r1, ?_⟩
    have h' : Po (kt CL X) E B (rlG (kt CL X) σ (slotsG g ++ slotsGs gs)) w ((evG κ b g d env S).bind fun env S => evGs κ b gs ds env S) Q := h
    refine (Po.bind (rel := rlG (kt CL X) σ (slotsG g)) h').mono fun σ' H1 ⟨w1, S1, env', e, x1, s1, ⟨re, rl, ro⟩, p⟩ => ?_
    subst e
    refine ⟨B, w1, S1, env', ds, ⟨rfl, s1, re, a.bb⟩, VRs.ext x1.toGr a.ss.muts _ _ r2, (p.ext x1).rel fun _ _ _ _ _ ⟨q1, q2, q3⟩ => ⟨q1, q2.trans rl, fun m hm => ?_⟩⟩
    rw [List.mem_append, not_or] at hm
    rw [q3 m hm.2, ro m hm.1]
theorem rg_tup {kk : Nat} (hc : X.calm = true) (hns : es.all notStar = true) (hl : es.length = gs.length) (hes : PGs X es (tGts (kt CL X) E κ b gs)) : PG X (.Tuple es kk pos) (tGt (kt CL X) E κ b (.tup gs)) :=
  PG.imp (pg_tup (n := es.length) hc hes (assign_len es) (assign_star hns)) fun v σ H Q ⟨B, w, S, env, d, a, rv, h⟩ => by
    cases d with
    | tup ds =>
      have h' : Po (kt CL X) E B (rlG (kt CL X) σ (slotsGs gs)) w (if ds.length = gs.length then evGs κ b gs ds env S else .bad) Q := h
      split at h'
      · rename_i hd
        obtain ⟨ad, vs, rfl, q, r⟩ := tup_rel rv
        rw [a.hp] at q
        exact ⟨ad, vs, rfl, q, by rw [r.length, hd, hl], B, w, S, env, ds, a, r, h'⟩
      · exact h'.elim
    | _ => exact (show False from h).elim
theorem rg_sub (hu : X.A.units + 1 < cLine) (hs : notSlice y = true) (hx : PE X x (tI (kt CL X) E κ b i)) (hy : PE X y (tI (kt CL X) E κ b j)) : PG X (.Subscript x y pos) (tGt (kt CL X) E κ b (.sub i j)) := by
  refine PG.imp (pg_sub hx hy (PSet.ex fun B => ss_set (CL := CL) (B := B) (b := b) hu) ?_) fun v σ H Q ⟨B, w, S, env, d, a, rv, h⟩ => ?_
  · intro v
    cases y <;> first | rfl | (simp [notSlice] at hs)
  · have h' : Po (kt CL X) E B (rlG (kt CL X) σ []) w ((ev κ b false i env S).bind fun u S => (ev κ b false j env S).bind fun v S => match u with
      | .obj n => if wrOk b n d then (R.of (setAt S n v d) S).bind fun S' _ => .ok env S' else .bad
      | _ => .bad) Q := h
    refine tI_bind a h' fun w1 S1 do_ o a1 x1 r1 p1 => ?_
    refine tI_bind a1 p1 fun w2 S2 di iv a2 x2 r2 p2 => ?_
    cases do_ with
    | obj n =>
      have p3 : Po (kt CL X) E B (rlG (kt CL X) σ []) w2 (if wrOk b n d then (R.of (setAt S2 n di d) S2).bind fun S' _ => .ok env S' else .bad) Q := p2
      clear p2
      have ro : VR (kt CL X) w2 (.obj n) o := VR.ext x2.toGr a1.ss.muts _ _ r1
      have rv2 : VR (kt CL X) w2 d v := VR.ext (x1.trans x2).toGr a.ss.muts _ _ rv
      split at p3
      · rename_i hw
        obtain ⟨S', e, p4⟩ := po_of p3
        have fin : ∀ w', Ext w2 w' → SS (kt CL X) B S' w' → Q σ w'.H := fun w' x' s' =>
          p4 w' σ x' s' ⟨a2.ee.ext x'.toGr a2.ss.muts, rfl, fun _ _ => rfl⟩
        refine ⟨B, w2, S2, n, di, d, S', rfl, a2.ss, ro, r2, rv2, a2.bb, hw, ?_, fin⟩
        unfold setAt at e
        split at e
        · rename_i xs ex
          split at e
          · rename_i z
            split at e
            · rename_i jj ej
              cases e
              exact .inl ⟨xs, z, jj, ex, rfl, ej, rfl⟩
            · cases e
          · cases e
        · rename_i ks vs ex
          split at e
          · rename_i kk ek
            split at e
            · rename_i hk
              cases e
              exact .inr ⟨ks, vs, kk, ex, ek, hk, rfl⟩
            · cases e
          · cases e
        · cases e
      · exact p3.elim
    | _ => exact (show False from p2).elim
theorem put_isF {C : Kt} {c f : String} {d : D} (hcf : (c, f) ∈ C.flds) : ∀ {ns : List String} {ds : List D}, C.isF c ns → C.isF c (put f d ns ds).1
  | [], ds, h => by
    intro g hg
    unfold put at hg
    simp at hg
    subst hg; exact hcf
  | n :: ns, [], h => by
    intro g hg
    unfold put at hg
    simp at hg
    subst hg; exact hcf
  | n :: ns, e :: ds, h => by
    unfold put
    split
    · exact h
    · intro g hg
      rcases List.mem_cons.mp hg with rfl | hg
      · exact h _ (List.mem_cons_self ..)
      · exact put_isF (C := C) hcf (fun g' hg' => h g' (List.mem_cons_of_mem _ hg')) g hg
theorem refsBs_put {f : String} {d : D} {b : Nat} (hd : d.refsB b = true) : ∀ {ns : List String} {ds : List D}, D.refsBs b ds = true → D.refsBs b (put f d ns ds).2 = true
  | [], ds, h => by
    unfold put
    simp [D.refsBs, hd]
  | n :: ns, [], h => by
    unfold put
    simp [D.refsBs, hd]
  | n :: ns, e :: ds, h => by
    simp only [D.refsBs, Bool.and_eq_true] at h
    unfold put
    split
    · simp [D.refsBs, hd, h.2]
    · simp only [D.refsBs, Bool.and_eq_true]
      exact ⟨h.1, refsBs_put hd h.2⟩
/-- a field is set in its cell -/
theorem setF_ok {c f : String} {B : Nat → Prop} {S S' : Store} {w : Wd} {n : Nat} {d : D} {v : V} (fo : FldOk CL X) (hcf : (c, f) ∈ CL.2.1) (s : SS (kt CL X) B S w) (hB : ∀ b', B b' → b' ≤ b) (hw : wrOk b n d = true) (e : setF S n c f d = some S') {o : V} (ro : VR (kt CL X) w (.obj n) o) (rv : VR (kt CL X) w d v) :
    ∃ ad cl dx fs, o = .ref ad ∧ w.H ad = some (.ins cl dx fs) ∧ X.mg (Str.ofString c) = some (.ref cl) ∧ Cls X.K cl ∧ NoAttr X.K cl (Str.ofString f) ∧ fs.length < 1000 ∧ Ext w (w.put ad (.ins cl dx (putF (Str.ofString f) v fs))) ∧ SS (kt CL X) B S' (w.put ad (.ins cl dx (putF (Str.ofString f) v fs))) := by
  unfold setF at e
  split at e
  · rename_i c' ns ds en
    split at e
    · rename_i hc
      obtain ⟨hn, rfl⟩ := hc
      cases e
      unfold VR at ro
      obtain ⟨ad, rfl, ha⟩ := ro
      obtain ⟨cl, dx, vs, hic, q2, q3, q4, q5, q6⟩ := s.cell n _ ad en ha
      obtain ⟨k1, k2⟩ := fo c' f hcf cl hic.2
      obtain ⟨vs', e1, e2, e3⟩ := put_fld (k := f) rv q4 q5
      have hl : ((ns.map Str.ofString).zip vs).length < 1000 := by
        rw [List.length_zip, List.length_map]; omega
      have xx := s.ext_wr (o := .ins cl dx (((put f d ns ds).1.map Str.ofString).zip vs')) en trivial ha
      have hne : dx ≠ ad := by rintro rfl; rw [q2] at q3; cases q3
      have ss := s.wr (o := .ins cl dx (((put f d ns ds).1.map Str.ofString).zip vs')) (c := .ins c' (put f d ns ds).1 (put f d ns ds).2) en trivial ha trivial
        ⟨cl, dx, vs', hic, upd_same, by show upd w.H ad _ dx = _; rw [upd_ne hne]; exact q3, VRs.ext xx.toGr s.muts _ _ e2, e3, put_isF hcf q6⟩ (low_of s en fun b' hb hl hr => refsBs_put (wr_low hB hw b' hb hl) hr)
      rw [← e1] at xx ss
      exact ⟨ad, cl, dx, _, rfl, q2, hic.2, k1, k2, hl, xx, ss⟩
    · cases e
  · cases e
theorem rg_attr {c f : String} (fo : FldOk CL X) (hcf : (c, f) ∈ CL.2.1) (hx : PE X x (tI (kt CL X) E κ b i)) : PG X (.Attribute x (Str.ofString f) pos) (tGt (kt CL X) E κ b (.attr c i f)) :=
  PG.imp (pg_attr hx) fun v σ H Q ⟨B, w, S, env, d, a, rv, h⟩ => by
    have h' : Po (kt CL X) E B (rlG (kt CL X) σ []) w ((ev κ b false i env S).bind fun u S => match u with
      | .obj n => if wrOk b n d then (R.of (setF S n c f d) S).bind fun S' _ => .ok env S' else .bad
      | _ => .bad) Q := h
    refine tI_bind a h' fun w1 S1 do_ o a1 x1 r1 p1 => ?_
    cases do_ with
    | obj n =>
      have p2 : Po (kt CL X) E B (rlG (kt CL X) σ []) w1 (if wrOk b n d then (R.of (setF S1 n c f d) S1).bind fun S' _ => .ok env S' else .bad) Q := p1
      clear p1
      split at p2
      · rename_i hw
        obtain ⟨S', e, p4⟩ := po_of p2
        obtain ⟨ad, cl, dx, fs, rfl, q1, q2, k1, k2, hl, xx, ss⟩ := setF_ok fo hcf a1.ss a1.bb hw e r1 (VR.ext x1.toGr a.ss.muts _ _ rv)
        exact ⟨ad, cl, dx, fs, rfl, q1, k1, k2, hl, p4 _ σ xx ss ⟨a1.ee.ext xx.toGr a1.ss.muts, rfl, fun _ _ => rfl⟩⟩
      · exact p2.elim
    | _ => exact (show False from p1).elim
end
end Pi
end

section
/-! PiComp: comprehensions. -/
namespace Pi
open PySem PySem.Spec PyProof.Rows L2

abbrev E0 : XK := fun _ _ _ => False
section
variable {CL : List String × List (String × String) × Lx} {X : Cx} {E : XK} {κ : Calls} {b : Nat} {x : Expr} {i : IE}
theorem rts_none : PTs X [] (tTO (kt CL X) E κ b none) := ⟨fun pins s σ H Q I ⟨B, w, S, env, a, h⟩ => (pts_nil).run pins s σ H Q I (by
  have h' : Po (kt CL X) E B (rlE Bool) w (.ok true S) Q := h
  have := po_eq a.ss h'
  rw [a.hp] at this
  exact this)⟩
theorem rts_some (hx : PT X x (tT (kt CL X) E κ b i)) : PTs X [x] (tTO (kt CL X) E κ b (some i)) := ⟨fun pins s σ H Q I ⟨B, w, S, env, a, h⟩ => (pts_one hx).run pins s σ H Q I ⟨B, w, S, env, a, h⟩⟩

/-- one item of a comprehension -/
def itemC (κ : Calls) (b : Nat) (e : IE) (g : IG) (ifs : Option IE) (env : Slots) (x : D) (S : Store) : R (Option D) :=
  (evG κ b g x env S).bind fun env' S => (evTO κ b ifs env' S).bind fun c S =>
        if c then (ev κ b false e env' S).bind fun y S => .ok (some y) S else .ok none S

theorem wipeE_len (env : Slots) : ∀ vs : List Nat, (wipeE env vs).length = env.length
  | [] => rfl
  | v :: vs => by unfold wipeE; rw [List.length_set, wipeE_len env vs]
theorem wipeE_some {env : Slots} {i : Nat} {d : D} : ∀ {vs : List Nat}, (wipeE env vs)[i]? = some (some d) → env[i]? = some (some d) ∧ i ∉ vs
  | [], h => ⟨h, by simp⟩
  | v :: vs, h => by
    unfold wipeE at h
    by_cases hv : v = i
    · subst hv
      by_cases hl : v < (wipeE env vs).length
      · rw [List.getElem?_set_self hl] at h; cases h
      · rw [List.getElem?_eq_none (by rw [List.length_set]; omega)] at h; cases h
    · rw [List.getElem?_set_ne hv] at h
      obtain ⟨h1, h2⟩ := wipeE_some h
      exact ⟨h1, by simp [h2, Ne.symm hv]⟩
theorem wipe_get {σ : L2.St} {i : Nat} : ∀ {vs : List Nat}, i ∉ vs → (wipe σ vs)[i]? = σ[i]?
  | [], _ => rfl
  | v :: vs, h => by
    simp only [List.mem_cons, not_or] at h
    unfold wipe
    rw [List.getElem?_set_ne (Ne.symm h.1), wipe_get h.2]
theorem wipe_in {σ : L2.St} {i : Nat} : ∀ {vs : List Nat}, i ∈ vs → i < σ.length → (wipe σ vs)[i]? = some none
  | [], h, _ => by simp at h
  | v :: vs, h, hl => by
    unfold wipe
    by_cases hv : v = i
    · subst hv
      rw [List.getElem?_set_self (by rw [wipe_length]; exact hl)]
    · rw [List.getElem?_set_ne hv]
      rcases List.mem_cons.mp h with e | e
      · exact absurd e.symm hv
      · exact wipe_in e hl
theorem EE.wipe {C : Kt} {env : Slots} {σ : L2.St} {w : Wd} (h : EE C env σ w) (vs : List Nat) : EE C (wipeE env vs) (L2.wipe σ vs) w := by
  refine ⟨by rw [wipeE_len, wipe_length]; exact h.len, fun i d e => ?_⟩
  obtain ⟨h1, h2⟩ := wipeE_some e
  rw [wipe_get h2]
  exact h.slot i d h1
theorem wipe_same {σ σ2 : L2.St} {vs ks : List Nat} (hl : σ2.length = (wipe σ vs).length) (ho : ∀ i, i ∉ ks → σ2[i]? = (wipe σ vs)[i]?) (hs : ∀ i ∈ ks, i ∈ vs) : wipe σ2 vs = wipe σ vs := by
  rw [wipe_length] at hl
  refine List.ext_getElem? fun i => ?_
  by_cases hi : i ∈ vs
  · by_cases hl2 : i < σ.length
    · rw [wipe_in hi (by omega), wipe_in hi hl2]
    · rw [List.getElem?_eq_none (by rw [wipe_length]; omega), List.getElem?_eq_none (by rw [wipe_length]; omega)]
  · rw [wipe_get hi, ho i (fun z => hi (hs i z))]

/-- a list of ours that grows: D -/
structure Mine (w1 w : Wd) (D : Addr) (acc : List V) : Prop where
  at_ : w.H D = some (.lst acc)
  nr : D ∉ w.ρ
  nf : ¬ w.F D
  ex : Ext w1 w
theorem Mine.ext {w1 w w' : Wd} {D : Addr} {acc : List V} (m : Mine w1 w D acc) (x : Ext w w') : Mine w1 w' D acc := by
  refine ⟨x.keepA D _ m.at_ m.nr (fun _ z => by cases z), fun h => ?_, fun h => ?_, m.ex.trans x⟩
  · have := x.new D h m.nr
    rw [m.at_] at this; cases this
  · rcases x.newF D h with z | z | z
    · exact m.nf z
    · rw [m.at_] at z; cases z
    · exact m.nr z
theorem Mine.write {C : Kt} {B : Nat → Prop} {S : Store} {w1 w : Wd} {D : Addr} {acc acc' : List V} (h1 : w1.H D = none) (m : Mine w1 w D acc) (s : SS C B S w) : Mine w1 (w.put D (.lst acc')) D acc' ∧ SS C B S (w.put D (.lst acc')) ∧ Gr w (w.put D (.lst acc')) := by
  have g : Gr w (w.put D (.lst acc')) := ⟨⟨[], by simp⟩, fun _ h => h, fun a o e hm _ => by
    show upd w.H D _ a = _
    rw [upd_ne]
    · exact e
    · rintro rfl
      rw [m.at_] at e; cases e
      exact hm trivial, fun a hf => by
    show upd w.H D _ a = _
    rw [upd_ne]
    rintro rfl
    exact m.nf hf⟩
  refine ⟨⟨upd_same, m.nr, m.nf, ⟨⟨m.ex.pre, m.ex.fr, fun a o e hm ht => g.keep a o (m.ex.keep a o e hm ht) hm ht, fun a hf => (g.frz a (m.ex.fr a hf)).trans (m.ex.frz a hf)⟩, fun a o e hm ht => ?_, fun a ps e => ?_, m.ex.new, m.ex.newF⟩⟩, s.step g rfl (fun a ha => ?_) s.nofr (fun a hf => ?_) (fun r hr => ?_), g⟩
  · show upd w.H D _ a = _
    rw [upd_ne]
    · exact m.ex.keepA a o e hm ht
    · rintro rfl
      rw [h1] at e; cases e
  · obtain ⟨ps', e'⟩ := m.ex.keepT a ps e
    refine ⟨ps', ?_⟩
    show upd w.H D _ a = _
    rw [upd_ne]
    · exact e'
    · rintro rfl
      rw [h1] at e; cases e
  · show upd w.H D _ a = _
    rw [upd_ne]
    rintro rfl
    exact m.nr ha
  · by_cases hax : a = D
    · exact ⟨_, by rw [hax]; exact upd_same⟩
    · obtain ⟨o, e⟩ := s.there a hf
      exact ⟨o, by show upd w.H D _ a = _; rw [upd_ne hax]; exact e⟩
  · obtain ⟨n, ps, e, _⟩ := s.tabs r hr
    refine ⟨?_, n⟩
    show upd w.H D _ r.1 = _
    rw [upd_ne]
    intro z
    rw [z, m.at_] at e; cases e
theorem compL_nil {g1 g2 : Guard} {f : D → Store → R (Option D)} {S S' : Store} {ys : List D} (h : compL g1 g2 f [] S = .ok ys S') : okG S g1 = true ∧ okG S g2 = true ∧ ys = [] ∧ S' = S := by
  unfold compL at h
  split at h
  · rename_i hg
    rw [Bool.and_eq_true] at hg
    cases h
    exact ⟨hg.1, hg.2, rfl, rfl⟩
  · cases h
theorem compL_cons {g1 g2 : Guard} {f : D → Store → R (Option D)} {x : D} {xs : List D} {S S' : Store} {ys : List D} (h : compL g1 g2 f (x :: xs) S = .ok ys S') :
    okG S g1 = true ∧ okG S g2 = true ∧ ∃ o S1 zs, f x S = .ok o S1 ∧ compL g1 g2 f xs S1 = .ok zs S' ∧ ys = (match o with | some y => y :: zs | none => zs) := by
  unfold compL at h
  split at h
  · rename_i hg
    rw [Bool.and_eq_true] at hg
    refine ⟨hg.1, hg.2, ?_⟩
    cases e : f x S with
    | ok o S1 =>
      rw [e] at h
      simp only at h
      cases e2 : compL g1 g2 f xs S1 with
      | ok zs S2 =>
        rw [e2] at h
        cases h
        exact ⟨o, S1, zs, rfl, e2, rfl⟩
      | err z S2 => rw [e2] at h; cases h
      | bad => rw [e2] at h; cases h
    | err z S1 => rw [e] at h; cases h
    | bad => rw [e] at h; cases h
  · cases h
theorem compL_err {g1 g2 : Guard} {f : D → Store → R (Option D)} : ∀ {xs : List D} {S S' : Store} {e : Exn}, compL g1 g2 f xs S ≠ .err e S'
  | [], S, S', e => by unfold compL; split <;> simp
  | x :: xs, S, S', e => by
    unfold compL
    split
    · split
      · split <;> simp
      · simp
    · simp
theorem bind_ok {α β : Type} {r : R α} {f : α → Store → R β} {c : β} {S' : Store} (h : r.bind f = .ok c S') : ∃ a S1, r = .ok a S1 ∧ f a S1 = .ok c S' := by
  cases r with
  | ok a S1 => exact ⟨a, S1, rfl, h⟩
  | err e S1 => cases h
  | bad => cases h

theorem ti_comp {e0 : IE} {g : IG} {it : II} {ifs : Option IE} {own : List Nat} {σ : L2.St} {H : Hp} {Q : VK} (hown : ∀ i ∈ slotsG g, i ∈ own) (h : tI (kt CL X) E κ b (.comp e0 g it ifs own) σ H Q) :
    tLc (tIt (kt CL X) E κ b it) (tGt (kt CL X) E0 κ b g) (tTO (kt CL X) E0 κ b ifs) (tI (kt CL X) E0 κ b e0) own σ H Q := by
  obtain ⟨B, w, S, env, a, h⟩ := h
  have h' : Po (kt CL X) E B (rlD (kt CL X) true) w ((evI κ b it env S).bind fun r S =>
      (compL r.2.1 r.2.2 (itemC κ b e0 g ifs (wipeE env own)) r.1 S).bind fun ys S => if ys.length < sizeLine then .ok (.lst ys) S else .bad) Q := h
  refine ⟨B, w, S, env, a, (Po.bind h').mono fun J H1 ⟨w1, S1, r, eH, x1, s1, hJ, p⟩ => ?_⟩
  subst eH
  obtain ⟨items, g1, g2⟩ := r
  have hJ : ItOk (kt CL X) B J items g1 g2 w1 := hJ
  have a1 := a.ext x1 s1
  intro D hD
  -- the run of the comprehension
  have p : Po (kt CL X) E B (rlD (kt CL X) true) w ((compL g1 g2 (itemC κ b e0 g ifs (wipeE env own)) items S1).bind fun ys S => if ys.length < sizeLine then .ok (.lst ys) S else .bad) Q := p
  cases ec : compL g1 g2 (itemC κ b e0 g ifs (wipeE env own)) items S1 with
  | bad => rw [ec] at p; exact p.elim
  | err z S' => exact absurd ec compL_err
  | ok ys Sf =>
    rw [ec] at p
    have p : Po (kt CL X) E B (rlD (kt CL X) true) w (if ys.length < sizeLine then .ok (.lst ys) Sf else .bad) Q := p
    split at p
    · rename_i hz
      have p := p.ext x1
      refine ⟨fun n m H => ∃ w2 S2 acc accD rest, w2.H = H ∧ m = items.length - n ∧ n ≤ items.length ∧ Mine w1 w2 D acc ∧ SS (kt CL X) B S2 w2 ∧ VRs (kt CL X) w2 accD acc ∧ compL g1 g2 (itemC κ b e0 g ifs (wipeE env own)) (items.drop n) S2 = .ok rest Sf ∧ accD ++ rest = ys, ⟨items.length, w1.put D (.lst []), S1, [], [], ys, rfl, by simp, Nat.zero_le _, ⟨upd_same, s1.in_none hD, s1.F_none hD, s1.ext_put hD⟩, s1.put hD, .nil, ec, rfl⟩, ?_⟩
      rintro n m H ⟨w2, S2, acc, accD, rest, eH, em, hn, mi, s2, ra, er, ey⟩
      subst eH
      by_cases hlt : n < items.length
      · rw [List.drop_eq_getElem_cons hlt] at er
        obtain ⟨k1, k2, o, S3, zs, e1, e2, e3⟩ := compL_cons er
        obtain ⟨hgo, hyld⟩ := (hJ w2 S2 n mi.ex s2 k1 k2).1 items[n] (by simp [hlt])
        refine .inr ⟨hgo, fun H => ∃ w2 acc accD, w2.H = H ∧ Mine w1 w2 D acc ∧ SS (kt CL X) B S3 w2 ∧ VRs (kt CL X) w2 accD acc ∧ accD ++ zs = ys, fun H' ⟨w3, acc3, accD3, q1, q2, q3, q4, q5⟩ => ⟨items.length - (n + 1), by omega, w3, S3, acc3, accD3, zs, q1, rfl, hlt, q2, q3, q4, e2, q5⟩, fun y H' hy => ?_⟩
        obtain ⟨w3, eH, x3, s3, r3⟩ := hyld y H' hy
        subst eH
        have mi3 := mi.ext x3
        have ee3 : EE (kt CL X) env σ w3 := a1.ee.ext mi3.ex.toGr s1.muts
        obtain ⟨env', Sg, b1, b2⟩ := bind_ok (show (evG κ b g items[n] (wipeE env own) S2).bind _ = .ok o S3 from e1)
        obtain ⟨c, Sc, b3, b4⟩ := bind_ok b2
        refine ⟨B, w3, S2, wipeE env own, items[n], ⟨rfl, s3, ee3.wipe own, a.bb⟩, r3, ?_⟩
        rw [b1]
        intro w4 σ4 x4 s4 ⟨r4, l4, o4⟩
        refine ⟨wipe_same l4 o4 hown, B, w4, Sg, env', ⟨rfl, s4, r4, a.bb⟩, ?_⟩
        rw [b3]
        intro w5 c' x5 s5 r5
        have r5 : c = c' := r5
        subst r5
        have mi5 := (mi3.ext x4).ext x5
        have ra5 := VRs.ext ((x3.trans x4).trans x5).toGr s2.muts _ _ ra
        cases c with
        | false =>
          have b4 : (R.ok none Sc : R (Option Pi.D)) = .ok o S3 := b4
          cases b4
          exact ⟨w5, acc, accD, rfl, mi5, s5, ra5, by rw [← ey, e3]⟩
        | true =>
          obtain ⟨yv, Sy, b5, b6⟩ := bind_ok (show (ev κ b false e0 env' Sc).bind _ = .ok o S3 from b4)
          cases b6
          have ee5 : EE (kt CL X) env' σ4 w5 := r4.ext x5.toGr s4.muts
          refine ⟨B, w5, Sc, env', ⟨rfl, s5, ee5, a.bb⟩, ?_⟩
          rw [b5]
          intro w6 v x6 s6 r6
          obtain ⟨w7, e7, _, x7, g7, s7, r7⟩ := RR.settle x6 s6 r6
          rw [← e7]
          have mi7 := mi5.ext x7
          have ra7 := VRs.ext x7.toGr s5.muts _ _ ra5
          have hlen : acc.length < sizeLine := by
            have h1 := ra.length
            have h2 : ys.length = accD.length + rest.length := by rw [← ey, List.length_append]
            have h3 : rest.length = zs.length + 1 := by rw [e3]; rfl
            omega
          obtain ⟨m8, s8, g8⟩ := mi7.write (acc' := acc ++ [v]) hD s7
          exact ⟨acc, mi7.at_, hlen, w7.put D (.lst (acc ++ [v])), acc ++ [v], accD ++ [yv], rfl, m8, s8, (VRs.ext g8 s7.muts _ _ ra7).append (.cons (VR.ext g8 s7.muts _ _ r7) .nil), by rw [← ey, e3]; simp⟩
      · have hn' : n = items.length := by omega
        subst hn'
        rw [List.drop_length] at er
        obtain ⟨k1, k2, rfl, rfl⟩ := compL_nil er
        rw [List.append_nil] at ey
        subst ey
        refine .inl ⟨(hJ w2 _ _ mi.ex s2 k1 k2).2 rfl, ?_⟩
        exact p w2 (.ref D) mi.ex s2 (show FR (kt CL X) w1 _ w2 accD (.ref D) from ⟨D, acc, rfl, mi.at_, ra, mi.nf, .inl hD, fun n c h1 h2 h3 => mi.nr (List.mem_of_getElem? h3)⟩)
    · exact p.elim
end
end Pi
end

section
/-! PiSw: from one frame's view to another's (what a lambda's value means changes at calls); calls from a def that makes lambdas. -/
namespace Pi
open PySem PySem.Spec PyProof.Rows L2

/-- the constants, with another base, other own lambdas -/
abbrev Kt.at (C : Kt) (b : Heap) (o : List (Str × Addr) → List Str → List Nat → Prop) : Kt := { C with base := b, lx := { C.lx with own := o } }
abbrev own0 : List (Str × Addr) → List Str → List Nat → Prop := fun _ _ _ => False

section
variable {C : Kt} {w : Wd} {bs : Heap} {o : List (Str × Addr) → List Str → List Nat → Prop}
mutual
theorem VR.noFn : ∀ (d : D) (v : V), d.noFn = true → VR C w d v → VR (C.at bs o) w d v
  | .non, v, _, h => by unfold VR at h ⊢; exact h
  | .bl b, v, _, h => by unfold VR at h ⊢; exact h
  | .int i, v, _, h => by unfold VR at h ⊢; exact h
  | .str s, v, _, h => by unfold VR at h ⊢; exact h
  | .tup xs, v, q, h => by
    unfold VR at h ⊢
    obtain ⟨a, vs, e, h1, h2⟩ := h
    exact ⟨a, vs, e, h1, VRs.noFn xs vs (by unfold D.noFn at q; exact q) h2⟩
  | .lst xs, v, q, h => by
    unfold VR at h ⊢
    obtain ⟨a, vs, e, hf, h1, h2⟩ := h
    exact ⟨a, vs, e, hf, h1, VRs.noFn xs vs (by unfold D.noFn at q; exact q) h2⟩
  | .scr xs, v, q, h => by
    unfold VR at h ⊢
    obtain ⟨a, vs, e, h1, h2⟩ := h
    exact ⟨a, vs, e, h1, VRs.noFn xs vs (by unfold D.noFn at q; exact q) h2⟩
  | .dct ks ds, v, q, h => by
    unfold VR at h ⊢
    obtain ⟨a, vs, e, hf, h1, h2, h3⟩ := h
    exact ⟨a, vs, e, hf, h1, VRs.noFn ds vs (by unfold D.noFn at q; exact q) h2, h3⟩
  | .ins c ns ds, v, q, h => by
    unfold VR at h ⊢
    obtain ⟨a, cl, dx, vs, e, hf, hc, h1, ho, h2, h3⟩ := h
    exact ⟨a, cl, dx, vs, e, hf, hc, h1, ho, VRs.noFn ds vs (by unfold D.noFn at q; exact q) h2, h3⟩
  | .obj n, v, _, h => by unfold VR at h ⊢; exact h
  | .glob n, v, _, h => by unfold VR at h ⊢; exact h
  | .ty n, v, _, h => by unfold VR at h ⊢; exact h
  | .lam k js, v, q, h => by simp [D.noFn] at q
  | .clo k ws, v, q, h => by simp [D.noFn] at q
theorem VRs.noFn : ∀ (ds : List D) (vs : List V), D.noFns ds = true → VRs C w ds vs → VRs (C.at bs o) w ds vs
  | [], vs, _, h => by unfold VRs at h ⊢; exact h
  | d :: ds, vs, q, h => by
    unfold VRs at h ⊢
    unfold D.noFns at q
    rw [Bool.and_eq_true] at q
    obtain ⟨v, r, e, h1, h2⟩ := h
    exact ⟨v, r, e, VR.noFn d v q.1 h1, VRs.noFn ds r q.2 h2⟩
end
mutual
theorem VR.noLam (hb : ∀ a ob, C.base.get? a = some ob → bs.get? a = some ob) : ∀ (d : D) (v : V), d.noLam = true → VR C w d v → VR (C.at bs o) w d v
  | .non, v, _, h => by unfold VR at h ⊢; exact h
  | .bl b, v, _, h => by unfold VR at h ⊢; exact h
  | .int i, v, _, h => by unfold VR at h ⊢; exact h
  | .str s, v, _, h => by unfold VR at h ⊢; exact h
  | .tup xs, v, q, h => by
    unfold VR at h ⊢
    obtain ⟨a, vs, e, h1, h2⟩ := h
    exact ⟨a, vs, e, h1, VRs.noLam hb xs vs (by unfold D.noLam at q; exact q) h2⟩
  | .lst xs, v, q, h => by
    unfold VR at h ⊢
    obtain ⟨a, vs, e, hf, h1, h2⟩ := h
    exact ⟨a, vs, e, hf, h1, VRs.noLam hb xs vs (by unfold D.noLam at q; exact q) h2⟩
  | .scr xs, v, q, h => by
    unfold VR at h ⊢
    obtain ⟨a, vs, e, h1, h2⟩ := h
    exact ⟨a, vs, e, h1, VRs.noLam hb xs vs (by unfold D.noLam at q; exact q) h2⟩
  | .dct ks ds, v, q, h => by
    unfold VR at h ⊢
    obtain ⟨a, vs, e, hf, h1, h2, h3⟩ := h
    exact ⟨a, vs, e, hf, h1, VRs.noLam hb ds vs (by unfold D.noLam at q; exact q) h2, h3⟩
  | .ins c ns ds, v, q, h => by
    unfold VR at h ⊢
    obtain ⟨a, cl, dx, vs, e, hf, hc, h1, ho, h2, h3⟩ := h
    exact ⟨a, cl, dx, vs, e, hf, hc, h1, ho, VRs.noLam hb ds vs (by unfold D.noLam at q; exact q) h2, h3⟩
  | .obj n, v, _, h => by unfold VR at h ⊢; exact h
  | .glob n, v, _, h => by unfold VR at h ⊢; exact h
  | .ty n, v, _, h => by unfold VR at h ⊢; exact h
  | .lam k js, v, q, h => by simp [D.noLam] at q
  | .clo k ws, v, q, h => by
    unfold VR at h ⊢
    obtain ⟨f, c', cl, t, js, vs, e, h0, h1, h2, h3, h4, h5, h6, h7, h8, h9⟩ := h
    refine ⟨f, c', cl, t, js, vs, e, h0, h1, h2, h3, h4, VRs.noLam hb ws vs (by unfold D.noLam at q; exact q) h5, h6, fun y c q => ?_, h8, fun i y v q1 q2 => ?_⟩
    · obtain ⟨u, ob, z1, z2⟩ := h7 y c q
      exact ⟨u, ob, hb _ _ z1, z2⟩
    · obtain ⟨c, u, z1, z2, ob, z3, z4⟩ := h9 i y v q1 q2
      exact ⟨c, u, z1, z2, ob, hb _ _ z3, z4⟩
theorem VRs.noLam (hb : ∀ a ob, C.base.get? a = some ob → bs.get? a = some ob) : ∀ (ds : List D) (vs : List V), D.noLams ds = true → VRs C w ds vs → VRs (C.at bs o) w ds vs
  | [], vs, _, h => by unfold VRs at h ⊢; exact h
  | d :: ds, vs, q, h => by
    unfold VRs at h ⊢
    unfold D.noLams at q
    rw [Bool.and_eq_true] at q
    obtain ⟨v, r, e, h1, h2⟩ := h
    exact ⟨v, r, e, VR.noLam hb d v q.1 h1, VRs.noLam hb ds r q.2 h2⟩
end
mutual
/-- where no lambda is one's own -/
theorem VR.nl (ho : C.lx.own = own0) : ∀ (d : D) (v : V), VR C w d v → d.noLam = true
  | .non, v, h => rfl
  | .bl b, v, h => rfl
  | .int i, v, h => rfl
  | .str s, v, h => rfl
  | .tup xs, v, h => by
    unfold VR at h
    obtain ⟨a, vs, e, h1, h2⟩ := h
    unfold D.noLam; exact VRs.nl ho xs vs h2
  | .lst xs, v, h => by
    unfold VR at h
    obtain ⟨a, vs, e, hf, h1, h2⟩ := h
    unfold D.noLam; exact VRs.nl ho xs vs h2
  | .scr xs, v, h => by
    unfold VR at h
    obtain ⟨a, vs, e, h1, h2⟩ := h
    unfold D.noLam; exact VRs.nl ho xs vs h2
  | .dct ks ds, v, h => by
    unfold VR at h
    obtain ⟨a, vs, e, hf, h1, h2, h3⟩ := h
    unfold D.noLam; exact VRs.nl ho ds vs h2
  | .ins c ns ds, v, h => by
    unfold VR at h
    obtain ⟨a, cl, dx, vs, e, hf, hc, h1, ho', h2, h3⟩ := h
    unfold D.noLam; exact VRs.nl ho ds vs h2
  | .obj n, v, h => rfl
  | .glob n, v, h => rfl
  | .ty n, v, h => rfl
  | .lam k js, v, h => by
    unfold VR at h
    obtain ⟨f, c', cl, t, e, h0, h1, h2, h3, h4, h5⟩ := h
    rw [ho] at h5
    exact h5.elim
  | .clo k ws, v, h => by
    unfold VR at h
    obtain ⟨f, c', cl, t, js, vs, e, h0, h1, h2, h3, h4, h5, h6⟩ := h
    unfold D.noLam; exact VRs.nl ho ws vs h5
theorem VRs.nl (ho : C.lx.own = own0) : ∀ (ds : List D) (vs : List V), VRs C w ds vs → D.noLams ds = true
  | [], vs, h => rfl
  | d :: ds, vs, h => by
    unfold VRs at h
    obtain ⟨v, r, e, h1, h2⟩ := h
    unfold D.noLams
    rw [VR.nl ho d v h1, VRs.nl ho ds r h2]; rfl
end
mutual
theorem noFn_noLam : ∀ d : D, d.noFn = true → d.noLam = true
  | .non, _ => rfl
  | .bl _, _ => rfl
  | .int _, _ => rfl
  | .str _, _ => rfl
  | .tup xs, h => by unfold D.noFn at h; unfold D.noLam; exact noFn_noLams xs h
  | .lst xs, h => by unfold D.noFn at h; unfold D.noLam; exact noFn_noLams xs h
  | .scr xs, h => by unfold D.noFn at h; unfold D.noLam; exact noFn_noLams xs h
  | .dct _ xs, h => by unfold D.noFn at h; unfold D.noLam; exact noFn_noLams xs h
  | .ins _ _ xs, h => by unfold D.noFn at h; unfold D.noLam; exact noFn_noLams xs h
  | .obj _, _ => rfl
  | .glob _, _ => rfl
  | .ty _, _ => rfl
  | .lam _ _, h => by simp [D.noFn] at h
  | .clo _ _, h => by simp [D.noFn] at h
theorem noFn_noLams : ∀ ds : List D, D.noFns ds = true → D.noLams ds = true
  | [], _ => rfl
  | d :: ds, h => by
    unfold D.noFns at h
    rw [Bool.and_eq_true] at h
    unfold D.noLams
    rw [noFn_noLam d h.1, noFn_noLams ds h.2]; rfl
end
/-- one view of the store from another -/
theorem SS.view {B : Nat → Prop} {S : Store} {C' : Kt} (s : SS C B S w) (ht : C'.lx.tabs = C.lx.tabs) (h : ∀ (n : Nat) (c : Cell) (a : Addr), S[n]? = some c → CelR C w a c → CelR C' w a c) : SS C' B S w :=
  ⟨s.len, s.inj, fun n c a h1 h2 => h n c a h1 (s.cell n c a h1 h2), s.nofr, s.there, s.muts, s.low, fun p hp => s.tabs p (by rw [← ht]; exact hp)⟩
theorem CelR.view {C' : Kt} {a : Addr} {c : Cell} (hi : ∀ c cl, C.isC c cl → C'.isC c cl) (hf : ∀ c ns, C.isF c ns → C'.isF c ns) (h : ∀ vs, VRs C w c.vals vs → VRs C' w c.vals vs) (r : CelR C w a c) : CelR C' w a c := by
  cases c with
  | dead => trivial
  | lst xs => obtain ⟨vs, h1, h2⟩ := r; exact ⟨vs, h1, h vs h2⟩
  | dct ks ds => obtain ⟨vs, h1, h2, h3⟩ := r; exact ⟨vs, h1, h vs h2, h3⟩
  | ins c ns ds => obtain ⟨cl, dx, vs, hc, h1, ho, h2, h3, h4⟩ := r; exact ⟨cl, dx, vs, hi _ _ hc, h1, ho, h vs h2, h3, hf _ _ h4⟩
  | ice xs => obtain ⟨vs, hf', h1, h2⟩ := r; exact ⟨vs, hf', h1, h vs h2⟩
theorem all_get {S : Store} {p : Cell → Bool} (h : S.all p = true) {n : Nat} {c : Cell} (e : S[n]? = some c) : p c = true := List.all_eq_true.mp h c (List.mem_of_getElem? e)
theorem SS.noFn {B : Nat → Prop} {S : Store} (h : S.all Cell.noFn = true) (s : SS C B S w) : SS (C.at bs o) B S w :=
  s.view rfl fun n c a e r => CelR.view (C := C) (C' := C.at bs o) (r := r) (hi := fun _ _ h => h) (hf := fun _ _ h => h) fun vs q => VRs.noFn _ _ (all_get h e) q
theorem SS.noLam {B : Nat → Prop} {S : Store} (hb : ∀ a ob, C.base.get? a = some ob → bs.get? a = some ob) (h : S.all Cell.noLam = true) (s : SS C B S w) : SS (C.at bs o) B S w :=
  s.view rfl fun n c a e r => CelR.view (C := C) (C' := C.at bs o) (r := r) (hi := fun _ _ h => h) (hf := fun _ _ h => h) fun vs q => VRs.noLam hb _ _ (all_get h e) q
theorem RR.noFn {S : Store} {w0 : Wd} {fr : Bool} {d : D} {v : V} (h : d.noFn = true) (r : RR C fr w0 S w d v) : RR (C.at bs o) fr w0 S w d v := by
  unfold RR at r ⊢
  split at r
  · rename_i xs
    obtain ⟨a, vs, e, h1, h2, h3, h4, h5⟩ := r
    exact ⟨a, vs, e, h1, VRs.noFn _ _ (by unfold D.noFn at h; exact h) h2, h3, h4, h5⟩
  · exact VR.noFn _ _ h r
theorem XR.noFn {x : Exn} {cls : Value} {dd : Option Addr} (h : D.noFns x.vs = true) (r : XR C w x cls dd) : XR (C.at bs o) w x cls dd := by
  obtain ⟨cl, h1, h2, da, vs, h3, h4, h5, h6⟩ := r
  exact ⟨cl, h1, h2, da, vs, h3, h4, VRs.noFn _ _ h h5, h6⟩
theorem SS.nl {B : Nat → Prop} {S : Store} (ho : C.lx.own = own0) (s : SS C B S w) : SS (C.at C.base o) B S w :=
  s.view rfl fun n c a e r => CelR.view (C := C) (C' := C.at C.base o) (r := r) (hi := fun _ _ h => h) (hf := fun _ _ h => h) fun vs q => VRs.noLam (fun _ _ h => h) _ _ (VRs.nl ho _ _ q) q
end
/-- a result that holds no function is the same in each view -/
theorem po_chk {C : Kt} {E : XK} {B : Nat → Prop} {w : Wd} {bs : Heap} {o : List (Str × Addr) → List Str → List Nat → Prop} {r : R (D × Bool)} {Q : V → Hp → Prop} (h : Po C E B (rlDB C) w (chkFn r) Q) :
    Po (C.at bs o) E B (rlDB (C.at bs o)) w r Q := by
  cases r with
  | bad => exact h
  | ok a S =>
    obtain ⟨d, fr⟩ := a
    unfold chkFn at h
    dsimp only at h
    split at h
    · rename_i hc
      rw [Bool.and_eq_true] at hc
      intro w' v x s q
      exact h w' v x (SS.noFn (C := C.at bs o) (bs := C.base) (o := C.lx.own) hc.2 s) (RR.noFn (C := C.at bs o) (bs := C.base) (o := C.lx.own) hc.1 q)
    · exact h.elim
  | err x S =>
    unfold chkFn at h
    dsimp only at h
    split at h
    · rename_i hc
      rw [Bool.and_eq_true] at hc
      intro w' cls dd xx s q
      exact h w' cls dd xx (SS.noFn (C := C.at bs o) (bs := C.base) (o := C.lx.own) hc.2 s) (XR.noFn (C := C.at bs o) (bs := C.base) (o := C.lx.own) hc.1 q)
    · exact h.elim
theorem okIn_nl {c : Cell} (h : c.okIn = true) : c.noLam = true := by
  unfold Cell.okIn at h
  rw [Bool.or_eq_true] at h
  rcases h with h | h
  · exact noFn_noLams _ h
  · cases c with
    | ice xs => exact h
    | dead => rfl
    | _ => cases h
theorem restOk_len : ∀ {S S' : Store}, restOk S S' = true → S.length ≤ S'.length
  | [], _, _ => by simp
  | _ :: _, [], h => by simp [restOk] at h
  | c :: S, c' :: S', h => by
    simp only [restOk, Bool.and_eq_true] at h
    have := restOk_len h.2
    simp; omega
theorem restS_len : ∀ {S S' : Store}, (restS S S').length = S'.length
  | [], S' => by cases S' <;> rfl
  | c :: S, [] => rfl
  | c :: S, c' :: S' => by simp [restS, restS_len (S := S) (S' := S')]
/-- a cell behind: the callee's, without a function; or the old one -/
theorem restS_get : ∀ {S S' : Store} {n : Nat} {c : Cell}, restOk S S' = true → (restS S S')[n]? = some c → (S'[n]? = some c ∧ c.noFn = true) ∨ (S[n]? = some c ∧ c.noFn = false)
  | [], S', n, c, h, e => by
    have e' : S'[n]? = some c := by cases S' <;> exact e
    simp only [restOk] at h
    exact .inl ⟨e', List.all_eq_true.mp h c (List.mem_of_getElem? e')⟩
  | _ :: _, [], n, c, h, e => by simp [restOk] at h
  | c0 :: S, c' :: S', n, c, h, e => by
    simp only [restOk, Bool.and_eq_true, Bool.or_eq_true, Bool.not_eq_true'] at h
    cases n with
    | zero =>
      simp only [restS, List.getElem?_cons_zero] at e
      cases hc : c0.noFn with
      | true =>
        rw [hc] at e h
        cases e
        exact .inl ⟨rfl, by simpa using h.1⟩
      | false =>
        rw [hc] at e
        cases e
        exact .inr ⟨rfl, hc⟩
    | succ n =>
      simp only [restS, List.getElem?_cons_succ] at e
      rcases restS_get h.2 e with z | z
      · exact .inl (by simpa using z)
      · exact .inr (by simpa using z)
theorem restS_live {S S' : Store} {n : Nat} {c : Cell} (hd : ∀ (n : Nat) (c : Cell), S[n]? = some c → c.noFn = false → ¬ c.live) (h : restOk S S' = true) (e : (restS S S')[n]? = some c) (hl : c.live) : S'[n]? = some c := by
  rcases restS_get h e with z | z
  · exact z.1
  · exact absurd hl (hd n c z.1 z.2)
theorem RR.store {C : Kt} {w0 w : Wd} {S S2 : Store} {fr : Bool} {d : D} {v : V} (h : ∀ (n : Nat) (c : Cell), S2[n]? = some c → c.live → S[n]? = some c) (r : RR C fr w0 S w d v) : RR C fr w0 S2 w d v := by
  unfold RR at r ⊢
  split at r
  · obtain ⟨a, vs, e, h1, h2, h3, h4, h5⟩ := r
    exact ⟨a, vs, e, h1, h2, h3, h4, fun n c e hl => h5 n c (h n c e hl) hl⟩
  · exact r
/-- the store behind a callee, as its caller sees it -/
theorem SS.rest {C C' : Kt} {B : Nat → Prop} {S S' : Store} {w w' : Wd} (hC : ∃ b o, C = C'.at b o) (s : SS C B S w) (hd : ∀ (n : Nat) (c : Cell), S[n]? = some c → c.noFn = false → ¬ c.live) (x : Ext w w') (s' : SS C' B S' w') (h : restOk S S' = true) : SS C B (restS S S') w' := by
  obtain ⟨b0, o0, rfl⟩ := hC
  have lv : ∀ {n : Nat} {c : Cell}, (restS S S')[n]? = some c → c.live → S'[n]? = some c := fun {n c} e hl => by
    rcases restS_get h e with z | z
    · exact z.1
    · exact absurd hl (hd n c z.1 z.2)
  refine ⟨by rw [restS_len]; exact s'.len, fun i j ci cj a h1 h2 h3 h4 h5 h6 => s'.inj i j ci cj a (lv h1 h3) (lv h2 h4) h3 h4 h5 h6, fun n c a h1 h2 => ?_, fun n c a h1 h2 h3 => s'.nofr n c a (lv h1 h2) h2 h3, s'.there, s'.muts, fun b hb => ?_, s'.tabs⟩
  · rcases restS_get h h1 with ⟨z1, z2⟩ | ⟨z1, z2⟩
    · exact CelR.view (C := C') (C' := C'.at b0 o0) (r := s'.cell n c a z1 h2) (hi := fun _ _ h => h) (hf := fun _ _ h => h) fun vs q => VRs.noFn _ _ z2 q
    · have hn : n < w.ρ.length := by rw [s.len]; exact (List.getElem?_eq_some_iff.mp z1).1
      have ha : w.ρ[n]? = some a := by
        have e0 := List.getElem?_eq_getElem hn
        have := x.toGr.get e0
        rw [h2] at this
        rw [e0, ← this]
      have r := s.cell n c a z1 ha
      have nl := hd n c z1 z2
      cases c with
      | dead => trivial
      | ice xs => exact r.ext x.toGr s.muts (x.frz a (let ⟨_, f, _⟩ := r; f))
      | _ => exact absurd trivial nl
  · obtain ⟨h1, h2⟩ := s'.low b hb
    refine ⟨by rw [restS_len]; exact h1, fun n c hn e => ?_⟩
    rcases restS_get h e with ⟨z1, z2⟩ | ⟨z1, z2⟩
    · exact h2 n c hn z1
    · exact (s.low b hb).2 n c hn z1
theorem okIn_dead {c : Cell} (h : c.okIn = true) (hn : c.noFn = false) : ¬ c.live := by
  unfold Cell.okIn at h
  rw [hn] at h
  cases c <;> first | (simp at h; done) | (intro z; exact z)
/-- a call from a def that makes lambdas, as its callee sees it -/
theorem sp_guard {C : Kt} {κ : Calls} {f : String} {vs : List V} {H : Hp} {Q : VK} {E : XK} {bs : Heap} {o : List (Str × Addr) → List Str → List Nat → Prop} (hb : ∀ a ob, C.base.get? a = some ob → bs.get? a = some ob)
    (h : spOf C (guardK κ) f vs H Q E) : spOf (C.at bs o) κ f vs H Q E := by
  obtain ⟨B, b, w, S, ds, e, s, hB, r, p⟩ := h
  unfold guardK at p
  split at p
  · rename_i hc
    rw [Bool.and_eq_true] at hc
    have hcS : S.all Cell.noLam = true := List.all_eq_true.mpr fun c hm => okIn_nl (List.all_eq_true.mp hc.2 c hm)
    refine ⟨B, b, w, S, ds, e, s.noLam hb hcS, hB, VRs.noLam hb _ _ hc.1 r, ?_⟩
    have hd : ∀ (n : Nat) (c : Cell), S[n]? = some c → c.noFn = false → ¬ c.live := fun n c e hn => okIn_dead (List.all_eq_true.mp hc.2 c (List.mem_of_getElem? e)) hn
    cases q : κ f b ds S with
    | bad => rw [q] at p; exact p
    | ok t S' =>
      rw [q] at p
      obtain ⟨d, fr⟩ := t
      unfold Pi.rest at p
      dsimp only at p
      split at p
      · rename_i hk
        rw [Bool.and_eq_true] at hk
        intro w' v x s' rr
        exact p w' v x (SS.rest (C := C) (C' := C.at bs o) ⟨C.base, C.lx.own, rfl⟩ s hd x s' hk.2) (RR.store (fun n c e hl => restS_live hd hk.2 e hl) (RR.noFn (C := C.at bs o) (bs := C.base) (o := C.lx.own) hk.1 rr))
      · exact p.elim
    | err z S' =>
      rw [q] at p
      unfold Pi.rest at p
      dsimp only at p
      split at p
      · rename_i hk
        rw [Bool.and_eq_true] at hk
        intro w' cls dd x s' xr
        exact p w' cls dd x (SS.rest (C := C) (C' := C.at bs o) ⟨C.base, C.lx.own, rfl⟩ s hd x s' hk.2) (XR.noFn (C := C.at bs o) (bs := C.base) (o := C.lx.own) hk.1 xr)
      · exact p.elim
  · exact p.elim
theorem FnG.imp {P : Program} {w : World} {K : PySem.W.Frag} {mg : Str → Option Value} {base : Heap} {k : Nat} {f : Addr} {fd : FuncData} {ps : List Str} {sp sp' : Sp} (F : FnG P w K mg base k f fd ps sp) (h : ∀ vs H Q E, sp' vs H Q E → sp vs H Q E) : FnG P w K mg base k f fd ps sp' :=
  ⟨fun vs H Q E q => F.len vs H Q E (h _ _ _ _ q), fun A outer s H args us vs Q E hg hr e0 hb r q => F.run A outer s H args us vs Q E hg hr e0 hb r (h _ _ _ _ q)⟩
end Pi
end

section
set_option maxHeartbeats 1000000
/-! PiLam: lambdas are made, called, handed on. -/
namespace Pi
open PySem PySem.Spec PyProof.Rows L2

/-! ### making -/
theorem closure_okP {scope : Scope} {env : Env} (hfree : ∀ y ∈ scope.names, y.2 = .free → ∃ c, env.cells.lookup y.1 = some c) : closureFor scope env = pure (cloFrom env.cells scope.names []) := closure_ok hfree
section
variable {X : Cx} {pins : List (Addr × Obj)} {σ : L2.St} {H : Hp} {s : Shared}
/-- the lambda is made: what has changed -/
theorem lam_mk {c P : Addr} {ps : Array Value} {params : Arguments} {body : Expr} {scope : Scope} {pos : Pos} {E : Value → Shared → Prop} {Q : Value → Shared → Prop} (I : Inv X pins σ H s) (TB : LamX.TabB X.base X.mg c P) (hcode : X.env.code = .ref c)
    (hP : H P = some (.tbl ps)) (ht : TriplesOk ps.toList) (ha : ∀ cv, codeAmong pos ps.toList = some cv → ∃ c, cv = .ref c) (hdef : defaultsOf params X.env = ([], [])) (hfree : ∀ y ∈ scope.names, y.2 = .free → ∃ c, X.env.cells.lookup y.1 = some c)
    (h1 : ∀ (f c' : Addr) (s' : Shared), codeAmong pos ps.toList = some (.ref c') → H f = none →
      Inv X pins σ (upd H f (LamO f ⟨X.env.qual ++ "<lambda>", params, body, scope, []⟩ (cloFrom X.env.cells scope.names []) c')) s' → Q (.ref f) s')
    (h2 : ∀ (f c' : Addr) (s' : Shared), codeAmong pos ps.toList = none → H c' = none → H f = none → f ≠ c' →
      Inv X pins σ (upd (upd (upd H P (.tbl (ps ++ #[rawInt pos.line, rawInt pos.col, .ref c']))) c' (LamX.CodeO c' (X.env.qual ++ "<lambda>"))) f (LamO f ⟨X.env.qual ++ "<lambda>", params, body, scope, []⟩ (cloFrom X.env.cells scope.names []) c')) s' → Q (.ref f) s') :
    wpAny (model X.prog X.w) X.A (eval (.Lambda params body scope pos) X.env) Q E s := by
  refine PySem.W.kla_eval hdef ?_
  have bP : s.heap.BuiltinsAt X.mg P := TB.bm.keeps I.bk
  have hP' : s.heap.get? P = some { cls := .none, data := .fields ps } := I.hok P _ hP
  have okL : ∀ {h : Heap} {H' : Hp} {f c' : Addr} {pm ctv : Value}, h.get? f = some (PySem.W.kla_obj "<lambda>" (X.env.qual ++ "<lambda>") params body scope (cloFrom X.env.cells scope.names []) pm c' ctv) →
      ObjOk X.prog X.w H' h f (LamO f ⟨X.env.qual ++ "<lambda>", params, body, scope, []⟩ (cloFrom X.env.cells scope.names []) c') := fun {h H' f c' pm ctv} e =>
    ⟨⟨pm, ctv, e⟩, ⟨_, e⟩, fun h1 h2 ⟨pm, ctv, a⟩ st => ⟨pm, ctv, st _ a⟩⟩
  cases hc : codeAmong pos ps.toList with
  | none =>
    refine PySem.W.kla_makeFunction (mg := X.mg) (c := c) (P := P) (ps := ps) (closure_ok hfree) I.ok.glob (I.mod.glob.keeps I.bk) hcode (TB.code.keeps I.bk) hP' ht hc TB.gP bP fun c' ctv h' tk hx hge hlt hrec htb => ?_
    obtain ⟨c2, oc, vs, t, e2, hoc, hd, hv⟩ := hrec
    cases e2
    have nC : H c' = none := I.hok.fresh hge
    have I1 := LamX.inv_table (t' := tk) (more := #[rawInt pos.line, rawInt pos.col, .ref c']) (h' := h') I hP hx htb hge ⟨oc, vs, t, hoc, hd, hv⟩
    have hsz : s.heap.objs.size ≤ h'.objs.size := Nat.le_trans hge (Nat.le_of_lt hlt)
    have nf : H h'.objs.size = none := I.hok.fresh hsz
    have I2 := I1.laid (t' := tk) (a := h'.objs.size) (o := LamO h'.objs.size ⟨X.env.qual ++ "<lambda>", params, body, scope, []⟩ (cloFrom X.env.cells scope.names []) c')
      (h' := h'.push (PySem.W.kla_obj "<lambda>" (X.env.qual ++ "<lambda>") params body scope (cloFrom X.env.cells scope.names []) ((X.mg "__name__").getD .none) c' ctv)) (fun b o e => Heap.get?_push_of_some _ e) (Nat.le_refl _) (okL (Heap.get?_push_size _ rfl))
    exact h2 _ c' _ hc nC nf (Nat.ne_of_gt hlt) I2
  | some cv =>
    obtain ⟨c', e⟩ := ha cv hc
    subst e
    refine PySem.W.kla_makeFunctionHit (mg := X.mg) (c := c) (P := P) (ps := ps) (closure_ok hfree) I.ok.glob (I.mod.glob.keeps I.bk) hcode (TB.code.keeps I.bk) hP' ht hc bP fun ctv h' tk hx hsz => ?_
    have I1 : Inv X pins σ H { s with heap := h', toks := tk } := I.kept hx
    have nf : H h'.objs.size = none := I.hok.fresh hsz
    have I2 := I1.laid (t' := tk) (a := h'.objs.size) (o := LamO h'.objs.size ⟨X.env.qual ++ "<lambda>", params, body, scope, []⟩ (cloFrom X.env.cells scope.names []) c')
      (h' := h'.push (PySem.W.kla_obj "<lambda>" (X.env.qual ++ "<lambda>") params body scope (cloFrom X.env.cells scope.names []) ((X.mg "__name__").getD .none) c' ctv)) (fun b o e => Heap.get?_push_of_some _ e) (Nat.le_refl _) (okL (Heap.get?_push_size _ rfl))
    exact h1 _ c' _ hc nf I2
end
/-- a new code object stands in its table -/
abbrev Wd.table (w : Wd) (P c' : Addr) (ps : Array Value) (pos : Pos) (q : Str) : Wd := ⟨w.ρ, fun a => w.F a ∨ a = c', upd (upd w.H P (.tbl (ps ++ #[rawInt pos.line, rawInt pos.col, .ref c']))) c' (LamX.CodeO c' q)⟩
theorem SS.table {C : Kt} {B : Nat → Prop} {S : Store} {w : Wd} {P c' : Addr} {ps : Array Value} {pos : Pos} {q : Str} (s : SS C B S w) (hP : w.H P = some (.tbl ps)) (hm : (P, q) ∈ C.lx.tabs) (hu : ∀ p ∈ C.lx.tabs, p.1 = P → p.2 = q) (hc : w.H c' = none) :
    Ext w (w.table P c' ps pos q) ∧ SS C B S (w.table P c' ps pos q) := by
  have nPc : P ≠ c' := ne_of_none hP hc
  have at_ : ∀ b, b ≠ P → b ≠ c' → (w.table P c' ps pos q).H b = w.H b := fun b h1 h2 => by
    show upd (upd w.H P _) c' _ b = _
    rw [upd_ne h2, upd_ne h1]
  have atP : (w.table P c' ps pos q).H P = some (.tbl (ps ++ #[rawInt pos.line, rawInt pos.col, .ref c'])) := by
    show upd (upd w.H P _) c' _ P = _
    rw [upd_ne nPc, upd_same]
  have nP : ∀ {b : Addr} {o : HO}, w.H b = some o → NT o → b ≠ P := fun {b o} e n z => by
    rw [z, hP] at e
    exact n ps (Option.some.inj e).symm
  have ncc : ∀ {b : Addr} {o : HO}, w.H b = some o → b ≠ c' := fun {b o} e => ne_of_none e hc
  have nF : ¬ w.F P := (s.tabs _ hm).1
  have nFc : ¬ w.F c' := s.F_none hc
  have mutP : ∀ {b : Addr}, b ∈ w.ρ → b ≠ P ∧ b ≠ c' := fun {b} hb => by
    have := s.muts b hb
    refine ⟨fun z => ?_, fun z => ?_⟩
    · rw [z, hP] at this; exact this
    · rw [z, hc] at this; exact this
  have frz : ∀ a, w.F a → (w.table P c' ps pos q).H a = w.H a := fun a hf => by
    obtain ⟨o, e⟩ := s.there a hf
    exact at_ a (by rintro rfl; exact nF hf) (ncc e)
  have x : Ext w (w.table P c' ps pos q) := by
    refine ⟨⟨⟨[], by simp⟩, fun _ h => .inl h, fun a o e _ ht => ?_, frz⟩, fun a o e _ ht => ?_, fun a ps' e => ?_, fun a h n => absurd h n, fun a h => ?_⟩
    · rw [at_ a (nP e ht) (ncc e)]; exact e
    · rw [at_ a (nP e ht) (ncc e)]; exact e
    · by_cases z : a = P
      · subst z; exact ⟨_, atP⟩
      · exact ⟨ps', by rw [at_ a z (ncc e)]; exact e⟩
    · rcases h with h | rfl
      · exact .inl h
      · exact .inr (.inl hc)
  refine ⟨x, s.len, s.inj, fun n c a h1 h2 => ?_, fun n c a h1 h2 h3 => ?_, fun a h => ?_, fun a h => ?_, s.low, fun p hp => ?_⟩
  · obtain ⟨z1, z2⟩ := mutP (List.mem_of_getElem? h2)
    exact (s.cell n c a h1 h2).ext x.toGr s.muts (at_ a z1 z2)
  · rintro (z | z)
    · exact s.nofr n c a h1 h2 h3 z
    · exact (mutP (List.mem_of_getElem? h3)).2 z
  · rcases h with h | rfl
    · obtain ⟨o, e⟩ := s.there a h
      exact ⟨o, by rw [frz a h]; exact e⟩
    · exact ⟨_, upd_same⟩
  · obtain ⟨z1, z2⟩ := mutP (show a ∈ w.ρ from h)
    rw [at_ a z1 z2]
    exact s.muts a h
  · obtain ⟨n, ps', e1, e2, e3⟩ := s.tabs p hp
    refine ⟨?_, ?_⟩
    · rintro (z | z)
      · exact n z
      · rw [z, hc] at e1; cases e1
    · by_cases hb : p.1 = P
      · have e1' := e1
        rw [hb, hP] at e1'
        cases e1'
        refine ⟨_, by rw [hb]; exact atP, ?_, fun pos' cv hcv => ?_⟩
        · have : (ps ++ #[rawInt pos.line, rawInt pos.col, .ref c']).toList = ps.toList ++ [rawInt pos.line, rawInt pos.col, .ref c'] := by simp
          rw [this]
          exact PySem.TriplesOk_snoc _ _ _ _ e2
        · have : (ps ++ #[rawInt pos.line, rawInt pos.col, .ref c']).toList = ps.toList ++ [rawInt pos.line, rawInt pos.col, .ref c'] := by simp
          rw [this] at hcv
          rcases LamX.among_app _ e2 hcv with z | z
          · obtain ⟨c0, k1, k2, k3⟩ := e3 pos' cv z
            exact ⟨c0, k1, .inl k2, by rw [frz c0 k2]; exact k3⟩
          · refine ⟨c', z, .inr rfl, ?_⟩
            rw [hu p hp hb]
            exact upd_same
      · refine ⟨ps', by rw [at_ p.1 hb (ncc e1)]; exact e1, e2, fun pos' cv hcv => ?_⟩
        obtain ⟨c0, k1, k2, k3⟩ := e3 pos' cv hcv
        exact ⟨c0, k1, .inl k2, by rw [frz c0 k2]; exact k3⟩

section
variable {CL : List String × List (String × String) × Lx} {X : Cx} {E : XK} {κ : Calls} {b : Nat} {k : String} {js : List Nat}
theorem lamO_nt {f c' : Addr} {t : LamT} {cl : List (Str × Addr)} : NT (LamO f t cl c') := fun ps z => by
  unfold LamO at z
  cases z
theorem re_lam {c P : Addr} {params : Arguments} {body : Expr} {scope : Scope} {pos : Pos} {fr : List Str} (TB : LamX.TabB X.base X.mg c P) (hcode : X.env.code = .ref c) (hm : (P, X.env.qual ++ "<lambda>") ∈ CL.2.2.tabs) (hu : ∀ p ∈ CL.2.2.tabs, p.1 = P → p.2 = X.env.qual ++ "<lambda>")
    (hdef : defaultsOf params X.env = ([], [])) (hfree : ∀ y ∈ scope.names, y.2 = .free → X.env.scope.names.lookup y.1 = some .cell ∨ X.env.scope.names.lookup y.1 = some .free)
    (hlm : CL.2.2.lm k js ⟨X.env.qual ++ "<lambda>", params, body, scope, fr⟩) (hown : X.Ok → CL.2.2.own (cloFrom X.env.cells scope.names []) fr js) :
    PE X (.Lambda params body scope pos) (tI (kt CL X) E κ b (.lam k js)) := by
  refine ⟨fun pins s σ H Q I ⟨B, w, S, env, a, h⟩ => ?_⟩
  have h' : Po (kt CL X) E B (rlD (kt CL X) false) w (.ok (.lam k js) S) Q := h
  have eH := a.hp
  subst eH
  obtain ⟨nF, ps, hP, ht, hco⟩ := a.ss.tabs _ hm
  have hP : w.H P = some (.tbl ps) := hP
  have hf : ∀ y ∈ scope.names, y.2 = .free → ∃ c, X.env.cells.lookup y.1 = some c := fun y hy e => (hfree y hy e).elim (fun z => I.ok.has _ (.inl z)) fun z => I.ok.has _ (.inr z)
  -- the function's own object
  have last : ∀ (w1 : Wd) (f c' : Addr), Ext w w1 → SS (kt CL X) B S w1 → w1.H f = none → w1.F c' → w1.H c' = some (LamX.CodeO c' (X.env.qual ++ "<lambda>")) →
      Q (.ref f) (upd w1.H f (LamO f ⟨X.env.qual ++ "<lambda>", params, body, scope, []⟩ (cloFrom X.env.cells scope.names []) c')) := fun w1 f c' x1 s1 n1 f1 c1 => by
    have n2 : c' ≠ f := ne_of_none c1 n1
    have s2 := (s1.put (o := LamO f ⟨X.env.qual ++ "<lambda>", params, body, scope, []⟩ (cloFrom X.env.cells scope.names []) c') n1).ice (p := f) upd_same lamO_nt fun n c h1 h2 h3 => s1.in_none n1 (List.mem_of_getElem? h3)
    have x2 : Ext w1 ((w1.put f (LamO f ⟨X.env.qual ++ "<lambda>", params, body, scope, []⟩ (cloFrom X.env.cells scope.names []) c')).ice f) := (s1.ext_put n1).ice (.inl n1)
    refine h' _ (.ref f) (x1.trans x2) s2 (rr_of ?_)
    unfold VR
    refine ⟨f, c', cloFrom X.env.cells scope.names [], ⟨X.env.qual ++ "<lambda>", params, body, scope, fr⟩, rfl, hlm, .inr rfl, ?_, .inl f1, ?_, hown I.ok⟩
    · exact upd_same
    · show upd w1.H f _ c' = _
      rw [upd_ne n2]; exact c1
  refine lam_mk I TB hcode hP ht (fun cv e => let ⟨c0, e0, _⟩ := hco pos cv e; ⟨c0, e0⟩) hdef hf (fun f c' s' hc nf J => ?_) (fun f c' s' hc nc nf nfc J => ?_)
  · obtain ⟨c0, e0, k1, k2⟩ := hco pos _ hc
    cases e0
    exact ⟨.ref f, _, J, rfl, last w f c' (.refl w) a.ss nf k1 k2⟩
  · obtain ⟨x1, s1⟩ := a.ss.table (pos := pos) hP hm hu nc
    have n1 : (w.table P c' ps pos (X.env.qual ++ "<lambda>")).H f = none := by
      show upd (upd w.H P _) c' _ f = none
      rw [upd_ne nfc, upd_ne (Ne.symm (ne_of_none hP nf))]; exact nf
    exact ⟨.ref f, _, J, rfl, last _ f c' x1 s1 n1 (.inr rfl) upd_same⟩

/-! ### calling -/
/-- a lambda's promise: ws, what it has captured -/
structure LamG (P : Program) (w : World) (K : PySem.W.Frag) (mg : Str → Option Value) (base : Heap) (k : Nat) (t : LamT) (sp : Sp) : Prop where
  run : ∀ (A : Around) (outer : List Env) (s : Shared) (H : Hp) (f c' : Addr) (cl : List (Str × Addr)) (ws : List V) (Q : VK) (E : XK), A.guards = some [] → Room k A → Env0 P w K mg base A outer s H → H f = some (LamO f t cl c') → H c' = some (LamX.CodeO c' t.qual) →
    NdefX.CellsAt cl t.fr (ws.map some) s.heap H → sp ws H Q E → codeAny (model P w) A (.call (.ref f) ⟨[], []⟩) (CR (L2.CX P w) outer P w H s Q E) s
theorem LamG.imp {P : Program} {w : World} {K : PySem.W.Frag} {mg : Str → Option Value} {base : Heap} {k : Nat} {t : LamT} {sp sp' : Sp} (F : LamG P w K mg base k t sp) (h : ∀ vs H Q E, sp' vs H Q E → sp vs H Q E) : LamG P w K mg base k t sp' :=
  ⟨fun A outer s H f c' cl ws Q E hg hr e0 hf hc C q => F.run A outer s H f c' cl ws Q E hg hr e0 hf hc C (h _ _ _ _ q)⟩
theorem re_act {i : Nat} {x : Str} {p pos : Pos} {kd : Nat} (hgd : X.A.guards = some []) (L : ∀ k js t, CL.2.2.lm k js t → LamG X.prog X.w X.K X.mg X.base kd t (spOf (kt CL X) κ k)) (hr : Room kd X.A) (hx : PassG X E) (hN : X.N[i]? = some x) (hv : Vis X.env.scope x)
    (hd : (x == ("__debug__" : Str)) = false) (hcd : (x == ("__classdict__" : Str)) = false) : PE X (.Call (.Name x p) [] [] pos) (tI (kt CL X) E κ b (.act i)) := by
  refine ⟨fun pins s σ H Q I ⟨B, w, S, env, a, h⟩ => ?_⟩
  have h' : Po (kt CL X) E B (rlD (kt CL X) false) w (match env[i]? with
      | some (some (.clo k ws)) => (κ k b ws S).bind fun r S => .ok r.1 S
      | _ => .bad) Q := h
  have eH := a.hp
  subst eH
  split at h'
  · rename_i k ws e
    obtain ⟨v, e1, r⟩ := a.ee.slot i _ e
    unfold VR at r
    obtain ⟨f, c', cl, t, js, vs, rfl, h0, h1, h2, h3, h4, h5, h6, h7, h8, h9⟩ := r
    refine wpAny_Call_Name_kw (thn ((pe_var (pos := p) (i := i) hN hv hd hcd).run pins s σ w.H (fun v H1 => v = .ref f ∧ H1 = w.H) I ⟨.ref f, e1, rfl, rfl⟩) fun u s1 ⟨v, H1, I1, r1, q1⟩ => ?_)
    obtain ⟨ev, eH⟩ := q1
    subst ev
    rw [eH] at I1
    obtain rfl : u = Value.ref f := r1
    obtain ⟨⟨pm, ctv, of1⟩, _, _⟩ := I1.hok f _ h2
    refine PySem.W.callWith_F0 ⟨_, _, _, _, of1⟩ ?_
    have cells : NdefX.CellsAt cl t.fr (vs.map some) s1.heap w.H := by
      refine ⟨by simp [h6], fun y c e => ?_, h8, fun i y e => ?_⟩
      · obtain ⟨u, o, z1, z2⟩ := h7 y c e
        obtain ⟨b1, b2⟩ := I1.bs c o z1
        exact ⟨b2, u, o, b1, z2⟩
      · have hi : i < vs.length := by rw [h6]; exact (List.getElem?_eq_some_iff.mp e).1
        obtain ⟨c, u, z1, z2, o, z3, z4⟩ := h9 i y vs[i] e (List.getElem?_eq_getElem hi)
        refine ⟨c, z1, fun v ev => ⟨u, ?_, o, (I1.bs c o z3).1, z4⟩⟩
        rw [List.getElem?_map, List.getElem?_eq_getElem hi] at ev
        cases ev
        exact z2
    have sp : spOf (kt CL X) κ k vs w.H Q E := sp_of a.ss a.bb h5 h'
    refine wpAny_call (codeAny_mono ((L k js t h0).run X.A X.stack s1 w.H f c' cl vs Q E hgd hr I1.env0 h2 h4 cells sp) fun r s' hq => ?_)
    cases r with
    | error e => exact hx pins σ w.H s1 e s' I1 hq
    | ok fl =>
      cases fl with
      | ret u => exact I1.after hq
      | next => exact False.elim hq
      | brk => exact False.elim hq
      | cont => exact False.elim hq
  · exact h'.elim
end
end Pi
end

section
set_option maxHeartbeats 1000000
/-! PiCallS: a def that makes lambdas hands them to a callee: the callee's base holds the cells. -/
namespace Pi
open PySem PySem.Spec PyProof.Rows L2

section
variable {X : Cx} {pins : List (Addr × Obj)} {σ : L2.St} {H : Hp} {s : Shared}
theorem funFrames_base {h base base' : Heap} : ∀ {l : List Env}, h.FunFrames base l → (∀ b ∈ frs l, base'.get? b = none) → h.FunFrames base' l
  | [], _, _ => trivial
  | env :: rest, hl, hb => by
    obtain ⟨hk, ⟨L, o, hf, hn, ho, hd⟩, hr⟩ := hl
    have hm : frs (env :: rest) = L :: frs rest := by unfold frs; rw [List.filterMap_cons, hf]
    exact ⟨hk, ⟨L, o, hf, hb L (by rw [hm]; simp), ho, hd⟩, funFrames_base hr fun b q => hb b (by rw [hm]; exact List.mem_cons_of_mem _ q)⟩
/-- a base that holds all that is not tracked and no frame's -/
theorem more_base (I : Inv X pins σ H s) : ∃ base' : Heap, (∀ b o, X.base.get? b = some o → base'.get? b = some o) ∧ Env0 X.prog X.w X.K X.mg base' X.A X.stack s H ∧ (∀ b o, s.heap.get? b = some o → H b = none → b ∉ frs X.stack → base'.get? b = some o) := by
  classical
  have e0 := I.env0
  generalize hH : (fun b => if b ∈ frs X.stack then some (HO.tup []) else H b : Hp) = H'
  have n' : ∀ {b : Addr}, H b = none → b ∉ frs X.stack → H' b = none := fun {b} h1 h2 => by rw [← hH]; simp [h1, h2]
  have of' : ∀ {b : Addr}, H' b = none → H b = none ∧ b ∉ frs X.stack := fun {b} h => by
    rw [← hH] at h
    by_cases hb : b ∈ frs X.stack
    · simp [hb] at h
    · simp [hb] at h; exact ⟨h, hb⟩
  have sub : ∀ b o, X.base.get? b = some o → (hidT s.heap H').get? b = some o := fun b o e => by
    obtain ⟨h1, h2⟩ := e0.bs b o e
    refine hidT_get h1 (n' h2 fun hb => ?_)
    have := (e0.funs.mem hb).1
    rw [e] at this; cases this
  have nsK : ∀ {b : Addr} {m : Str → Option Value}, X.base.Ns b m → (hidT s.heap H').Ns b m := fun {b m} ⟨o, es, ep, e, d, r⟩ => ⟨o, es, ep, sub _ _ e, d, r⟩
  refine ⟨hidT s.heap H', sub, ⟨e0.frames, ⟨fun b o e => sub b o (e0.mod.kin b o e), nsK e0.mod.glob, ?_, ?_⟩, fun b o e => ?_, Nat.le_of_eq (hidT_size _ _), funFrames_base e0.funs fun b hb => ?_, e0.frf, e0.hok, e0.bare⟩, fun b o e h1 h2 => hidT_get e (n' h1 h2)⟩
  · obtain ⟨mb, h1, h2⟩ := e0.mod.blt
    exact ⟨mb, nsK h1, h2⟩
  · obtain ⟨mc, h1, h2⟩ := e0.mod.nolimit
    exact ⟨mc, nsK h1, h2⟩
  · obtain ⟨h1, h2⟩ := of_hidT e
    exact ⟨h1, (of' h2).1⟩
  · cases e : (hidT s.heap H').get? b with
    | none => rfl
    | some o => exact absurd hb (of' (of_hidT e).2).2
/-- an own cell is no frame -/
theorem cell_nofr (I : Inv X pins σ H s) {y : Str} {c : Addr} (hfn : X.fn y = true) (e : X.env.cells.lookup y = some c) : c ∉ frs X.stack := fun hm => by
  have h1 := I.ok.cab y c hfn e
  rcases List.mem_cons.mp (I.stkSub _ hm) with z | z
  · exact I.cne y c e z
  · obtain ⟨_, o, ho, _⟩ := I.ok.funs.mem z
    exact Nat.lt_irrefl _ (Nat.lt_of_lt_of_le (Heap.lt_size ho) h1)
end
/-- the cells that freeze: those that hold a function -/
abbrev Wd.fell (w : Wd) (S : Store) : Wd := ⟨w.ρ, fun a => w.F a ∨ ∃ (n : Nat) (xs : List D), S[n]? = some (.lst xs) ∧ D.noFns xs = false ∧ w.ρ[n]? = some a, w.H⟩
theorem toIce_inv {c0 c : Cell} (e : c0.toIce = c) : (c = c0 ∧ (c.noFn = true ∨ ∃ xs, c = .ice xs)) ∨ (∃ xs, c0 = .lst xs ∧ c = .ice xs ∧ D.noFns xs = false) ∨ c = .dead := by
  subst e
  cases c0 with
  | lst xs =>
    unfold Cell.toIce
    dsimp only
    split
    · rename_i h; exact .inl ⟨rfl, .inl h⟩
    · rename_i h; exact .inr (.inl ⟨xs, rfl, rfl, by simpa using h⟩)
  | ice xs => exact .inl ⟨rfl, .inr ⟨xs, rfl⟩⟩
  | dead => exact .inr (.inr rfl)
  | dct ks vs =>
    unfold Cell.toIce
    dsimp only
    split
    · rename_i h; exact .inl ⟨rfl, .inl h⟩
    · exact .inr (.inr rfl)
  | ins c ns vs =>
    unfold Cell.toIce
    dsimp only
    split
    · rename_i h; exact .inl ⟨rfl, .inl h⟩
    · exact .inr (.inr rfl)
theorem SS.fell {C : Kt} {B : Nat → Prop} {S : Store} {w : Wd} (s : SS C B S w) : Ext w (w.fell S) ∧ SS C B (S.map Cell.toIce) (w.fell S) := by
  have x : Ext w (w.fell S) := ⟨⟨⟨[], by simp⟩, fun _ h => .inl h, fun _ _ e _ _ => e, fun _ _ => rfl⟩, fun _ _ e _ _ => e, fun _ ps e => ⟨ps, e⟩, fun a h n => absurd h n, fun a h => by
    rcases h with h | ⟨n, xs, _, _, h⟩
    · exact .inl h
    · exact .inr (.inr (List.mem_of_getElem? h))⟩
  have g0 : ∀ {n : Nat} {c : Cell}, (S.map Cell.toIce)[n]? = some c → ∃ c0, S[n]? = some c0 ∧ c0.toIce = c := fun {n c} e => by
    rw [List.getElem?_map] at e
    cases q : S[n]? with
    | none => rw [q] at e; cases e
    | some c0 => rw [q] at e; exact ⟨c0, rfl, Option.some.inj e⟩
  have g1 : ∀ {n : Nat} {c : Cell}, (S.map Cell.toIce)[n]? = some c → c.live → S[n]? = some c ∧ c.noFn = true := fun {n c} e hl => by
    obtain ⟨c0, q, e⟩ := g0 e
    rcases toIce_inv e with ⟨rfl, h | ⟨xs, rfl⟩⟩ | ⟨xs, _, rfl, _⟩ | rfl
    · exact ⟨q, h⟩
    · exact hl.elim
    · exact hl.elim
    · exact hl.elim
  refine ⟨x, by rw [List.length_map]; exact s.len, fun i j ci cj a h1 h2 h3 h4 h5 h6 => s.inj i j ci cj a (g1 h1 h3).1 (g1 h2 h4).1 h3 h4 h5 h6, fun n c a h1 h2 => ?_, fun n c a h1 h2 h3 => ?_, fun a h => ?_, s.muts, fun b hb => ?_, fun p hp => ?_⟩
  · obtain ⟨c0, q, e⟩ := g0 h1
    have r := (s.cell n c0 a q h2).ext x.toGr s.muts rfl
    rcases toIce_inv e with ⟨rfl, _⟩ | ⟨xs, rfl, rfl, hn⟩ | rfl
    · exact r
    · obtain ⟨vs, k1, k2⟩ := r
      exact ⟨vs, .inr ⟨n, xs, q, hn, h2⟩, k1, k2⟩
    · trivial
  · obtain ⟨q1, q2⟩ := g1 h1 h2
    rintro (z | ⟨m, xs, e1, e2, e3⟩)
    · exact s.nofr n c a q1 h2 h3 z
    · have := s.inj n m c _ a q1 e1 h2 (by trivial) h3 e3
      subst this
      rw [q1] at e1
      cases e1
      rw [show Cell.noFn (.lst xs) = D.noFns xs from rfl, e2] at q2
      cases q2
  · rcases h with h | ⟨n, xs, e1, e2, e3⟩
    · exact s.there a h
    · obtain ⟨vs, q, _⟩ := s.cell n _ a e1 e3
      exact ⟨_, q⟩
  · obtain ⟨h1, h2⟩ := s.low b hb
    refine ⟨by rw [List.length_map]; exact h1, fun n c hn e => ?_⟩
    obtain ⟨c0, q, e⟩ := g0 e
    rcases toIce_inv e with ⟨rfl, _⟩ | ⟨xs, rfl, rfl, _⟩ | rfl
    · exact h2 n c hn q
    · exact (show D.refsBs b (Cell.lst xs).vals = true from h2 n _ hn q)
    · rfl
  · obtain ⟨nf, ps, e, r⟩ := s.tabs p hp
    refine ⟨?_, ps, e, r.1, fun pos cv q => ?_⟩
    · rintro (z | ⟨n, xs, _, _, z⟩)
      · exact nf z
      · have := s.muts _ (List.mem_of_getElem? z)
        rw [e] at this; exact this
    · obtain ⟨c, h1, h2, h3⟩ := r.2 pos cv q
      exact ⟨c, h1, .inl h2, h3⟩

section
variable {CL : List String × List (String × String) × Lx} {X : Cx} {E : XK} {κ : Calls} {b : Nat} {pins : List (Addr × Obj)} {σ : L2.St} {s : Shared} {w : Wd} {env : Slots} {base' : Heap}
/-- what is captured, as the slots have it -/
theorem caught {C : Kt} (ee : EE C env σ w) : ∀ {js : List Nat} {ws : List D}, (js.mapM fun j => env[j]?.bind id) = some ws → ∃ vs, VRs C w ws vs ∧ vs.length = js.length ∧ ∀ (i : Nat) (v : V), vs[i]? = some v → (js.map (NdefX.slotAt σ))[i]? = some (some v)
  | [], ws, h => by
    simp at h; subst h
    exact ⟨[], .nil, rfl, fun i v e => by simp at e⟩
  | j :: js, ws, h => by
    rw [List.mapM_cons] at h
    cases e1 : env[j]?.bind id with
    | none => rw [e1] at h; simp at h
    | some d =>
      rw [e1] at h
      cases e2 : (js.mapM fun j => env[j]?.bind id) with
      | none => rw [e2] at h; simp at h
      | some ds =>
        rw [e2] at h
        simp at h; subst h
        obtain ⟨vs, r, hl, hv⟩ := caught ee e2
        have e3 : env[j]? = some (some d) := by
          cases q : env[j]? with
          | none => rw [q] at e1; cases e1
          | some o => rw [q] at e1; exact congrArg some e1
        obtain ⟨v, k1, k2⟩ := ee.slot j d e3
        refine ⟨v :: vs, .cons k2 r, by simp [hl], fun i v' e => ?_⟩
        cases i with
        | zero =>
          simp at e; subst e
          simp only [List.map_cons, List.getElem?_cons_zero]
          unfold NdefX.slotAt
          rw [k1]
        | succ i => simpa using hv i v' (by simpa using e)
mutual
/-- a value as the callee sees it -/
theorem VR.conv (I : Inv X pins σ w.H s) (ee : EE (kt CL X) env σ w) (hb : ∀ b o, X.base.get? b = some o → base'.get? b = some o) (hc : ∀ b o, s.heap.get? b = some o → w.H b = none → b ∉ frs X.stack → base'.get? b = some o) (hfn : ∀ y, X.fn y = true)
    (hown : ∀ cl fr js, CL.2.2.own cl fr js → NdefX.Caps X cl fr js) : ∀ (d d' : D) (v : V), D.conv env d = some d' → VR (kt CL X) w d v → VR ((kt CL X).at base' own0) w d' v
  | .tup xs, d', v, e, h => by
    unfold D.conv at e
    cases q : D.convs env xs with
    | none => rw [q] at e; cases e
    | some ys =>
      rw [q] at e; cases e
      unfold VR at h ⊢
      obtain ⟨a, vs, e, h1, h2⟩ := h
      exact ⟨a, vs, e, h1, VRs.conv I ee hb hc hfn hown xs ys vs q h2⟩
  | .lst xs, d', v, e, h => by
    unfold D.conv at e
    cases q : D.convs env xs with
    | none => rw [q] at e; cases e
    | some ys =>
      rw [q] at e; cases e
      unfold VR at h ⊢
      obtain ⟨a, vs, e, hf, h1, h2⟩ := h
      exact ⟨a, vs, e, hf, h1, VRs.conv I ee hb hc hfn hown xs ys vs q h2⟩
  | .lam k js, d', v, e, h => by
    unfold D.conv at e
    cases q : (js.mapM fun j => env[j]?.bind id) with
    | none => rw [q] at e; cases e
    | some ws =>
      rw [q] at e
      simp only [Option.bind_some] at e
      split at e
      · rename_i hn
        cases e
        obtain ⟨vs, r, hl, hv⟩ := caught ee q
        unfold VR at h
        obtain ⟨f, c', cl, t, rfl, h0, h1, h2, h3, h4, h5⟩ := h
        have cp := hown cl t.fr js h5
        have C := NdefX.cells_of I cp
        have hjl : js.length = t.fr.length := by simpa using congrArg List.length cp.at_
        have celB : ∀ {y : Str} {c : Addr} {u : Option Value}, cl.lookup y = some c → s.heap.IsCell c u → base'.IsCell c u := fun {y c u} e1 ⟨o, e2, e3⟩ => ⟨o, hc c o e2 (C.all y c e1).1 (cell_nofr I (hfn y) (cp.sub y c e1)), e3⟩
        unfold VR
        refine ⟨f, c', cl, t, js, vs, rfl, h0, h1, h2, h3, h4, VRs.noFn _ _ hn r, by omega, fun y c e => ?_, C.inj, fun i y v e1 e2 => ?_⟩
        · obtain ⟨_, u, z⟩ := C.all y c e
          exact ⟨u, celB e z⟩
        · obtain ⟨c, k1, k2⟩ := C.has i y e1
          obtain ⟨u, k3, k4⟩ := k2 v (hv i v e2)
          exact ⟨c, u, k1, k3, celB k1 k4⟩
      · cases e
  | .clo k ws, d', v, e, h => by
    unfold D.conv at e
    split at e
    · rename_i hn
      cases e
      exact VR.noLam hb _ _ (by unfold D.noLam; exact hn) h
    · cases e
  | .non, d', v, e, h => by
    unfold D.conv at e
    simp [D.noFn] at e; subst e
    exact VR.noFn _ _ rfl h
  | .bl _, d', v, e, h => by
    unfold D.conv at e
    simp [D.noFn] at e; subst e
    exact VR.noFn _ _ rfl h
  | .int _, d', v, e, h => by
    unfold D.conv at e
    simp [D.noFn] at e; subst e
    exact VR.noFn _ _ rfl h
  | .str _, d', v, e, h => by
    unfold D.conv at e
    simp [D.noFn] at e; subst e
    exact VR.noFn _ _ rfl h
  | .scr xs, d', v, e, h => by
    unfold D.conv at e
    split at e
    · rename_i hn
      cases e
      exact VR.noFn _ _ hn h
    · cases e
  | .dct ks vs, d', v, e, h => by
    unfold D.conv at e
    split at e
    · rename_i hn
      cases e
      exact VR.noFn _ _ hn h
    · cases e
  | .ins c ks vs, d', v, e, h => by
    unfold D.conv at e
    split at e
    · rename_i hn
      cases e
      exact VR.noFn _ _ hn h
    · cases e
  | .obj n, d', v, e, h => by
    unfold D.conv at e
    simp [D.noFn] at e; subst e
    exact VR.noFn _ _ rfl h
  | .glob n, d', v, e, h => by
    unfold D.conv at e
    simp [D.noFn] at e; subst e
    exact VR.noFn _ _ rfl h
  | .ty n, d', v, e, h => by
    unfold D.conv at e
    simp [D.noFn] at e; subst e
    exact VR.noFn _ _ rfl h
theorem VRs.conv (I : Inv X pins σ w.H s) (ee : EE (kt CL X) env σ w) (hb : ∀ b o, X.base.get? b = some o → base'.get? b = some o) (hc : ∀ b o, s.heap.get? b = some o → w.H b = none → b ∉ frs X.stack → base'.get? b = some o) (hfn : ∀ y, X.fn y = true)
    (hown : ∀ cl fr js, CL.2.2.own cl fr js → NdefX.Caps X cl fr js) : ∀ (ds ds' : List D) (vs : List V), D.convs env ds = some ds' → VRs (kt CL X) w ds vs → VRs ((kt CL X).at base' own0) w ds' vs
  | [], ds', vs, e, h => by
    unfold D.convs at e
    cases e
    have := h.inv0
    subst this
    exact .nil
  | d :: ds, ds', vs, e, h => by
    unfold D.convs at e
    split at e
    · rename_i y ys e1 e2
      cases e
      obtain ⟨v, r, rfl, h1, h2⟩ := h.inv
      exact .cons (VR.conv I ee hb hc hfn hown d y v e1 h1) (VRs.conv I ee hb hc hfn hown ds ys r e2 h2)
    · cases e
end
theorem SS.conv {B : Nat → Prop} {S : Store} (ss : SS (kt CL X) B S w) (hi : ∀ c ∈ S, c.noFn = true ∨ ¬ c.live) (I : Inv X pins σ w.H s) (ee : EE (kt CL X) env σ w) (hb : ∀ b o, X.base.get? b = some o → base'.get? b = some o) (hc : ∀ b o, s.heap.get? b = some o → w.H b = none → b ∉ frs X.stack → base'.get? b = some o) (hfn : ∀ y, X.fn y = true)
    (hown : ∀ cl fr js, CL.2.2.own cl fr js → NdefX.Caps X cl fr js) : SS ((kt CL X).at base' own0) B (S.map (Cell.conv env)) w := by
  have g0 : ∀ {n : Nat} {c : Cell}, (S.map (Cell.conv env))[n]? = some c → ∃ c0, S[n]? = some c0 ∧ c0.conv env = c := fun {n c} e => by
    rw [List.getElem?_map] at e
    cases q : S[n]? with
    | none => rw [q] at e; cases e
    | some c0 => rw [q] at e; exact ⟨c0, rfl, Option.some.inj e⟩
  have g2 : ∀ {c0 c : Cell}, c0.conv env = c → (c = c0 ∧ ((∀ xs, c0 ≠ .ice xs) ∨ c0.noFn = true)) ∨ c = .dead ∨ ∃ xs ys, c0 = .ice xs ∧ c = .ice ys ∧ D.convs env xs = some ys ∧ D.refsBs 0 ys = true := fun {c0 c} e => by
    subst e
    cases c0 with
    | ice xs =>
      unfold Cell.conv
      dsimp only
      split
      · rename_i h; exact .inl ⟨rfl, .inr h⟩
      · split
        · rename_i ys e
          split
          · rename_i h; exact .inr (.inr ⟨xs, ys, rfl, rfl, e, h⟩)
          · exact .inr (.inl rfl)
        · exact .inr (.inl rfl)
    | _ => exact .inl ⟨rfl, .inl (fun xs z => by cases z)⟩
  have g1 : ∀ {n : Nat} {c : Cell}, (S.map (Cell.conv env))[n]? = some c → c.live → S[n]? = some c := fun {n c} e hl => by
    obtain ⟨c0, q, e⟩ := g0 e
    rcases g2 e with ⟨rfl, _⟩ | rfl | ⟨xs, ys, _, rfl, _⟩
    · exact q
    · exact hl.elim
    · exact hl.elim
  refine ⟨by rw [List.length_map]; exact ss.len, fun i j ci cj a h1 h2 h3 h4 h5 h6 => ss.inj i j ci cj a (g1 h1 h3) (g1 h2 h4) h3 h4 h5 h6, fun n c a h1 h2 => ?_, fun n c a h1 h2 h3 => ss.nofr n c a (g1 h1 h2) h2 h3, ss.there, ss.muts, fun b hb => ?_, ss.tabs⟩
  · obtain ⟨c0, q, e⟩ := g0 h1
    have r := ss.cell n c0 a q h2
    rcases g2 e with ⟨rfl, hx⟩ | rfl | ⟨xs, ys, rfl, rfl, e2, _⟩
    · have hn : c.noFn = true ∨ c = .dead := by
        rcases hx with hx | hx
        · rcases hi c (List.mem_of_getElem? q) with z | z
          · exact .inl z
          · cases c with
            | dead => exact .inr rfl
            | ice xs => exact absurd rfl (hx xs)
            | _ => exact absurd trivial z
        · exact .inl hx
      rcases hn with hn | rfl
      · exact CelR.view (C := kt CL X) (C' := (kt CL X).at base' own0) (r := r) (hi := fun _ _ h => h) (hf := fun _ _ h => h) fun vs q => VRs.noFn _ _ hn q
      · trivial
    · trivial
    · obtain ⟨vs, k0, k1, k2⟩ := r
      exact ⟨vs, k0, k1, VRs.conv I ee hb hc hfn hown xs ys vs e2 k2⟩
  · obtain ⟨h1, h2⟩ := ss.low b hb
    refine ⟨by rw [List.length_map]; exact h1, fun n c hn e => ?_⟩
    obtain ⟨c0, q, e⟩ := g0 e
    rcases g2 e with ⟨rfl, _⟩ | rfl | ⟨xs, ys, rfl, rfl, _, hr⟩
    · exact h2 n c hn q
    · rfl
    · exact D.refsBs_mono (Nat.zero_le _) _ hr
/-- f(..) from a def that makes lambdas -/
theorem re_callS {es : List Expr} {is : List IE} {pos p : Pos} {kd : Nat} {y : Str} {f : String} {fa : Addr} {fd : FuncData} {ps : List Str} {κ0 : Calls} (hgd : X.A.guards = some [])
    (F : ∀ base' : Heap, (∀ b o, X.base.get? b = some o → base'.get? b = some o) → FnG X.prog X.w X.K X.mg base' kd fa fd ps (spOf ((kt CL X).at base' own0) κ0 f)) (hκ : κ = guardK κ0) (hr : Room kd X.A) (hg : Gl X y) (hm : X.mg y = some (.ref fa)) (hk : PySem.W.keepIn X.K (.ref fa) = true) (hbd : Binds X.K fd ps []) (hx : PassG X E) (hfn : ∀ y, X.fn y = true)
    (hown : ∀ cl fr js, CL.2.2.own cl fr js → NdefX.Caps X cl fr js) (ha : PA X es (tIs (kt CL X) E κ b is)) (hl : es = [] → is = []) (hns : es.all notStar = true) (hdb : (y == ("__debug__" : Str)) = false) : PE X (.Call (.Name y p) es [] pos) (tI (kt CL X) E κ b (.callS f is)) := by
  refine ⟨fun pins s σ H Q I ⟨B, w, S, env, a, h⟩ => ?_⟩
  have h' : Po (kt CL X) E B (rlD (kt CL X) false) w ((evEs κ b is env S).bind fun us S => match D.convs env us with
      | some us' => (restR (S.map Cell.toIce) (κ f b us' ((S.map Cell.toIce).map (Cell.conv env)))).bind fun r S => .ok r.1 S
      | none => .bad) Q := h
  -- the call itself
  have fin : ∀ {w1 : Wd} {S1 : Store} {ds : List D} {vs : List V} {us : List Value} {s1 : Shared}, At (kt CL X) B b S1 env w1 σ w1.H → VRs (kt CL X) w1 ds vs → Po (kt CL X) E B (rlD (kt CL X) false) w1 (match D.convs env ds with
      | some us' => (restR (S1.map Cell.toIce) (κ f b us' ((S1.map Cell.toIce).map (Cell.conv env)))).bind fun r S => .ok r.1 S
      | none => .bad) Q → Inv X pins σ w1.H s1 → Vals vs us → wpAny (model X.prog X.w) X.A (call (.ref fa) us) (EP X pins σ Q) X.xe s1 := fun {w1 S1 ds vs us s1} a1 r1 p1 I1 rv => by
    split at p1
    · rename_i us' hc
      obtain ⟨base', hb1, e0, hb2⟩ := more_base I1
      obtain ⟨x, s2⟩ := SS.fell a1.ss
      have hi2 : ∀ c ∈ S1.map Cell.toIce, c.noFn = true ∨ ¬ c.live := fun c hm => by
        obtain ⟨c0, _, e⟩ := List.mem_map.mp hm
        rcases toIce_inv e with ⟨_, h | ⟨xs, rfl⟩⟩ | ⟨xs, _, rfl, _⟩ | rfl
        · exact .inl h
        · exact .inr (fun z => z)
        · exact .inr (fun z => z)
        · exact .inl rfl
      have ee2 : EE (kt CL X) env σ (w1.fell S1) := a1.ee.ext x.toGr a1.ss.muts
      have s3 := SS.conv (base' := base') s2 hi2 I1 ee2 hb1 hb2 hfn hown
      have r2 := VRs.conv (w := w1.fell S1) I1 ee2 hb1 hb2 hfn hown ds us' vs hc (VRs.ext x.toGr a1.ss.muts _ _ r1)
      generalize hT : S1.map Cell.toIce = T1 at p1 s2 s3 hi2
      generalize hU : T1.map (Cell.conv env) = U1 at p1 s3
      have noF : ∀ (n : Nat) (c : Cell), T1[n]? = some c → c.noFn = true → U1[n]? = some c := fun n c e hn => by
        rw [← hU, List.getElem?_map, e]
        cases c with
        | ice xs =>
          have hn' : D.noFns xs = true := hn
          simp [Cell.conv, hn']
        | _ => rfl
      have sp : spOf ((kt CL X).at base' own0) κ0 f vs w1.H Q E := by
        refine ⟨B, b, w1.fell S1, U1, us', rfl, s3, a1.bb, r2, ?_⟩
        rw [hκ] at p1
        unfold guardK at p1
        split at p1
        · rename_i hgd
          rw [Bool.and_eq_true] at hgd
          have hd1 : ∀ (n : Nat) (c : Cell), T1[n]? = some c → c.noFn = false → ¬ c.live := fun n c e hn => by
            rcases hi2 c (List.mem_of_getElem? e) with z | z
            · rw [hn] at z; cases z
            · exact z
          have lenU : U1.length = T1.length := by rw [← hU, List.length_map]
          -- what the callee leaves, twice put back
          have rr : ∀ {S' : Store}, restOk U1 S' = true → restOk T1 S' = true ∧ restS T1 (restS U1 S') = restS T1 S' := fun {S'} hk => by
            clear p1 s3 s2 hi2 hd1 hgd
            clear hT hU
            revert U1 S'
            induction T1 with
            | nil =>
              intro U1 noF lenU S' hk
              cases U1 with
              | nil => exact ⟨hk, by cases S' <;> rfl⟩
              | cons _ _ => simp at lenU
            | cons c T ih =>
              intro U1 noF lenU S' hk
              cases U1 with
              | nil => simp at lenU
              | cons d U =>
                cases S' with
                | nil => simp [restOk] at hk
                | cons e S'' =>
                  simp only [restOk, Bool.and_eq_true, Bool.or_eq_true, Bool.not_eq_true'] at hk
                  obtain ⟨i1, i2⟩ := ih (U1 := U) (fun n c' h1 h2 => by simpa using noF (n + 1) c' (by simpa using h1) h2) (by simpa using lenU) (S' := S'') hk.2
                  cases hc : c.noFn with
                  | true =>
                    have hd : d = c := by
                      have := noF 0 c rfl hc
                      simpa using this
                    subst hd
                    rw [hc] at hk
                    refine ⟨by simp only [restOk, hc, i1]; simpa using hk.1, ?_⟩
                    simp only [restS, hc, i2, if_true]
                  | false =>
                    refine ⟨by simp only [restOk, hc, i1]; rfl, ?_⟩
                    simp only [restS, hc, i2]
                    rfl
          cases q : κ0 f b us' U1 with
          | bad => rw [q] at p1; exact p1
          | ok t S' =>
            rw [q] at p1
            obtain ⟨d, fr⟩ := t
            unfold Pi.rest at p1
            dsimp only at p1
            split at p1
            · rename_i hk
              rw [Bool.and_eq_true] at hk
              obtain ⟨k1, k2⟩ := rr hk.2
              have p2 : Po (kt CL X) E B (rlD (kt CL X) false) w1 (.ok d (restS T1 (restS U1 S'))) Q := p1
              rw [k2] at p2
              intro w' v x' s' rv'
              have s4 := SS.rest (C := kt CL X) (C' := (kt CL X).at base' own0) ⟨X.base, CL.2.2.own, rfl⟩ s2 hd1 x' s' k1
              have rv2 := RR.store (fun n c e hl => restS_live hd1 k1 e hl) (RR.noFn (C := (kt CL X).at base' own0) (bs := X.base) (o := CL.2.2.own) hk.1 rv')
              exact (po_fr (fr := fr) (p2.ext x)) w' v x' s4 rv2
            · exact p1.elim
          | err z S' =>
            rw [q] at p1
            unfold Pi.rest at p1
            dsimp only at p1
            split at p1
            · rename_i hk
              rw [Bool.and_eq_true] at hk
              obtain ⟨k1, k2⟩ := rr hk.2
              have p2 : Po (kt CL X) E B (rlD (kt CL X) false) w1 (.err z (restS T1 (restS U1 S'))) Q := p1
              rw [k2] at p2
              intro w' cls dd x' s' xr
              have s4 := SS.rest (C := kt CL X) (C' := (kt CL X).at base' own0) ⟨X.base, CL.2.2.own, rfl⟩ s2 hd1 x' s' k1
              exact (p2.ext x) w' cls dd x' s4 (XR.noFn (C := (kt CL X).at base' own0) (bs := X.base) (o := CL.2.2.own) hk.1 xr)
            · exact p1.elim
        · exact p1.elim
      have F1 := F base' hb1
      have lv := F1.len _ _ _ _ sp
      have lu : us.length = ps.length := by rw [← rv.length]; exact lv
      have bt := hbd s1 us I1.kIn (by rw [List.append_nil]; exact lu)
      rw [List.append_nil] at bt
      refine wpAny_call (codeAny_mono (F1.run X.A X.stack s1 w1.H ⟨us, []⟩ us vs Q E hgd hr e0 bt rv sp) fun r s' hq => ?_)
      cases r with
      | error e => exact hx pins σ w1.H s1 e s' I1 hq
      | ok fl =>
        cases fl with
        | ret u => exact I1.after hq
        | next => exact False.elim hq
        | brk => exact False.elim hq
        | cont => exact False.elim hq
    · exact p1.elim
  refine wpAny_Call_Name_kw (ld_glob I hg hm ?_ hdb)
  have eH := a.hp
  cases es with
  | nil =>
    refine PySem.W.callWith_K0 I.kIn hk ?_
    have := hl rfl
    subst this
    subst eH
    exact fin (us := []) (ds := []) (vs := []) a .nil h' I .nil
  | cons e es =>
    simp only [List.all_cons, Bool.and_eq_true] at hns
    refine PySem.W.callWith_K (h₀ := X.base) I.ok.mod.kin hk (thn (ha.run pos pins s σ H (fun vs H1 => ∃ w1 S1 ds, w1.H = H1 ∧ At (kt CL X) B b S1 env w1 σ w1.H ∧ VRs (kt CL X) w1 ds vs ∧ Po (kt CL X) E B (rlD (kt CL X) false) w1 (match D.convs env ds with
      | some us' => (restR (S1.map Cell.toIce) (κ f b us' ((S1.map Cell.toIce).map (Cell.conv env)))).bind fun r S => .ok r.1 S
      | none => .bad) Q) I (tIs_bind a h' fun w1 S1 ds vs a1 x1 r1 p1 => ⟨w1, S1, ds, rfl, a1, r1, p1⟩)) fun us s1 ⟨vs, H1, I1, rv, w1, S1, ds, e1, a1, r1, p1⟩ => ⟨I1.kIn, ?_⟩) (star_one hns.1) (star_all hns.2)
    subst e1
    exact fin a1 r1 p1 I1 rv
end
end Pi
end

section
set_option maxHeartbeats 1000000
/-! PiExc: own exceptions: made, raised, caught. -/
namespace Pi
open PySem PySem.Spec PyProof.Rows L2

/-- CT.__init__ is ValueError's -/
structure BaseI (K : PySem.W.Frag) (CT : Addr) : Prop where
  ga : PySem.W.specialIn K (.ref CT) "__getattribute__" = some (some (.builtin "type.__getattribute__"))
  rd : PySem.W.readsIn K CT (.type "type") = true
  at_ : PySem.W.findCls K (.ref CT) (.type "type") "__init__" = some (.val (.builtin "ValueError.__init__"))
section
variable {X : Cx} {e : Expr} {es : List Expr} {ta : TA} {y : Str} {p1 p2 pos : Pos}
/-- T.__init__(self, ..), T an own class over ValueError -/
theorem pe_binit {CT : Addr} (T : BaseI X.K CT) (hg : Gl X y) (hm : X.mg y = some (.ref CT)) (hdb : (y == ("__debug__" : Str)) = false) (ha : PA X (e :: es) ta) (hns : (e :: es).all notStar = true) (hl : (e :: es).length < 29) (hli : (p2.endLine == pos.line) = true) :
    PE X (.Call (.Attribute (.Name y p1) "__init__" p2) (e :: es) [] pos) (tVeI X.K ta) := by
  refine ⟨fun pins s σ H Q I h => ?_⟩
  rw [arm_eval_Call, base_ok (show plainBase (.Name y p1) = true from rfl)]
  refine wpAny_bind (ld_glob I hg hm ?_ hdb)
  refine wpAny_bind (wpAny_standAt ?_)
  have hform : methodCallForm ((e :: es).length + ([] : List Keyword).length) (backTo pos (starEach (e :: es) X.env)) (backToKw pos (keywordEach [] X.env)) = true := by
    unfold methodCallForm
    rw [star_not hns]
    show (true && true && decide ((e :: es).length + 0 + 0 < 30)) = true
    simp only [Bool.true_and, decide_eq_true_eq]
    omega
  have hpos : methodCallPos true (.Name y p1) X.env p2 pos = pure pos := by unfold methodCallPos; simp [hli]
  unfold methodCall
  rw [hform]
  refine wpAny_bind (wpAny_holding (PySem.W.method_cls I.kIn T.ga (PySem.W.cls_value I.kIn T.rd T.at_ (by decide +kernel) ?_)))
  refine wpAny_bind (wpAny_of_eq hpos ?_)
  simp only [List.all_cons, Bool.and_eq_true] at hns
  show wpAny _ _ (callWith pos (Value.builtin "ValueError.__init__") [] (backTo pos (starEach (e :: es) X.env)) []) _ _ _
  refine PyProof.Rows.callWith_method1 (thn (ha.run pos pins _ σ H _ (I.tok _) h) fun us s1 ⟨vs, H1, I1, r1, a, C, ws, ev, hl, T, ea, q⟩ => ?_) (star_one hns.1) (star_all hns.2)
  subst ev
  cases r1 with
  | @cons _ u0 _ ur ra rw' =>
    obtain rfl : u0 = Value.ref a := ra
    have hlen : ur.length ≤ sizeLine := by
      rw [← Paired.length rw', sizeLine_eq]
      omega
    exact oinit_ok T I1 ea hlen fun s' J => ⟨.non, H1, J, rfl, q⟩
end

/-! ### the __init__ of an error: the base's, then the fields -/
/-- self.f = f, .. -/
def mFlds : List Str → List Stmt → Bool
  | [], sts => sts.isEmpty
  | f :: fs, sts => match sts with
    | .Assign [.Attribute (.Name s _) g _] (.Name y _) _ :: r => decide (s = ("self" : Str)) && decide (g = f) && decide (y = f) && mFlds fs r
    | _ => false
def mInit (base : String) (fs : List Str) : List Stmt → Bool
  | .Expr (.Call (.Attribute (.Name y _) m apos) [.Name s _, .Constant (.str _) _ _] [] cpos) _ :: r => (apos.endLine == cpos.line) && decide (y = Str.ofString base) && decide (m = ("__init__" : Str)) && decide (s = ("self" : Str)) && mFlds fs r
  | _ => false
def tFlds (K : PySem.W.Frag) : List (Str × Nat) → TS
  | [] => tNext
  | (f, i) :: r => tSeq (tOst K f (tVar 0) (tVar i)) (tFlds K r)
/-- an error that is being made, with its fields -/
abbrev exH (H : Hp) (a C d : Addr) (fs : List (Str × V)) : Hp := upd (upd H d (exd d fs)) a (exo a C (some d))
theorem exH_again {H : Hp} {a C d : Addr} {fs fs' : List (Str × V)} (h : d ≠ a) : upd (exH H a C d fs) d (exd d fs') = exH H a C d fs' := by
  funext b
  unfold exH
  by_cases hb : b = d
  · subst hb; rw [upd_same, upd_ne h, upd_same]
  · rw [upd_ne hb]
    by_cases ha : b = a
    · subst ha; rw [upd_same, upd_same]
    · rw [upd_ne ha, upd_ne ha, upd_ne hb, upd_ne hb]
theorem flds_more {K : PySem.W.Frag} {σ : L2.St} {D : Ends} {H : Hp} {a C d : Addr} (T : OexC K C) (hd : d ≠ a) (h0 : σ[0]? = some (some (.ref a))) (hno : ∀ f : Str, PySem.W.findIn K (.ref C) f = some none ∨ True) :
    ∀ (l : List (Str × Nat)) (ws : List V) (fs : List (Str × V)), l.length = ws.length → (∀ (i : Nat) (x : Str × Nat) (v : V), l[i]? = some x → ws[i]? = some v → σ[x.2]? = some (some v)) → (∀ x ∈ l, PySem.W.findIn K (.ref C) x.1 = some none) → fs.length + l.length ≤ 900 →
      D.nx σ (exH H a C d (((l.map (·.1)).zip ws).reverse ++ fs)) → tFlds K l D σ (exH H a C d fs)
  | [], [], fs, _, _, _, _, q => by
    show D.nx σ _
    simpa using q
  | [], _ :: _, _, h, _, _, _, _ => by simp at h
  | _ :: _, [], _, h, _, _, _, _ => by simp at h
  | (f, i) :: l, v :: ws, fs, hl, hv, hf, hs, q => by
    have e1 : (exH H a C d fs) a = some (exo a C (some d)) := upd_same
    have e2 : (exH H a C d fs) d = some (exd d fs) := by unfold exH; rw [upd_ne hd, upd_same]
    refine ⟨v, hv 0 (f, i) v rfl rfl, .ref a, h0, a, C, rfl, T, hf (f, i) (by simp), .inr ⟨d, fs, e1, e2, by simp at hs; omega, ?_⟩⟩
    show tFlds K l D σ _
    rw [exH_again hd]
    refine flds_more T hd h0 hno l ws ((f, v) :: fs) (by simpa using hl) (fun j x v e1 e2 => hv (j + 1) x v (by simpa using e1) (by simpa using e2)) (fun x hx => hf x (by simp [hx])) (by simp at hs ⊢; omega) ?_
    simpa using q
/-- what the __init__ promises -/
def spInit (K : PySem.W.Frag) (C : Addr) (fs : List Str) : Sp := fun vs H Q _ => ∃ a ws, vs = .ref a :: ws ∧ ws.length = fs.length ∧ fs ≠ [] ∧ H a = some (exo a C none) ∧ ∀ d, d ≠ a → H d = none → Q .non (exH H a C d ((fs.zip ws).reverse))
section
variable {X : Cx}
theorem pss_flds : ∀ (fs : List Str) (i : Nat) (sts : List Stmt), mFlds fs sts = true → (∀ (j : Nat) (f : Str), fs[j]? = some f → X.N[i + j]? = some f ∧ Vis X.env.scope f ∧ (f == ("__debug__" : Str)) = false ∧ (f == ("__classdict__" : Str)) = false) →
    X.N[0]? = some ("self" : Str) → Vis X.env.scope "self" → PSs X sts (tFlds X.K (fs.zipIdx i))
  | [], i, sts, h, _, _, _ => by
    cases sts with
    | nil => exact pss_nil
    | cons _ _ => simp [mFlds] at h
  | f :: fs, i, sts, h, hN, h0, hv => by
    unfold mFlds at h
    split at h
    · simp only [Bool.and_eq_true, decide_eq_true_eq] at h
      obtain ⟨⟨⟨rfl, rfl⟩, rfl⟩, h4⟩ := h
      obtain ⟨n1, n2, n3, n4⟩ := hN 0 _ rfl
      exact pss_cons (ps_ost (pe_var (i := 0) h0 hv (by decide) (by decide)) (pe_var (i := i) (by simpa using n1) n2 n3 n4)) (pss_flds fs (i + 1) _ h4 (fun j f e => by
        have := hN (j + 1) f (by simpa using e)
        rw [show i + 1 + j = i + (j + 1) by omega]; exact this) h0 hv)
    · cases h
end
/-- an error's __init__ keeps its promise -/
theorem init_ok {P : Program} {w : World} {K : PySem.W.Frag} {mg : Str → Option Value} {base : Heap} {C CT f : Addr} {fd : FuncData} {x qual : Str} {st : Stmt} {b : String} {fs : List Str} (F : Fun K x qual st f fd) (S : FnScope ("self" :: fs) ("self" :: fs) (defScope st)) (T : OexC K C) (TB : BaseI K CT)
    (hm : mg (Str.ofString b) = some (.ref CT)) (hdb : (Str.ofString b == ("__debug__" : Str)) = false) (hg : glB (defScope st) (Str.ofString b) = true) (hb : mInit b fs (defBody st) = true) (hno : ∀ g ∈ fs, PySem.W.findIn K (.ref C) g = some none) (hl : fs.length ≤ 800)
    (hbad : ∀ g ∈ fs, (g == ("__debug__" : Str)) = false ∧ (g == ("__classdict__" : Str)) = false) :
    FnOk P w K mg base CX0 1 f fd ("self" :: fs) (spInit K C fs) := by
  obtain ⟨⟨oc, od, kV, doc, pm, an, cdv, ct, osl, rfl, lk, hcd⟩, kp⟩ := F
  refine fn_of lk hcd S (fun vs H Q E ⟨a, ws, e, h1, _⟩ => by subst e; simp [h1]) fun A outer s H vs Q E hr ⟨a, ws, e, h1, h2, h3, q⟩ => ?_
  subst e
  generalize hX : cxOf CX0 P w K mg base (("self" : Str) :: fs) qual (defScope st) f cdv A outer s H E = X
  have eN : X.N = ("self" : Str) :: fs := by subst hX; rfl
  have eS : X.env.scope = defScope st := by subst hX; rfl
  have eK : X.K = K := by subst hX; rfl
  have vis : ∀ g ∈ ("self" : Str) :: fs, Vis X.env.scope g := fun g hg => by
    rw [eS]
    rcases S.par g hg with z | z
    · exact .inl z
    · exact .inr (.inl z)
  unfold mInit at hb
  split at hb
  · rename_i r hbody
    simp only [Bool.and_eq_true, decide_eq_true_eq] at hb
    obtain ⟨⟨⟨⟨hli, rfl⟩, rfl⟩, rfl⟩, hfl⟩ := hb
    have hgl : Gl X (Str.ofString b) := by
      unfold glB at hg
      unfold Gl
      rw [show X.env.kindOf (Str.ofString b) = X.env.scope.names.lookup (Str.ofString b) from rfl, eS]
      split at hg
      · assumption
      · cases hg
    have hm' : X.mg (Str.ofString b) = some (.ref CT) := by subst hX; exact hm
    have TB' : BaseI X.K CT := by rw [eK]; exact TB
    rw [hbody]
    refine ⟨_, pss_cons (ps_expr (pe_binit TB' hgl hm' hdb (pa_cons (pe_var (i := 0) (by rw [eN]; rfl) (vis _ (by simp)) (by decide) (by decide)) (pa_cons pe_str pa_nil)) rfl (by simp) hli))
      (pss_flds fs 1 r hfl (fun j g e => ⟨by rw [eN, Nat.add_comm]; simpa using e, vis g (by simp [List.mem_of_getElem? e]), hbad g (List.mem_of_getElem? e)⟩) (by rw [eN]; rfl) (vis _ (by simp))), ?_⟩
    rw [eK]
    -- the readings
    have hst : (L2.start (("self" : Str) :: fs) (V.ref a :: ws)) = (V.ref a :: ws).map some := by
      unfold L2.start
      simp [h1]
    have s0 : (L2.start (("self" : Str) :: fs) (V.ref a :: ws))[0]? = some (some (.ref a)) := by rw [hst]; rfl
    refine ⟨.ref a, s0, a, C, [_], rfl, by simp, T, h3, ?_⟩
    cases fs with
    | nil => exact absurd rfl h2
    | cons g fs =>
      cases ws with
      | nil => simp at h1
      | cons v ws =>
        rw [List.zipIdx_cons]
        refine ⟨v, by rw [hst]; rfl, .ref a, s0, a, C, rfl, T, hno g (by simp), .inl ⟨h3, fun dx hdx hne => ?_⟩⟩
        show tFlds K (fs.zipIdx 2) _ _ _
        refine flds_more T hne s0 (fun _ => .inr trivial) (fs.zipIdx 2) ws [(g, v)] (by simp at h1 ⊢; omega) (fun i x v' e1 e2 => ?_) (fun x hx => hno x.1 ?_) (by simp at hl ⊢; omega) ?_
        · rw [List.getElem?_zipIdx] at e1
          cases q1 : fs[i]? with
          | none => rw [q1] at e1; cases e1
          | some f0 =>
            rw [q1] at e1
            cases e1
            rw [hst, show 2 + i = i + 1 + 1 by omega]
            simp [e2]
        · have := List.mem_zipIdx hx
          simp [this]
        · have z := q dx hne hdx
          have e5 : (fs.zipIdx 2).map (·.1) = fs := by simp [List.zipIdx_map_fst]
          rw [e5]
          have e6 : ((g :: fs).zip (v :: ws)).reverse = (fs.zip ws).reverse ++ [(g, v)] := by simp
          rw [← e6]
          exact z
  · cases hb
/-- what is known of an error's class -/
structure ExcG (X : Cx) (c : String) (ns : List String) : Prop where
  ex : ∃ (C fI : Addr) (fd : FuncData), X.mg (Str.ofString c) = some (.ref C) ∧ OexC X.K C ∧ XfC X.K C ∧ PySem.W.findIn X.K (.ref C) "__init__" = some (some (.ref fI)) ∧ PySem.W.typeIn X.K (.ref fI) = some (.type "function") ∧
    FnOk X.prog X.w X.K X.mg X.base CX0 1 fI fd (("self" : Str) :: ns.map Str.ofString) (spInit X.K C (ns.map Str.ofString)) ∧ Binds X.K fd (("self" : Str) :: ns.map Str.ofString) [] ∧ (∀ n ∈ ns, PySem.W.findIn X.K (.ref C) (Str.ofString n) = some none)
  db : (Str.ofString c == ("__debug__" : Str)) = false
end Pi
end

section
/-! PiMain: every matched expression reads as the small interpreter says. -/
namespace Pi
open PySem PySem.Spec PyProof.Rows L2

abbrev Tb.CL (T : Tb) (Λ : Lx) : List String × List (String × String) × Lx := (T.cls, T.flds, Λ)
/-- what is known of the module -/
structure Glo (T : Tb) (Λ : Lx) (κ : Calls) (k : Nat) (X : Cx) : Prop where
  blt : ∀ n ∈ bltNames, X.mg (Str.ofString n) = none
  gcd : T.gcd = true → X.mg "gcd" = some (.builtin "math.gcd")
  fns : ∀ f ∈ T.fns, ∃ a fd ps, X.mg (Str.ofString f) = some (.ref a) ∧ PySem.W.keepIn X.K (.ref a) = true ∧ Binds X.K fd ps [] ∧ FnG X.prog X.w X.K X.mg X.base k a fd ps (spOf (kt (T.CL Λ) X) κ f)
  mths : ∀ c nm m, (c, nm, m) ∈ T.mths → (c, nm) ∉ T.flds ∧ (∃ cl, X.mg (Str.ofString c) = some (.ref cl)) ∧ ∃ a fd ps, (∀ cl, X.mg (Str.ofString c) = some (.ref cl) → Cls X.K cl ∧ Meth X.K cl (Str.ofString nm) a) ∧ Binds X.K fd ps [] ∧ FnG X.prog X.w X.K X.mg X.base k a fd ps (spOf (kt (T.CL Λ) X) κ m)
  inits : ∀ c init, (c, init) ∈ T.inits → ∃ cl a fd ps, X.mg (Str.ofString c) = some (.ref cl) ∧ Mk X.K cl a ∧ Binds X.K fd ps [] ∧ FnG X.prog X.w X.K X.mg X.base k a fd ps (spOf (kt (T.CL Λ) X) κ init)
  fld : FldOk (T.CL Λ) X
  cls : ∀ c ∈ T.cls, ∃ a, X.mg (Str.ofString c) = some (.ref a) ∧ (Str.ofString c == ("__debug__" : Str)) = false
  kit : KitOk (T.CL Λ) X
  cons : ∀ p ∈ T.cons, ∃ u v, X.mg (Str.ofString p.1) = some u ∧ RelV v u ∧ (∀ w, VR (kt (T.CL Λ) X) w p.2 v) ∧ (Str.ofString p.1 == ("__debug__" : Str)) = false
  consN : ∀ p ∈ T.cons, p.2.noFn = true
  lams : ∀ k' js t, Λ.lm k' js t → LamG X.prog X.w X.K X.mg X.base k t (spOf (kt (T.CL Λ) X) κ k')
  lm : ∀ k' js t, T.lam k' js { t with qual := default } = true → Λ.lm k' js t
  excs : ∀ c ns, (c, ns) ∈ T.excs → ExcG X c ns
  exm : ∀ c ns c' ns', (c, ns) ∈ T.excs → (c', ns') ∈ T.excs → ∀ a a', X.mg (Str.ofString c) = some (.ref a) → X.mg (Str.ofString c') = some (.ref a') → PySem.W.exmOne X.K (.ref a) (.ref a') = some (decide (c = c'))
/-- a def that makes lambdas -/
structure LamF (T : Tb) (Λ : Lx) (κ : Calls) (k : Nat) (X : Cx) : Prop where
  tab : ∃ c P, LamX.TabB X.base X.mg c P ∧ X.env.code = .ref c ∧ (P, X.env.qual ++ "<lambda>") ∈ Λ.tabs ∧ (∀ p ∈ Λ.tabs, p.1 = P → p.2 = X.env.qual ++ "<lambda>")
  own : ∀ cl fr js, Λ.own cl fr js ↔ NdefX.Caps X cl fr js
  fn : ∀ y, X.fn y = true
  raw : ∃ κ0, κ = guardK κ0 ∧ ∀ f ∈ T.fns, ∃ a fd ps, X.mg (Str.ofString f) = some (.ref a) ∧ PySem.W.keepIn X.K (.ref a) = true ∧ Binds X.K fd ps [] ∧
    ∀ base' : Heap, (∀ b o, X.base.get? b = some o → base'.get? b = some o) → FnG X.prog X.w X.K X.mg base' k a fd ps (spOf ((kt (T.CL Λ) X).at base' own0) κ0 f)
/-- where one stands -/
structure Good (T : Tb) (Λ : Lx) (κ : Calls) (k : Nat) (X : Cx) (s : Sco) : Prop where
  sc : X.env.scope = s.sc
  fn : X.fn = s.fn
  calm : X.calm = true
  nd : X.N.Nodup
  room : Room (k + 1) X.A
  gd : X.A.guards = some []
  glo : Glo T Λ κ k X
  k1 : 1 ≤ k
  lam : s.lam = true → LamF T Λ κ k X
theorem Glo.blk {T : Tb} {Λ : Lx} {κ : Calls} {k : Nat} {X : Cx} {s : Shared} {H : Hp} {scope : Scope} {cenv : Env} {fp : List Addr} (g : Glo T Λ κ k X) : Glo T Λ κ k (X.blk s H scope cenv fp) :=
  ⟨g.blt, g.gcd, g.fns, g.mths, g.inits, g.fld, g.cls, ⟨g.kit.own, g.kit.get, g.kit.tk, g.kit.bb, g.kit.oo⟩, g.cons, g.consN, g.lams, g.lm, fun c ns h => ⟨(g.excs c ns h).ex, (g.excs c ns h).db⟩, g.exm⟩
theorem Good.blk {T : Tb} {Λ : Lx} {κ : Calls} {k : Nat} {X : Cx} {t : Sco} {s : Shared} {H : Hp} {scope : Scope} {C : Addr} {cl : List (Str × Addr)} {fp : List Addr} (g : Good T Λ κ k X t) : Good T Λ κ k (X.blk s H scope (compEnvC scope cl C X.env) fp) ⟨relS scope t.sc, fun x => scope.names.lookup x == some .cell, false⟩ :=
  ⟨by rw [← g.sc]; rfl, rfl, g.calm, g.nd, g.room, g.gd, g.glo.blk, g.k1, fun h => by cases h⟩
theorem Good.gl {T : Tb} {Λ : Lx} {κ : Calls} {k : Nat} {X : Cx} {s : Sco} (g : Good T Λ κ k X s) {x : Str} (h : glB s.sc x = true) : Gl X x := by
  unfold glB at h
  unfold Gl
  rw [show X.env.kindOf x = X.env.scope.names.lookup x from rfl, g.sc]
  split at h
  · assumption
  · cases h
theorem roomLow {k : Nat} {A : Around} (r : Room (k + 1) A) : Room k A := r.mono (Nat.le_succ _)
theorem fold_ok {e : Expr} {env : Env} (h : notSet e = true) : ∀ x, foldedSetIterable e env x = pure x := by
  intro x
  cases e <;> first | rfl | (simp [notSet] at h)
theorem nomark {op : CmpOp} {y : Expr} (h : notSet y = true) : behindInMarks op y = false := by
  cases y <;> first | rfl | (simp [notSet] at h)

/-- the module, as a def that makes lambdas sees it -/
theorem Glo.guard {T : Tb} {Λ : Lx} {κ : Calls} {k : Nat} {X : Cx} {o : List (Str × Addr) → List Str → List Nat → Prop} (g : Glo T Λ κ k X) : Glo T { Λ with own := o } (guardK κ) k X where
  blt := g.blt
  gcd := g.gcd
  fns := fun f hf => let ⟨a, fd, ps, h1, h2, h3, F⟩ := g.fns f hf; ⟨a, fd, ps, h1, h2, h3, F.imp fun vs H Q E h => sp_guard (bs := X.base) (o := Λ.own) (fun _ _ h => h) h⟩
  mths := fun c nm m hm => let ⟨h0, h1, a, fd, ps, h2, h3, F⟩ := g.mths c nm m hm; ⟨h0, h1, a, fd, ps, h2, h3, F.imp fun vs H Q E h => sp_guard (bs := X.base) (o := Λ.own) (fun _ _ h => h) h⟩
  inits := fun c i hi => let ⟨cl, a, fd, ps, h1, h2, h3, F⟩ := g.inits c i hi; ⟨cl, a, fd, ps, h1, h2, h3, F.imp fun vs H Q E h => sp_guard (bs := X.base) (o := Λ.own) (fun _ _ h => h) h⟩
  fld := g.fld
  cls := g.cls
  kit := ⟨g.kit.own, g.kit.get, g.kit.tk, g.kit.bb, g.kit.oo⟩
  cons := fun p hp => let ⟨u, v, h1, h2, h3, h4⟩ := g.cons p hp; ⟨u, v, h1, h2, fun w => VR.noFn (C := kt (T.CL Λ) X) (bs := X.base) (o := o) p.2 v (g.consN p hp) (h3 w), h4⟩
  consN := g.consN
  lams := fun k' js t h => (g.lams k' js t h).imp fun vs H Q E h => sp_guard (bs := X.base) (o := Λ.own) (fun _ _ h => h) h
  lm := g.lm
  excs := g.excs
  exm := g.exm

abbrev Tb.nolam (T : Tb) : Tb := { T with lam := fun _ _ _ => false }
theorem Glo.nolam {T : Tb} {Λ : Lx} {κ : Calls} {k : Nat} {X : Cx} (g : Glo T Λ κ k X) : Glo T.nolam Λ κ k X :=
  ⟨g.blt, g.gcd, g.fns, g.mths, g.inits, g.fld, g.cls, ⟨g.kit.own, g.kit.get, g.kit.tk, g.kit.bb, g.kit.oo⟩, g.cons, g.consN, g.lams, (fun _ _ _ h => by cases h), g.excs, g.exm⟩
structure OutE (C : Kt) (E : XK) (κ : Calls) (b : Nat) (X : Cx) (e : Expr) (i : IE) : Prop where
  pe : PE X e (tI C E κ b i)
  pt : PT X e (tT C E κ b i)
  pw : ∀ op l q, e = .BoolOp op l q → PW X e (tT C E κ b i)
section
variable {CL : List String × List (String × String) × Lx} {X : Cx} {E : XK} {κ : Calls} {b : Nat} {e : Expr} {i : IE}
theorem OutE.mk1 (pe : PE X e (tI (kt CL X) E κ b i)) (hw : ∀ whole, isTrue e X.env whole = (do let v ← whole; standAt e.pos; holding [v] (truthy v)))
    (hf : ∀ env S, ev κ b true i env S = (ev κ b false i env S).bind fun u S => (R.of (truD S u) S).bind fun c S => .ok (.bl c) S) (nb : ∀ op l q, e ≠ .BoolOp op l q) : OutE (kt CL X) E κ b X e i :=
  ⟨pe, rt_of pe hw hf, fun op l q h => absurd h (nb op l q)⟩
theorem OutE.mk2 {C : Kt} (pe : PE X e (tI C E κ b i)) (hf : ∀ env S, ev κ b true i env S = .bad) : OutE C E κ b X e i :=
  ⟨pe, ⟨fun pins s σ H Q I ⟨B, w, S, env, a, h⟩ => by rw [hf] at h; exact h.elim⟩, fun _ _ _ _ => ⟨fun wh pins s σ H Q I ⟨B, w, S, env, a, h⟩ => by rw [hf] at h; exact h.elim⟩⟩
/-- what gives truth values only -/
theorem tru_bl {r : R D} (h : ∀ d S, r = .ok d S → ∃ c, d = .bl c) : r = r.bind fun u S => (R.of (truD S u) S).bind fun c S => .ok (.bl c) S := by
  cases r with
  | ok d S =>
    obtain ⟨c, rfl⟩ := h d S rfl
    rfl
  | _ => rfl
end
end Pi
end

section
/-! PiMain2: the induction over expressions. -/
namespace Pi
open PySem PySem.Spec PyProof.Rows L2

theorem isi_bl {κ : Calls} {b : Nat} {t : Bool} {x : IE} {ts : List TyN} {env : Slots} {S S' : Store} {d : D} (h : ev κ b t (.isi x ts) env S = .ok d S') : ∃ c, d = .bl c := by
  obtain ⟨u, S1, _, h1⟩ := bind_ok (show (ev κ b false x env S).bind _ = _ from h)
  obtain ⟨c, S2, _, h2⟩ := bind_ok h1
  cases h2; exact ⟨c, rfl⟩
def slotsIn (own : List Nat) (l : List Nat) : Bool := l.all fun i => own.contains i
mutual
theorem own_slots {T : Tb} {N : List Str} : ∀ {g : IG} {own : List Nat}, ownG T N g own = true → ∀ i ∈ slotsG g, i ∈ own
  | .var n, own, h, i, hi => by
    simp only [slotsG, List.mem_singleton] at hi
    subst hi
    simpa [ownG] using h
  | .tup gs, own, h, i, hi => owns_slots (by simpa [ownG] using h) i (by simpa [slotsG] using hi)
  | .sub _ _, own, h, i, hi => by simp [ownG] at h
  | .attr _ _ _, own, h, i, hi => by simp [ownG] at h
theorem owns_slots {T : Tb} {N : List Str} : ∀ {gs : List IG} {own : List Nat}, ownGs T N gs own = true → ∀ i ∈ slotsGs gs, i ∈ own
  | [], own, h, i, hi => by simp [slotsGs] at hi
  | g :: gs, own, h, i, hi => by
    simp only [ownGs, Bool.and_eq_true] at h
    simp only [slotsGs, List.mem_append] at hi
    rcases hi with hi | hi
    · exact own_slots h.1 i hi
    · exact owns_slots h.2 i hi
end
theorem mEs_len {T : Tb} {N : List Str} : ∀ {is : List IE} {s : Sco} {es : List Expr}, mEs T N is s es = true → es.length = is.length ∧ es.all notStar = true
  | [], s, es, h => by
    simp only [mEs] at h
    cases es <;> simp at h ⊢
  | i :: is, s, es, h => by
    cases es with
    | nil => simp [mEs] at h
    | cons e es =>
      simp only [mEs, Bool.and_eq_true] at h
      obtain ⟨h1, h2⟩ := mEs_len h.2
      exact ⟨by simp [h1], by simp [h.1.1, h2]⟩
theorem mI_set {T : Tb} {N : List Str} {i : II} {s : Sco} {tg e : Expr} (h : mI T N i s tg e = true) : notSet e = true := by
  cases i <;> simp only [mI] at h
  · simp only [Bool.and_eq_true] at h; exact h.1
  all_goals (repeat' split at h) <;> first | rfl | cases h
theorem vis_of {X : Cx} {s : Sco} {x : Str} (hs : X.env.scope = s.sc) (h : visB s.sc x = true) : Vis X.env.scope x := by
  unfold visB at h
  unfold Vis
  rw [hs]
  split at h
  · rename_i e; exact .inl e
  · rename_i e; exact .inr (.inl e)
  · rename_i e; exact .inr (.inr e)
  · cases h

theorem noPars_dflt {ps : Arguments} {env : Env} (h : noPars ps = true) : defaultsOf ps env = ([], []) := by
  obtain ⟨a1, a2, a3, a4, a5, a6, a7⟩ := ps
  unfold noPars at h
  simp only [Bool.and_eq_true, List.isEmpty_iff, Option.isNone_iff_eq_none] at h
  obtain ⟨⟨⟨⟨⟨⟨rfl, rfl⟩, rfl⟩, rfl⟩, rfl⟩, rfl⟩, rfl⟩ := h
  rfl
section
variable {T : Tb} {Λ : Lx} {κ : Calls} {b k : Nat}
mutual
theorem gE : ∀ (i : IE) {X : Cx} {E : XK} {s : Sco} {e : Expr}, Good T Λ κ k X s → PassG X E → mE T X.N i s e = true → OutE (kt (T.CL Λ) X) E κ b X e i
  | .var n, X, E, s, e, G, hp, hm => by
    simp only [mE] at hm
    split at hm
    · simp only [Bool.and_eq_true, decide_eq_true_eq, Bool.not_eq_true'] at hm
      obtain ⟨⟨⟨h1, h2⟩, h3⟩, h4⟩ := hm
      exact .mk1 (re_var h1 (vis_of G.sc h2) h3 h4) (fun _ => rfl) (fun _ _ => rfl) (fun _ _ _ h => nomatch h)
    · cases hm
  | .con d, X, E, s, e, G, hp, hm => by
    simp only [mE] at hm
    split at hm
    · exact .mk1 (re_con hm) (fun _ => rfl) (fun _ _ => rfl) (fun _ _ _ h => nomatch h)
    · cases hm
  | .glb x d, X, E, s, e, G, hp, hm => by
    simp only [mE] at hm
    split at hm
    · simp only [Bool.and_eq_true, decide_eq_true_eq, List.any_eq_true, beq_iff_eq] at hm
      obtain ⟨⟨rfl, h2⟩, p, h3, rfl, h5⟩ := hm
      obtain ⟨u, v, k1, k2, k3, k4⟩ := G.glo.cons p h3
      rw [D.beq_eq h5] at k3
      exact .mk1 (re_glb (G.gl h2) k1 k2 k3 k4) (fun _ => rfl) (fun _ _ => rfl) (fun _ _ _ h => nomatch h)
    · cases hm
  | .bin op a c, X, E, s, e, G, hp, hm => by
    simp only [mE] at hm
    split at hm
    · simp only [Bool.and_eq_true, decide_eq_true_eq] at hm
      obtain ⟨⟨rfl, h1⟩, h2⟩ := hm
      exact .mk1 (re_bin (gE a G hp h1).pe (gE c G hp h2).pe) (fun _ => rfl) (fun _ _ => rfl) (fun _ _ _ h => nomatch h)
    · cases hm
  | .un op a, X, E, s, e, G, hp, hm => by
    simp only [mE] at hm
    split at hm
    · simp only [Bool.and_eq_true, decide_eq_true_eq] at hm
      obtain ⟨⟨rfl, h0⟩, h1⟩ := hm
      refine .mk1 (re_un (gE a G hp h1).pe) ?_ (fun _ _ => rfl) (fun _ _ _ h => nomatch h)
      intro whole
      cases op <;> first | rfl | exact absurd rfl h0
    · cases hm
  | .not a, X, E, s, e, G, hp, hm => by
    simp only [mE] at hm
    split at hm
    · exact ⟨re_not (gE a G hp hm).pe, rt_not (gE a G hp hm).pt, fun _ _ _ h => nomatch h⟩
    · cases hm
  | .cmp op a c, X, E, s, e, G, hp, hm => by
    simp only [mE] at hm
    split at hm
    · simp only [Bool.and_eq_true, decide_eq_true_eq] at hm
      obtain ⟨⟨⟨rfl, h0⟩, h1⟩, h2⟩ := hm
      have hu : X.A.units + 65 < cLine := by have := G.room.un; omega
      exact ⟨re_cmp hu (nomark h0) (gE a G hp h1).pe (gE c G hp h2).pe, rt_cmp hu (nomark h0) (gE a G hp h1).pe (gE c G hp h2).pe, fun _ _ _ h => nomatch h⟩
    · cases hm
  | .chain op op' a c d, X, E, s, e, G, hp, hm => by
    simp only [mE] at hm
    split at hm
    · simp only [Bool.and_eq_true, decide_eq_true_eq] at hm
      obtain ⟨⟨⟨⟨⟨rfl, rfl⟩, h0⟩, h1⟩, h2⟩, h3⟩ := hm
      have hu : X.A.units + 65 < cLine := by have := G.room.un; omega
      exact ⟨re_chain hu (nomark h0) (gE a G hp h1).pe (gE c G hp h2).pe (gE d G hp h3).pe, rt_chain hu (nomark h0) (gE a G hp h1).pe (gE c G hp h2).pe (gE d G hp h3).pe, fun _ _ _ h => nomatch h⟩
    · cases hm
  | .chain3 op op' op2 a c d f, X, E, s, e, G, hp, hm => by
    simp only [mE] at hm
    split at hm
    · simp only [Bool.and_eq_true, decide_eq_true_eq] at hm
      obtain ⟨⟨⟨⟨⟨⟨⟨rfl, rfl⟩, rfl⟩, h0⟩, h1⟩, h2⟩, h3⟩, h4⟩ := hm
      have hu : X.A.units + 65 < cLine := by have := G.room.un; omega
      exact ⟨re_chain3 hu (nomark h0) (gE a G hp h1).pe (gE c G hp h2).pe (gE d G hp h3).pe (gE f G hp h4).pe, rt_chain3 hu (nomark h0) (gE a G hp h1).pe (gE c G hp h2).pe (gE d G hp h3).pe (gE f G hp h4).pe, fun _ _ _ h => nomatch h⟩
    · cases hm
  | .band a c, X, E, s, e, G, hp, hm => by
    simp only [mE] at hm
    split at hm
    · simp only [Bool.and_eq_true] at hm
      have w := rw_band (pos := ‹Pos›) (gE a G hp hm.1).pt (pw_and1 (gE c G hp hm.2).pt)
      exact ⟨re_band (gE a G hp hm.1).pe (pe_one (gE c G hp hm.2).pe), w.pt, fun _ _ _ h => w⟩
    · simp only [Bool.and_eq_true] at hm
      have w := rw_band (pos := ‹Pos›) (gE a G hp hm.1).pt ((gE c G hp hm.2).pw _ _ _ rfl)
      exact ⟨re_band (gE a G hp hm.1).pe (gE c G hp hm.2).pe, w.pt, fun _ _ _ h => w⟩
    · cases hm
  | .bor a c, X, E, s, e, G, hp, hm => by
    simp only [mE] at hm
    split at hm
    · simp only [Bool.and_eq_true] at hm
      have w := rw_bor (pos := ‹Pos›) (gE a G hp hm.1).pt (pw_or1 (gE c G hp hm.2).pt)
      exact ⟨re_bor (gE a G hp hm.1).pe (pe_one (gE c G hp hm.2).pe), w.pt, fun _ _ _ h => w⟩
    · simp only [Bool.and_eq_true] at hm
      have w := rw_bor (pos := ‹Pos›) (gE a G hp hm.1).pt ((gE c G hp hm.2).pw _ _ _ rfl)
      exact ⟨re_bor (gE a G hp hm.1).pe (gE c G hp hm.2).pe, w.pt, fun _ _ _ h => w⟩
    · cases hm
  | .ite c a d, X, E, s, e, G, hp, hm => by
    simp only [mE] at hm
    split at hm
    · simp only [Bool.and_eq_true] at hm
      exact ⟨re_ite (gE c G hp hm.1.1).pt (gE a G hp hm.1.2).pe (gE d G hp hm.2).pe, rt_ite (gE c G hp hm.1.1).pt (gE a G hp hm.1.2).pt (gE d G hp hm.2).pt, fun _ _ _ h => nomatch h⟩
    · cases hm
  | .attr a f, X, E, s, e, G, hp, hm => by
    simp only [mE] at hm
    split at hm
    · simp only [Bool.and_eq_true, decide_eq_true_eq] at hm
      obtain ⟨⟨rfl, h1⟩, h2⟩ := hm
      exact .mk1 (re_attr G.glo.fld h1 (gE a G hp h2).pe) (fun _ => rfl) (fun _ _ => rfl) (fun _ _ _ h => nomatch h)
    · cases hm
  | .ix a c, X, E, s, e, G, hp, hm => by
    simp only [mE] at hm
    split at hm
    · simp only [Bool.and_eq_true] at hm
      have hu : X.A.units + 1 < cLine := by have := G.room.un; omega
      exact .mk1 (re_ix hu hm.1.1 (gE a G hp hm.1.2).pe (gE c G hp hm.2).pe) (fun _ => rfl) (fun _ _ => rfl) (fun _ _ _ h => nomatch h)
    · cases hm
  | .sl a lo hi, X, E, s, e, G, hp, hm => by
    simp only [mE] at hm
    split at hm
    · simp only [Bool.and_eq_true] at hm
      exact .mk1 (re_sl (gE a G hp hm.1.1).pe (gO lo G hp hm.1.2) (gO hi G hp hm.2)) (fun _ => rfl) (fun _ _ => rfl) (fun _ _ _ h => nomatch h)
    · cases hm
  | .tup es, X, E, s, e, G, hp, hm => by
    simp only [mE] at hm
    split at hm
    · exact .mk1 (re_tup (gEs es G hp hm).1) (fun _ => rfl) (fun _ _ => rfl) (fun _ _ _ h => nomatch h)
    · cases hm
  | .lst es, X, E, s, e, G, hp, hm => by
    simp only [mE] at hm
    split at hm
    · exact .mk1 (re_lst (gEs es G hp hm).1) (fun _ => rfl) (fun _ _ => rfl) (fun _ _ _ h => nomatch h)
    · cases hm
  | .dic ks es, X, E, s, e, G, hp, hm => by
    simp only [mE] at hm
    split at hm
    · simp only [Bool.and_eq_true, decide_eq_true_eq] at hm
      obtain ⟨⟨⟨⟨⟨h1, h2⟩, h3⟩, h4⟩, h5⟩, h6⟩ := hm
      obtain ⟨k1, k2⟩ := gEs es G hp h2
      exact .mk1 (re_dic h1 k2 h6 h3 h4 h5) (fun _ => rfl) (fun _ _ => rfl) (fun _ _ _ h => nomatch h)
    · cases hm
  | .dic0, X, E, s, e, G, hp, hm => by
    simp only [mE] at hm
    split at hm
    · exact .mk1 re_dic0 (fun _ => rfl) (fun _ _ => rfl) (fun _ _ _ h => nomatch h)
    · cases hm
  | .isi a ts, X, E, s, e, G, hp, hm => by
    simp only [mE] at hm
    split at hm
    · simp only [Bool.and_eq_true, decide_eq_true_eq] at hm
      obtain ⟨⟨⟨⟨⟨rfl, h1⟩, h2⟩, h3⟩, h4⟩, h5⟩ := hm
      rw [← G.sc] at h3
      exact .mk1 (re_isi G.glo.kit rfl G.glo.blt G.glo.cls (G.gl h1) (gE a G hp h2).pe h3 h5 h4) (fun _ => rfl) (fun env S => tru_bl fun d S' h => isi_bl (t := true) h) (fun _ _ _ h => nomatch h)
    · cases hm
  | .bi f es, X, E, s, e, G, hp, hm => by
    simp only [mE] at hm
    split at hm
    · simp only [Bool.and_eq_true, decide_eq_true_eq, Bool.or_eq_true] at hm
      obtain ⟨⟨⟨rfl, h1⟩, h2⟩, h3⟩ := hm
      have hu : X.A.units + 66 < cLine := by have := G.room.un; omega
      refine .mk1 (re_bi G.calm G.gd hu (G.gl h1) G.glo.blt (fun hf => G.glo.gcd ?_) (gEs es G hp h3).1 (mEs_len h3).2) (fun _ => rfl) (fun _ _ => rfl) (fun _ _ _ h => nomatch h)
      rcases h2 with h2 | h2
      · exact h2
      · exact absurd hf h2
    · cases hm
  | .mt m a es, X, E, s, e, G, hp, hm => by
    simp only [mE] at hm
    split at hm
    · rename_i x y apos xs cpos
      simp only [Bool.and_eq_true, decide_eq_true_eq] at hm
      obtain ⟨⟨⟨⟨⟨rfl, h1⟩, h2⟩, h3⟩, h4⟩, h5⟩ := hm
      by_cases hb : m = .bits
      · subst hb
        cases xs with
        | cons _ _ => simp at h5
        | nil =>
          cases es with
          | cons _ _ => simp [mEs] at h4
          | nil => exact .mk1 (re_bits (gE a G hp h3).pe h1 h2) (fun _ => rfl) (fun _ _ => rfl) (fun _ _ _ h => nomatch h)
      · have hl : xs.length = 1 := by cases m <;> first | exact absurd rfl hb | exact of_decide_eq_true h5
        cases xs with
        | nil => simp at hl
        | cons x0 xs =>
          exact .mk1 (re_mt hb (gE a G hp h3).pe (gEs es G hp h4).1 (mEs_len h4).2 h1 (by omega) h2) (fun _ => rfl) (fun _ _ => rfl) (fun _ _ _ h => nomatch h)
    · cases hm
  | .call f es, X, E, s, e, G, hp, hm => by
    simp only [mE] at hm
    split at hm
    · simp only [Bool.and_eq_true, decide_eq_true_eq, Bool.not_eq_true'] at hm
      obtain ⟨⟨⟨⟨rfl, h1⟩, h2⟩, h3⟩, h4⟩ := hm
      obtain ⟨fa, fd, ps, k1, k2, k3, k4⟩ := G.glo.fns f (by simpa using h3)
      obtain ⟨l1, l2⟩ := mEs_len h4
      exact .mk1 (re_call G.gd k4 (roomLow G.room) (G.gl h1) k1 k2 k3 hp (gEs es G hp h4).1 (by rintro rfl; exact List.length_eq_zero_iff.mp l1.symm) l2 h2) (fun _ => rfl) (fun _ _ => rfl) (fun _ _ _ h => nomatch h)
    · cases hm
  | .meth c m a es, X, E, s, e, G, hp, hm => by
    simp only [mE] at hm
    split at hm
    · simp only [Bool.and_eq_true, decide_eq_true_eq, List.any_eq_true, beq_iff_eq] at hm
      obtain ⟨⟨⟨⟨⟨h1, h2⟩, h3⟩, p, h4, ⟨rfl, rfl⟩, rfl⟩, h5⟩, h6⟩ := hm
      obtain ⟨q1, q2, fa, fd, ps, q3, q4, q5⟩ := G.glo.mths p.1 p.2.1 p.2.2 h4
      obtain ⟨l1, l2⟩ := mEs_len h6
      exact .mk1 (re_meth G.gd (gE a G hp h5).pe q3 q1 q2 q5 (roomLow G.room) q4 hp (gEs es G hp h6).1 (by rintro rfl; exact List.length_eq_zero_iff.mp l1.symm) l2 h1 h3 (beq_iff_eq.mpr h2)) (fun _ => rfl) (fun _ _ => rfl) (fun _ _ _ h => nomatch h)
    · cases hm
  | .new c init pu es, X, E, s, e, G, hp, hm => by
    simp only [mE] at hm
    split at hm
    · simp only [Bool.and_eq_true, decide_eq_true_eq, List.any_eq_true, beq_iff_eq, Bool.not_eq_true'] at hm
      obtain ⟨⟨⟨⟨⟨rfl, h1⟩, h2⟩, h3⟩, p, h4, rfl, rfl⟩, h5⟩ := hm
      obtain ⟨cl, fa, fd, ps, q1, q2, q3, q4⟩ := G.glo.inits p.1 p.2 h4
      obtain ⟨l1, l2⟩ := mEs_len h5
      exact .mk2 (re_new G.gd q2 (by simpa using h3) q4 G.room (G.gl h1) q1 q3 hp (gEs es G hp h5).1 (by rintro rfl; exact List.length_eq_zero_iff.mp l1.symm) l2 h2) (fun _ _ => rfl)
    · cases hm
  | .comp e0 g it ifs own, X, E, s, e, G, hp, hm => by
    simp only [mE] at hm
    split at hm
    · simp only [Bool.and_eq_true, decide_eq_true_eq] at hm
      obtain ⟨⟨⟨⟨⟨⟨h1, h2⟩, h3⟩, h4⟩, h5⟩, h6⟩, h7⟩ := hm
      rw [← G.sc] at h1
      have bo := blkOk_by h1
      refine .mk1 (PE.imp (pe_lc (wi := tIt (kt (T.CL Λ) X) E κ b it) (g := tGt (kt (T.CL Λ) X) E0 κ b g) (tt := tTO (kt (T.CL Λ) X) E0 κ b ifs) (te := tI (kt (T.CL Λ) X) E0 κ b e0) G.calm G.nd (gI it G hp h3) bo
        (fun s1 H1 C1 cl fp => gG g (G.blk (s := s1) (H := H1) (scope := ‹Scope›) (C := C1) (cl := cl) (fp := fp)) passF h4)
        (fun s1 H1 C1 cl fp => gTO ifs (G.blk (s := s1) (H := H1) (scope := ‹Scope›) (C := C1) (cl := cl) (fp := fp)) passF h6)
        (fun s1 H1 C1 cl fp => (gE e0 (G.blk (s := s1) (H := H1) (scope := ‹Scope›) (C := C1) (cl := cl) (fp := fp)) passF h7).pe)
        (fold_ok (mI_set h3))) fun σ H Q h => ?_) (fun _ => rfl) (fun _ _ => rfl) (fun _ _ _ h => nomatch h)
      rw [h2]
      exact ti_comp (own_slots h5) h
    · cases hm
  | .cellL a, X, E, s, e, G, hp, hm => by
    simp only [mE, Bool.and_eq_true] at hm
    exact .mk2 (re_cellL hm.1 (gE a G hp hm.2).pe) (fun _ _ => rfl)
  | .cellD ks es, X, E, s, e, G, hp, hm => by
    simp only [mE] at hm
    split at hm
    · simp only [Bool.and_eq_true, decide_eq_true_eq] at hm
      obtain ⟨⟨⟨⟨⟨h1, h2⟩, h3⟩, h4⟩, h5⟩, h6⟩ := hm
      obtain ⟨k1, k2⟩ := gEs es G hp h2
      exact .mk2 (re_cellD h1 k2 h6 h3 h4 h5) (fun _ _ => rfl)
    · cases hm
  | .cellC f es, X, E, s, e, G, hp, hm => by
    simp only [mE] at hm
    split at hm
    · simp only [Bool.and_eq_true, decide_eq_true_eq, Bool.not_eq_true'] at hm
      obtain ⟨⟨⟨⟨rfl, h1⟩, h2⟩, h3⟩, h4⟩ := hm
      obtain ⟨fa, fd, ps, k1, k2, k3, k4⟩ := G.glo.fns f (by simpa using h3)
      obtain ⟨l1, l2⟩ := mEs_len h4
      exact .mk2 (re_cellC G.gd k4 (roomLow G.room) (G.gl h1) k1 k2 k3 hp (gEs es G hp h4).1 (by rintro rfl; exact List.length_eq_zero_iff.mp l1.symm) l2 h2) (fun _ _ => rfl)
    · cases hm
  | .move a, X, E, s, e, G, hp, hm => by
    simp only [mE] at hm
    exact .mk2 (re_move (gE a G hp hm).pe) (fun _ _ => rfl)
  | .lam k' js, X, E, s, e, G, hp, hm => by
    simp only [mE] at hm
    split at hm
    · simp only [Bool.and_eq_true] at hm
      obtain ⟨⟨⟨⟨h1, h2⟩, h3⟩, h4⟩, h5⟩ := hm
      have F := G.lam h1
      obtain ⟨c, P, t1, t2, t3, t4⟩ := F.tab
      have L := LamX.lamS_by h2
      have hfree : ∀ y ∈ (‹Scope›).names, y.2 = .free → X.env.scope.names.lookup y.1 = some .cell ∨ X.env.scope.names.lookup y.1 = some .free := fun y hy e => by
        rw [G.sc]; exact L.free y hy e
      unfold lamHere at h3
      simp only [Bool.and_eq_true, decide_eq_true_eq, List.all_eq_true] at h3
      exact .mk2 (re_lam t1 t2 t3 t4 (noPars_dflt h4) hfree (G.glo.lm _ _ _ h5) fun ok => (F.own _ _ _).mpr (NdefX.Caps.made ok hfree (fun y hy => (h3.2 y hy).1) h3.1)) (fun _ _ => rfl)
    · cases hm
  | .act n, X, E, s, e, G, hp, hm => by
    simp only [mE] at hm
    split at hm
    · simp only [Bool.and_eq_true, decide_eq_true_eq, Bool.not_eq_true'] at hm
      obtain ⟨⟨⟨h1, h2⟩, h3⟩, h4⟩ := hm
      exact .mk1 (re_act G.gd G.glo.lams (roomLow G.room) hp h1 (vis_of G.sc h2) h3 h4) (fun _ => rfl) (fun _ _ => rfl) (fun _ _ _ h => nomatch h)
    · cases hm
  | .callS f es, X, E, s, e, G, hp, hm => by
    simp only [mE] at hm
    split at hm
    · simp only [Bool.and_eq_true, decide_eq_true_eq, Bool.not_eq_true'] at hm
      obtain ⟨⟨⟨⟨⟨h0, rfl⟩, h1⟩, h2⟩, h3⟩, h4⟩ := hm
      have F := G.lam h0
      obtain ⟨κ0, r1, r2⟩ := F.raw
      obtain ⟨fa, fd, ps, k1, k2, k3, k4⟩ := r2 f (by simpa using h3)
      obtain ⟨l1, l2⟩ := mEs_len h4
      exact .mk1 (re_callS G.gd k4 r1 (roomLow G.room) (G.gl h1) k1 k2 k3 hp F.fn (fun cl fr js h => (F.own cl fr js).mp h) (gEs es G hp h4).1 (by rintro rfl; exact List.length_eq_zero_iff.mp l1.symm) l2 h2) (fun _ => rfl) (fun _ _ => rfl) (fun _ _ _ h => nomatch h)
    · cases hm
theorem gEs : ∀ (is : List IE) {X : Cx} {E : XK} {s : Sco} {es : List Expr}, Good T Λ κ k X s → PassG X E → mEs T X.N is s es = true → PA X es (tIs (kt (T.CL Λ) X) E κ b is) ∧ PEs X (kt (T.CL Λ) X) E κ b es is
  | [], X, E, s, es, G, hp, hm => by
    cases es with
    | nil => exact ⟨ra_nil, .nil⟩
    | cons _ _ => simp [mEs] at hm
  | i :: is, X, E, s, es, G, hp, hm => by
    cases es with
    | nil => simp [mEs] at hm
    | cons e es =>
      simp only [mEs, Bool.and_eq_true] at hm
      obtain ⟨⟨h1, h2⟩, h3⟩ := hm
      have q := gEs is G hp h3
      have q1 := (gE i G hp h2).pe
      exact ⟨ra_cons h1 q1 q.1, .cons q1 q.2⟩
theorem gO : ∀ (o : Option IE) {X : Cx} {E : XK} {s : Sco} {x : Option Expr}, Good T Λ κ k X s → PassG X E → mO T X.N o s x = true → PO X x (tOp' (kt (T.CL Λ) X) E κ b o)
  | none, X, E, s, x, G, hp, hm => by
    cases x with
    | none => exact ro_none
    | some _ => simp [mO] at hm
  | some i, X, E, s, x, G, hp, hm => by
    cases x with
    | none => simp [mO] at hm
    | some e => exact ro_some (gE i G hp (by simpa [mO] using hm)).pe
theorem gTO : ∀ (o : Option IE) {X : Cx} {E : XK} {s : Sco} {xs : List Expr}, Good T Λ κ k X s → PassG X E → mTO T X.N o s xs = true → PTs X xs (tTO (kt (T.CL Λ) X) E κ b o)
  | none, X, E, s, xs, G, hp, hm => by
    cases xs with
    | nil => exact rts_none
    | cons _ _ => simp [mTO] at hm
  | some i, X, E, s, xs, G, hp, hm => by
    simp only [mTO] at hm
    split at hm
    · exact rts_some (gE i G hp hm).pt
    · cases hm
theorem gG : ∀ (g : IG) {X : Cx} {E : XK} {s : Sco} {e : Expr}, Good T Λ κ k X s → PassG X E → mG T X.N g s e = true → PG X e (tGt (kt (T.CL Λ) X) E κ b g)
  | .var n, X, E, s, e, G, hp, hm => by
    simp only [mG] at hm
    split at hm
    · simp only [Bool.and_eq_true, decide_eq_true_eq] at hm
      obtain ⟨h1, h2⟩ := hm
      split at h2
      · rename_i q
        exact rg_var G.nd h1 (.inl (by rw [G.sc]; exact q)) (.inr (by rw [G.sc]; exact q))
      · rename_i q
        exact rg_var G.nd h1 (.inr (by rw [G.sc]; exact q)) (.inl (by rw [G.fn]; exact h2))
      · cases h2
    · cases hm
  | .tup gs, X, E, s, e, G, hp, hm => by
    simp only [mG] at hm
    split at hm
    · obtain ⟨h1, h2, h3⟩ := gGs gs G hp hm
      exact rg_tup G.calm h2 h3 h1
    · cases hm
  | .sub a c, X, E, s, e, G, hp, hm => by
    simp only [mG] at hm
    split at hm
    · simp only [Bool.and_eq_true] at hm
      have hu : X.A.units + 1 < cLine := by have := G.room.un; omega
      exact rg_sub hu hm.1.1 (gE a G hp hm.1.2).pe (gE c G hp hm.2).pe
    · cases hm
  | .attr c a f, X, E, s, e, G, hp, hm => by
    simp only [mG] at hm
    split at hm
    · simp only [Bool.and_eq_true, decide_eq_true_eq] at hm
      obtain ⟨⟨rfl, h1⟩, h2⟩ := hm
      exact rg_attr G.glo.fld (by simpa using h1) (gE a G hp h2).pe
    · cases hm
theorem gGs : ∀ (gs : List IG) {X : Cx} {E : XK} {s : Sco} {es : List Expr}, Good T Λ κ k X s → PassG X E → mGs T X.N gs s es = true → PGs X es (tGts (kt (T.CL Λ) X) E κ b gs) ∧ es.all notStar = true ∧ es.length = gs.length
  | [], X, E, s, es, G, hp, hm => by
    cases es with
    | nil => exact ⟨rg_nil, rfl, rfl⟩
    | cons _ _ => simp [mGs] at hm
  | g :: gs, X, E, s, es, G, hp, hm => by
    cases es with
    | nil => simp [mGs] at hm
    | cons e es =>
      simp only [mGs, Bool.and_eq_true] at hm
      obtain ⟨⟨h1, h2⟩, h3⟩ := hm
      obtain ⟨q1, q2, q3⟩ := gGs gs G hp h3
      exact ⟨rg_cons h1 (gG g G hp h2) q1, by simp [h1, q2], by simp [q3]⟩
theorem gI : ∀ (i : II) {X : Cx} {E : XK} {s : Sco} {tg e : Expr}, Good T Λ κ k X s → PassG X E → mI T X.N i s tg e = true → PI X tg e (tIt (kt (T.CL Λ) X) E κ b i)
  | .seq a, X, E, s, tg, e, G, hp, hm => by
    simp only [mI, Bool.and_eq_true] at hm
    exact ri_seq (gE a G hp hm.2).pe
  | .range1 a, X, E, s, tg, e, G, hp, hm => by
    simp only [mI] at hm
    split at hm
    · simp only [Bool.and_eq_true, decide_eq_true_eq] at hm
      obtain ⟨⟨⟨rfl, h1⟩, h2⟩, h3⟩ := hm
      exact ri_range1 (G.gl h1) (G.glo.blt "range" (by decide)) h2 (gE a G hp h3).pe
    · cases hm
  | .range2 a c, X, E, s, tg, e, G, hp, hm => by
    simp only [mI] at hm
    split at hm
    · simp only [Bool.and_eq_true, decide_eq_true_eq] at hm
      obtain ⟨⟨⟨⟨⟨rfl, h1⟩, h2⟩, h3⟩, h4⟩, h5⟩ := hm
      exact ri_range2 (G.gl h1) (G.glo.blt "range" (by decide)) h2 h3 (gE a G hp h4).pe (gE c G hp h5).pe
    · cases hm
  | .enum a, X, E, s, tg, e, G, hp, hm => by
    simp only [mI] at hm
    split at hm
    · simp only [Bool.and_eq_true, decide_eq_true_eq] at hm
      obtain ⟨⟨⟨rfl, h1⟩, h2⟩, h3⟩ := hm
      exact ri_enum (G.gl h1) (G.glo.blt "enumerate" (by decide)) h2 (gE a G hp h3).pe
    · cases hm
  | .zip a c, X, E, s, tg, e, G, hp, hm => by
    simp only [mI] at hm
    split at hm
    · simp only [Bool.and_eq_true, decide_eq_true_eq] at hm
      obtain ⟨⟨⟨⟨⟨rfl, h1⟩, h2⟩, h3⟩, h4⟩, h5⟩ := hm
      exact ri_zip (G.gl h1) (G.glo.blt "zip" (by decide)) h2 h3 (gE a G hp h4).pe (gE c G hp h5).pe
    · cases hm
  | .zip3 a c d, X, E, s, tg, e, G, hp, hm => by
    simp only [mI] at hm
    split at hm
    · simp only [Bool.and_eq_true, decide_eq_true_eq] at hm
      obtain ⟨⟨⟨⟨⟨⟨⟨rfl, h1⟩, h2⟩, h3⟩, h4⟩, h5⟩, h6⟩, h7⟩ := hm
      exact ri_zip3 (G.gl h1) (G.glo.blt "zip" (by decide)) h2 h3 h4 (gE a G hp h5).pe (gE c G hp h6).pe (gE d G hp h7).pe
    · cases hm
end
end
end Pi
end

section
/-! PiStmt: statements. -/
namespace Pi
open PySem PySem.Spec PyProof.Rows L2

inductive FV where
  | nx (σ : L2.St) | brk (σ : L2.St) | ct (σ : L2.St) | ret (v : V)
def rlF (C : Kt) : Rl (Fl × Slots) FV where
  r := fun w0 S w p q => match p.1, q with
    | .nx, .nx σ => EE C p.2 σ w
    | .brk, .brk σ => EE C p.2 σ w
    | .ct, .ct σ => EE C p.2 σ w
    | .ret d fr, .ret v => RR C fr w0 S w d v
    | _, _ => False
  back := fun {w w1 S w' a b} x h => by
    obtain ⟨fl, env⟩ := a
    cases fl <;> cases b <;> first | exact h | exact h.elim | exact (rlD C _).back x h
def QF (D : Ends) : FV → Hp → Prop := fun q H => match q with
  | .nx σ => D.nx σ H
  | .brk σ => D.bk σ H
  | .ct σ => D.ct σ H
  | .ret v => D.rt v H
section
variable (C : Kt) (E : XK) (κ : Calls) (b : Nat)
def tSt (s : IS) : TS := fun D σ H => ∃ B w S env, At C B b S env w σ H ∧ Po C E B (rlF C) w (evS κ b s env S) (QF D)
def tBl (s : List IS) : TS := fun D σ H => ∃ B w S env, At C B b S env w σ H ∧ Po C E B (rlF C) w (evB κ b s env S) (QF D)
end

section
variable {CL : List String × List (String × String) × Lx} {X : Cx} {E : XK} {κ : Calls} {b : Nat} {x y tg : Expr} {st : Stmt} {sts us : List Stmt} {i j k : IE} {g : IG} {it : II} {s : IS} {ss ts : List IS} {pos pos' : Pos}
/-- .. goes on -/
theorem po_nx {C : Kt} {B : Nat → Prop} {w : Wd} {S : Store} {env : Slots} {σ : L2.St} {D : Ends} (a : EE C env σ w) (s : SS C B S w) (h : Po C E B (rlF C) w (.ok (.nx, env) S) (QF D)) : D.nx σ w.H := h w (.nx σ) (.refl w) s a
theorem rs_nil : PSs X [] (tBl (kt CL X) E κ b []) :=
  PSs.imp pss_nil fun D σ H ⟨B, w, S, env, a, h⟩ => by
    have := po_nx a.ee a.ss (show Po (kt CL X) E B (rlF (kt CL X)) w (.ok (.nx, env) S) (QF D) from h)
    rw [a.hp] at this
    exact this
theorem rs_cons (hs : PS X st (tSt (kt CL X) E κ b s)) (hss : PSs X sts (tBl (kt CL X) E κ b ss)) : PSs X (st :: sts) (tBl (kt CL X) E κ b (s :: ss)) :=
  PSs.imp (pss_cons hs hss) fun D σ H ⟨B, w, S, env, a, h⟩ => by
    have h' : Po (kt CL X) E B (rlF (kt CL X)) w ((evS κ b s env S).bind fun t S => match t.1 with
      | .nx => evB κ b ss t.2 S
      | f => .ok (f, t.2) S) (QF D) := h
    refine ⟨B, w, S, env, a, ?_⟩
    cases e : evS κ b s env S with
    | bad => rw [e] at h'; exact h'
    | err z S' => rw [e] at h'; exact h'
    | ok t S' =>
      rw [e] at h'
      obtain ⟨fl, env'⟩ := t
      intro w' q x' s' r
      cases fl with
      | nx =>
        cases q <;> first | exact (show False from r).elim | skip
        exact ⟨B, w', S', env', ⟨rfl, s', r, a.bb⟩, (show Po (kt CL X) E B (rlF (kt CL X)) w (evB κ b ss env' S') (QF D) from h').ext x'⟩
      | brk =>
        cases q <;> first | exact (show False from r).elim | skip
        exact (show Po (kt CL X) E B (rlF (kt CL X)) w (.ok (.brk, env') S') (QF D) from h') w' (.brk _) x' s' r
      | ct =>
        cases q <;> first | exact (show False from r).elim | skip
        exact (show Po (kt CL X) E B (rlF (kt CL X)) w (.ok (.ct, env') S') (QF D) from h') w' (.ct _) x' s' r
      | ret d fr =>
        cases q <;> first | exact (show False from r).elim | skip
        exact (show Po (kt CL X) E B (rlF (kt CL X)) w (.ok (.ret d fr, env') S') (QF D) from h') w' (.ret _) x' s' r
theorem rs_dead : PS X st (tSt (kt CL X) E κ b .dead) := PS.imp ps_never fun D σ H ⟨B, w, S, env, a, h⟩ => h
theorem rs_pass : PS X (.Pass pos) (tSt (kt CL X) E κ b .pass) :=
  PS.imp ps_pass fun D σ H ⟨B, w, S, env, a, h⟩ => by
    have := po_nx a.ee a.ss (show Po (kt CL X) E B (rlF (kt CL X)) w (.ok (.nx, env) S) (QF D) from h)
    rw [a.hp] at this
    exact this
theorem rs_brk : PS X (.Break pos) (tSt (kt CL X) E κ b .brk) :=
  PS.imp ps_break fun D σ H ⟨B, w, S, env, a, h⟩ => by
    have := (show Po (kt CL X) E B (rlF (kt CL X)) w (.ok (.brk, env) S) (QF D) from h) w (.brk σ) (.refl w) a.ss a.ee
    rw [a.hp] at this
    exact this
theorem rs_cont : PS X (.Continue pos) (tSt (kt CL X) E κ b .cont) :=
  PS.imp ps_continue fun D σ H ⟨B, w, S, env, a, h⟩ => by
    have := (show Po (kt CL X) E B (rlF (kt CL X)) w (.ok (.ct, env) S) (QF D) from h) w (.ct σ) (.refl w) a.ss a.ee
    rw [a.hp] at this
    exact this
theorem rs_ex (hn : notComp x = true) (hx : PE X x (tI (kt CL X) E κ b i)) : PS X (.Expr x pos) (tSt (kt CL X) E κ b (.ex i)) :=
  PS.imp (ps_expr hx (by cases x <;> first | rfl | (simp [notComp] at hn))) fun D σ H ⟨B, w, S, env, a, h⟩ => by
    have h' : Po (kt CL X) E B (rlF (kt CL X)) w ((ev κ b false i env S).bind fun _ S => .ok (.nx, env) S) (QF D) := h
    refine tI_bind a h' fun w1 S1 d v a1 x1 r1 p1 => ?_
    exact po_nx a1.ee a1.ss p1
theorem rs_ret (hx : PE X x (tI (kt CL X) E κ b i)) : PS X (.Return (some x) pos) (tSt (kt CL X) E κ b (.ret i)) :=
  PS.imp (ps_ret hx) fun D σ H ⟨B, w, S, env, a, h⟩ => by
    have h' : Po (kt CL X) E B (rlF (kt CL X)) w ((ev κ b false i env S).bind fun u S => .ok (.ret u i.fresh, env) S) (QF D) := h
    refine ⟨B, w, S, env, a, ?_⟩
    cases e : ev κ b false i env S with
    | bad => rw [e] at h'; exact h'
    | err z S' => rw [e] at h'; exact h'
    | ok d S' =>
      rw [e] at h'
      exact fun w' v x' s' r => (show Po (kt CL X) E B (rlF (kt CL X)) w (.ok (.ret d i.fresh, env) S') (QF D) from h') w' (.ret v) x' s' r
theorem rs_retN : PS X (.Return none pos) (tSt (kt CL X) E κ b .retN) :=
  PS.imp ps_retN fun D σ H ⟨B, w, S, env, a, h⟩ => by
    have := (show Po (kt CL X) E B (rlF (kt CL X)) w (.ok (.ret .non false, env) S) (QF D) from h) w (.ret .non) (.refl w) a.ss (rr_of (show VR (kt CL X) w .non .non by unfold VR; rfl))
    rw [a.hp] at this
    exact this
theorem rs_iff {c : Expr} {p q : List Stmt} (hc : PT X c (tT (kt CL X) E κ b i)) (hp : PSs X p (tBl (kt CL X) E κ b ss)) (hq : PSs X q (tBl (kt CL X) E κ b ts)) : PS X (.If c p q pos) (tSt (kt CL X) E κ b (.iff i ss ts)) :=
  PS.imp (ps_if hc hp hq) fun D σ H ⟨B, w, S, env, a, h⟩ => by
    have h' : Po (kt CL X) E B (rlF (kt CL X)) w ((asB (ev κ b true i env S)).bind fun t S => if t then evB κ b ss env S else evB κ b ts env S) (QF D) := h
    refine tT_bind a h' fun w1 S1 c a1 x1 p1 => ?_
    cases c with
    | true => exact ⟨B, w1, S1, env, a1, p1⟩
    | false => exact ⟨B, w1, S1, env, a1, p1⟩
/-- an assignment's reading -/
theorem ti_asg {D : Ends} {σ : L2.St} {H : Hp} (h : tSt (kt CL X) E κ b (.assign g i) D σ H) : tAsg (tI (kt CL X) E κ b i) (tGt (kt CL X) E κ b g) D σ H := by
  obtain ⟨B, w, S, env, a, h⟩ := h
  have h' : Po (kt CL X) E B (rlF (kt CL X)) w ((ev κ b false i env S).bind fun u S => (evG κ b g u env S).bind fun env S => .ok (.nx, env) S) (QF D) := h
  refine tI_bind a h' fun w1 S1 d v a1 x1 r1 p1 => ?_
  refine ⟨B, w1, S1, env, d, a1, r1, (Po.bind (rel := rlG (kt CL X) σ (slotsG g)) p1).mono fun σ' H1 ⟨w2, S2, env', e, x2, s2, ⟨re, _, _⟩, p⟩ => ?_⟩
  subst e
  exact po_nx re s2 (p.ext x2)
theorem rs_asg (hs : swapsWithSole [tg] x pos.line X.env = pure false) (hw : swappedStores [tg] x X.env = pure none) (hn : notStar tg = true) (hx : PE X x (tI (kt CL X) E κ b i)) (hg : PG X tg (tGt (kt CL X) E κ b g)) : PS X (.Assign [tg] x pos) (tSt (kt CL X) E κ b (.assign g i)) :=
  PS.imp (ps_asg hx hg hs hw (assign_one hn)) fun D σ H h => ti_asg h
theorem rs_for {iter : Expr} {body : List Stmt} (hp : PassesOwn (model X.prog X.w) X.A X.env X.xe) (hc : X.calm = true) (hi : PI X tg iter (tIt (kt CL X) E κ b it)) (hg : PG X tg (tGt (kt CL X) E κ b g)) (hb : PSs X body (tBl (kt CL X) E κ b ss))
    (hs : ∀ x, foldedSetIterable iter X.env x = pure x) : PS X (.For tg iter body [] pos) (tSt (kt CL X) E κ b (.for_ g it ss)) :=
  PS.imp (ps_for hp hc hi hg hb hs) fun D σ H ⟨B, w, S, env, a, h⟩ => by
    have h' : Po (kt CL X) E B (rlF (kt CL X)) w ((evI κ b it env S).bind fun r S => loopL r.2.1 r.2.2 (fun x env S => (evG κ b g x env S).bind fun env S => evB κ b ss env S) r.1 env S) (QF D) := h
    refine ⟨B, w, S, env, a, (Po.bind h').mono fun J H1 ⟨w1, S1, r, eH, x1, s1, hJ, p⟩ => ?_⟩
    subst eH
    obtain ⟨items, g1, g2⟩ := r
    have hJ : ItOk (kt CL X) B J items g1 g2 w1 := hJ
    have a1 := a.ext x1 s1
    generalize hbd : (fun x env S => (evG κ b g x env S).bind fun env S => evB κ b ss env S) = bd at p
    have p : Po (kt CL X) E B (rlF (kt CL X)) w (loopL g1 g2 bd items env S1) (QF D) := p
    refine ⟨fun n m σ H => ∃ w2 S2 env2, At (kt CL X) B b S2 env2 w2 σ H ∧ Ext w1 w2 ∧ m = items.length - n ∧ n ≤ items.length ∧ Po (kt CL X) E B (rlF (kt CL X)) w2 (loopL g1 g2 bd (items.drop n) env2 S2) (QF D), ⟨items.length, w1, S1, env, a1, .refl w1, by simp, Nat.zero_le _, p.ext x1⟩, ?_⟩
    rintro n m σ2 H2 ⟨w2, S2, env2, a2, x2, em, hn, p2⟩
    have eH := a2.hp
    subst eH
    by_cases hlt : n < items.length
    · rw [List.drop_eq_getElem_cons hlt] at p2
      unfold loopL at p2
      split at p2
      · rename_i hg
        rw [Bool.and_eq_true] at hg
        obtain ⟨hgo, hyld⟩ := (hJ w2 S2 n x2 a2.ss hg.1 hg.2).1 items[n] (by simp [hlt])
        refine .inr ⟨hgo, fun σ H => ∃ w2 S2 env2, At (kt CL X) B b S2 env2 w2 σ H ∧ Ext w1 w2 ∧ Po (kt CL X) E B (rlF (kt CL X)) w2 (loopL g1 g2 bd (items.drop (n + 1)) env2 S2) (QF D), fun σ' H' ⟨w3, S3, env3, q1, q2, q3⟩ => ⟨items.length - (n + 1), by omega, w3, S3, env3, q1, q2, rfl, hlt, q3⟩, fun y H' hy => ?_⟩
        obtain ⟨w3, eH, x3, s3, r3⟩ := hyld y H' hy
        subst eH
        have ebd : bd items[n] env2 S2 = (evG κ b g items[n] env2 S2).bind fun env S => evB κ b ss env S := by rw [← hbd]
        have p3 : Po (kt CL X) E B (rlF (kt CL X)) w3 ((evG κ b g items[n] env2 S2).bind fun env S => (evB κ b ss env S).bind fun r S' => match r.1 with
          | .nx | .ct => loopL g1 g2 bd (items.drop (n + 1)) r.2 S'
          | .brk => .ok (.nx, r.2) S'
          | .ret d fr => .ok (.ret d fr, r.2) S') (QF D) := by
          have := p2.ext x3
          rw [ebd] at this
          cases e : evG κ b g items[n] env2 S2 with
          | ok env' S' => rw [e] at this; exact this
          | err z S' => rw [e] at this; exact this
          | bad => rw [e] at this; exact this
        refine ⟨B, w3, S2, env2, items[n], ⟨rfl, s3, a2.ee.ext x3.toGr a2.ss.muts, a.bb⟩, r3, (Po.bind (rel := rlG (kt CL X) σ2 (slotsG g)) p3).mono fun σ4 H4 ⟨w4, S4, env4, e, x4, s4, ⟨re, _, _⟩, p4⟩ => ?_⟩
        subst e
        have p4 : Po (kt CL X) E B (rlF (kt CL X)) w4 ((evB κ b ss env4 S4).bind fun r S' => match r.1 with
          | .nx | .ct => loopL g1 g2 bd (items.drop (n + 1)) r.2 S'
          | .brk => .ok (.nx, r.2) S'
          | .ret d fr => .ok (.ret d fr, r.2) S') (QF D) := p4.ext x4
        refine ⟨B, w4, S4, env4, ⟨rfl, s4, re, a.bb⟩, ?_⟩
        cases e : evB κ b ss env4 S4 with
        | bad => rw [e] at p4; exact p4
        | err z S' => rw [e] at p4; exact p4
        | ok t S' =>
          rw [e] at p4
          obtain ⟨fl, env5⟩ := t
          intro w' q x' s' r
          have x15 : Ext w1 w' := ((x2.trans x3).trans x4).trans x'
          cases fl with
          | nx =>
            cases q <;> first | exact (show False from r).elim | skip
            exact ⟨w', S', env5, ⟨rfl, s', r, a.bb⟩, x15, (show Po (kt CL X) E B (rlF (kt CL X)) w4 (loopL g1 g2 bd (items.drop (n + 1)) env5 S') (QF D) from p4).ext x'⟩
          | ct =>
            cases q <;> first | exact (show False from r).elim | skip
            exact ⟨w', S', env5, ⟨rfl, s', r, a.bb⟩, x15, (show Po (kt CL X) E B (rlF (kt CL X)) w4 (loopL g1 g2 bd (items.drop (n + 1)) env5 S') (QF D) from p4).ext x'⟩
          | brk =>
            cases q <;> first | exact (show False from r).elim | skip
            exact (show Po (kt CL X) E B (rlF (kt CL X)) w4 (.ok (.nx, env5) S') (QF D) from p4) w' (.nx _) x' s' r
          | ret d fr =>
            cases q <;> first | exact (show False from r).elim | skip
            exact (show Po (kt CL X) E B (rlF (kt CL X)) w4 (.ok (.ret d fr, env5) S') (QF D) from p4) w' (.ret _) x' s' r
      · exact p2.elim
    · have hn' : n = items.length := by omega
      subst hn'
      rw [List.drop_length] at p2
      unfold loopL at p2
      split at p2
      · rename_i hg
        rw [Bool.and_eq_true] at hg
        exact .inl ⟨(hJ w2 S2 _ x2 a2.ss hg.1 hg.2).2 rfl, po_nx a2.ee a2.ss p2⟩
      · exact p2.elim
theorem rs_while {c : Expr} {body : List Stmt} (hp : PassesOwn (model X.prog X.w) X.A X.env X.xe) (hc : PT X c (tT (kt CL X) E κ b i)) (hb : PSs X body (tBl (kt CL X) E κ b ss)) : PS X (.While c body [] pos) (tSt (kt CL X) E κ b (.while_ i ss)) :=
  PS.imp (ps_while hp hc hb) fun D σ H ⟨B, w, S, env, a, h⟩ => by
    have h' : Po (kt CL X) E B (rlF (kt CL X)) w (whileN (fun env S => asB (ev κ b true i env S)) (evB κ b ss) fuelW env S) (QF D) := h
    refine ⟨fun m σ H => ∃ w2 S2 env2, At (kt CL X) B b S2 env2 w2 σ H ∧ Po (kt CL X) E B (rlF (kt CL X)) w2 (whileN (fun env S => asB (ev κ b true i env S)) (evB κ b ss) m env2 S2) (QF D), ⟨fuelW, w, S, env, a, h'⟩, ?_⟩
    rintro m σ2 H2 ⟨w2, S2, env2, a2, p2⟩
    cases m with
    | zero => exact (show False from p2).elim
    | succ m =>
      have p2 : Po (kt CL X) E B (rlF (kt CL X)) w2 ((asB (ev κ b true i env2 S2)).bind fun c S1 => if c then
        (evB κ b ss env2 S1).bind fun r S' => match r.1 with
          | .nx | .ct => whileN (fun env S => asB (ev κ b true i env S)) (evB κ b ss) m r.2 S'
          | .brk => .ok (.nx, r.2) S'
          | .ret d fr => .ok (.ret d fr, r.2) S'
        else .ok (.nx, env2) S1) (QF D) := p2
      refine tT_bind a2 p2 fun w3 S3 c a3 x3 p3 => ?_
      cases c with
      | false => exact po_nx a3.ee a3.ss p3
      | true =>
        refine ⟨fun σ H => ∃ w2 S2 env2, At (kt CL X) B b S2 env2 w2 σ H ∧ Po (kt CL X) E B (rlF (kt CL X)) w2 (whileN (fun env S => asB (ev κ b true i env S)) (evB κ b ss) m env2 S2) (QF D), fun σ' H' q => ⟨m, Nat.lt_succ_self m, q⟩, B, w3, S3, env2, a3, ?_⟩
        have p4 : Po (kt CL X) E B (rlF (kt CL X)) w3 ((evB κ b ss env2 S3).bind fun r S' => match r.1 with
          | .nx | .ct => whileN (fun env S => asB (ev κ b true i env S)) (evB κ b ss) m r.2 S'
          | .brk => .ok (.nx, r.2) S'
          | .ret d fr => .ok (.ret d fr, r.2) S') (QF D) := p3
        cases e : evB κ b ss env2 S3 with
        | bad => rw [e] at p4; exact p4
        | err z S' => rw [e] at p4; exact p4
        | ok t S' =>
          rw [e] at p4
          obtain ⟨fl, env5⟩ := t
          intro w' q x' s' r
          cases fl with
          | nx =>
            cases q <;> first | exact (show False from r).elim | skip
            exact ⟨w', S', env5, ⟨rfl, s', r, a.bb⟩, (show Po (kt CL X) E B (rlF (kt CL X)) w3 (whileN _ _ m env5 S') (QF D) from p4).ext x'⟩
          | ct =>
            cases q <;> first | exact (show False from r).elim | skip
            exact ⟨w', S', env5, ⟨rfl, s', r, a.bb⟩, (show Po (kt CL X) E B (rlF (kt CL X)) w3 (whileN _ _ m env5 S') (QF D) from p4).ext x'⟩
          | brk =>
            cases q <;> first | exact (show False from r).elim | skip
            exact (show Po (kt CL X) E B (rlF (kt CL X)) w3 (.ok (.nx, env5) S') (QF D) from p4) w' (.nx _) x' s' r
          | ret d fr =>
            cases q <;> first | exact (show False from r).elim | skip
            exact (show Po (kt CL X) E B (rlF (kt CL X)) w3 (.ok (.ret d fr, env5) S') (QF D) from p4) w' (.ret _) x' s' r
theorem rs_aug {n : Nat} {id : Str} (hN : X.N.Nodup) (hi : X.N[n]? = some id) (hl : Loc X.env.scope id) (hf : X.fn id = true ∨ X.env.scope.names.lookup id = some .local) (hx : PE X x (tI (kt CL X) E κ b i)) : PS X (.AugAssign (.Name id pos') .Add x pos) (tSt (kt CL X) E κ b (.aug n i)) :=
  PS.imp (ps_aug hN hi hl hx ip_add hf) fun D σ H ⟨B, w, S, env, a, h⟩ => by
    have h' : Po (kt CL X) E B (rlF (kt CL X)) w ((R.of (env[n]?.bind fun x => x) S).bind fun x S => (ev κ b false i env S).bind fun y S => match x, y with
      | .int m, .int n' => .ok (.nx, env.set n (some (.int (m + n')))) S
      | _, _ => .bad) (QF D) := h
    obtain ⟨d0, e0, p0⟩ := po_of h'
    have e1 : env[n]? = some (some d0) := by
      cases q : env[n]? with
      | none => rw [q] at e0; cases e0
      | some o => rw [q] at e0; exact congrArg some e0
    obtain ⟨v0, k1, k2⟩ := a.ee.slot n d0 e1
    refine ⟨v0, k1, tI_bind a p0 fun w1 S1 d v a1 x1 r1 p1 => ?_⟩
    cases d0 with
    | int m =>
      cases d with
      | int m' =>
        refine ⟨m, m', vint k2, vint r1, ?_⟩
        have p1 : Po (kt CL X) E B (rlF (kt CL X)) w1 (.ok (.nx, env.set n (some (.int (m + m')))) S1) (QF D) := p1
        exact po_nx (a1.ee.set n (show VR (kt CL X) w1 (.int (m + m')) (.int (m + m')) by unfold VR; rfl)) a1.ss p1
      | _ => exact p1.elim
    | _ => exact p1.elim
theorem rs_augA {c f : String} {tpos : Pos} (fo : FldOk CL X) (hcf : (c, f) ∈ CL.2.1) (hx : PE X x (tI (kt CL X) E κ b i)) (hy : PE X y (tI (kt CL X) E κ b j)) : PS X (.AugAssign (.Attribute x (Str.ofString f) tpos) .Add y pos) (tSt (kt CL X) E κ b (.augA c i f j)) :=
  PS.imp (ps_fldaug hx hy in_add) fun D σ H ⟨B, w, S, env, a, h⟩ => by
    have h' : Po (kt CL X) E B (rlF (kt CL X)) w ((ev κ b false i env S).bind fun u S => match insOf S u with
      | some (c', ns, vs) => if c' = c then (R.of (look f ns vs) S).bind fun x S => (ev κ b false j env S).bind fun y S => match x, y, u with
          | .int m, .int n, .obj o => (R.of (setF S o c f (.int (m + n))) S).bind fun S' _ => .ok (.nx, env) S'
          | _, _, _ => .bad
        else .bad
      | none => .bad) (QF D) := h
    refine tI_bind a h' fun w1 S1 d v a1 x1 r1 p1 => ?_
    cases e : insOf S1 d with
    | none => rw [e] at p1; exact p1.elim
    | some t =>
      obtain ⟨c', ns, ds⟩ := t
      rw [e] at p1
      obtain ⟨ad, cl, dx, vs, rfl, hc, h1, ho, rs, hl, hf⟩ := ins_rel a1.ss r1 e
      have p2 : Po (kt CL X) E B (rlF (kt CL X)) w1 (if c' = c then (R.of (look f ns ds) S1).bind fun x S => (ev κ b false j env S).bind fun y S => match (generalizing := false) x, y, d with
          | .int m, .int n, .obj o => (R.of (setF S o c f (.int (m + n))) S).bind fun S' _ => .ok (.nx, env) S'
          | _, _, _ => .bad
        else .bad) (QF D) := p1
      clear p1
      split at p2
      · rename_i ec
        subst ec
        obtain ⟨d', q, p3⟩ := po_of p2
        obtain ⟨v', hv', rv'⟩ := look_fld rs q
        obtain ⟨k1, k2⟩ := fo c' f hcf cl hc.2
        refine ⟨ad, cl, dx, _, v', rfl, h1, k1, k2, hv', ?_⟩
        refine tI_bind a1 p3 fun w2 S2 dy vy a2 x2 r2 p4 => ?_
        cases d' with
        | int m =>
          cases dy with
          | int n =>
            cases d with
            | obj o =>
              refine ⟨m, n, vint rv', vint r2, ?_⟩
              have p4 : Po (kt CL X) E B (rlF (kt CL X)) w2 ((R.of (setF S2 o c' f (.int (m + n))) S2).bind fun S' _ => .ok (.nx, env) S') (QF D) := p4
              obtain ⟨S', es, p5⟩ := po_of p4
              have hro := VR.ext x2.toGr a1.ss.muts _ _ r1
              obtain ⟨ad', cl', dx', fs', ea, q1, q2, _, _, q5, xx, ss⟩ := setF_ok (b := b) fo hcf a2.ss a2.bb (show wrOk b o (.int (m + n)) = true by unfold wrOk; split <;> rfl) es hro (show VR (kt CL X) w2 (.int (m + n)) (.int (m + n)) by unfold VR; rfl)
              cases ea
              have ecl : cl' = cl := by
                have z : X.mg (Str.ofString c') = some (.ref cl) := hc.2
                rw [q2] at z; cases z; rfl
              subst ecl
              exact ⟨dx', fs', q1, q5, p5 _ (.nx σ) xx ss (a2.ee.ext xx.toGr a2.ss.muts)⟩
            | _ => exact p4.elim
          | _ => exact p4.elim
        | _ => exact p4.elim
      · exact p2.elim
end
end Pi
end

section
set_option maxHeartbeats 2000000
/-! PiTry: several except clauses with a name each; raise and try of the small syntax. -/
namespace Pi
open PySem PySem.Spec PyProof.Rows L2

/-- what the clauses 'except c as n' wish of an error of the body -/
def wManyAs (K : PySem.W.Frag) (Wout : WX) (D : Ends) : List (Value × Nat × (Addr → Value → Option Addr → TS)) → WX
  | [] => Wout
  | (c, i, ts) :: r => fun cls d σ H => ∃ b, PySem.W.exmOne K cls c = some b ∧
      (b = true → ∀ a, H a = none → i < σ.length → ts a cls d { nx := fun σ' H' => D.nx (σ'.set i none) H', rt := D.rt, bk := fun σ' H' => D.bk (σ'.set i none) H', ct := fun σ' H' => D.ct (σ'.set i none) H' } (σ.set i (some (.ref a))) H) ∧ (b = false → wManyAs K Wout D r cls d σ H)
inductive HdsA (X : Cx) : List ExceptHandler → List (Value × Nat × (Addr → Value → Option Addr → TS)) → Prop
  | nil : HdsA X [] []
  | cons {x n : Str} {c : Value} {i : Nat} {ts : Addr → Value → Option Addr → TS} {b₀ : Stmt} {suite : List Stmt} {np pos' : Pos} {hds : List ExceptHandler} {l : List (Value × Nat × (Addr → Value → Option Addr → TS))} (hc : Names X x c) (hi : X.N[i]? = some n) (hln : X.env.kindOf n = some .local)
      (hsu : ∀ (a : Addr) (oe : Obj) (cls : Value) (d : Option Addr) (pn : List (Addr × Obj)), Zc cls d oe → (∃ vs, oe.data = .fields vs) → PSs (X.suite a ((a, oe) :: pn)) (b₀ :: suite) (ts a cls d)) (r : HdsA X hds l) :
      HdsA X (.ExceptHandler (some (.Name x np)) (some n) (b₀ :: suite) pos' :: hds) ((c, i, ts) :: l)
section
variable {X : Cx} {body : List Stmt} {h₀ : ExceptHandler} {hds : List ExceptHandler} {l : List (Value × Nat × (Addr → Value → Option Addr → TS))} {pos : Pos} {tb : WX → TS} {Wout : WX}
theorem ps_try_manyas (hs : X.stack = X.env :: X.outer) (hf : X.env.frame = some X.env.locals) (hN : X.N.Nodup) (tk : Takes X Wout)
    (hb : ∀ (W : WX) (pn : List (Addr × Obj)) (xe : Value → Shared → Prop), Takes (X.tr pn xe) W → PassesOwn (model X.prog X.w) X.A X.env xe → PSs (X.tr pn xe) body (tb W))
    (hh : HdsA X (h₀ :: hds) l) : PS X (.Try body (h₀ :: hds) [] [] pos) (fun D σ H => tb (wManyAs X.K Wout D l) D σ H) := by
  refine ⟨fun pins s σ H D I h => ?_⟩
  have ok := I.ok
  have hfr : X.A.frames = some (X.env :: X.outer) := by rw [ok.frames, hs]
  refine wpAny_Try_except ?_
  refine wpAny_mono ((hb (wManyAs X.K Wout D l) (X.pn ++ pins) (fun e s₁ => wpAny (model X.prog X.w) X.A (noteFrame e X.env) (fun _ s₂ => wpAny (model X.prog X.w) X.A (setFlight e none) (fun _ s₃ =>
    wpAny (model X.prog X.w) X.A (handleBy e X.env (h₀ :: hds)) (SP X pins D) X.xe s₃) X.xe s₂) X.xe s₁) (fun u s' xx => ?_) PassesOwn.looking).run [] s σ H D (I.toTry _) h) (fun f s1 hsp => ?_) (fun e s1 he => he)
  · -- the catch
    obtain ⟨a, B, sI, pins', σ', H', cls, d, rfl, J', nb, up, sky, na, os, ag, w⟩ := xx
    have J : Inv X pins σ' H' sI := J'.ofTry ok
    have sky' : Sky B (X.env :: X.outer) a (Zc cls d) X.env.locals s'.heap := by rw [← hs]; exact sky
    show wpAny (model X.prog X.w) X.A (noteFrame (.ref a) X.env) _ _ _
    refine Sky.land Zc.steady hfr hf sky' fun h3 fl3 up3 => ?_
    have J3 : Inv X pins σ' H' { s' with heap := h3 } := J.landed nb fl3.1 (up.trans up3) os ag
    obtain ⟨oe3, vs3, he3, hz3, hd3⟩ := fl3.there
    have notFr : ∀ {h : Heap} {o : Obj} {vs : Array Value}, h.FunFrames B (X.env :: X.outer) → h.get? a = some o → o.data = .fields vs → a ∉ frs (X.env :: X.outer) := fun {h o vs} ff e dd hm => by
      obtain ⟨_, o', e', hnf⟩ := ff.mem hm
      rw [e] at e'; cases e'
      exact hnf _ dd
    have nfr := notFr fl3.2.2.1 he3 hd3
    have nL : a ≠ X.env.locals := fun z => nfr (List.mem_filterMap.mpr ⟨X.env, List.mem_cons_self, by rw [hf, z]⟩)
    have nF : a ∉ X.fs := fun hm => by
      obtain ⟨e, he, q⟩ := List.mem_filterMap.mp hm
      exact nfr (List.mem_filterMap.mpr ⟨e, List.mem_cons_of_mem _ he, q⟩)
    have S3 := J3.suite he3 hd3 na nL nF
    have go : ∀ {hds' : List ExceptHandler} {l' : List (Value × Nat × (Addr → Value → Option Addr → TS))}, HdsA X hds' l' → wManyAs X.K Wout D l' cls d σ' H' →
        wpAny (model X.prog X.w) X.A (handleBy (.ref a) X.env hds') (SP X pins D) X.xe { s' with heap := h3 } := by
      intro hds' l' hk
      induction hk with
      | nil =>
        intro w
        refine wpAny_handleBy_nil ?_
        obtain ⟨k1, k2, k3, oe, vs, T, oT, ts', he, hz, hd, h1, hr⟩ := id fl3
        unfold PySem.passOn
        refine wpAny_bind (wpAny_field he hd h1 ?_)
        rw [if_neg (show ¬ ((Value.ref T == Value.none) = true) from by simp)]
        have fin : wpAny (model X.prog X.w) X.A (setFlight (.ref a) X.env.frame) (fun _ s4 => wpAny (model X.prog X.w) X.A (throw (.ref a) : Sem Flow) (SP X pins D) X.xe s4) X.xe { s' with heap := h3 } := by
          rw [hf]
          refine HandSPX.setFlight_upZ fl3 fun h4 hh4 up4 => wpAny_throw (tk _ _ ?_)
          exact ⟨a, B, sI, pins, σ', H', cls, d, rfl, J, nb, (up.trans up3).trans up4, .inr (.inr (by rw [hs]; exact hh4)), na, os, ag, w⟩
        first
          | exact wpAny_bind (wpAny_pure (wpAny_bind fin))
          | exact wpAny_bind fin
      | @cons x n c i ts b₀ suite np pos' hds2 l2 hc hi hln hsu r ih =>
        intro w
        obtain ⟨b, hb1, hyes, hno⟩ := w
        refine wpAny_handleBy_cons (codeAny_handlers_test ?_) (by intro q; cases q)
        have LT : PySem.W.Looks (model X.prog X.w) h3 (typeOf (.ref a)) cls := fun A Q E s k q => wpAny_typeOf_ref (k _ _ he3) (by rw [hz3.1]; exact q)
        have LM := PySem.W.exm_one (M := model X.prog X.w) (J3.kIn) LT hb1
        have test : ∀ {Q : Value → Shared → Prop} {E : Value → Shared → Prop}, Q c { s' with heap := h3 } → wpAny (model X.prog X.w) (X.A.mark (some (.ref a))) (eval (.Name x np) X.env) Q E { s' with heap := h3 } := fun {Q E} q => by
          obtain ⟨hg, hdbg, hm | ⟨hm, hv, hnn⟩⟩ := hc
          · exact ld_glob (X := X.suite a ((a, oe3) :: (X.pn ++ pins))) S3 hg hm q hdbg
          · exact ld_blt (X := X.suite a ((a, oe3) :: (X.pn ++ pins))) S3 hg hm hv q hnn hdbg
        refine test (LM.here ?_)
        cases b with
        | true =>
          have hloc : Loc X.env.scope n := .inl hln
          refine codeAny_handlers_suite_as ?_
          refine HandSPX.lands_againZ fl3 fun h4 fl4 up4 => ?_
          have J4 : Inv X pins σ' H' { s' with heap := h4 } := J.landed nb fl4.1 ((up.trans up3).trans up4) os ag
          obtain ⟨oe4, vs4, he4, hz4, hd4⟩ := fl4.there
          have S4 := J4.suite he4 hd4 na nL nF
          have hil : i < σ'.length := by
            rw [J.len]
            exact (List.getElem?_eq_some_iff.mp hi).1
          refine store_ok (X := X.suite a ((a, oe4) :: (X.pn ++ pins))) (v := .ref a) S4 hN hi hloc rfl (fun s5 S5 => ?_) (.inr hln)
          refine wpAny_mono ((hsu a oe4 cls d (X.pn ++ pins) hz4 ⟨_, hd4⟩).run [] s5 _ H' _ S5 (hyes rfl a na hil)) (fun f s6 hsp => ?_) (fun _ _ z => False.elim z)
          have end_ : ∀ {σ6 : L2.St} {H6 : Hp} {Q : Shared → Prop}, Inv (X.suite a ((a, oe4) :: (X.pn ++ pins))) [] σ6 H6 s6 → (∀ s7, Inv X pins (σ6.set i none) H6 s7 → Q s7) →
              wpAny (model X.prog X.w) X.A (do bindName X.env n .none; unbindBehindTheSuite X.env n pos') (fun _ s7 => Q s7) X.xe s6 := fun {σ6 H6 Q} S6 hq => gone_ok (S6.unsuite ok) hN hi hln hq
          cases f with
          | next =>
            obtain ⟨σ6, H6, S6, q6⟩ := hsp
            exact end_ S6 fun s7 J7 => ⟨_, _, J7, q6⟩
          | brk =>
            obtain ⟨σ6, H6, S6, q6⟩ := hsp
            exact end_ S6 fun s7 J7 => ⟨_, _, J7, q6⟩
          | cont =>
            obtain ⟨σ6, H6, S6, q6⟩ := hsp
            exact end_ S6 fun s7 J7 => ⟨_, _, J7, q6⟩
          | ret u =>
            obtain ⟨v6, σ6, H6, S6, r6, q6⟩ := hsp
            exact end_ S6 fun s7 J7 => ⟨_, _, _, J7, r6, q6⟩
        | false =>
          show wpAny _ X.A (handleBy (.ref a) X.env hds2) _ _ _
          exact ih (hno rfl)
    exact go hh w
  · cases f with
    | next =>
      obtain ⟨σ', H', J', q⟩ := hsp
      exact wpAny_execs_nil ⟨σ', H', J'.ofTry ok, q⟩
    | brk =>
      obtain ⟨σ', H', J', q⟩ := hsp
      exact ⟨σ', H', J'.ofTry ok, q⟩
    | cont =>
      obtain ⟨σ', H', J', q⟩ := hsp
      exact ⟨σ', H', J'.ofTry ok, q⟩
    | ret u =>
      obtain ⟨v, σ', H', J', r, q⟩ := hsp
      exact ⟨v, σ', H', J'.ofTry ok, r, q⟩
end

/-! ### raise -/
theorem VRs.reverse {C : Kt} {w : Wd} : ∀ {ds : List D} {vs : List V}, VRs C w ds vs → VRs C w ds.reverse vs.reverse
  | [], vs, h => by have := h.inv0; subst this; exact .nil
  | d :: ds, vs, h => by
    obtain ⟨v, r, rfl, h1, h2⟩ := h.inv
    rw [List.reverse_cons, List.reverse_cons]
    exact (VRs.reverse h2).append (.cons h1 .nil)
theorem zip_rev {α β : Type} : ∀ (l : List α) (m : List β), l.length = m.length → (l.zip m).reverse = l.reverse.zip m.reverse
  | [], [], _ => rfl
  | [], _ :: _, h => by simp at h
  | _ :: _, [], h => by simp at h
  | a :: l, b :: m, h => by
    rw [List.zip_cons_cons, List.reverse_cons, List.reverse_cons, List.reverse_cons, zip_rev l m (by simpa using h), List.zip_append (by simpa using h)]
    rfl
section
variable {CL : List String × List (String × String) × Lx} {X : Cx} {E : XK} {κ : Calls} {b : Nat}
theorem re_raise {c : String} {ns : List String} {e : Expr} {es : List Expr} {is : List IE} {p cp pos : Pos} (G : ExcG X c ns) (hc : X.calm = true) (tk : Takes X (fun cls d _ H => E cls d H)) (hr : Room 2 X.A) (hg : Gl X (Str.ofString c))
    (ha : PA X (e :: es) (tIs (kt CL X) E κ b is)) (hns : (e :: es).all notStar = true) :
    PS X (.Raise (some (.Call (.Name (Str.ofString c) p) (e :: es) [] cp)) none pos) (tSt (kt CL X) E κ b (.raise c ns is)) := by
  obtain ⟨C, fI, fd, hm, T, _, iC, tI', F1, hb, hno⟩ := G.ex
  simp only [List.all_cons, Bool.and_eq_true] at hns
  refine PS.imp (ps_raise hc tk (pmk_oex (p := p) (pos := cp) T iC tI' F1 hr hb .nil pass0 hg hm ha G.db (star_one hns.1) (star_all hns.2))) fun D σ H ⟨B, w, S, env, a, h⟩ => ?_
  have h' : Po (kt CL X) E B (rlF (kt CL X)) w ((evEs κ b is env S).bind fun us S => if us.length = ns.length ∧ us.length ≠ 0 ∧ us.length ≤ 50 then .err ⟨c, ns.reverse, us.reverse⟩ S else .bad) (QF D) := h
  refine tIs_bind a h' fun w1 S1 ds vs a1 x1 r1 p1 => ?_
  split at p1
  · rename_i hl
    obtain ⟨l1, l2, l3⟩ := hl
    have lv := r1.length
    refine ⟨by omega, fun ad hn => ⟨ad, vs, by simp, by simp; omega, fun z => ?_, upd_same, fun d hd hdn => ⟨rfl, d, ((ns.map Str.ofString).zip vs).reverse, upd_same, ?_, ?_, ?_⟩⟩⟩
    · have : ns = [] := by simpa using z
      subst this
      simp at l1
      exact l2 (by rw [l1]; rfl)
    · unfold exH
      rw [upd_ne hd, upd_same]
    · rw [upd_ne hd] at hdn; exact hdn
    · have hdn' : w1.H d = none := by rw [upd_ne hd] at hdn; exact hdn
      have eH : upd (del (exH (upd w1.H ad (exo ad C none)) ad C d (((ns.map Str.ofString).zip vs).reverse)) ad) d (.xd (((ns.map Str.ofString).zip vs).reverse)) = upd w1.H d (.xd (((ns.map Str.ofString).zip vs).reverse)) := by
        funext q
        by_cases h1 : q = d
        · subst h1; rw [upd_same, upd_same]
        · rw [upd_ne h1, upd_ne h1]
          by_cases h2 : q = ad
          · subst h2; rw [del_same, hn]
          · rw [del_ne h2]
            unfold exH
            rw [upd_ne h2, upd_ne h1, upd_ne h2]
      rw [eH]
      refine p1 (w1.put d (.xd (((ns.map Str.ofString).zip vs).reverse))) (.ref C) (some d) (a1.ss.ext_put hdn') (a1.ss.put hdn') ⟨C, hm, rfl, d, vs.reverse, rfl, ?_, ?_, by simp [l1]⟩
      · show upd w1.H d _ d = _
        rw [upd_same, zip_rev _ _ (by simp; omega), List.map_reverse]
      · exact VRs.ext (a1.ss.ext_put hdn').toGr a1.ss.muts _ _ r1.reverse
  · exact p1.elim

/-! ### try -/
def adOf (X : Cx) (c : String) : Addr := match X.mg (Str.ofString c) with
  | some (.ref a) => a
  | _ => 0
theorem adOf_of {c : String} {a : Addr} (h : X.mg (Str.ofString c) = some (.ref a)) : adOf X c = a := by unfold adOf; rw [h]
def tHf (a : Addr) (cls : Value) (d : Option Addr) (C : Addr) (i : Nat) : List (Str ⊕ String) → TA
  | [] => tNil
  | .inl s :: r => tCons (tC (.str s)) (tHf a cls d C i r)
  | .inr f :: r => tCons (tXf a cls d C (Str.ofString f) (tVar i)) (tHf a cls d C i r)
def hsOf (X : Cx) (hs : List (String × Nat × List (Str ⊕ String))) : List (Value × Nat × (Addr → Value → Option Addr → TS)) :=
  hs.map fun h => (.ref (adOf X h.1), h.2.1, fun a cls d => tRet (tTup (tHf a cls d (adOf X h.1) h.2.1 h.2.2)))
theorem tHf_ok {C : Kt} {w : Wd} {x : Exn} {a cl da : Addr} {i : Nat} {σ : L2.St} {vs : List V} (hd : w.H da = some (.xd ((x.ns.map Str.ofString).zip vs))) (rv : VRs C w x.vs vs) (hs : σ[i]? = some (some (.ref a))) :
    ∀ (hf : List (Str ⊕ String)) (ds : List D) (Q : List V → Hp → Prop), hfD x hf = some ds → (∀ us, VRs C w ds us → Q us w.H) → tHf a (.ref cl) (some da) cl i hf σ w.H Q
  | [], ds, Q, h, q => by
    simp only [hfD] at h
    cases h
    exact q [] .nil
  | .inl s :: r, ds, Q, h, q => by
    simp only [hfD] at h
    cases e : hfD x r with
    | none => rw [e] at h; cases h
    | some ds' =>
      rw [e] at h
      cases h
      exact tHf_ok hd rv hs r ds' _ e fun us ru => q (.str s :: us) (.cons (by unfold VR; rfl) ru)
  | .inr f :: r, ds, Q, h, q => by
    simp only [hfD] at h
    split at h
    · rename_i d ds' e1 e2
      cases h
      obtain ⟨v, hv, rd⟩ := look_fld rv e1
      exact ⟨.ref a, hs, rfl, rfl, da, _, v, rfl, hd, hv, tHf_ok hd rv hs r ds' _ e2 fun us ru => q (v :: us) (.cons rd ru)⟩
    · cases h
theorem many_ok {B : Nat → Prop} {w' w : Wd} {S' : Store} {env : Slots} {x : Exn} {cls : Value} {dd : Option Addr} {D : Ends} {σ' : L2.St} {known : List String} (xx : Ext w w') (ss : SS (kt CL X) B S' w') (xr : XR (kt CL X) w' x cls dd) (hk : x.cls ∈ known)
    (hex : ∀ c ∈ known, ∀ c' ∈ known, ∀ a a', X.mg (Str.ofString c) = some (.ref a) → X.mg (Str.ofString c') = some (.ref a') → PySem.W.exmOne X.K (.ref a) (.ref a') = some (decide (c = c'))) (hmg : ∀ c ∈ known, ∃ a, X.mg (Str.ofString c) = some (.ref a)) :
    ∀ (hs : List (String × Nat × List (Str ⊕ String))), (∀ h ∈ hs, h.1 ∈ known) → Po (kt CL X) E B (rlF (kt CL X)) w (handled x env S' hs) (QF D) → wManyAs X.K (fun cls d _ H => E cls d H) D (hsOf X hs) cls dd σ' w'.H
  | [], _, p => by
    exact (show Po (kt CL X) E B (rlF (kt CL X)) w (.err x S') (QF D) from p) w' cls dd xx ss xr
  | (c, i, hf) :: hs, hin, p => by
    obtain ⟨cl, h1, h2, da, vs, h3, h4, h5, h6⟩ := id xr
    obtain ⟨a', ha'⟩ := hmg c (hin (c, i, hf) (by simp))
    refine ⟨decide (x.cls = c), ?_, fun hy a na hi => ?_, fun hn => ?_⟩
    · rw [h2, adOf_of ha']
      exact hex x.cls hk c (hin (c, i, hf) (by simp)) cl a' h1 ha'
    · have e : x.cls = c := of_decide_eq_true hy
      subst e
      have h1' : X.mg (Str.ofString x.cls) = some (.ref cl) := h1
      have eac : adOf X x.cls = cl := adOf_of h1'
      subst h2
      subst h3
      unfold handled at p
      simp only [findH, if_true] at p
      cases e : hfD x hf with
      | none => rw [e] at p; exact p.elim
      | some ds =>
        rw [e] at p
        dsimp only at p
        split at p
        · rename_i hlen
          show tHf a (.ref cl) (some da) (adOf X x.cls) i hf (σ'.set i (some (.ref a))) w'.H _
          rw [eac]
          refine tHf_ok h4 h5 (by rw [List.getElem?_set_self hi]) hf ds _ e fun us ru => ⟨by rw [ru.length, sizeLine_eq]; omega, fun q hq => ?_⟩
          exact p (w'.put q (.tup us)) (.ret (.ref q)) (xx.trans (ss.ext_put hq)) (ss.put hq) (rr_of (VR.tup_new ss hq ru))
        · exact p.elim
    · have e : x.cls ≠ c := of_decide_eq_false hn
      refine many_ok (env := env) xx ss xr hk hex hmg hs (fun h hh => hin h (by simp [hh])) ?_
      unfold handled at p ⊢
      simp only [findH] at p
      rw [if_neg e] at p
      exact p
theorem re_try {ss : List IS} {known : List String} {hs : List (String × Nat × List (Str ⊕ String))} {body : List Stmt} {h₀ : ExceptHandler} {hds : List ExceptHandler} {pos : Pos} (hst : X.stack = X.env :: X.outer) (hf : X.env.frame = some X.env.locals) (hN : X.N.Nodup) (tk : Takes X (fun cls d _ H => E cls d H))
    (hb : ∀ (E' : XK) (pn : List (Addr × Obj)) (xe : Value → Shared → Prop), Takes (X.tr pn xe) (fun cls d _ H => E' cls d H) → PassesOwn (model X.prog X.w) X.A X.env xe → PSs (X.tr pn xe) body (tBl (kt CL X) E' κ b ss))
    (hex : ∀ c ∈ known, ∀ c' ∈ known, ∀ a a', X.mg (Str.ofString c) = some (.ref a) → X.mg (Str.ofString c') = some (.ref a') → PySem.W.exmOne X.K (.ref a) (.ref a') = some (decide (c = c'))) (hmg : ∀ c ∈ known, ∃ a, X.mg (Str.ofString c) = some (.ref a)) (hin : ∀ h ∈ hs, h.1 ∈ known)
    (hh : HdsA X (h₀ :: hds) (hsOf X hs)) : PS X (.Try body (h₀ :: hds) [] [] pos) (tSt (kt CL X) E κ b (.try_ ss known hs)) := by
  refine PS.imp (ps_try_manyas (tb := fun W => tBl (kt CL X) (fun cls d H => ∀ σ, W cls d σ H) κ b ss) hst hf hN tk (fun W pn xe tW hpo => hb _ pn xe (tW.imp fun c d σ H h => h σ) hpo) hh) fun D σ H ⟨B, w, S, env, a, h⟩ => ?_
  refine ⟨B, w, S, env, a, ?_⟩
  have h' : Po (kt CL X) E B (rlF (kt CL X)) w (match evB κ b ss env S with
      | .err x S' => if known.contains x.cls then handled x env S' hs else .bad
      | r => r) (QF D) := h
  cases e : evB κ b ss env S with
  | bad => rw [e] at h'; exact h'
  | ok t S' => rw [e] at h'; exact h'
  | err x S' =>
    rw [e] at h'
    dsimp only at h'
    split at h'
    · rename_i hk
      exact fun w' cls dd xx s' xr σ' => many_ok (env := env) xx s' xr (by simpa using hk) hex hmg hs hin h'
    · exact h'.elim
end
end Pi
end

section
/-! PiSwap: a, b = x, y. -/
namespace Pi
open PySem PySem.Spec PyProof.Rows L2

def isName : Expr → Bool
  | .Name .. => true
  | _ => false
/-- a local name -/
def locName (sc : Scope) : Expr → Bool
  | .Name y _ => decide (sc.names.lookup y = some .local)
  | _ => false
/-- the stores are not swapped -/
def noSw (sc : Scope) (tg e : Expr) : Bool := match tg with
  | .Tuple ts _ _ => match e with
    | .Tuple vs _ _ => ts.any (fun t => !locName sc t) || !(ts.length == 2 || ts.length == 3) || vs.all (foldedForSure 8)
    | _ => true
  | .List _ _ => match e with
    | .Tuple _ _ _ => false
    | _ => true
  | _ => true
theorem names_lt {env : Env} {line : Nat} : ∀ {ts : List Expr}, ts.any (fun t => !locName env.scope t) = true → (ts.filterMap fun
    | .Name id pos => if env.kindOf id == some .local && pos.line == line then some id else none
    | _ => none).length < ts.length
  | [], h => by simp at h
  | t :: ts, h => by
    have hle : ∀ ts : List Expr, (ts.filterMap fun
      | .Name id pos => if env.kindOf id == some .local && pos.line == line then some id else none
      | _ => none).length ≤ ts.length := fun ts => List.length_filterMap_le _ _
    rw [List.any_cons, Bool.or_eq_true] at h
    rw [List.filterMap_cons]
    rcases h with h | h
    · have := hle ts
      cases t with
      | Name y p =>
        have hk : (env.kindOf y == some .local && p.line == line) = false := by
          have : ¬ env.kindOf y = some .local := by
            show ¬ env.scope.names.lookup y = some .local
            simpa [locName] using h
          simp [this]
        simp only [hk, Bool.false_eq_true, if_false, List.length_cons]; omega
      | _ => simp only [List.length_cons]; omega
    · have := names_lt (env := env) (line := line) h
      split <;> simp only [List.length_cons] <;> omega
theorem sw_tup {ts vs : List Expr} {k1 k2 p1 p2} {env : Env} (h : (ts.any (fun t => !locName env.scope t) || !(ts.length == 2 || ts.length == 3) || vs.all (foldedForSure 8)) = true) : swappedStores [.Tuple ts k1 p1] (.Tuple vs k2 p2) env = pure none := by
  unfold swappedStores
  simp only
  by_cases c1 : (!(ts.length == 2 || ts.length == 3) || vs.length != ts.length || env.blockKind != .function) = true
  · rw [if_pos c1]
  · rw [if_neg c1]
    simp only [Bool.or_eq_true] at h
    split
    · rfl
    · rcases h with (h | h) | h
      · have hl := names_lt (env := env) (line := (ts.head?.map (·.pos.line)).getD 0) h
        rw [if_pos]
        simp only [Bool.or_eq_true, bne_iff_ne]
        exact .inl (Nat.ne_of_lt hl)
      · simp only [Bool.not_eq_true, Bool.or_eq_false_iff] at c1
        rw [c1.1.1] at h; cases h
      · split
        · rfl
        · first | rfl | rw [if_pos h]
theorem sw_none {tg e : Expr} {env : Env} (h : noSw env.scope tg e = true) : swappedStores [tg] e env = pure none := by
  cases tg with
  | Tuple ts k p =>
    cases e with
    | Tuple vs k2 p2 => exact sw_tup h
    | _ => rfl
  | List ts p =>
    cases e with
    | Tuple vs k2 p2 => simp [noSw] at h
    | _ => rfl
  | _ => rfl
/-- the stores are swapped: two names, three -/
def sw2B (sc : Scope) (tg e : Expr) : Bool := match tg, e with
  | .Tuple [.Name x px, .Name y py] _ _, .Tuple [a, b] _ _ => decide (sc.names.lookup x = some .local) && decide (sc.names.lookup y = some .local) && (py.line == px.line) && decide (x ≠ y) && !([a, b].all (foldedForSure 8)) && !([a, b].all (constantsAlone 8)) && notStar a && notStar b
  | _, _ => false
theorem sw2 {x y : Str} {px py p1 p2 : Pos} {k1 k2} {a b : Expr} {env : Env} (hk : env.scope.kind = .function) (hx : env.scope.names.lookup x = some .local) (hy : env.scope.names.lookup y = some .local) (hl : (py.line == px.line) = true) (hne : x ≠ y)
    (hf : [a, b].all (foldedForSure 8) = false) (hc : [a, b].all (constantsAlone 8) = false) (ha : notStar a = true) (hb : notStar b = true) : swappedStores [.Tuple [.Name x px, .Name y py] k1 p1] (.Tuple [a, b] k2 p2) env = pure (some [x, y]) := by
  have kx : env.kindOf x = some .local := hx
  have ky : env.kindOf y = some .local := hy
  have kb : env.blockKind = .function := by unfold Env.blockKind; rw [hk]; rfl
  have hst : ([a, b].any fun | .Starred .. => true | _ => false) = false := by
    cases a <;> cases b <;> first | rfl | (simp [notStar] at ha; done) | (simp [notStar] at hb; done)
  have hnd : ([x, y].eraseDups.length != [x, y].length) = false := by
    have : ¬ (y == x) = true := by simp [Ne.symm hne]
    simp [List.eraseDups_cons, this, List.filter]
  unfold swappedStores
  have hnm : ([(Expr.Name x px), (Expr.Name y py)].filterMap fun
    | .Name id pos => if env.kindOf id == some .local && pos.line == ((some (Expr.Name x px)).map (·.pos.line)).getD 0 then some id else none
    | _ => none) = [x, y] := by
    have e1 : (env.kindOf x == some .local && px.line == px.line) = true := by rw [kx]; simp
    have e2 : (env.kindOf y == some .local && py.line == px.line) = true := by rw [ky, hl]; rfl
    simp only [List.filterMap_cons, List.filterMap_nil, Option.map_some, Option.getD_some, Expr.pos, e1, e2, if_true]
  simp only [kb]
  refine (if_neg (by simp)).trans ?_
  refine (if_neg fun h => ?_).trans ?_
  · have h' : ([a, b].any fun | .Starred .. => true | _ => false) = true := h
    rw [hst] at h'; cases h'
  · generalize hN : List.filterMap _ _ = N
    have hN' : N = [x, y] := hN.symm.trans hnm
    subst hN'
    refine (if_neg fun h => ?_).trans ?_
    · rw [hnd, Bool.or_false] at h
      simp at h
    · refine (if_neg (by rw [hf]; decide)).trans ?_
      rw [hc]
      rfl
theorem sw3 {x y z : Str} {px py pz p1 p2 : Pos} {k1 k2} {a b c : Expr} {env : Env} (hk : env.scope.kind = .function) (hx : env.scope.names.lookup x = some .local) (hy : env.scope.names.lookup y = some .local) (hz : env.scope.names.lookup z = some .local) (hl : (py.line == px.line) = true) (hl2 : (pz.line == px.line) = true) (hne : x ≠ y) (hne2 : x ≠ z) (hne3 : y ≠ z)
    (hf : [a, b, c].all (foldedForSure 8) = false) (hc : [a, b, c].all (constantsAlone 8) = false) (ha : notStar a = true) (hb : notStar b = true) (hcc : notStar c = true) : swappedStores [.Tuple [.Name x px, .Name y py, .Name z pz] k1 p1] (.Tuple [a, b, c] k2 p2) env = pure (some [x, y, z]) := by
  have kx : env.kindOf x = some .local := hx
  have ky : env.kindOf y = some .local := hy
  have kz : env.kindOf z = some .local := hz
  have kb : env.blockKind = .function := by unfold Env.blockKind; rw [hk]; rfl
  have hst : ([a, b, c].any fun | .Starred .. => true | _ => false) = false := by
    have h1 : ∀ e : Expr, notStar e = true → (match e with | .Starred .. => true | _ => false) = false := by intro e h; cases e <;> first | rfl | (simp [notStar] at h)
    simp only [List.any_cons, List.any_nil, Bool.or_false, Bool.or_eq_false_iff]
    exact ⟨h1 a ha, h1 b hb, h1 c hcc⟩
  have hnd : ([x, y, z].eraseDups.length != [x, y, z].length) = false := by
    have h1 : ¬ (y == x) = true := by simp [Ne.symm hne]
    have h2 : ¬ (z == x) = true := by simp [Ne.symm hne2]
    have h3 : ¬ (z == y) = true := by simp [Ne.symm hne3]
    simp [List.eraseDups_cons, h1, h2, h3, List.filter]
  have hnm : ([(Expr.Name x px), (Expr.Name y py), (Expr.Name z pz)].filterMap fun
    | .Name id pos => if env.kindOf id == some .local && pos.line == ((some (Expr.Name x px)).map (·.pos.line)).getD 0 then some id else none
    | _ => none) = [x, y, z] := by
    have e1 : (env.kindOf x == some .local && px.line == px.line) = true := by rw [kx]; simp
    have e2 : (env.kindOf y == some .local && py.line == px.line) = true := by rw [ky, hl]; rfl
    have e3 : (env.kindOf z == some .local && pz.line == px.line) = true := by rw [kz, hl2]; rfl
    simp only [List.filterMap_cons, List.filterMap_nil, Option.map_some, Option.getD_some, Expr.pos, e1, e2, e3, if_true]
  unfold swappedStores
  simp only [kb]
  refine (if_neg (by simp)).trans ?_
  refine (if_neg fun h => ?_).trans ?_
  · have h' : ([a, b, c].any fun | .Starred .. => true | _ => false) = true := h
    rw [hst] at h'; cases h'
  · generalize hN : List.filterMap _ _ = N
    have hN' : N = [x, y, z] := hN.symm.trans hnm
    subst hN'
    refine (if_neg fun h => ?_).trans ?_
    · rw [hnd, Bool.or_false] at h
      simp at h
    · refine (if_neg (by rw [hf]; decide)).trans ?_
      rw [hc]
      rfl
def tPar3 (i j l : Nat) (ta : TA) : TS := fun D σ H => ta σ H fun vs H1 => ∃ u v w, vs = [u, v, w] ∧ D.nx (((σ.set i (some u)).set j (some v)).set l (some w)) H1
theorem ps_par3 {X : Cx} {i j l : Nat} {x y z : Str} {a b c : Expr} {ta : TA} {px py pz pt pos : Pos} {kt k2 pt2} (hc : X.calm = true) (hN : X.N.Nodup) (hi : X.N[i]? = some x) (hj : X.N[j]? = some y) (hl : X.N[l]? = some z) (hij : i ≠ j) (hil : i ≠ l) (hjl : j ≠ l)
    (hx : X.env.scope.names.lookup x = some .local) (hy : X.env.scope.names.lookup y = some .local) (hz : X.env.scope.names.lookup z = some .local) (ha : PA X [a, b, c] ta)
    (hw : swappedStores [.Tuple [.Name x px, .Name y py, .Name z pz] kt pt] (.Tuple [a, b, c] k2 pt2) X.env = pure (some [x, y, z]))
    (hs : swapsWithSole [.Tuple [.Name x px, .Name y py, .Name z pz] kt pt] (.Tuple [a, b, c] k2 pt2) pos.line X.env = pure false := by rfl) :
    PS X (.Assign [.Tuple [.Name x px, .Name y py, .Name z pz] kt pt] (.Tuple [a, b, c] k2 pt2) pos) (tPar3 i j l ta) := by
  refine ⟨fun pins s σ H D I h => ?_⟩
  rw [exec_Assign_arm]
  refine wpAny_bind (wpAny_standAt ?_)
  rw [hs]
  refine wpAny_bind (wpAny_pure ?_)
  rw [if_neg (by decide)]
  refine wpAny_bind (Tuple_ (thn (ha.run _ pins s σ H _ I h) fun us s1 ⟨vs, H1, I1, r1, q1⟩ => ?_))
  obtain ⟨u, v, w, e1, q1⟩ := q1
  subst e1
  obtain ⟨u1, u2, u3, rfl, ru, rv, rw'⟩ : ∃ u1 u2 u3, us = [u1, u2, u3] ∧ RelV u u1 ∧ RelV v u2 ∧ RelV w u3 := by
    cases r1 with
    | cons p q =>
      cases q with
      | cons p' q' =>
        cases q' with
        | cons p2 q2 =>
          cases q2
          exact ⟨_, _, _, rfl, p, p', p2⟩
  refine wpAny_newObj_type ?_ (by show 3 ≤ sizeLine; decide)
  have I2 : Inv X pins σ H1 { s1 with heap := s1.heap.push { cls := .type "tuple", data := .seq [u1, u2, u3].toArray } } := I1.kept (t' := s1.toks) fun b o e => Heap.get?_push_of_some _ e
  rw [hw]
  refine wpAny_bind (wpAny_pure ?_)
  show wpAny (model X.prog X.w) X.A (do rule "assign.swapped-stores"; let items ← unpackItems (.ref s1.heap.objs.size) 3 none; assignInOrder [fun v => bindName X.env z v, fun v => bindName X.env y v, fun v => bindName X.env x v] items.reverse; pure Flow.next) _ _ _
  refine wpAny_bind (wpAny_rule (wpAny_bind (unpackItems_tuple (items := #[u1, u2, u3]) (I.ok.hd hc) (IsTup.new s1.heap _) fun h' hx' => ?_)))
  have I3 := I2.kept (h' := h') (t' := s1.toks) fun b o e => hx' b o (Nat.ne_of_lt (Heap.lt_size e)) e
  show wpAny _ _ (assignInOrder [fun v => bindName X.env z v, fun v => bindName X.env y v, fun v => bindName X.env x v] [u3, u2, u1] >>= fun _ => pure Flow.next) _ _ _
  refine wpAny_bind (assignInOrder_cons (wpAny_bindName (store_ok I3 hN hl (.inl hz) rw' (fun s2 I4 => ?_) (.inr hz))))
  refine assignInOrder_cons (wpAny_bindName (store_ok I4 hN hj (.inl hy) rv (fun s3 I5 => ?_) (.inr hy)))
  refine assignInOrder_cons (wpAny_bindName (store_ok I5 hN hi (.inl hx) ru (fun s4 I6 => assignInOrder_nil (wpAny_pure ?_)) (.inr hx)))
  rw [List.set_comm _ _ (Ne.symm hjl), List.set_comm _ _ (Ne.symm hil), List.set_comm _ _ (Ne.symm hij)] at I6
  exact ⟨_, H1, I6, q1⟩
section
variable {CL : List String × List (String × String) × Lx} {X : Cx} {E : XK} {κ : Calls} {b : Nat}
theorem rs_par2 {n m : Nat} {x y : Str} {a c : Expr} {i j : IE} {px py pt pos : Pos} {k1 k2 pt2} (hc : X.calm = true) (hN : X.N.Nodup) (hi : X.N[n]? = some x) (hj : X.N[m]? = some y) (hij : n ≠ m)
    (hx : X.env.scope.names.lookup x = some .local) (hy : X.env.scope.names.lookup y = some .local) (ha : PA X [a, c] (tIs (kt CL X) E κ b [i, j]))
    (hw : swappedStores [.Tuple [.Name x px, .Name y py] k1 pt] (.Tuple [a, c] k2 pt2) X.env = pure (some [x, y])) : PS X (.Assign [.Tuple [.Name x px, .Name y py] k1 pt] (.Tuple [a, c] k2 pt2) pos) (tSt (kt CL X) E κ b (.assign (.tup [.var n, .var m]) (.tup [i, j]))) :=
  PS.imp (ps_par hc hN hi hj hij hx hy ha hw rfl) fun D σ H ⟨B, w, S, env, a, h⟩ => by
    have h' : Po (kt CL X) E B (rlF (kt CL X)) w (((evEs κ b [i, j] env S).bind fun us S => if us.length ≤ 1000 then .ok (.tup us) S else .bad).bind fun u S => (evG κ b (.tup [.var n, .var m]) u env S).bind fun env S => .ok (.nx, env) S) (QF D) := h
    have h2 : Po (kt CL X) E B (rlF (kt CL X)) w ((evEs κ b [i, j] env S).bind fun us S => match us with
      | [d, e] => .ok (.nx, (env.set n (some d)).set m (some e)) S
      | _ => .bad) (QF D) := by
      cases e : evEs κ b [i, j] env S with
      | bad => rw [e] at h'; exact h'
      | err z S' => rw [e] at h'; exact h'
      | ok us S' =>
        rw [e] at h'
        match us with
        | [] => exact h'
        | [d] => exact h'
        | [d, e] => exact h'
        | d :: e :: f :: r =>
          have h3 : Po (kt CL X) E B (rlF (kt CL X)) w ((if (d :: e :: f :: r).length ≤ 1000 then .ok (.tup (d :: e :: f :: r)) S' else .bad : R Pi.D).bind fun u S => (evG κ b (.tup [.var n, .var m]) u env S).bind fun env S => .ok (.nx, env) S) (QF D) := h'
          split at h3
          · have h4 : Po (kt CL X) E B (rlF (kt CL X)) w ((if (d :: e :: f :: r).length = 2 then evGs κ b [.var n, .var m] (d :: e :: f :: r) env S' else .bad).bind fun env S => .ok (.nx, env) S) (QF D) := h3
            rw [if_neg (by simp)] at h4
            exact h4.elim
          · exact h3.elim
    refine tIs_bind a h2 fun w1 S1 ds vs a1 x1 r1 p1 => ?_
    match ds, r1, p1 with
    | [d, e], r1, p1 =>
      obtain ⟨v, u, rfl, q1, q2⟩ := vrs2 r1
      exact ⟨v, u, rfl, po_nx ((a1.ee.set n q1).set m q2) a1.ss p1⟩
    | [], r1, p1 => exact (show False from p1).elim
    | [_], r1, p1 => exact (show False from p1).elim
    | _ :: _ :: _ :: _, r1, p1 => exact (show False from p1).elim
theorem rs_par3 {n m l : Nat} {x y z : Str} {a c d : Expr} {i j k : IE} {px py pz pt pos : Pos} {k1 k2 pt2} (hc : X.calm = true) (hN : X.N.Nodup) (hi : X.N[n]? = some x) (hj : X.N[m]? = some y) (hk : X.N[l]? = some z) (hij : n ≠ m) (hil : n ≠ l) (hjl : m ≠ l)
    (hx : X.env.scope.names.lookup x = some .local) (hy : X.env.scope.names.lookup y = some .local) (hz : X.env.scope.names.lookup z = some .local) (ha : PA X [a, c, d] (tIs (kt CL X) E κ b [i, j, k]))
    (hw : swappedStores [.Tuple [.Name x px, .Name y py, .Name z pz] k1 pt] (.Tuple [a, c, d] k2 pt2) X.env = pure (some [x, y, z])) : PS X (.Assign [.Tuple [.Name x px, .Name y py, .Name z pz] k1 pt] (.Tuple [a, c, d] k2 pt2) pos) (tSt (kt CL X) E κ b (.assign (.tup [.var n, .var m, .var l]) (.tup [i, j, k]))) :=
  PS.imp (ps_par3 hc hN hi hj hk hij hil hjl hx hy hz ha hw rfl) fun D σ H ⟨B, w, S, env, a, h⟩ => by
    have h' : Po (kt CL X) E B (rlF (kt CL X)) w (((evEs κ b [i, j, k] env S).bind fun us S => if us.length ≤ 1000 then .ok (.tup us) S else .bad).bind fun u S => (evG κ b (.tup [.var n, .var m, .var l]) u env S).bind fun env S => .ok (.nx, env) S) (QF D) := h
    have h2 : Po (kt CL X) E B (rlF (kt CL X)) w ((evEs κ b [i, j, k] env S).bind fun us S => match us with
      | [d, e, f] => .ok (.nx, ((env.set n (some d)).set m (some e)).set l (some f)) S
      | _ => .bad) (QF D) := by
      cases e : evEs κ b [i, j, k] env S with
      | bad => rw [e] at h'; exact h'
      | err z S' => rw [e] at h'; exact h'
      | ok us S' =>
        rw [e] at h'
        match us with
        | [] => exact h'
        | [d] => exact h'
        | [d, e] => exact h'
        | [d, e, f] => exact h'
        | d :: e :: f :: g :: r =>
          have h3 : Po (kt CL X) E B (rlF (kt CL X)) w ((if (d :: e :: f :: g :: r).length ≤ 1000 then .ok (.tup (d :: e :: f :: g :: r)) S' else .bad : R Pi.D).bind fun u S => (evG κ b (.tup [.var n, .var m, .var l]) u env S).bind fun env S => .ok (.nx, env) S) (QF D) := h'
          split at h3
          · have h4 : Po (kt CL X) E B (rlF (kt CL X)) w ((if (d :: e :: f :: g :: r).length = 3 then evGs κ b [.var n, .var m, .var l] (d :: e :: f :: g :: r) env S' else .bad).bind fun env S => .ok (.nx, env) S) (QF D) := h3
            rw [if_neg (by simp)] at h4
            exact h4.elim
          · exact h3.elim
    refine tIs_bind a h2 fun w1 S1 ds vs a1 x1 r1 p1 => ?_
    match ds, r1, p1 with
    | [d, e, f], r1, p1 =>
      obtain ⟨v, r, rfl, q1, r2⟩ := r1.inv
      obtain ⟨u, t, rfl, q2, q3⟩ := vrs2 r2
      exact ⟨v, u, t, rfl, po_nx (((a1.ee.set n q1).set m q2).set l q3) a1.ss p1⟩
    | [], r1, p1 => exact (show False from p1).elim
    | [_], r1, p1 => exact (show False from p1).elim
    | [_, _], r1, p1 => exact (show False from p1).elim
    | _ :: _ :: _ :: _ :: _, r1, p1 => exact (show False from p1).elim
end
end Pi
end

section
/-! PiStmt2: when a text is a statement of the small syntax; the induction over statements. -/
namespace Pi
open PySem PySem.Spec PyProof.Rows L2

/-- the value is no comprehension, or the target is no local name -/
def swB (sc : Scope) (tg x : Expr) : Bool := notComp x || !isName tg || (match tg with
  | .Name y _ => (match sc.names.lookup y with | some .cell => true | _ => false)
  | _ => false)
theorem swf {tg x : Expr} {l : Nat} {env : Env} (h : swB env.scope tg x = true) : swapsWithSole [tg] x l env = pure false := by
  cases tg with
  | Name y p =>
    by_cases hn : notComp x = true
    · cases x <;> first | rfl | (simp [notComp] at hn; done)
    · have hk : env.kindOf y = some .cell := by
        show env.scope.names.lookup y = some .cell
        simp only [swB, isName, hn, Bool.not_true, Bool.false_or, Bool.or_false] at h
        split at h
        · assumption
        · cases h
      have hk2 : (env.kindOf y == some .local) = false := by rw [hk]; rfl
      cases x <;> first
        | (simp [notComp] at hn; done)
        | (unfold swapsWithSole swapsWith; simp only [hk2, Bool.and_false, Bool.false_and])
  | _ => cases x <;> rfl
/-- name = [..]: the name is stored within -/
def lcB (sc : Scope) (tg x : Expr) : Bool := match tg, x with
  | .Name y py, .ListComp _ [⟨_, _, _, 0⟩] scope pos => decide (sc.names.lookup y = some .local) && (py.line == pos.line) && !(scope.names.any fun (n, k) => n == y && (k == .local || k == .cell))
  | _, _ => false
def isComp : IE → Bool
  | .comp .. => true
  | _ => false
/-- a, b = x, y with the stores swapped -/
def sw2G (N : List Str) (g : IG) (sc : Scope) (tg x : Expr) : Bool := match g, tg, x with
  | .tup [.var n, .var m], .Tuple [.Name y py, .Name z pz] _ _, .Tuple [a, b] _ _ => decide (n ≠ m) && decide (N[n]? = some y) && decide (N[m]? = some z) && decide (sc.names.lookup y = some .local) && decide (sc.names.lookup z = some .local) && (pz.line == py.line) && decide (y ≠ z) && !([a, b].all (foldedForSure 8)) && !([a, b].all (constantsAlone 8)) && notStar a && notStar b
  | .tup [.var n, .var m, .var l], .Tuple [.Name y py, .Name z pz, .Name u pu] _ _, .Tuple [a, b, c] _ _ => decide (n ≠ m) && decide (n ≠ l) && decide (m ≠ l) && decide (N[n]? = some y) && decide (N[m]? = some z) && decide (N[l]? = some u) && decide (sc.names.lookup y = some .local) && decide (sc.names.lookup z = some .local) && decide (sc.names.lookup u = some .local) &&
      (pz.line == py.line) && (pu.line == py.line) && decide (y ≠ z) && decide (y ≠ u) && decide (z ≠ u) && !([a, b, c].all (foldedForSure 8)) && !([a, b, c].all (constantsAlone 8)) && notStar a && notStar b && notStar c
  | _, _, _ => false
def isTupN (n : Nat) : IE → Bool
  | .tup es => es.length == n
  | _ => false
def tupLen : IG → Nat
  | .tup gs => gs.length
  | _ => 0

/-- what a handler gives back -/
def mHf (T : Tb) (c : String) (n : Str) : List (Str ⊕ String) → List Expr → Bool
  | [], es => es.isEmpty
  | .inl s :: r, es => match es with
    | .Constant (.str s') _ _ :: es => decide (s = s') && mHf T c n r es
    | _ => false
  | .inr f :: r, es => match es with
    | .Attribute (.Name y _) g _ :: es => decide (y = n) && decide (g = Str.ofString f) && (T.excs.any fun p => p.1 == c && p.2.contains f) && mHf T c n r es
    | _ => false
def mHs (T : Tb) (N : List Str) (sc : Scope) : List (String × Nat × List (Str ⊕ String)) → List ExceptHandler → Bool
  | [], hds => hds.isEmpty
  | (c, i, hf) :: r, hds => match hds with
    | .ExceptHandler (some (.Name x _)) (some n) [.Return (some (.Tuple es _ _)) _] _ :: hds =>
      decide (x = Str.ofString c) && decide (N[i]? = some n) && decide (sc.names.lookup n = some .local) && !(n == ("__debug__" : Str)) && !(n == ("__classdict__" : Str)) && glB sc x && (T.excs.any fun p => p.1 == c) && mHf T c n hf es && mHs T N sc r hds
    | _ => false
section
variable (T : Tb) (N : List Str)
mutual
def mS : IS → Sco → Stmt → Bool
  | .assign g e, s, st => match st with
    | .Assign [tg] x _ => mE T N e s x && ((swB s.sc tg x && noSw s.sc tg x && notStar tg && mG T N g s tg) || (lcB s.sc tg x && isComp e && mG T N g s tg) || (sw2G N g s.sc tg x && isTupN (tupLen g) e))
    | _ => false
  | .aug i e, s, st => match st with
    | .AugAssign (.Name x _) op y _ => decide (op = .Add) && decide (N[i]? = some x) && (match s.sc.names.lookup x with | some .local => true | some .cell => s.fn x | _ => false) && mE T N e s y
    | _ => false
  | .augA c a f e, s, st => match st with
    | .AugAssign (.Attribute x y _) op z _ => decide (op = .Add) && decide (y = Str.ofString f) && T.flds.contains (c, f) && mE T N a s x && mE T N e s z
    | _ => false
  | .ex e, s, st => match st with
    | .Expr x _ => notComp x && mE T N e s x
    | _ => false
  | .iff c a b, s, st => match st with
    | .If x p q _ => mE T N c s x && mSs a s p && mSs b s q
    | _ => false
  | .for_ g it body, s, st => match st with
    | .For tg x p [] _ => mI T N it s tg x && mG T N g s tg && mSs body s p
    | _ => false
  | .while_ c body, s, st => match st with
    | .While x p [] _ => mE T N c s x && mSs body s p
    | _ => false
  | .brk, _, st => match st with
    | .Break _ => true
    | _ => false
  | .cont, _, st => match st with
    | .Continue _ => true
    | _ => false
  | .pass, _, st => match st with
    | .Pass _ => true
    | _ => false
  | .dead, _, _ => true
  | .ret e, s, st => match st with
    | .Return (some x) _ => mE T N e s x
    | _ => false
  | .retN, _, st => match st with
    | .Return none _ => true
    | _ => false
  | .raise c ns es, s, st => match st with
    | .Raise (some (.Call (.Name y _) (x :: xs) [] _)) none _ => decide (y = Str.ofString c) && glB s.sc y && T.excs.contains (c, ns) && mEs T N es s (x :: xs)
    | _ => false
  | .try_ ss known hs, s, st => match st with
    | .Try body (h₀ :: hds) [] [] _ => mSs ss s body && mHs T N s.sc hs (h₀ :: hds) && known.all (fun c => T.excs.any fun p => p.1 == c) && hs.all (fun h => known.contains h.1)
    | _ => false
def mSs : List IS → Sco → List Stmt → Bool
  | [], _, sts => sts.isEmpty
  | i :: is, s, sts => match sts with
    | st :: r => mS i s st && mSs is s r
    | [] => false
end
end

section
variable {T : Tb} {Λ : Lx} {κ : Calls} {b k : Nat}
theorem rs_setLc {X : Cx} {E : XK} {s : Sco} {g : IG} {e : IE} {tg x : Expr} {pos : Pos} (G : Good T Λ κ k X s) (hk : X.env.scope.kind = .function) (hp : PassG X E) (hl : lcB s.sc tg x = true) (hc : isComp e = true) (hm : mE T X.N e s x = true) (hg : mG T X.N g s tg = true) :
    PS X (.Assign [tg] x pos) (tSt (kt (T.CL Λ) X) E κ b (.assign g e)) := by
  unfold lcB at hl
  split at hl
  · rename_i y py elt tg' iter ifs scope posc
    simp only [Bool.and_eq_true, decide_eq_true_eq, Bool.not_eq_true'] at hl
    obtain ⟨⟨l1, l2⟩, l3⟩ := hl
    cases e with
    | comp e0 g' it ifs' own =>
      simp only [mE, Bool.and_eq_true, decide_eq_true_eq] at hm
      obtain ⟨⟨⟨⟨⟨⟨h1, h2⟩, h3⟩, h4⟩, h5⟩, h6⟩, h7⟩ := hm
      rw [← G.sc] at h1
      have bo := blkOk_by h1
      cases g with
      | var n =>
        simp only [mG, Bool.and_eq_true, decide_eq_true_eq] at hg
        have ly : X.env.scope.names.lookup y = some .local := by rw [G.sc]; exact l1
        refine PS.imp (ps_setLc (wi := tIt (kt (T.CL Λ) X) E κ b it) (g := tGt (kt (T.CL Λ) X) E0 κ b g') (tt := tTO (kt (T.CL Λ) X) E0 κ b ifs') (te := tI (kt (T.CL Λ) X) E0 κ b e0) G.calm G.nd hg.1 ly (sw_true hk ly l2 l3) (gI it G hp h3) bo
          (fun s1 H1 C1 cl fp => gG g' (G.blk (s := s1) (H := H1) (scope := scope) (C := C1) (cl := cl) (fp := fp)) passF h4)
          (fun s1 H1 C1 cl fp => gTO ifs' (G.blk (s := s1) (H := H1) (scope := scope) (C := C1) (cl := cl) (fp := fp)) passF h6)
          (fun s1 H1 C1 cl fp => (gE e0 (G.blk (s := s1) (H := H1) (scope := scope) (C := C1) (cl := cl) (fp := fp)) passF h7).pe)
          (fold_ok (mI_set h3))) fun D σ H ⟨B, w, S, env, a, h⟩ => ?_
        show tLc _ _ _ _ _ σ H (fun v H1 => gName n v σ H1 D.nx)
        rw [h2]
        refine ti_comp (own_slots h5) ?_
        have h' : Po (kt (T.CL Λ) X) E B (rlF (kt (T.CL Λ) X)) w ((ev κ b false (.comp e0 g' it ifs' own) env S).bind fun u S => (evG κ b (.var n) u env S).bind fun env S => .ok (.nx, env) S) (QF D) := h
        refine tI_bind a h' fun w1 S1 d v a1 x1 r1 p1 => ?_
        exact po_nx (a1.ee.set n r1) a1.ss p1
      | _ => simp [mG] at hg
    | _ => simp [isComp] at hc
  · cases hl
theorem rs_sw {X : Cx} {E : XK} {s : Sco} {g : IG} {e : IE} {tg x : Expr} {pos : Pos} (G : Good T Λ κ k X s) (hk : X.env.scope.kind = .function) (hp : PassG X E) (hs : sw2G X.N g s.sc tg x = true) (ht : isTupN (tupLen g) e = true) (hm : mE T X.N e s x = true) :
    PS X (.Assign [tg] x pos) (tSt (kt (T.CL Λ) X) E κ b (.assign g e)) := by
  cases e with
  | tup es =>
    unfold sw2G at hs
    split at hs
    · rename_i n m y py z pz _ _ a c _ _
      simp only [Bool.and_eq_true, decide_eq_true_eq, Bool.not_eq_true'] at hs
      obtain ⟨⟨⟨⟨⟨⟨⟨⟨⟨⟨h1, h2⟩, h3⟩, h4⟩, h5⟩, h6⟩, h7⟩, h8⟩, h9⟩, h10⟩, h11⟩ := hs
      simp only [mE] at hm
      have hpa := (gEs (b := b) es G hp hm).1
      have hl : es.length = 2 := by simpa [isTupN, tupLen] using ht
      match es, hl with
      | [i, j], _ =>
        rw [← G.sc] at h4 h5
        exact rs_par2 G.calm G.nd h2 h3 h1 h4 h5 hpa (sw2 hk h4 h5 h6 h7 h8 h9 h10 h11)
    · rename_i n m l y py z pz u pu _ _ a c d _ _
      simp only [Bool.and_eq_true, decide_eq_true_eq, Bool.not_eq_true'] at hs
      obtain ⟨⟨⟨⟨⟨⟨⟨⟨⟨⟨⟨⟨⟨⟨⟨⟨⟨⟨h1, h2⟩, h3⟩, h4⟩, h5⟩, h6⟩, h7⟩, h8⟩, h9⟩, h10⟩, h11⟩, h12⟩, h13⟩, h14⟩, h15⟩, h16⟩, h17⟩, h18⟩, h19⟩ := hs
      simp only [mE] at hm
      have hpa := (gEs (b := b) es G hp hm).1
      have hl : es.length = 3 := by simpa [isTupN, tupLen] using ht
      match es, hl with
      | [i, j, k'], _ =>
        rw [← G.sc] at h7 h8 h9
        exact rs_par3 G.calm G.nd h4 h5 h6 h1 h2 h3 h7 h8 h9 hpa (sw3 hk h7 h8 h9 h10 h11 h12 h13 h14 h15 h16 h17 h18 h19)
    · cases hs
  | _ => simp [isTupN] at ht
/-- what is known of the frame -/
structure StT (X : Cx) (E : XK) : Prop where
  tk : Takes X (fun cls d _ H => E cls d H)
  stk : X.stack = X.env :: X.outer
  fr : X.env.frame = some X.env.locals
theorem Good.tr {X : Cx} {s : Sco} {pn : List (Addr × Obj)} {xe : Value → Shared → Prop} (g : Good T Λ κ k X s) : Good T Λ κ k (X.tr pn xe) s :=
  ⟨g.sc, g.fn, g.calm, g.nd, g.room, g.gd, ⟨g.glo.blt, g.glo.gcd, g.glo.fns, g.glo.mths, g.glo.inits, g.glo.fld, g.glo.cls, ⟨g.glo.kit.own, g.glo.kit.get, g.glo.kit.tk, g.glo.kit.bb, g.glo.kit.oo⟩, g.glo.cons, g.glo.consN, g.glo.lams, g.glo.lm, (fun c ns h => ⟨(g.glo.excs c ns h).ex, (g.glo.excs c ns h).db⟩), g.glo.exm⟩, g.k1,
    fun h => let F := g.lam h; ⟨F.tab, fun cl fr js => ⟨fun q => let c := (F.own cl fr js).mp q; ⟨c.sub, c.kin, c.sup, c.at_⟩, fun c => (F.own cl fr js).mpr ⟨c.sub, c.kin, c.sup, c.at_⟩⟩, F.fn, F.raw⟩⟩
theorem hf_pa {X : Cx} {s : Sco} (G : Good T Λ κ k X s) {c : String} {n : Str} {i : Nat} (hi : X.N[i]? = some n) (hl : X.env.scope.names.lookup n = some .local) (hd : (n == ("__debug__" : Str)) = false) (hcd : (n == ("__classdict__" : Str)) = false)
    {a : Addr} {oe : Obj} {cls : Value} {d : Option Addr} {pn : List (Addr × Obj)} (hz : Zc cls d oe) (hv : ∃ vs, oe.data = .fields vs) : ∀ (hf : List (Str ⊕ String)) (es : List Expr), mHf T c n hf es = true → PA (X.suite a ((a, oe) :: pn)) es (tHf a cls d (adOf X c) i hf)
  | [], es, h => by
    cases es with
    | nil => exact pa_nil
    | cons _ _ => simp [mHf] at h
  | .inl s :: r, es, h => by
    simp only [mHf] at h
    split at h
    · simp only [Bool.and_eq_true, decide_eq_true_eq] at h
      obtain ⟨rfl, h2⟩ := h
      exact pa_cons pe_str (hf_pa G hi hl hd hcd hz hv r _ h2)
    · cases h
  | .inr f :: r, es, h => by
    simp only [mHf] at h
    split at h
    · simp only [Bool.and_eq_true, decide_eq_true_eq, List.any_eq_true, beq_iff_eq] at h
      obtain ⟨⟨⟨rfl, rfl⟩, p, hp, hc, hfp⟩, h4⟩ := h
      obtain ⟨C, fI, fd, q1, q2, q3, q4, q5, q6, q7, q8⟩ := (G.glo.excs p.1 p.2 hp).ex
      have ea : adOf X c = C := by
        rw [← hc]
        exact adOf_of q1
      refine pa_cons ?_ (hf_pa G hi hl hd hcd hz hv r _ h4)
      rw [ea]
      exact pe_xf q3 (q8 f (by simpa using hfp)) hz hv (pe_var (X := X.suite a ((a, oe) :: pn)) (i := i) hi (.inl hl) hd hcd)
    · cases h
theorem hds_of {X : Cx} {s : Sco} (G : Good T Λ κ k X s) : ∀ (hs : List (String × Nat × List (Str ⊕ String))) (hds : List ExceptHandler), mHs T X.N s.sc hs hds = true → HdsA X hds (hsOf X hs)
  | [], hds, h => by
    cases hds with
    | nil => exact .nil
    | cons _ _ => simp [mHs] at h
  | (c, i, hf) :: r, hds, h => by
    simp only [mHs] at h
    split at h
    · simp only [Bool.and_eq_true, decide_eq_true_eq, List.any_eq_true, beq_iff_eq, Bool.not_eq_true'] at h
      obtain ⟨⟨⟨⟨⟨⟨⟨⟨rfl, h2⟩, h3⟩, h4⟩, h5⟩, h6⟩, p, hp, hc⟩, h8⟩, h9⟩ := h
      have ex := G.glo.excs p.1 p.2 hp
      obtain ⟨C, fI, fd, q1, q2, q3, q4, q5, q6, q7, q8⟩ := ex.ex
      rw [hc] at q1
      have hl := h3
      rw [← G.sc] at hl
      refine HdsA.cons ⟨G.gl h6, by rw [← hc]; exact ex.db, .inl (by rw [adOf_of q1]; exact q1)⟩ h2 hl (fun a oe cls d pn hz hv => ?_) (hds_of G r _ h9)
      exact pss_one (ps_ret (pe_tup (hf_pa G h2 hl h4 h5 hz hv hf _ h8)))
    · cases h
mutual
theorem gS : ∀ (i : IS) {X : Cx} {E : XK} {s : Sco} {st : Stmt}, Good T Λ κ k X s → X.env.scope.kind = .function → PassesOwn (model X.prog X.w) X.A X.env X.xe → PassG X E → StT X E → mS T X.N i s st = true → PS X st (tSt (kt (T.CL Λ) X) E κ b i)
  | .assign g e, X, E, s, st, G, hk, ho, hp, ht, hm => by
    simp only [mS] at hm
    split at hm
    · simp only [Bool.and_eq_true, Bool.or_eq_true] at hm
      obtain ⟨h1, (⟨⟨⟨h2, h3⟩, h4⟩, h5⟩ | ⟨⟨h2, h3⟩, h4⟩) | ⟨h2, h3⟩⟩ := hm
      · exact rs_asg (swf (by rw [G.sc]; exact h2)) (sw_none (by rw [G.sc]; exact h3)) h4 (gE e G hp h1).pe (gG g G hp h5)
      · exact rs_setLc G hk hp h2 h3 h1 h4
      · exact rs_sw G hk hp h2 h3 h1
    · cases hm
  | .aug n e, X, E, s, st, G, hk, ho, hp, ht, hm => by
    simp only [mS] at hm
    split at hm
    · simp only [Bool.and_eq_true, decide_eq_true_eq] at hm
      obtain ⟨⟨⟨rfl, h1⟩, h2⟩, h3⟩ := hm
      split at h2
      · rename_i q
        exact rs_aug G.nd h1 (.inl (by rw [G.sc]; exact q)) (.inr (by rw [G.sc]; exact q)) (gE e G hp h3).pe
      · rename_i q
        exact rs_aug G.nd h1 (.inr (by rw [G.sc]; exact q)) (.inl (by rw [G.fn]; exact h2)) (gE e G hp h3).pe
      · cases h2
    · cases hm
  | .augA c a f e, X, E, s, st, G, hk, ho, hp, ht, hm => by
    simp only [mS] at hm
    split at hm
    · simp only [Bool.and_eq_true, decide_eq_true_eq] at hm
      obtain ⟨⟨⟨⟨rfl, rfl⟩, h1⟩, h2⟩, h3⟩ := hm
      exact rs_augA G.glo.fld (by simpa using h1) (gE a G hp h2).pe (gE e G hp h3).pe
    · cases hm
  | .ex e, X, E, s, st, G, hk, ho, hp, ht, hm => by
    simp only [mS] at hm
    split at hm
    · simp only [Bool.and_eq_true] at hm
      exact rs_ex hm.1 (gE e G hp hm.2).pe
    · cases hm
  | .iff c p q, X, E, s, st, G, hk, ho, hp, ht, hm => by
    simp only [mS] at hm
    split at hm
    · simp only [Bool.and_eq_true] at hm
      exact rs_iff (gE c G hp hm.1.1).pt (gB p G hk ho hp ht hm.1.2) (gB q G hk ho hp ht hm.2)
    · cases hm
  | .for_ g it body, X, E, s, st, G, hk, ho, hp, ht, hm => by
    simp only [mS] at hm
    split at hm
    · simp only [Bool.and_eq_true] at hm
      exact rs_for ho G.calm (gI it G hp hm.1.1) (gG g G hp hm.1.2) (gB body G hk ho hp ht hm.2) (fold_ok (mI_set hm.1.1))
    · cases hm
  | .while_ c body, X, E, s, st, G, hk, ho, hp, ht, hm => by
    simp only [mS] at hm
    split at hm
    · simp only [Bool.and_eq_true] at hm
      exact rs_while ho (gE c G hp hm.1).pt (gB body G hk ho hp ht hm.2)
    · cases hm
  | .brk, X, E, s, st, G, hk, ho, hp, ht, hm => by
    simp only [mS] at hm
    split at hm
    · exact rs_brk
    · cases hm
  | .cont, X, E, s, st, G, hk, ho, hp, ht, hm => by
    simp only [mS] at hm
    split at hm
    · exact rs_cont
    · cases hm
  | .pass, X, E, s, st, G, hk, ho, hp, ht, hm => by
    simp only [mS] at hm
    split at hm
    · exact rs_pass
    · cases hm
  | .dead, X, E, s, st, G, hk, ho, hp, ht, hm => rs_dead
  | .ret e, X, E, s, st, G, hk, ho, hp, ht, hm => by
    simp only [mS] at hm
    split at hm
    · exact rs_ret (gE e G hp hm).pe
    · cases hm
  | .retN, X, E, s, st, G, hk, ho, hp, ht, hm => by
    simp only [mS] at hm
    split at hm
    · exact rs_retN
    · cases hm
  | .raise c ns es, X, E, s, st, G, hk, ho, hp, ht, hm => by
    simp only [mS] at hm
    split at hm
    · simp only [Bool.and_eq_true, decide_eq_true_eq] at hm
      obtain ⟨⟨⟨rfl, h1⟩, h2⟩, h3⟩ := hm
      have ex := G.glo.excs c ns (by simpa using h2)
      exact re_raise ex G.calm ht.tk (G.room.mono (by have := G.k1; omega)) (G.gl h1) (gEs es G hp h3).1 (mEs_len h3).2
    · cases hm
  | .try_ ss known hs, X, E, s, st, G, hk, ho, hp, ht, hm => by
    simp only [mS] at hm
    split at hm
    · simp only [Bool.and_eq_true, List.all_eq_true, List.any_eq_true, beq_iff_eq] at hm
      obtain ⟨⟨⟨h1, h2⟩, h3⟩, h4⟩ := hm
      have mem : ∀ c ∈ known, ∃ ns, (c, ns) ∈ T.excs := fun c hc => by
        obtain ⟨p, hp1, hp2⟩ := h3 c hc
        exact ⟨p.2, by rw [← hp2]; exact hp1⟩
      exact re_try ht.stk ht.fr G.nd ht.tk (fun E' pn xe tk po => gB ss (G.tr (pn := pn) (xe := xe)) hk po (passes_call tk fun _ _ _ _ h => h) ⟨tk, ht.stk, ht.fr⟩ h1)
        (fun c hc c' hc' a a' e1 e2 => let ⟨ns, m1⟩ := mem c hc; let ⟨ns', m2⟩ := mem c' hc'; G.glo.exm c ns c' ns' m1 m2 a a' e1 e2)
        (fun c hc => let ⟨ns, m1⟩ := mem c hc; let ⟨C, _, _, h, _⟩ := (G.glo.excs c ns m1).ex; ⟨C, h⟩) (fun h hh => by simpa using h4 h hh) (hds_of G hs _ h2)
    · cases hm
theorem gB : ∀ (is : List IS) {X : Cx} {E : XK} {s : Sco} {sts : List Stmt}, Good T Λ κ k X s → X.env.scope.kind = .function → PassesOwn (model X.prog X.w) X.A X.env X.xe → PassG X E → StT X E → mSs T X.N is s sts = true → PSs X sts (tBl (kt (T.CL Λ) X) E κ b is)
  | [], X, E, s, sts, G, hk, ho, hp, ht, hm => by
    cases sts with
    | nil => exact rs_nil
    | cons _ _ => simp [mSs] at hm
  | i :: is, X, E, s, sts, G, hk, ho, hp, ht, hm => by
    cases sts with
    | nil => simp [mSs] at hm
    | cons st sts =>
      simp only [mSs, Bool.and_eq_true] at hm
      exact rs_cons (gS i G hk ho hp ht hm.1) (gB is G hk ho hp ht hm.2)
end
end
end Pi
end

section
/-! PiFun: the defs of a program keep what the small interpreter says. -/
namespace Pi
open PySem PySem.Spec PyProof.Rows L2

/-- where the lambdas of a def have their code objects -/
def TabK (Λ : Lx) (K : PySem.W.Frag) (fd : FuncData) : Prop := ∃ c P, PySem.W.codeHdIn K c P = true ∧ fd.code = .ref c ∧ (P, fd.qualname ++ ".<locals>." ++ "<lambda>") ∈ Λ.tabs ∧ (∀ p ∈ Λ.tabs, p.1 = P → p.2 = fd.qualname ++ ".<locals>." ++ "<lambda>")
def TabD (Λ : Lx) (base : Heap) (mg : Str → Option Value) (fd : FuncData) : Prop := ∃ c P, LamX.TabB base mg c P ∧ fd.code = .ref c ∧ (P, fd.qualname ++ ".<locals>." ++ "<lambda>") ∈ Λ.tabs ∧ (∀ p ∈ Λ.tabs, p.1 = P → p.2 = fd.qualname ++ ".<locals>." ++ "<lambda>")
/-- a def and its text -/
structure Defd (T : Tb) (Λ : Lx) (P : Prog) (K : PySem.W.Frag) (f : String) (a : Addr) (fd : FuncData) (ps : List Str) : Prop where
  ex : ∃ (F : FunIR) (x qual : Str) (st : Stmt) (N : List Str), P f = some F ∧ Fun K x qual st a fd ∧ FnScope N ps (defScope st) ∧ N.length = F.slots ∧ ps.length = F.params ∧ F.defaults = [] ∧ mSs T N F.body ⟨defScope st, fun _ => true, F.lams⟩ (defBody st) = true ∧ (F.lams = true → TabK Λ K fd)
/-- a lambda and its text -/
def LamD (T : Tb) (P : Prog) (k : String) (t : LamT) : Prop := ∃ (F : FunIR) (ir : IE), P k = some F ∧ F.params = t.fr.length ∧ F.slots = t.fr.length ∧ F.defaults = [] ∧ F.keep = false ∧ F.lams = false ∧ F.body = [.ret ir] ∧ NdefX.nscB t.fr [] t.fr t.scope = true ∧ noPars t.params = true ∧ mE T.nolam t.fr ir ⟨t.scope, fun _ => false, false⟩ t.body = true
/-- an error's class and its text -/
def ExcS (K : PySem.W.Frag) (mg : Str → Option Value) (c : String) (ns : List String) : Prop := ∃ (C CT fI : Addr) (fd : FuncData) (x qual : Str) (st : Stmt) (b : String), mg (Str.ofString c) = some (.ref C) ∧ OexC K C ∧ XfC K C ∧ PySem.W.findIn K (.ref C) "__init__" = some (some (.ref fI)) ∧ PySem.W.typeIn K (.ref fI) = some (.type "function") ∧
  Fun K x qual st fI fd ∧ FnScope (("self" : Str) :: ns.map Str.ofString) (("self" : Str) :: ns.map Str.ofString) (defScope st) ∧ BaseI K CT ∧ mg (Str.ofString b) = some (.ref CT) ∧ (Str.ofString b == ("__debug__" : Str)) = false ∧ glB (defScope st) (Str.ofString b) = true ∧ mInit b (ns.map Str.ofString) (defBody st) = true ∧
  (∀ n ∈ ns, PySem.W.findIn K (.ref C) (Str.ofString n) = some none ∧ (Str.ofString n == ("__debug__" : Str)) = false ∧ (Str.ofString n == ("__classdict__" : Str)) = false) ∧ ns.length ≤ 800 ∧ Binds K fd (("self" : Str) :: ns.map Str.ofString) [] ∧ (Str.ofString c == ("__debug__" : Str)) = false
theorem ExcS.g {X : Cx} {c : String} {ns : List String} (h : ExcS X.K X.mg c ns) : ExcG X c ns := by
  obtain ⟨C, CT, fI, fd, x, qual, st, b, h1, h2, h3, h4, h5, h6, h7, h8, h9, h10, h11, h12, h13, h14, h15, h16⟩ := h
  refine ⟨⟨C, fI, fd, h1, h2, h3, h4, h5, init_ok h6 h7 h2 h8 h9 h10 h11 h12 (fun g hg => ?_) (by simpa using h14) (fun g hg => ?_), h15, fun n hn => (h13 n hn).1⟩, h16⟩
  · obtain ⟨n, hn, rfl⟩ := List.mem_map.mp hg
    exact (h13 n hn).1
  · obtain ⟨n, hn, rfl⟩ := List.mem_map.mp hg
    exact (h13 n hn).2
/-- what is known of a module, whatever the depth of calls and the base -/
structure Stat (T : Tb) (Λ : Lx) (P : Prog) (base : Heap) (X : Cx) : Prop where
  blt : ∀ n ∈ bltNames, X.mg (Str.ofString n) = none
  gcd : T.gcd = true → X.mg "gcd" = some (.builtin "math.gcd")
  fns : ∀ f ∈ T.fns, ∃ a fd ps, X.mg (Str.ofString f) = some (.ref a) ∧ PySem.W.keepIn X.K (.ref a) = true ∧ Binds X.K fd ps [] ∧ Defd T Λ P X.K f a fd ps
  mths : ∀ c nm m, (c, nm, m) ∈ T.mths → (c, nm) ∉ T.flds ∧ (∃ cl, X.mg (Str.ofString c) = some (.ref cl)) ∧ ∃ a fd ps, (∀ cl, X.mg (Str.ofString c) = some (.ref cl) → Cls X.K cl ∧ Meth X.K cl (Str.ofString nm) a) ∧ Binds X.K fd ps [] ∧ Defd T Λ P X.K m a fd ps
  inits : ∀ c init, (c, init) ∈ T.inits → ∃ cl a fd ps, X.mg (Str.ofString c) = some (.ref cl) ∧ Mk X.K cl a ∧ Binds X.K fd ps [] ∧ Defd T Λ P X.K init a fd ps
  fld : FldOk (T.CL Λ) X
  cls : ∀ c ∈ T.cls, ∃ a, X.mg (Str.ofString c) = some (.ref a) ∧ (Str.ofString c == ("__debug__" : Str)) = false
  kit : KitOk (T.CL Λ) X
  cons : ∀ p ∈ T.cons, ∃ u v, X.mg (Str.ofString p.1) = some u ∧ RelV v u ∧ (∀ w, VR (kt (T.CL Λ) X) w p.2 v) ∧ (Str.ofString p.1 == ("__debug__" : Str)) = false
  consN : ∀ p ∈ T.cons, p.2.noFn = true
  own : Λ.own = own0
  lams : ∀ k' js t, Λ.lm k' js t → LamD T P k' t
  lm : ∀ k' js t, T.lam k' js { t with qual := default } = true → Λ.lm k' js t
  excs : ∀ c ns, (c, ns) ∈ T.excs → ExcS X.K X.mg c ns
  exm : ∀ c ns c' ns', (c, ns) ∈ T.excs → (c', ns') ∈ T.excs → ∀ a a', X.mg (Str.ofString c) = some (.ref a) → X.mg (Str.ofString c') = some (.ref a') → PySem.W.exmOne X.K (.ref a) (.ref a') = some (decide (c = c'))
  tabB : ∀ c P, PySem.W.codeHdIn X.K c P = true → P ∈ Λ.tabs.map (·.1) → LamX.TabB base X.mg c P

theorem po_len {C : Kt} {E : XK} {B : Nat → Prop} {w : Wd} {P : Prog} {F : FunIR} {n b : Nat} {f : String} {ds : List D} {S : Store} {Q : V → Hp → Prop} (hP : P f = some F) (hd : F.defaults = []) (h : Po C E B (rlDB C) w (runP P (n + 1) f b ds S) Q) :
    ds.length = F.params ∧ Po C E B (rlDB C) w (chkIf F.lams <| match evB (gkIf F.lams (runP P n)) (if F.keep then b else S.length) F.body (ds.map some ++ List.replicate (F.slots - F.params) none) S with
        | .ok (.ret d fr, _) S' => finP F (if F.keep then b else S.length) d fr S'
        | .ok (.nx, _) S' => finP F (if F.keep then b else S.length) .non true S'
        | .ok _ _ => .bad
        | .err x S' => if F.keep then .err x S' else if D.refsBs (if F.keep then b else S.length) x.vs && decide ((if F.keep then b else S.length) ≤ S'.length) then .err x (S'.take (if F.keep then b else S.length)) else .bad
        | .bad => .bad) Q := by
  unfold runP at h
  rw [hP] at h
  simp only [hd, List.length_nil, Nat.add_zero, List.drop_nil, List.append_nil] at h
  split at h
  · rename_i hc
    exact ⟨by omega, h⟩
  · exact h.elim
theorem zeroG {P : Program} {w : World} {K : PySem.W.Frag} {mg : Str → Option Value} {base : Heap} {C : Kt} {Pr : Prog} {k : Nat} {f : String} {a : Addr} {fd : FuncData} {ps : List Str} : FnG P w K mg base k a fd ps (spOf C (runP Pr 0) f) :=
  ⟨fun vs H Q E ⟨B, b, w, S, ds, _, _, _, _, h⟩ => (show False from h).elim, fun A outer s H args us vs Q E _ _ _ _ _ ⟨B, b, w, S, ds, _, _, _, _, h⟩ => (show False from h).elim⟩
theorem zeroL {P : Program} {w : World} {K : PySem.W.Frag} {mg : Str → Option Value} {base : Heap} {C : Kt} {Pr : Prog} {k : Nat} {f : String} {t : LamT} : LamG P w K mg base k t (spOf C (runP Pr 0) f) :=
  ⟨fun A outer s H f c' cl ws Q E _ _ _ _ _ _ ⟨B, b, w, S, ds, _, _, _, _, h⟩ => (show False from h).elim⟩
/-- what stands behind a callee is what its caller sees -/
theorem cut_ext {C : Kt} {B : Nat → Prop} {S S' : Store} {w w' : Wd} (s : SS C B S w) (x : Ext w w') : Ext w (w'.cut S.length) := by
  have hρ : w'.ρ.take S.length = w.ρ := by
    obtain ⟨t, e⟩ := x.pre
    rw [e, ← s.len]; simp
  refine ⟨⟨⟨[], by show w'.ρ.take S.length = _; rw [hρ]; simp⟩, x.fr, x.keep, x.frz⟩, x.keepA, x.keepT, fun a h n => ?_, x.newF⟩
  have h : a ∈ w'.ρ.take S.length := h
  rw [hρ] at h
  exact absurd h n
theorem cut_ss {C : Kt} {B : Nat → Prop} {S S' : Store} {w w' : Wd} (s : SS C B S w) (s' : SS C (fun b => B b ∨ b = S.length) S' w') (h : S.length ≤ S'.length) : SS C B (S'.take S.length) (w'.cut S.length) :=
  (s'.cut h (fun b' hb => by
    rcases hb with hb | rfl
    · exact (s.low b' hb).1
    · exact Nat.le_refl _) (fun n c' hn e' => (s'.low S.length (.inr rfl)).2 n c' hn e')).fewer fun b hb => .inl hb
theorem low_more {C : Kt} {B : Nat → Prop} {S : Store} {w : Wd} (s : SS C B S w) : SS C (fun b => B b ∨ b = S.length) S w := by
  refine ⟨s.len, s.inj, s.cell, s.nofr, s.there, s.muts, fun b hb => ?_, s.tabs⟩
  rcases hb with hb | rfl
  · exact s.low b hb
  · refine ⟨Nat.le_refl _, fun n c' hn e => ?_⟩
    have hw : n < w.ρ.length := by rw [s.len]; exact hn
    have hc := s.cell n c' _ e (List.getElem?_eq_getElem hw)
    rw [← s.len]
    cases c' with
    | dead => rfl
    | lst xs => obtain ⟨vs, _, q⟩ := hc; exact VRs.refs _ _ q
    | dct ks ds => obtain ⟨vs, _, q, _⟩ := hc; exact VRs.refs _ _ q
    | ins c ns ds => obtain ⟨_, _, vs, _, _, _, q, _⟩ := hc; exact VRs.refs _ _ q
    | ice xs => obtain ⟨vs, _, _, q⟩ := hc; exact VRs.refs _ _ q
/-- a value leaves its def -/
theorem fin_ok {C : Kt} {E : XK} {B : Nat → Prop} {S S' : Store} {w w' : Wd} {F : FunIR} {b : Nat} {d : D} {fr : Bool} {v : V} {Q : V → Hp → Prop} (s : SS C B S w) (hk : F.keep = true → SS C B S' w') (hn : F.keep = false → SS C (fun b => B b ∨ b = S.length) S' w') (hb : F.keep = false → b = S.length) (x : Ext w w') (r : RR C fr w S' w' d v)
    (h : Po C E B (rlDB C) w (finP F b d fr S') Q) : Q v w'.H := by
  unfold finP at h
  split at h
  · exact h.elim
  · rename_i hf
    -- whether its list is new
    have rr : ∃ w2, w2.H = w'.H ∧ Ext w w2 ∧ (F.keep = true → SS C B S' w2) ∧ (F.keep = false → SS C (fun b => B b ∨ b = S.length) S' w2) ∧ RR C F.fresh w S' w2 d v := by
      cases ef : F.fresh with
      | false =>
        cases ek : F.keep with
        | true =>
          obtain ⟨w2, e, _, x2, _, s2, r2⟩ := RR.settle x (hk ek) r
          exact ⟨w2, e, x2, fun _ => s2, (fun z => by cases z), (show RR C false w S' w2 d v from RR.of r2)⟩
        | false =>
          obtain ⟨w2, e, _, x2, _, s2, r2⟩ := RR.settle x (hn ek) r
          exact ⟨w2, e, x2, (fun z => by cases z), fun _ => s2, (show RR C false w S' w2 d v from RR.of r2)⟩
      | true =>
        refine ⟨w', rfl, x, hk, hn, ?_⟩
        cases d with
        | lst xs =>
          cases fr with
          | true => exact r
          | false => rw [ef] at hf; simp [isLst] at hf
        | _ => cases fr <;> exact r
    obtain ⟨w2, e, x2, k2, n2, r2⟩ := rr
    rw [← e]
    split at h
    · rename_i ek
      exact h w2 v x2 (k2 ek) r2
    · rename_i ek
      have ek : F.keep = false := by simpa using ek
      have eb := hb ek
      subst eb
      split at h
      · rename_i hc
        rw [Bool.and_eq_true, decide_eq_true_eq] at hc
        have s2 := n2 ek
        have hlw : S.length ≤ w2.ρ.length := by rw [s2.len]; exact hc.2
        refine h (w2.cut S.length) v (cut_ext (S' := S') s x2) (cut_ss s s2 hc.2) ?_
        show RR C F.fresh w (S'.take S.length) (w2.cut S.length) d v
        cases ef : F.fresh with
        | false =>
          rw [ef] at r2
          have r3 : VR C w2 d v := by cases d <;> exact r2
          exact RR.of (VR.cut hlw _ _ hc.1 r3)
        | true =>
          rw [ef] at r2
          cases d with
          | lst xs =>
            obtain ⟨a, vs, e1, e2, e3, e4, e5, e6⟩ := (show FR C w S' w2 xs v from r2)
            refine (show FR C w (S'.take S.length) (w2.cut S.length) xs v from ⟨a, vs, e1, e2, VRs.cut hlw _ _ (by simpa [D.refsB] using hc.1) e3, e4, e5, fun n c h1 h2 h3 => ?_⟩)
            have hnl : n < S.length := by
              have := (List.getElem?_eq_some_iff.mp h1).1
              rw [List.length_take] at this; omega
            rw [List.getElem?_take_of_lt hnl] at h1
            have h3 : (w2.ρ.take S.length)[n]? = some a := h3
            rw [List.getElem?_take_of_lt hnl] at h3
            exact e6 n c h1 h2 h3
          | _ => exact VR.cut (C := C) hlw _ _ hc.1 r2
      · exact h.elim
/-- an exception leaves its def -/
theorem err_ok {C : Kt} {E : XK} {B : Nat → Prop} {S S' : Store} {w w' : Wd} {F : FunIR} {b : Nat} {z : Exn} {cls : Value} {dd : Option Addr} {Q : V → Hp → Prop} (s : SS C B S w) (hk : F.keep = true → SS C B S' w') (hn : F.keep = false → SS C (fun b => B b ∨ b = S.length) S' w') (hb : F.keep = false → b = S.length) (x : Ext w w') (r : XR C w' z cls dd)
    (h : Po C E B (rlDB C) w (if F.keep then .err z S' else if D.refsBs b z.vs && decide (b ≤ S'.length) then .err z (S'.take b) else .bad) Q) : E cls dd w'.H := by
  split at h
  · rename_i ek
    exact h w' cls dd x (hk ek) r
  · rename_i ek
    have ek : F.keep = false := by simpa using ek
    have eb := hb ek
    subst eb
    split at h
    · rename_i hc
      rw [Bool.and_eq_true, decide_eq_true_eq] at hc
      have s2 := hn ek
      have hlw : S.length ≤ w'.ρ.length := by rw [s2.len]; exact hc.2
      obtain ⟨cl, h1, h2, da, vs, h3, h4, h5, h6⟩ := r
      exact h (w'.cut S.length) cls dd (cut_ext (S' := S') s x) (cut_ss s s2 hc.2) ⟨cl, h1, h2, da, vs, h3, h4, VRs.cut hlw _ _ hc.1 h5, h6⟩
    · exact h.elim
theorem start_ee {C : Kt} {N : List Str} {ds : List D} {vs : List V} {w : Wd} {m : Nat} (r : VRs C w ds vs) (hm : N.length - vs.length = m) : EE C (ds.map some ++ List.replicate m none) (L2.start N vs) w := by
  unfold L2.start
  have hl := r.length
  refine ⟨by simp [hl]; omega, fun i d e => ?_⟩
  by_cases hi : i < ds.length
  · rw [List.getElem?_append_left (by simpa using hi), List.getElem?_map] at e
    cases q : ds[i]? with
    | none => rw [q] at e; cases e
    | some d' =>
      rw [q] at e
      cases e
      obtain ⟨v, h1, h2⟩ := r.get q
      exact ⟨v, by rw [List.getElem?_append_left (by rw [List.length_map, hl]; exact hi), List.getElem?_map, h1]; rfl, h2⟩
  · rw [List.getElem?_append_right (by simpa using hi)] at e
    rw [List.getElem?_replicate] at e
    split at e <;> cases e
/-- the body's end, as the def's caller sees it -/
theorem body_end {C : Kt} {E : XK} {B B' : Nat → Prop} {S : Store} {w : Wd} {F : FunIR} {b : Nat} {Q : V → Hp → Prop} {r : R (Fl × Slots)} {Dn : Ends} (ss : SS C B S w) (hk : F.keep = true → B' = B) (hn : F.keep = false → B' = fun b => B b ∨ b = S.length) (hb' : F.keep = false → b = S.length) (hD1 : ∀ σ H, Dn.nx σ H = Q .non H) (hD2 : ∀ v H, Dn.rt v H = Q v H)
    (h : Po C E B (rlDB C) w (match r with
        | .ok (.ret d fr, _) S' => finP F b d fr S'
        | .ok (.nx, _) S' => finP F b .non true S'
        | .ok _ _ => .bad
        | .err x S' => if F.keep then .err x S' else if D.refsBs b x.vs && decide (b ≤ S'.length) then .err x (S'.take b) else .bad
        | .bad => .bad) Q) : Po C E B' (rlF C) w r (QF Dn) := by
  have kk : ∀ {S' : Store} {w' : Wd}, SS C B' S' w' → (F.keep = true → SS C B S' w') ∧ (F.keep = false → SS C (fun b => B b ∨ b = S.length) S' w') := fun {S' w'} s' =>
    ⟨fun z => by rw [← hk z]; exact s', fun z => by rw [← hn z]; exact s'⟩
  cases r with
  | bad => exact h
  | err z S' => exact fun w' cls dd x' s' xr => err_ok ss (kk s').1 (kk s').2 hb' x' xr h
  | ok t S' =>
    obtain ⟨fl, env'⟩ := t
    intro w' q x' s' r'
    cases fl with
    | nx =>
      cases q <;> first | exact (show False from r').elim | skip
      show Dn.nx _ _
      rw [hD1]
      exact fin_ok (d := .non) (fr := true) (v := .non) ss (kk s').1 (kk s').2 hb' x' (show VR C w' .non .non by unfold VR; rfl) h
    | brk => exact h.elim
    | ct => exact h.elim
    | ret d fr =>
      cases q <;> first | exact (show False from r').elim | skip
      show Dn.rt _ _
      rw [hD2]
      exact fin_ok ss (kk s').1 (kk s').2 hb' x' r' h
/-- the frame's bases -/
theorem bases {C : Kt} {B : Nat → Prop} {S : Store} {w : Wd} {b : Nat} (kp : Bool) (ss : SS C B S w) (hB : ∀ b', B b' → b' ≤ b) : ∃ B' : Nat → Prop, SS C B' S w ∧ (∀ b', B' b' → b' ≤ (if kp then b else S.length)) ∧ ((kp = true → B' = B) ∧ (kp = false → B' = fun b => B b ∨ b = S.length)) := by
  cases kp with
  | true => exact ⟨B, ss, hB, fun _ => rfl, (fun z => by cases z)⟩
  | false =>
    refine ⟨_, low_more ss, fun b' hb' => ?_, (fun z => by cases z), fun _ => rfl⟩
    rcases hb' with hb' | rfl
    · exact (ss.low b' hb').1
    · exact Nat.le_refl _
/-- a def: from the facts of the module at the calls' depth n -/
theorem fnG_step {T : Tb} {Λ : Lx} {Pr : Prog} {P : Program} {w0 : World} {K : PySem.W.Frag} {mg : Str → Option Value} {base : Heap} {n : Nat} {f : String} {a : Addr} {fd : FuncData} {ps : List Str} (ho : Λ.own = own0) (G : ∀ X : Cx, X.prog = P → X.w = w0 → X.K = K → X.mg = mg → X.base = base → Glo T Λ (runP Pr n) (2 * n + 2) X)
    (raw : ∀ f ∈ T.fns, ∃ a fd ps, mg (Str.ofString f) = some (.ref a) ∧ PySem.W.keepIn K (.ref a) = true ∧ Binds K fd ps [] ∧ ∀ base' : Heap, (∀ b o, base.get? b = some o → base'.get? b = some o) → FnG P w0 K mg base' (2 * n + 2) a fd ps (spOf ⟨K, mg, T.cls, T.flds, base', Λ⟩ (runP Pr n) f))
    (tab : TabK Λ K fd → TabD Λ base mg fd)
    (df : Defd T Λ Pr K f a fd ps) : FnG P w0 K mg base (2 * (n + 1) + 2) a fd ps (spOf ⟨K, mg, T.cls, T.flds, base, Λ⟩ (runP Pr (n + 1)) f) := by
  obtain ⟨F, x, qual, st, N, hP, fn, fs, hN, hps, hdf, hm, htK⟩ := df.ex
  have e2 : 2 * (n + 1) + 2 = ((2 * n + 2) + 1) + 1 := by omega
  rw [e2]
  refine fnG_of fn fs (fun vs H Q E ⟨B, b, w, S, ds, _, _, _, r, h⟩ => ?_) fun cdv A outer s H vs Q E hcode hqual hgd hr ⟨B, b, w, S, ds, eH, ss, hB, r, h⟩ => ?_
  · rw [r.length, hps]
    exact (po_len hP hdf h).1
  · obtain ⟨hlen, h⟩ := po_len hP hdf h
    subst eH
    generalize hX : cxOf (L2.CX P w0) P w0 K mg base N qual (defScope st) a cdv A outer s w.H E = X
    have gl : Glo T Λ (runP Pr n) (2 * n + 2) X := by subst hX; exact G _ rfl rfl rfl rfl rfl
    have hk : X.env.scope.kind = .function := by subst hX; exact fs.kind
    have hpo : PassesOwn (model P w0) X.A X.env X.xe := by subst hX; exact passes_of rfl
    have htk : Takes X (fun cls d _ H => E cls d H) := by subst hX; exact takes_of rfl rfl rfl rfl
    have hp : PassG X E := passes_call htk fun _ _ _ _ h => h
    have ht : StT X E := by subst hX; exact ⟨htk, rfl, rfl⟩
    have hpo' : PassesOwn (model X.prog X.w) X.A X.env X.xe := by subst hX; exact hpo
    have hmN : mSs T X.N F.body ⟨defScope st, fun _ => true, F.lams⟩ (defBody st) = true := by subst hX; exact hm
    cases el : F.lams with
    | false =>
      rw [el] at h hmN
      have good : Good T Λ (runP Pr n) (2 * n + 2) X ⟨defScope st, fun _ => true, false⟩ := by
        subst hX
        exact ⟨rfl, rfl, rfl, fs.nd, hr, hgd, gl, by omega, (fun z => by cases z)⟩
      have eK : kt (T.CL Λ) X = ⟨K, mg, T.cls, T.flds, base, Λ⟩ := by subst hX; rfl
      refine ⟨_, gB (b := if F.keep then b else S.length) F.body good hk hpo' hp ht hmN, ?_⟩
      rw [eK]
      obtain ⟨B', hB1, hB2, hB3⟩ := bases F.keep ss hB
      exact ⟨B', w, S, _, ⟨rfl, hB1, start_ee (m := F.slots - F.params) r (by rw [hN, r.length, hlen]), hB2⟩, body_end (b := if F.keep then b else S.length) ss hB3.1 hB3.2 (fun z => by rw [z]; rfl) (fun _ _ => rfl) (fun _ _ => rfl) h⟩
    | true =>
      rw [el] at h hmN
      generalize hΛ : ({ Λ with own := fun cl fr js => NdefX.Caps X cl fr js } : Lx) = Λ'
      have gl' : Glo T Λ' (guardK (runP Pr n)) (2 * n + 2) X := by rw [← hΛ]; exact gl.guard
      have good : Good T Λ' (guardK (runP Pr n)) (2 * n + 2) X ⟨defScope st, fun _ => true, true⟩ := by
        refine ⟨by subst hX; rfl, by subst hX; rfl, by subst hX; rfl, by subst hX; exact fs.nd, by subst hX; exact hr, by subst hX; exact hgd, gl', by omega, fun _ => ⟨?_, ?_, ?_, runP Pr n, rfl, ?_⟩⟩
        · obtain ⟨c, Pt, t1, t2, t3, t4⟩ := tab (htK el)
          rw [← hΛ]
          rw [hqual] at t3 t4
          subst hX
          exact ⟨c, Pt, t1, hcode.symm.trans t2, t3, t4⟩
        · intro cl fr js
          rw [← hΛ]
        · intro y
          subst hX; rfl
        · intro f' hf'
          obtain ⟨a', fd', ps', h1, h2, h3, F'⟩ := raw f' hf'
          subst hX
          refine ⟨a', fd', ps', h1, h2, h3, fun base' hb => ?_⟩
          have := F' base' hb
          rw [← hΛ]
          have e : ({ lm := Λ.lm, tabs := Λ.tabs, own := own0 } : Lx) = Λ := by rw [← ho]
          show FnG P w0 K mg base' (2 * n + 2) a' fd' ps' (spOf ⟨K, mg, T.cls, T.flds, base', { lm := Λ.lm, tabs := Λ.tabs, own := own0 }⟩ (runP Pr n) f')
          rw [e]
          exact this
      have h2 := po_chk (bs := base) (o := Λ'.own) h
      have eK : kt (T.CL Λ') X = (⟨K, mg, T.cls, T.flds, base, Λ⟩ : Kt).at base Λ'.own := by subst hX; subst hΛ; rfl
      refine ⟨_, gB (b := if F.keep then b else S.length) F.body good hk hpo' hp ht hmN, ?_⟩
      rw [eK]
      have ss' : SS ((⟨K, mg, T.cls, T.flds, base, Λ⟩ : Kt).at base Λ'.own) B S w := ss.nl ho
      have r' : VRs ((⟨K, mg, T.cls, T.flds, base, Λ⟩ : Kt).at base Λ'.own) w ds vs := VRs.noLam (fun _ _ h => h) _ _ (VRs.nl ho _ _ r) r
      obtain ⟨B', hB1, hB2, hB3⟩ := bases F.keep ss' hB
      exact ⟨B', w, S, _, ⟨rfl, hB1, start_ee (m := F.slots - F.params) r' (by rw [hN, r'.length, hlen]), hB2⟩, body_end (b := if F.keep then b else S.length) ss' hB3.1 hB3.2 (fun z => by rw [z]; rfl) (fun _ _ => rfl) (fun _ _ => rfl) h2⟩
/-- a lambda: from the facts of the module at the calls' depth n -/
theorem lamG_step {T : Tb} {Λ : Lx} {Pr : Prog} {P : Program} {w0 : World} {K : PySem.W.Frag} {mg : Str → Option Value} {base : Heap} {n : Nat} {k : String} {t : LamT} (G : ∀ X : Cx, X.prog = P → X.w = w0 → X.K = K → X.mg = mg → X.base = base → Glo T Λ (runP Pr n) (2 * n + 2) X)
    (ld : LamD T Pr k t) : LamG P w0 K mg base (2 * (n + 1) + 2) t (spOf ⟨K, mg, T.cls, T.flds, base, Λ⟩ (runP Pr (n + 1)) k) := by
  obtain ⟨F, ir, hP, h1, h2, h3, h4, h5, h6, h7, h8, h9⟩ := ld
  have S := NdefX.nscope_by h7
  refine ⟨fun A outer s H f c' cl ws Q E hgd hr e0 hf hc C ⟨B, b, w, S0, ds, eH, ss, hB, r, h⟩ => ?_⟩
  obtain ⟨hlen, h⟩ := po_len hP h3 h
  subst eH
  have lim : s.heap.NoLimit := e0.mod.nolimit.keeps fun b o e => (e0.bs b o e).1
  obtain ⟨⟨pm, ctv, of1⟩, _, _⟩ := e0.hok f _ hf
  obtain ⟨⟨oc, vs, tq, hoc, hdc, hvc⟩, _, _⟩ := e0.hok c' _ hc
  have e2 : 2 * (n + 1) + 2 = (2 * n + 2 + 1) + 1 := by omega
  rw [e2] at hr
  refine PySem.W.kla_callFunE hr.depth of1 rfl S.co S.gen rfl ⟨c', oc, vs, tq, rfl, hoc, hdc, hvc⟩ ?_
  have hbind : bindArgs (PySem.W.kla_fn "<lambda>" t.qual t.params t.body t.scope cl pm (.ref c') ctv) ⟨[], []⟩ = pure [] := by
    obtain ⟨q, ps, bd, sc, fr⟩ := t
    obtain ⟨a1, a2, a3, a4, a5, a6, a7⟩ := ps
    unfold noPars at h8
    simp only [Bool.and_eq_true, List.isEmpty_iff, Option.isNone_iff_eq_none] at h8
    obtain ⟨⟨⟨⟨⟨⟨rfl, rfl⟩, rfl⟩, rfl⟩, rfl⟩, rfl⟩, rfl⟩ := h8
    rfl
  rw [hbind]
  generalize hF : (⟨"<lambda>", t.qual, t.params, [], t.scope, cl, c'⟩ : NdefX.NF) = NF
  have Sn : NdefX.NScope t.fr [] t.fr NF.scope := by subst hF; exact S
  have Cn : NdefX.CellsAt NF.cl t.fr (ws.map some) s.heap w.H := by subst hF; exact C
  refine wpAny_pure (wpAny_newFunctionEnv S.nocell (fun y hy => absurd hy (by simp)) (fun h₁ hns hsb => ⟨lim.fresh _ hsb, ?_⟩) S.kind)
  show codeAny _ _ (.expr t.body (NdefX.envF ⟨"<lambda>", t.qual, t.params, [], t.scope, cl, c'⟩ f s.heap.objs.size)) _ _
  rw [hF]
  have kp : ∀ b o, s.heap.get? b = some o → h₁.get? b = some o := fun b o e => hsb.extBut b o (Nat.ne_of_lt (Heap.lt_size e)) (Heap.get?_push_of_some _ e)
  have I : Inv (NdefX.ncx (L2.CX P w0) P w0 K mg base t.fr NF f A outer s w.H E) [] (NdefX.startF t.fr [] (ws.map some)) w.H { s with heap := h₁, toks := s.toks + ([] : List (Str × Value)).length } :=
    NdefX.inv_startN (ps := []) (us := []) (vs := []) Sn hr.hd e0 rfl .nil Cn hns kp
  generalize hX : NdefX.ncx (L2.CX P w0) P w0 K mg base t.fr NF f A outer s w.H E = X at I
  have gl : Glo T Λ (runP Pr n) (2 * n + 2) X := by subst hX; exact G _ rfl rfl rfl rfl rfl
  have htk : Takes X (fun cls d _ H => E cls d H) := by subst hX; exact takes_of rfl rfl rfl rfl
  have hp : PassG X E := passes_call htk fun _ _ _ _ h => h
  have good : Good T.nolam Λ (runP Pr n) (2 * n + 2) X ⟨t.scope, fun _ => false, false⟩ := by
    subst hX
    exact ⟨by subst hF; rfl, rfl, rfl, S.nd, hr.deeper _, hgd, gl.nolam, by omega, (fun z => by cases z)⟩
  have hmN : mE T.nolam X.N ir ⟨t.scope, fun _ => false, false⟩ t.body = true := by subst hX; exact h9
  have eK : kt (T.CL Λ) X = ⟨K, mg, T.cls, T.flds, base, Λ⟩ := by subst hX; rfl
  have pe := (gE (b := S0.length) ir good hp hmN).pe
  rw [eK] at pe
  -- what is wanted of the body
  rw [h5, h4, h6] at h
  have hb' : (if (false : Bool) = true then b else S0.length) = S0.length := rfl
  rw [hb'] at h
  obtain ⟨B', hB1, hB2, hB3⟩ := bases false ss hB
  have eB := hB3.2 rfl
  have ee : EE ⟨K, mg, T.cls, T.flds, base, Λ⟩ (ds.map some ++ List.replicate (F.slots - F.params) none) (NdefX.startF t.fr [] (ws.map some)) w := by
    have hl := r.length
    have hr0 : F.slots - F.params = 0 := by omega
    refine ⟨?_, fun i d e => ?_⟩
    · unfold NdefX.startF
      simp
      omega
    · rw [hr0] at e
      simp only [List.replicate_zero, List.append_nil, List.getElem?_map] at e
      cases q : ds[i]? with
      | none => rw [q] at e; cases e
      | some d' =>
        rw [q] at e
        cases e
        obtain ⟨v, k1, k2⟩ := r.get q
        refine ⟨v, ?_, k2⟩
        unfold NdefX.startF
        have hi : i < ws.length := (List.getElem?_eq_some_iff.mp k1).1
        simp only [List.map_nil, List.nil_append]
        rw [List.getElem?_append_left (by simpa using hi), List.getElem?_map, k1]
        rfl
  have ti : tI ⟨K, mg, T.cls, T.flds, base, Λ⟩ E (runP Pr n) S0.length ir (NdefX.startF t.fr [] (ws.map some)) w.H Q := by
    refine ⟨B', w, S0, _, ⟨rfl, hB1, ee, hB2⟩, ?_⟩
    have be := body_end (b := S0.length) (F := F) (Dn := { nx := fun _ H' => Q .non H', rt := Q }) ss (fun z => by rw [h4] at z; cases z) (fun _ => eB) (fun _ => rfl) (fun _ _ => rfl) (fun _ _ => rfl) (by rw [h4]; exact h)
    have be' : Po ⟨K, mg, T.cls, T.flds, base, Λ⟩ E B' (rlF ⟨K, mg, T.cls, T.flds, base, Λ⟩) w (evB (runP Pr n) S0.length [.ret ir] (ds.map some ++ List.replicate (F.slots - F.params) none) S0) (QF { nx := fun _ H' => Q .non H', rt := Q }) := be
    cases e : ev (runP Pr n) S0.length false ir (ds.map some ++ List.replicate (F.slots - F.params) none) S0 with
    | bad =>
      have : evB (runP Pr n) S0.length [.ret ir] (ds.map some ++ List.replicate (F.slots - F.params) none) S0 = .bad := by
        simp only [evB, evS, e, R.bind]
      rw [this] at be'
      exact be'
    | err x S' =>
      have : evB (runP Pr n) S0.length [.ret ir] (ds.map some ++ List.replicate (F.slots - F.params) none) S0 = .err x S' := by
        simp only [evB, evS, e, R.bind]
      rw [this] at be'
      exact be'
    | ok d S' =>
      have : evB (runP Pr n) S0.length [.ret ir] (ds.map some ++ List.replicate (F.slots - F.params) none) S0 = .ok (.ret d ir.fresh, ds.map some ++ List.replicate (F.slots - F.params) none) S' := by
        simp only [evB, evS, e, R.bind]
      rw [this] at be'
      exact fun w' v x s' r' => be' w' (.ret v) x s' r'
  have fin := wpAny_mono (pe.run [] _ _ w.H Q I ti) (fun v s' hq => (show CR (L2.CX P w0) outer P w0 w.H s Q E (.ok (.ret v)) s' from by
    obtain ⟨w', H', J', rv, q⟩ := hq
    subst hX
    exact ⟨w', H', J'.os, J'.bare, J'.base, J'.hok, rv, q⟩)) fun e s' hq => hq
  subst hX
  exact PySem.W.kla_codeExpr fin
/-- from the facts of the module at a depth: what holds at this depth -/
theorem glo_of {T : Tb} {Λ : Lx} {Pr : Prog} {n : Nat} {X : Cx} (s : Stat T Λ Pr X.base X) (F : ∀ {f a fd ps}, Defd T Λ Pr X.K f a fd ps → FnG X.prog X.w X.K X.mg X.base (2 * n + 2) a fd ps (spOf (kt (T.CL Λ) X) (runP Pr n) f))
    (L : ∀ {k' t}, LamD T Pr k' t → LamG X.prog X.w X.K X.mg X.base (2 * n + 2) t (spOf (kt (T.CL Λ) X) (runP Pr n) k')) : Glo T Λ (runP Pr n) (2 * n + 2) X :=
  ⟨s.blt, s.gcd, fun f hf => let ⟨a, fd, ps, h1, h2, h3, h4⟩ := s.fns f hf; ⟨a, fd, ps, h1, h2, h3, F h4⟩, fun c nm m hm => let ⟨h0, h1, a, fd, ps, h2, h3, h4⟩ := s.mths c nm m hm; ⟨h0, h1, a, fd, ps, h2, h3, F h4⟩,
      fun c i hi => let ⟨cl, a, fd, ps, h1, h2, h3, h4⟩ := s.inits c i hi; ⟨cl, a, fd, ps, h1, h2, h3, F h4⟩, s.fld, s.cls, s.kit, s.cons, s.consN, fun k' js t h => L (s.lams k' js t h), s.lm, fun c ns h => (s.excs c ns h).g, s.exm⟩
/-- THE RULE: the module's defs and lambdas, at every depth, over every base from base0 on -/
theorem fn_all {T : Tb} {Λ : Lx} {Pr : Prog} {P : Program} {w0 : World} {K : PySem.W.Frag} {mg : Str → Option Value} {base0 : Heap} (S : ∀ X : Cx, X.prog = P → X.w = w0 → X.K = K → X.mg = mg → (∀ b o, base0.get? b = some o → X.base.get? b = some o) → Stat T Λ Pr X.base X) (X0 : Cx) (x1 : X0.prog = P) (x2 : X0.w = w0) (x3 : X0.K = K) (x4 : X0.mg = mg) :
    ∀ n (base : Heap), (∀ b o, base0.get? b = some o → base.get? b = some o) → (∀ {f a fd ps}, Defd T Λ Pr K f a fd ps → FnG P w0 K mg base (2 * n + 2) a fd ps (spOf ⟨K, mg, T.cls, T.flds, base, Λ⟩ (runP Pr n) f)) ∧
      (∀ {k' t}, LamD T Pr k' t → LamG P w0 K mg base (2 * n + 2) t (spOf ⟨K, mg, T.cls, T.flds, base, Λ⟩ (runP Pr n) k'))
  | 0, base, hb => ⟨fun _ => zeroG, fun _ => zeroL⟩
  | n + 1, base, hb => by
    have ih := fn_all S X0 x1 x2 x3 x4 n
    have G : ∀ X : Cx, X.prog = P → X.w = w0 → X.K = K → X.mg = mg → X.base = base → Glo T Λ (runP Pr n) (2 * n + 2) X := fun X e1 e2 e3 e4 e5 => by
      obtain ⟨i1, i2⟩ := ih base hb
      subst e1; subst e2; subst e3; subst e4; subst e5
      exact glo_of (S X rfl rfl rfl rfl hb) i1 i2
    have s0 := S { X0 with base := base } x1 x2 x3 x4 hb
    subst x1; subst x2; subst x3; subst x4
    refine ⟨fun {f a fd ps} df => fnG_step s0.own G (fun f' hf' => ?_) (fun ⟨c, Pt, t1, t2, t3, t4⟩ => ⟨c, Pt, s0.tabB c Pt t1 (List.mem_map.mpr ⟨_, t3, rfl⟩), t2, t3, t4⟩) df, fun ld => lamG_step G ld⟩
    obtain ⟨a', fd', ps', h1, h2, h3, h4⟩ := s0.fns f' hf'
    exact ⟨a', fd', ps', h1, h2, h3, fun base' hb' => (ih base' fun b o e => hb' b o (hb b o e)).1 h4⟩
end Pi
end

section
/-! PiHead: from what the top has written to the facts of the module (Stat). -/
namespace Pi
open PySem PySem.Spec PyProof.Rows L2

/-- a def's scope, checked -/
def fsB (N ps : List Str) (sc : Scope) : Bool := (match sc.kind with | .function => true | _ => false) && !sc.isCoroutine && !sc.isGenerator && decide N.Nodup && decide (N.take ps.length = ps) &&
  (ps.all fun x => match sc.names.lookup x with | some .local => true | some .cell => true | _ => false) && (sc.names.all fun y => match y.2 with | .free => false | _ => true)
theorem fs_of {N ps : List Str} {sc : Scope} (h : fsB N ps sc = true) : FnScope N ps sc := by
  unfold fsB at h
  simp only [Bool.and_eq_true, Bool.not_eq_true', decide_eq_true_eq, List.all_eq_true] at h
  obtain ⟨⟨⟨⟨⟨⟨h1, h2⟩, h3⟩, h4⟩, h5⟩, h6⟩, h7⟩ := h
  refine ⟨?_, h2, h3, h4, h5, fun x hx => ?_, fun y hy e => ?_⟩
  · split at h1
    · assumption
    · cases h1
  · have q := h6 x hx
    split at q <;> first | exact .inl (by assumption) | exact .inr (by assumption) | cases q
  · have q := h7 y hy
    rw [e] at q
    cases q
/-! constants of the module: what stands there -/
mutual
def cvB (K : PySem.W.Frag) : D → Value → Bool
  | .non, .none => true
  | .bl a, .bool b => a == b
  | .int i, .int j _ => decide (i = j)
  | .str x, .str y _ => decide (x = y)
  | .tup ds, .ref a => match K.lookup a with
    | some ⟨.type c, _, .seq its _, _⟩ => decide (c = "tuple") && decide (its.size ≤ sizeLine) && cvBs K ds its.toList
    | _ => false
  | _, _ => false
def cvBs (K : PySem.W.Frag) : List D → List Value → Bool
  | [], [] => true
  | d :: ds, u :: us => cvB K d u && cvBs K ds us
  | _, _ => false
end
mutual
theorem cv_ok {C : Kt} : ∀ {d : D} {u : Value}, cvB C.K d u = true → ∃ v, RelV v u ∧ ∀ w, VR C w d v
  | .non, u, h => by
    cases u <;> simp [cvB] at h
    exact ⟨.non, rfl, fun w => by unfold VR; rfl⟩
  | .bl a, u, h => by
    cases u <;> simp [cvB] at h
    subst h
    exact ⟨.bl a, rfl, fun w => by unfold VR; rfl⟩
  | .int i, u, h => by
    cases u <;> simp [cvB] at h
    subst h
    exact ⟨.int i, ⟨_, rfl⟩, fun w => by unfold VR; rfl⟩
  | .str x, u, h => by
    cases u <;> simp [cvB] at h
    subst h
    exact ⟨.str x, ⟨_, rfl⟩, fun w => by unfold VR; rfl⟩
  | .tup ds, u, h => by
    cases u with
    | ref a =>
      simp only [cvB] at h
      split at h
      · rename_i c od its n sl q
        simp only [Bool.and_eq_true, decide_eq_true_eq] at h
        obtain ⟨⟨rfl, hz⟩, hr⟩ := h
        obtain ⟨vs, r1, r2⟩ := cvs_ok hr
        refine ⟨.ref a, rfl, fun w => ?_⟩
        unfold VR
        exact ⟨a, vs, rfl, .inr ⟨_, its, n, q, rfl, rfl, hz, r1⟩, r2 w⟩
      · cases h
    | _ => simp [cvB] at h
  | .lst _, u, h => by cases u <;> simp [cvB] at h
  | .dct _ _, u, h => by cases u <;> simp [cvB] at h
  | .ins _ _ _, u, h => by cases u <;> simp [cvB] at h
  | .obj _, u, h => by cases u <;> simp [cvB] at h
  | .glob _, u, h => by cases u <;> simp [cvB] at h
  | .ty _, u, h => by cases u <;> simp [cvB] at h
  | .lam _ _, u, h => by cases u <;> simp [cvB] at h
  | .clo _ _, u, h => by cases u <;> simp [cvB] at h
  | .scr _, u, h => by cases u <;> simp [cvB] at h
theorem cvs_ok {C : Kt} : ∀ {ds : List D} {us : List Value}, cvBs C.K ds us = true → ∃ vs, Vals vs us ∧ ∀ w, VRs C w ds vs
  | [], [], _ => ⟨[], .nil, fun _ => .nil⟩
  | [], _ :: _, h => by simp [cvBs] at h
  | _ :: _, [], h => by simp [cvBs] at h
  | d :: ds, u :: us, h => by
    simp only [cvBs, Bool.and_eq_true] at h
    obtain ⟨v, r1, r2⟩ := cv_ok h.1
    obtain ⟨vs, q1, q2⟩ := cvs_ok h.2
    exact ⟨v :: vs, .cons r1 q1, fun w => .cons (r2 w) (q2 w)⟩
end
/-- the check of the module's facts -/
def ckP (T : Tb) (K : PySem.W.Frag) : Bool :=
  (bltNames.all fun n => (He.Fa.free (Str.ofString n)).ok K) &&
  (!T.gcd || He.eqO (PySem.W.nsIn K mainGlobals "gcd") (some (some (.builtin "math.gcd")))) &&
  (T.fns.all fun f => (He.Fa.glo (Str.ofString f)).ok K) &&
  (T.cls.all fun c => (He.Fa.glo (Str.ofString c)).ok K && (He.Fa.cls (Str.ofString c)).ok K && He.eqO (PySem.W.findIn K (.ref (He.ga K (Str.ofString c))) "__class__") (some (some (.builtin "object.__class__"))) && decide (PySem.W.mroIn K (He.ga K (Str.ofString c)) (.type "object") = some true) && !(Str.ofString c == ("__debug__" : Str)) &&
    (("NoneType" :: askTys).all fun n => decide (PySem.W.kitOne K (.type n) (.ref (He.ga K (Str.ofString c))) = some false) && decide (PySem.W.kitOne K (.ref (He.ga K (Str.ofString c))) (.type n) = some false)) &&
    (T.cls.all fun c' => decide (PySem.W.kitOne K (.ref (He.ga K (Str.ofString c))) (.ref (He.ga K (Str.ofString c'))) = some (decide (c = c'))))) &&
  (T.flds.all fun p => (He.Fa.glo (Str.ofString p.1)).ok K && (He.Fa.cls (Str.ofString p.1)).ok K && (He.Fa.noat (Str.ofString p.1) (Str.ofString p.2)).ok K) &&
  (T.inits.all fun p => (He.Fa.glo (Str.ofString p.1)).ok K && (He.Fa.mkr (Str.ofString p.1)).ok K) &&
  (T.mths.all fun p => (He.Fa.glo (Str.ofString p.1)).ok K && (He.Fa.cls (Str.ofString p.1)).ok K && (He.Fa.meth (Str.ofString p.1) (Str.ofString p.2.1)).ok K && !(T.flds.contains (p.1, p.2.1))) &&
  decide (PySem.W.specialIn K (.builtin "object.__class__") "__get__" = some (some (.builtin "getset_descriptor.__get__"))) && decide (PySem.W.takesIn K (.builtin "object.__class__") = some true) &&
  (T.cons.all fun p => !(Str.ofString p.1 == ("__debug__" : Str)) && (match PySem.W.nsIn K mainGlobals (Str.ofString p.1) with
    | some (some u) => cvB K p.2 u
    | _ => false))
/-! errors -/
def oexClsB (K : PySem.W.Frag) (C : Addr) : Bool := match K.lookup C with
  | some ⟨.type "type", _, .cls cd, sl⟩ => (match cd.mro, sl.toList with
    | .ref C' :: bm, [_, _, _, _, some (.builtin n), _] => C' == C && n == "ValueError.__new__" && !cd.hasDel && cd.hasDict && PySem.HandSPX.refsVE bm
    | _, _ => false)
  | _ => false
theorem oexCls_ok {K : PySem.W.Frag} {C : Addr} (q : oexClsB K C = true) : ∃ nm q N bs bm sn sub ab col dd k0 k1 k2 k3 k5, K.lookup C = some (excClassObj nm q C N bs bm true sn sub ab col dd k0 k1 k2 k3 k5 "ValueError.__new__") ∧ PySem.HandSPX.refsVE bm = true := by
  unfold oexClsB at q
  split at q
  · rename_i dd cd sl ho
    split at q
    · rename_i C' bm k0 k1 k2 k3 n k5 hm hs
      simp only [Bool.and_eq_true, beq_iff_eq, Bool.not_eq_true'] at q
      obtain ⟨⟨⟨⟨rfl, rfl⟩, hdel⟩, hdict⟩, ht⟩ := q
      obtain ⟨nm, bs, mro, ns, qn, hd, sn, sub, ab, col, del⟩ := cd
      dsimp only at hm hdel hdict
      subst hm hdel hdict
      have hsl : sl = #[k0, k1, k2, k3, some (.builtin "ValueError.__new__"), k5] := by
        obtain ⟨l⟩ := sl
        simp only at hs
        rw [hs]
      subst hsl
      exact ⟨nm, qn, ns, bs, bm, sn, sub, ab, col, dd, k0, k1, k2, k3, k5, ho, ht⟩
    · cases q
  · cases q
def baseB (K : PySem.W.Frag) (C : Addr) : Bool := He.eqO (PySem.W.specialIn K (.ref C) "__getattribute__") (some (some (.builtin "type.__getattribute__"))) && PySem.W.readsIn K C (.type "type") && (match PySem.W.findCls K (.ref C) (.type "type") "__init__" with
  | some (.val (.builtin n)) => decide (n = "ValueError.__init__")
  | _ => false)
theorem base_of {K : PySem.W.Frag} {C : Addr} (h : baseB K C = true) : BaseI K C := by
  unfold baseB at h
  simp only [Bool.and_eq_true] at h
  obtain ⟨⟨h1, h2⟩, h3⟩ := h
  refine ⟨He.eqO_ok h1, h2, ?_⟩
  split at h3
  · rename_i n e
    rw [e, of_decide_eq_true h3]
  · cases h3
/-- the check of the errors' facts -/
def ckX (T : Tb) (K : PySem.W.Frag) : Bool :=
  (T.excs.isEmpty || ((He.Fa.glo (Str.ofString T.exb)).ok K && baseB K (He.ga K (Str.ofString T.exb)) && !(Str.ofString T.exb == ("__debug__" : Str)))) &&
  T.excs.all fun p => (He.Fa.glo (Str.ofString p.1)).ok K && (oexClsB K (He.ga K (Str.ofString p.1)) && He.eqO (PySem.W.findIn K (.ref (He.ga K (Str.ofString p.1))) "__setattr__") (some (some (.builtin "object.__setattr__"))) && decide (PySem.W.subIn K (.ref (He.ga K (Str.ofString p.1))) (.type "BaseException") = some true) &&
      decide (PySem.W.typeIn K (.ref (He.ga K (Str.ofString p.1))) = some (.type "type")) && PySem.W.keepIn K (.ref (He.ga K (Str.ofString p.1)))) && xfB K (He.ga K (Str.ofString p.1)) &&
    He.eqO (PySem.W.findIn K (.ref (He.ga K (Str.ofString p.1))) "__init__") (some (some (.ref (He.ma K (He.ga K (Str.ofString p.1)) "__init__")))) && decide (PySem.W.typeIn K (.ref (He.ma K (He.ga K (Str.ofString p.1)) "__init__")) = some (.type "function")) &&
    (p.2.all fun n => He.eqO (PySem.W.findIn K (.ref (He.ga K (Str.ofString p.1))) (Str.ofString n)) (some none) && !(Str.ofString n == ("__debug__" : Str)) && !(Str.ofString n == ("__classdict__" : Str))) && decide (p.2.length ≤ 800) && !(Str.ofString p.1 == ("__debug__" : Str)) &&
    (T.excs.all fun q => decide (PySem.W.exmOne K (.ref (He.ga K (Str.ofString p.1))) (.ref (He.ga K (Str.ofString q.1))) = some (decide (p.1 = q.1))))
end Pi
end

section
/-! PiHead2: Stat from the checks. -/
namespace Pi
open PySem PySem.Spec PyProof.Rows L2

/-- a def of the text: its name here, where it stands, its names there, its statement, slots' names, parameters -/
structure DE where
  f : String
  at_ : Str × Option Str
  nm : Str
  qual : Str
  st : Stmt
  N : List Str
  ps : List Str
def DE.d (e : DE) : He.DefD := ⟨e.at_, e.nm, e.qual, defArgs e.st, defBody e.st, defScope e.st, [], []⟩
def chkDE (T : Tb) (Pr : Prog) (e : DE) : Bool := match Pr e.f with
  | some F => decide (e.N.length = F.slots) && decide (e.ps.length = F.params) && F.defaults.isEmpty && fsB e.N e.ps (defScope e.st) && mSs T e.N F.body ⟨defScope e.st, fun _ => true, F.lams⟩ (defBody e.st)
  | none => false
def covB (T : Tb) (es : List DE) : Bool :=
  (T.fns.all fun f => es.any fun e => e.f == f && decide (e.at_ = (Str.ofString f, none))) &&
  (T.mths.all fun p => es.any fun e => e.f == p.2.2 && decide (e.at_ = (Str.ofString p.1, some (Str.ofString p.2.1)))) &&
  (T.inits.all fun p => es.any fun e => e.f == p.2 && decide (e.at_ = (Str.ofString p.1, some ("__init__" : Str)))) &&
  T.cons.all fun p => p.2.noFn
/-- the errors' inits -/
def covX (T : Tb) (xs : List DE) : Bool := T.excs.all fun p => xs.any fun e => decide (e.at_ = (Str.ofString p.1, some ("__init__" : Str))) && decide (e.N = ("self" : Str) :: p.2.map Str.ofString) && decide (e.ps = ("self" : Str) :: p.2.map Str.ofString) && fsB e.N e.ps (defScope e.st) &&
  glB (defScope e.st) (Str.ofString T.exb) && mInit T.exb (p.2.map Str.ofString) (defBody e.st)
/-- its arguments are bound in their order -/
def BindOk (e : DE) : Prop := ∀ (kV doc pm : Value) (an : Option Addr) (cdv ct : Value) (us : List Value), us.length = e.ps.length → bindArgs (PySem.W.fnOf e.nm e.qual (defArgs e.st) (defBody e.st) (defScope e.st) .none kV doc pm an cdv ct) ⟨us, []⟩ = pure (e.ps.zip us)
/-- the defs that make lambdas -/
def lamEs (Pr : Prog) (es : List DE) : List DE := es.filter fun e => match Pr e.f with
  | some F => F.lams
  | none => false
def lxOf (T : Tb) (Pr : Prog) (es : List DE) (K : PySem.W.Frag) : Lx := { lm := fun k js t => T.lam k js { t with qual := default } = true, tabs := (lamEs Pr es).map fun e => ((He.cT K e.at_).2, e.qual ++ ".<locals>." ++ "<lambda>"), own := own0 }
def uniqB (Pr : Prog) (es : List DE) (K : PySem.W.Frag) : Bool := (lamEs Pr es).all fun e => (lamEs Pr es).all fun e' => !decide ((He.cT K e.at_).2 = (He.cT K e'.at_).2) || decide (e.qual = e'.qual)

section
variable {T : Tb} {Pr : Prog} {K : PySem.W.Frag} {h : Heap} {mg : Str → Option Value} {es xs : List DE}
theorem defd_of {e : DE} (he : e ∈ es) (defs : ∀ e ∈ es, ∃ fd, FunD K e.nm e.qual (defArgs e.st) (defBody e.st) (defScope e.st) [] [] (He.fAd K e.at_) fd) (chk : es.all (chkDE T Pr) = true) (bnd : ∀ e ∈ es, BindOk e) (uq : uniqB Pr es K = true) (hd : ∀ e ∈ lamEs Pr es, PySem.W.codeHdIn K (He.cT K e.at_).1 (He.cT K e.at_).2 = true) :
    ∃ fd, Binds K fd e.ps [] ∧ Defd T (lxOf T Pr es K) Pr K e.f (He.fAd K e.at_) fd e.ps ∧ PySem.W.keepIn K (.ref (He.fAd K e.at_)) = true := by
  obtain ⟨fd, F⟩ := defs e he
  have c := List.all_eq_true.mp chk e he
  unfold chkDE at c
  split at c
  · rename_i FI hP
    simp only [Bool.and_eq_true, decide_eq_true_eq, List.isEmpty_iff] at c
    obtain ⟨⟨⟨⟨c1, c2⟩, c3⟩, c4⟩, c5⟩ := c
    refine ⟨fd, F.bindsN (bnd e he), ⟨FI, _, _, e.st, e.N, hP, He5.fun_of F, fs_of c4, c1, c2, c3, c5, fun hl => ?_⟩, F.kp⟩
    have hm : e ∈ lamEs Pr es := List.mem_filter.mpr ⟨he, by rw [hP]; exact hl⟩
    obtain ⟨oc, od, dV, kV, doc, pm, an, cdv, ct, osl, rfl, lk, hcd, _, _⟩ := F.ex
    obtain ⟨c0, rfl⟩ := He.codeIn_ref hcd
    have ec : He.codeOf K e.at_ = c0 := He.codeOf_eq lk rfl
    refine ⟨c0, (He.cT K e.at_).2, ?_, rfl, List.mem_map.mpr ⟨e, hm, rfl⟩, fun p hp ep => ?_⟩
    · have := hd e hm
      rw [show (He.cT K e.at_).1 = c0 from ec] at this
      exact this
    · obtain ⟨e', he', rfl⟩ := List.mem_map.mp hp
      unfold uniqB at uq
      simp only [List.all_eq_true, Bool.or_eq_true, Bool.not_eq_true', decide_eq_false_iff_not, decide_eq_true_eq] at uq
      rcases uq e' he' e hm with z | z
      · exact absurd ep z
      · show e'.qual ++ _ ++ _ = _
        rw [z]
  · cases c
theorem stat_of {P : Program} {w : World} {base0 : Heap} (KX : K.In h) (KB : K.In base0) (G : h.Ns mainGlobals mg) (ck : ckP T K = true) (cx : ckX T K = true) (defs : ∀ e ∈ es, ∃ fd, FunD K e.nm e.qual (defArgs e.st) (defBody e.st) (defScope e.st) [] [] (He.fAd K e.at_) fd) (defx : ∀ e ∈ xs, ∃ fd, FunD K e.nm e.qual (defArgs e.st) (defBody e.st) (defScope e.st) [] [] (He.fAd K e.at_) fd)
    (chk : es.all (chkDE T Pr) = true) (cov : covB T es = true) (cvx : covX T xs = true) (bnd : ∀ e ∈ es, BindOk e) (bnx : ∀ e ∈ xs, BindOk e) (uq : uniqB Pr es K = true) (hd : ∀ e ∈ lamEs Pr es, PySem.W.codeHdIn K (He.cT K e.at_).1 (He.cT K e.at_).2 = true) (hl : ∀ k js t, T.lam k js t = true → LamD T Pr k t)
    (hTB : ∀ e ∈ lamEs Pr es, LamX.TabB base0 mg (He.cT K e.at_).1 (He.cT K e.at_).2) :
    ∀ X : Cx, X.prog = P → X.w = w → X.K = K → X.mg = mg → (∀ b o, base0.get? b = some o → X.base.get? b = some o) → Stat T (lxOf T Pr es K) Pr X.base X := by
  intro X _ _ eK eM hbase
  subst eK
  subst eM
  unfold ckP at ck
  simp only [Bool.and_eq_true, List.all_eq_true, Bool.or_eq_true, Bool.not_eq_true', decide_eq_true_eq] at ck
  obtain ⟨⟨⟨⟨⟨⟨⟨⟨⟨k1, k2⟩, k3⟩, k4⟩, k5⟩, k6⟩, k7⟩, k8⟩, k9⟩, k10⟩ := ck
  unfold covB at cov
  simp only [Bool.and_eq_true, List.all_eq_true, List.any_eq_true, beq_iff_eq, decide_eq_true_eq] at cov
  obtain ⟨⟨⟨v1, v2⟩, v3⟩, v4⟩ := cov
  have ga : ∀ {x : Str} {cl : Addr}, (He.Fa.glo x).ok X.K = true → X.mg x = some (.ref cl) → cl = He.ga X.K x := fun {x cl} c e => by
    rw [He.glo_ok KX G c] at e
    cases e; rfl
  unfold ckX at cx
  simp only [Bool.and_eq_true, List.all_eq_true, Bool.or_eq_true, Bool.not_eq_true', decide_eq_true_eq] at cx
  obtain ⟨x1, x2⟩ := cx
  unfold covX at cvx
  simp only [Bool.and_eq_true, List.all_eq_true, List.any_eq_true, decide_eq_true_eq] at cvx
  refine ⟨fun n hn => He.free_ok KX G (k1 n hn), fun hg => ?_, fun f hf => ?_, fun c nm m hm => ?_, fun c init hi => ?_, fun c f hf cl e => ?_, fun c hc => ?_, ⟨fun c hc cl e => ?_, k8, k9, fun c hc cl e n hn => ?_, fun c hc cl e c' hc' cl' e' => ?_⟩, fun p hp => ?_, v4, rfl, fun k' js t ht => hl k' js { t with qual := default } ht, fun k' js t ht => ht, fun c ns hc => ?_, fun c ns c' ns' hc hc' a a' e e' => ?_, fun c Pt hcP hPt => ?_⟩
  · rcases k2 with z | z
    · rw [hg] at z; cases z
    · exact PySem.W.mg_of KX G (He.eqO_ok z)
  · obtain ⟨e, he, e1, e2⟩ := v1 f hf
    obtain ⟨fd, q1, q2, q3⟩ := defd_of he defs chk bnd uq hd
    have ea : He.fAd X.K e.at_ = He.ga X.K (Str.ofString f) := by rw [e2]; rfl
    rw [ea, e1] at q2
    rw [ea] at q3
    exact ⟨_, fd, e.ps, He.glo_ok KX G (k3 f hf), q3, q1, q2⟩
  · obtain ⟨⟨⟨z1, z2⟩, z3⟩, z4⟩ := k7 _ hm
    obtain ⟨e, he, e1, e2⟩ := v2 _ hm
    obtain ⟨fd, q1, q2, q3⟩ := defd_of he defs chk bnd uq hd
    have ea : He.fAd X.K e.at_ = He.ma X.K (He.ga X.K (Str.ofString c)) (Str.ofString nm) := by rw [e2]; rfl
    rw [ea, e1] at q2
    refine ⟨fun z => ?_, ⟨_, He.glo_ok KX G z1⟩, _, fd, e.ps, fun cl ecl => ?_, q1, q2⟩
    · have : T.flds.contains (c, nm) = true := by simpa using z
      rw [this] at z4; cases z4
    · rw [ga z1 ecl]
      exact ⟨He.cls_ok z2, He.meth_ok z3⟩
  · obtain ⟨z1, z2⟩ := k6 _ hi
    obtain ⟨e, he, e1, e2⟩ := v3 _ hi
    obtain ⟨fd, q1, q2, q3⟩ := defd_of he defs chk bnd uq hd
    have ea : He.fAd X.K e.at_ = He.ma X.K (He.ga X.K (Str.ofString c)) "__init__" := by rw [e2]; rfl
    rw [ea, e1] at q2
    exact ⟨_, _, fd, e.ps, He.glo_ok KX G z1, He.mkr_ok z2, q1, q2⟩
  · obtain ⟨⟨z1, z2⟩, z3⟩ := k5 _ hf
    rw [ga z1 e]
    exact ⟨He.cls_ok z2, He.noat_ok z3⟩
  · obtain ⟨⟨⟨⟨⟨⟨z1, z2⟩, z3⟩, z4⟩, z5⟩, z6⟩, z7⟩ := k4 c hc
    exact ⟨_, He.glo_ok KX G z1, z5⟩
  · obtain ⟨⟨⟨⟨⟨⟨z1, z2⟩, z3⟩, z4⟩, z5⟩, z6⟩, z7⟩ := k4 c hc
    rw [ga z1 e]
    exact ⟨He.cls_ok z2, He.eqO_ok z3, z4⟩
  · obtain ⟨⟨⟨⟨⟨⟨z1, z2⟩, z3⟩, z4⟩, z5⟩, z6⟩, z7⟩ := k4 c hc
    rw [ga z1 e]
    exact z6 n hn
  · obtain ⟨⟨⟨⟨⟨⟨z1, z2⟩, z3⟩, z4⟩, z5⟩, z6⟩, z7⟩ := k4 c hc
    obtain ⟨⟨⟨⟨⟨⟨y1, y2⟩, y3⟩, y4⟩, y5⟩, y6⟩, y7⟩ := k4 c' hc'
    rw [ga z1 e, ga y1 e']
    exact z7 c' hc'
  · obtain ⟨z1, z2⟩ := k10 p hp
    cases q : PySem.W.nsIn X.K mainGlobals (Str.ofString p.1) with
    | none => rw [q] at z2; cases z2
    | some o =>
      rw [q] at z2
      cases o with
      | none => cases z2
      | some u =>
        obtain ⟨v, r1, r2⟩ := cv_ok (C := kt (T.CL (lxOf T Pr es X.K)) X) z2
        exact ⟨u, v, PySem.W.mg_of KX G q, r1, r2, z1⟩
  · -- an error's class
    have hx := x2 (c, ns) hc
    obtain ⟨⟨⟨⟨⟨⟨⟨⟨y1, ⟨⟨⟨⟨y2, y3⟩, y4⟩, y5⟩, y6⟩⟩, y7⟩, y8⟩, y9⟩, y10⟩, y11⟩, y12⟩, y13⟩ := hx
    obtain ⟨e, he, ⟨⟨⟨⟨⟨w1, w2⟩, w3⟩, w4⟩, w5⟩, w6⟩⟩ := cvx (c, ns) hc
    obtain ⟨fd, F⟩ := defx e he
    have bd := F.bindsN (bnx e he)
    have hb0 : T.excs.isEmpty = false := by
      cases q : T.excs with
      | nil => rw [q] at hc; cases hc
      | cons _ _ => rfl
    rcases x1 with z | ⟨⟨z1, z2⟩, z3⟩
    · rw [hb0] at z; cases z
    have ea : He.fAd X.K e.at_ = He.ma X.K (He.ga X.K (Str.ofString c)) "__init__" := by rw [w1]; rfl
    have Fn := He5.fun_of F
    rw [ea] at Fn
    rw [w3] at bd
    have fsn := fs_of w4
    rw [w2, w3] at fsn
    refine ⟨He.ga X.K (Str.ofString c), He.ga X.K (Str.ofString T.exb), _, fd, _, _, e.st, T.exb, He.glo_ok KX G y1, ⟨oexCls_ok y2, He.eqO_ok y3, y4, y5, y6⟩, xfB_ok y7, He.eqO_ok y8, y9, Fn, fsn, base_of z2, He.glo_ok KX G z1, z3, w5, w6, fun n hn => ?_, y11, bd, y12⟩
    obtain ⟨⟨n1, n2⟩, n3⟩ := y10 n hn
    exact ⟨He.eqO_ok n1, n2, n3⟩
  · have hx := x2 (c, ns) hc
    obtain ⟨⟨⟨⟨⟨⟨⟨⟨y1, _⟩, y7⟩, y8⟩, y9⟩, y10⟩, y11⟩, y12⟩, y13⟩ := hx
    have hx' := x2 (c', ns') hc'
    obtain ⟨⟨⟨⟨⟨⟨⟨⟨y1', _⟩, _⟩, _⟩, _⟩, _⟩, _⟩, _⟩, _⟩ := hx'
    rw [ga y1 e, ga y1' e']
    exact y13 (c', ns') hc'
  · obtain ⟨p, hp, rfl⟩ := List.mem_map.mp hPt
    obtain ⟨e, he, rfl⟩ := List.mem_map.mp hp
    have tb := hTB e he
    exact ⟨PySem.W.codeHd_of_K (fun b o q => hbase b o (KB b o q)) hcP, tb.bm.keeps hbase, tb.gP⟩
end
end Pi
end

section
/-! PiEnd: the law's call, where the def's promise asks for no guards (the caller has none); tables of code objects. -/
namespace Pi
open PySem PySem.Spec PyProof.Rows L2 LamX

/-- the law's def called with the script, at the heap behind the top -/
theorem law_callG {P : Program} {w : World} {K : PySem.W.Frag} {mg mb : Str → Option Value} {k : Nat} {fa a : Addr} {cs : List (Addr × Addr)} {fd : FuncData} {x : Str} {sp : Heap → Sp} {s₁ : Shared} {vs : List Value} {ns : List Int}
    (KX : K.In s₁.heap) (hns : s₁.heap.Ns mainGlobals mg) (hb : s₁.heap.Ns builtinsNs mb) (hbb : ∀ x : Str, x ≠ "__name__" → mb x = bootBuiltins x) (hlim : s₁.heap.NoLimit) (hg : s₁.gens = #[])
    (hT : ∀ p ∈ cs, s₁.heap.get? p.2 = some { cls := .none, data := .fields #[] }) (nT : ∀ p ∈ cs, K.lookup p.2 = none) (C : ∀ p ∈ cs, PySem.W.CodeHd s₁.heap p.1 p.2)
    (hbm : ∃ (bm : Addr) (ob : Obj), mg "__builtins__" = some (.ref bm) ∧ bm ≠ builtinsNs ∧ s₁.heap.get? bm = some ob ∧ ob.cls = .type "module" ∧ ob.dict = some builtinsNs ∧ ob.data = .plain)
    (ha : s₁.heap.get? a = some { cls := .type "list", data := .seq vs.toArray }) (hi : IntsAre vs ns) (hl : ns.length ≤ sizeLine) (hr : Room k callerA)
    (F : ∀ (s : Shared) (base : Heap), K.In base → base.Ns mainGlobals mg → (∀ p ∈ cs, TabB base mg p.1 p.2) → FnG P w K mg base k fa fd [x] (sp base)) (hbind : ∀ (s : Shared) (u : Value), K.In s.heap → BindsTo s fd ⟨[u], []⟩ [(x, u)])
    (hsp : ∀ (base : Heap) (H : Hp), (∀ p ∈ cs, H p.2 = some (.tbl #[])) → ScrAt K H a (ns.map V.int) → sp base [.ref a] H (fun v _ => v = .bl true) fun _ _ _ => False) :
    codeAny (model P w) callerA (.call (.ref fa) ⟨[.ref a], []⟩) (fun r s' => r = .ok (.ret (.bool true)) ∧ OldK s₁.heap s'.heap ∧ s'.os = s₁.os ∧ AllBare s'.gens) s₁ := by
  have rv := vals_ints hi
  have lenV := hi.length
  have isT : ∀ b : Addr, b ∈ cs.map (·.2) → s₁.heap.get? b = some { cls := .none, data := .fields #[] } := fun b hb => by
    obtain ⟨p, hp, e⟩ := List.mem_map.mp hb
    rw [← e]
    exact hT p hp
  have aT : a ∉ cs.map (·.2) := fun z => by
    have q := isT a z
    rw [ha] at q
    have z' : Data.seq vs.toArray _ = Data.fields #[] := congrArg Obj.data (Option.some.inj q)
    cases z'
  have memT : ∀ p ∈ cs, p.2 ∈ cs.map (·.2) := fun p hp => List.mem_map.mpr ⟨p, hp, rfl⟩
  have core : ∀ H : Hp, (∀ p ∈ cs, H p.2 = some (.tbl #[])) → (∀ b, H b = none ∨ b ∈ cs.map (·.2) ∨ ∃ o xs, H b = some (.frz o (.lst xs))) → ScrAt K H a (ns.map V.int) → HOk P w H s₁.heap → (∀ b, H b ≠ none → b = a ∨ b ∈ cs.map (·.2)) → (H a ≠ none → K.lookup a = none) →
      codeAny (model P w) callerA (.call (.ref fa) ⟨[.ref a], []⟩) (fun r s' => r = .ok (.ret (.bool true)) ∧ OldK s₁.heap s'.heap ∧ s'.os = s₁.os ∧ AllBare s'.gens) s₁ := by
    intro H hH hO hS hok hA hK
    have base_of : ∀ {b : Addr} {o : Obj}, s₁.heap.get? b = some o → H b = none → (hidT s₁.heap H).get? b = some o := fun e n => hidT_get e n
    have noD : ∀ {b : Addr} {o : Obj}, s₁.heap.get? b = some o → (∀ vs n, o.data ≠ .seq vs n) → o.data ≠ .fields #[] → H b = none := fun {b o} e h1 h2 => by
      cases q : H b with
      | none => rfl
      | some u =>
        rcases hA b (by rw [q]; simp) with e' | e'
        · rw [e', ha] at e
          cases e
          exact (h1 _ _ rfl).elim
        · rw [isT b e'] at e
          cases e
          exact (h2 rfl).elim
    have noA : ∀ {b : Addr} {o : Obj} {es : Array DictEntry} {ep : Nat}, s₁.heap.get? b = some o → o.data = .dict es ep → H b = none := fun {b o es ep} e d => by
      refine noD e (fun vs n z => ?_) fun z => ?_
      · rw [d] at z
        cases z
      · rw [d] at z
        cases z
    have nsK : ∀ {b : Addr} {m : Str → Option Value}, s₁.heap.Ns b m → (hidT s₁.heap H).Ns b m := fun {b m} ⟨o, es, ep, e, d, r⟩ => ⟨o, es, ep, base_of e (noA e d), d, r⟩
    have hKb : K.In (hidT s₁.heap H) := fun b o e => base_of (KX b o e) (by
      cases q : H b with
      | none => rfl
      | some u =>
        rcases hA b (by rw [q]; simp) with e' | e'
        · rw [e'] at e q
          rw [hK (by rw [q]; simp)] at e
          cases e
        · obtain ⟨p, hp, ep⟩ := List.mem_map.mp e'
          rw [← ep, nT p hp] at e
          cases e)
    have hM : L2.Mod K mg (hidT s₁.heap H) := ⟨hKb, nsK hns, ⟨mb, nsK hb, hbb⟩, let ⟨mc, h1, h2⟩ := hlim; ⟨mc, nsK h1, h2⟩⟩
    have TB : ∀ p ∈ cs, TabB (hidT s₁.heap H) mg p.1 p.2 := fun p hp => by
      have hTp := hT p hp
      refine ⟨?_, ?_, fun z => ?_⟩
      · obtain ⟨o, us, file, tf, flags, tg, inF, text, tt, e1, r1, r2, r3, r4, r5, r6, r7, r8, hne⟩ := C p hp
        refine ⟨o, us, file, tf, flags, tg, inF, text, tt, base_of e1 (noD e1 (fun vs n z => ?_) fun z => ?_), r1, r2, r3, r4, r5, r6, r7, r8, hne⟩
        · rw [r2] at z
          cases z
        · rw [r2] at z
          cases z
          simp at r3
      · obtain ⟨bm, ob, b1, b2, b3, b4, b5, b6⟩ := hbm
        have nG : bm ≠ mainGlobals := fun q => by
          obtain ⟨o, es, ep, e, hd, _⟩ := hns
          rw [q, e] at b3
          cases b3
          rw [hd] at b6
          cases b6
        have nP : bm ≠ p.2 := fun q => by
          rw [q, hTp] at b3
          cases b3
          cases b6
        refine ⟨bm, ob, b1, b2, nG, nP, base_of b3 (noD b3 (fun vs n z => ?_) fun z => ?_), b4, b5, b6⟩
        · rw [b6] at z
          cases z
        · rw [b6] at z
          cases z
      · obtain ⟨o, es, ep, e, hd, _⟩ := hns
        rw [z, hTp] at e
        cases e
        cases hd
    have e0 : Env0 P w K mg (hidT s₁.heap H) callerA [] s₁ H := ⟨rfl, hM, fun b o e => of_hidT e, Nat.le_of_eq (hidT_size _ _), trivial, fun b hb => absurd (show b ∈ ([] : List Addr) from hb) (by simp), hok, .of_eq hg⟩
    refine codeAny_mono ((F s₁ _ hKb (nsK hns) TB).run callerA [] s₁ H ⟨[.ref a], []⟩ [.ref a] [.ref a] _ _ rfl hr e0 (hbind s₁ (.ref a) KX) (.cons rfl .nil) (hsp _ H hH hS)) fun r s' h => ?_
    cases r with
    | error e =>
      obtain ⟨_, _, _, _, _, _, _, _, _, _, _, _, h⟩ := h
      exact h.elim
    | ok fl =>
      cases fl with
      | next => exact False.elim h
      | brk => exact False.elim h
      | cont => exact False.elim h
      | ret u =>
        obtain ⟨v, H', os, bare, un, hok', r', q⟩ := h
        have q' : v = .bl true := q
        subst q'
        obtain rfl : u = Value.bool true := r'
        have key : ∀ b o, b ∉ cs.map (·.2) → s₁.heap.get? b = some o → s'.heap.get? b = some o := fun b o nb e => by
          cases q : H b with
          | none => exact un.keep b o e q (by intro z; exact absurd (show b ∈ ([] : List Addr) from z) (by simp)) (by simp)
          | some u =>
            rcases hO b with z | z | ⟨ob, xs, z⟩
            · rw [q] at z; cases z
            · exact absurd z nb
            · have z2 := un.frzs b ob _ z
              obtain ⟨e1, _⟩ := hok b _ z
              obtain ⟨e2, _⟩ := hok' b _ z2
              rw [e] at e1; cases e1
              exact e2
        have grown : ∀ p ∈ cs, ∃ more : Array Value, s'.heap.get? p.2 = some { cls := .none, data := .fields more } := fun p hp => by
          obtain ⟨more, z⟩ := un.tbls p.2 #[] (hH p hp)
          exact ⟨_, hok' p.2 _ z⟩
        refine ⟨rfl, ⟨fun b o e => ?_, fun b o e => ?_⟩, os, bare⟩
        · by_cases hb : b ∈ cs.map (·.2)
          · obtain ⟨p, hp, ep⟩ := List.mem_map.mp hb
            obtain ⟨more, hm⟩ := grown p hp
            rw [← ep] at e ⊢
            rw [hT p hp] at e
            cases e
            exact .inr (.inl ⟨((C p hp).tab (hT p hp)).isCodeTable, rfl, #[], more, rfl, by rw [Array.empty_append]; exact hm⟩)
          · exact .inl (key b o hb e)
        · by_cases hb : b ∈ cs.map (·.2)
          · obtain ⟨p, hp, ep⟩ := List.mem_map.mp hb
            obtain ⟨more, hm⟩ := grown p hp
            rw [← ep]
            exact ⟨_, hm⟩
          · exact ⟨o, key b o hb e⟩
  cases hk : K.lookup a with
  | some o =>
    have e := KX a o hk
    rw [ha] at e
    cases e
    refine core (fun b => if b ∈ cs.map (·.2) then some (.tbl #[]) else none) (fun p hp => if_pos (memT p hp)) (fun b => ?_) (.inr ⟨_, vs.toArray, _, hk, rfl, rfl, rfl, by rw [List.size_toArray, lenV]; exact hl, by simpa using rv⟩) (fun b u z => ?_) (fun b z => ?_) fun z => absurd (show (if a ∈ cs.map (·.2) then some (HO.tbl #[]) else none) = none from if_neg aT) z
    · by_cases hb : b ∈ cs.map (·.2)
      · exact .inr (.inl hb)
      · exact .inl (if_neg hb)
    · by_cases hb : b ∈ cs.map (·.2)
      · have z' := (if_pos hb).symm.trans z
        cases z'
        exact isT b hb
      · have z' := (if_neg hb).symm.trans z
        cases z'
    · by_cases hb : b ∈ cs.map (·.2)
      · exact .inr hb
      · exact absurd (if_neg hb) z
  | none =>
    refine core (fun b => if b = a then some (.frz { cls := .type "list", data := .seq vs.toArray } (.lst (ns.map V.int))) else if b ∈ cs.map (·.2) then some (.tbl #[]) else none) (fun p hp => (if_neg (show ¬ p.2 = a from fun z => aT (by rw [← z]; exact memT p hp))).trans (if_pos (memT p hp))) (fun b => ?_)
      (.inl ⟨{ cls := .type "list", data := .seq vs.toArray }, if_pos rfl⟩) (fun b u z => ?_) (fun b z => ?_) fun _ => hk
    · by_cases hb : b = a
      · exact .inr (.inr ⟨_, _, if_pos hb⟩)
      · by_cases hb2 : b ∈ cs.map (·.2)
        · exact .inr (.inl hb2)
        · exact .inl ((if_neg hb).trans (if_neg hb2))
    · by_cases hb : b = a
      · have z' := (if_pos hb).symm.trans z
        cases z'
        rw [hb]
        exact ⟨ha, by rw [List.length_map]; exact hl, vs, _, rv, ha⟩
      · have z1 := (if_neg hb).symm.trans z
        by_cases hb2 : b ∈ cs.map (·.2)
        · have z' := (if_pos hb2).symm.trans z1
          cases z'
          exact isT b hb2
        · have z' := (if_neg hb2).symm.trans z1
          cases z'
    · by_cases hb : b = a
      · exact .inl hb
      · by_cases hb2 : b ∈ cs.map (·.2)
        · exact .inr hb2
        · exact absurd ((if_neg hb).trans (if_neg hb2)) z
/-- what is known of the law's promise at the head's heap h -/
def LawAtG (l : PySem.W.OpenLaw) (w : World) (k n : Nat) (x : Str) (mg : Str → Option Value) (fa : Addr) (h : Heap) : Prop :=
  ∃ (K : PySem.W.Frag) (fd : FuncData) (cs : List (Addr × Addr)) (sp : Heap → Sp), K.In h ∧ (∀ p ∈ cs, h.get? p.2 = some { cls := .none, data := .fields #[] }) ∧ (∀ p ∈ cs, K.lookup p.2 = none) ∧ (∀ p ∈ cs, PySem.W.CodeHd h p.1 p.2) ∧ (∀ (s : Shared) (u : Value), K.In s.heap → BindsTo s fd ⟨[u], []⟩ [(x, u)]) ∧
    (∀ (base : Heap) (H : Hp) (a : Addr) (ns : List Int), ns.length ≤ n → (∀ z ∈ ns, Builtin.Int.intBits z ≤ 1048576) → (∀ p ∈ cs, H p.2 = some (.tbl #[])) → ScrAt K H a (ns.map V.int) → sp base [.ref a] H (fun v _ => v = .bl true) fun _ _ _ => False) ∧
    ∀ (s : Shared) (base : Heap), K.In base → base.Ns mainGlobals mg → (∀ p ∈ cs, TabB base mg p.1 p.2) → FnG l.prog w K mg base k fa fd [x] (sp base)
theorem walk_G {l : PySem.W.OpenLaw} {n k : Nat} {q : Program} {loose : List Str} {XP : (Str → Option Value) → Heap → Prop} {YP : World → Heap → Prop} {d : DefRec} {x : Str}
    (hn : l.most = some n) (hn2 : n ≤ sizeLine) (hdf : d.params.defaults = []) (hr : Room k callerA)
    (F : ∀ (w : World) (mg : Str → Option Value) (fa : Addr) (h : Heap), YP w h → h.Ns mainGlobals mg → mg d.name = some (.ref fa) → LawAtG l w k n x mg fa h) :
    PySem.W.WalkO q loose XP YP l.row.toRowW d [] (fun f vs => PySem.call f vs) := by
  refine Att.attach_callB hn hdf fun w s₀ s₁ mg mb fa o pm cd doc a vs ns G Y ho hd hcd hmg hobj hints hlen hbits hg => ?_
  obtain ⟨K, fd, cs, sp, KX, hT, nT, C, hb, hsp, hF⟩ := F w mg fa _ Y G.T.g hmg
  exact law_callG KX G.T.g G.T.b G.T.builtins G.T.nolimit hg hT nT C G.T.bmain hobj hints (Nat.le_trans hlen hn2) hr hF hb fun base H hH hS => hsp base H a ns hlen hbits hH hS
/-- what the script is, for the small interpreter -/
def scrOf (ns : List Int) : D := .scr (ns.map D.int)
/-- what is wanted of the law -/
def LawOk (Pr : Prog) (N : Nat) : Prop := ∀ ns : List Int, ns.length ≤ 63 → (∀ z ∈ ns, Builtin.Int.intBits z ≤ 1048576) → ∃ S fr, runP Pr N "law" 0 [scrOf ns] [] = .ok (.bl true, fr) S
theorem ints_vr {C : Kt} {w : Wd} : ∀ ns : List Int, VRs C w (ns.map D.int) (ns.map V.int)
  | [] => .nil
  | n :: ns => .cons (by unfold VR; rfl) (ints_vr ns)
theorem sp_law {C : Kt} {Pr : Prog} {N n : Nat} (ok : LawOk Pr N) (hn : n ≤ 63) (H : Hp) (a : Addr) (ns : List Int) (hl : ns.length ≤ n) (hz : ∀ z ∈ ns, Builtin.Int.intBits z ≤ 1048576) (h2 : ∀ p ∈ C.lx.tabs, H p.1 = some (.tbl #[])) (h3 : ScrAt C.K H a (ns.map V.int)) :
    spOf C (runP Pr N) "law" [.ref a] H (fun v _ => v = .bl true) fun _ _ _ => False := by
  obtain ⟨S, fr, e⟩ := ok ns (Nat.le_trans hl hn) hz
  refine ⟨fun _ => False, 0, ⟨[], fun _ => False, H⟩, [], [scrOf ns], rfl, ⟨rfl, ?_, ?_, ?_, ?_, ?_, ?_, ?_⟩, fun _ z => z.elim, .cons ?_ .nil, ?_⟩
  · intro i j ci cj a h; simp at h
  · intro i c a h; simp at h
  · intro i c a h; simp at h
  · intro a h; exact h.elim
  · intro a h; cases h
  · intro b h; exact h.elim
  · intro p hp
    exact ⟨fun z => z, #[], h2 p hp, trivial, fun pos cv hc => by
      have z : codeAmong pos [] = some cv := hc
      simp [codeAmong] at z⟩
  · unfold scrOf VR
    exact ⟨a, ns.map V.int, rfl, h3, ints_vr ns⟩
  · rw [e]
    intro w' v x s r
    have : VR C w' (.bl true) v := by cases fr <;> exact r
    exact vbl this
end Pi
end

section
/-! PiHook: what the head sees of the heap behind the top. -/
namespace Pi
open PySem PySem.Spec PyProof.Rows L2

abbrev hkEx (T : Tb) (Pr : Prog) (es : List DE) : PySem.W.Frag → Bool := fun K => ckP T K && ckX T K && uniqB Pr es K
abbrev hkFn (es xs : List DE) : List He.DefD := (es ++ xs).map DE.d
abbrev hkTf (Pr : Prog) (es : List DE) : List He.Defn := (lamEs Pr es).map (·.at_)
/-- what is told of the part K of the heap -/
structure SaysY (T : Tb) (Pr : Prog) (es xs : List DE) (h : Heap) (K : PySem.W.Frag) : Prop where
  more : hkEx T Pr es K = true
  ok : (hkFn es xs).all (fun d => d.ok K) = true
  val : ((hkFn es xs).map fun d => He.fnW K d.at_) = (hkFn es xs).map He.DefD.val
  hd : ∀ p ∈ hkTf Pr es, PySem.W.codeHdIn K (He.cT K p).1 (He.cT K p).2 = true
  out : ∀ p ∈ hkTf Pr es, K.lookup (He.cT K p).2 = none
  empty : ∀ p ∈ hkTf Pr es, h.get? (He.cT K p).2 = some { cls := .none, data := .fields #[] }
def frY (g : Addr → Option Obj) (n : Nat) : PySem.W.Frag := He.frT g (He.asD g n ++ [cStatics])
abbrev obsPG (n : Nat) (T : Tb) (Pr : Prog) (es xs : List DE) (g : Addr → Option Obj) : He.AlD := (hkEx T Pr es (frY g n) && ((hkFn es xs).all (fun d => d.ok (frY g n)) && He.tabsB g (hkTf Pr es) (frY g n)), (hkFn es xs).map fun d => He.fnW (frY g n) d.at_)
theorem saysY_of {n : Nat} {T : Tb} {Pr : Prog} {es xs : List DE} {h : Heap} (e : obsPG n T Pr es xs h.get? = (true, (hkFn es xs).map He.DefD.val)) : SaysY T Pr es xs h (frY h.get? n) := by
  have e1 : (hkEx T Pr es (frY h.get? n) && ((hkFn es xs).all (fun d => d.ok (frY h.get? n)) && He.tabsB h.get? (hkTf Pr es) (frY h.get? n))) = true := congrArg (fun z : He.AlD => z.1) e
  have e2 : ((hkFn es xs).map fun d => He.fnW (frY h.get? n) d.at_) = (hkFn es xs).map He.DefD.val := congrArg (fun z : He.AlD => z.2) e
  obtain ⟨h1, h2⟩ := He.ba e1
  obtain ⟨h3, h4⟩ := He.ba h2
  have key : ∀ p ∈ hkTf Pr es, PySem.W.codeHdIn (frY h.get? n) (He.cT (frY h.get? n) p).1 (He.cT (frY h.get? n) p).2 = true ∧ ∃ o, h.get? (He.cT (frY h.get? n) p).2 = some o ∧ He.emptyTab o = true := fun p hp => by
    obtain ⟨h5, h6⟩ := He.ba (List.all_eq_true.mp h4 p hp)
    refine ⟨h5, ?_⟩
    cases q : h.get? (He.cT (frY h.get? n) p).2 with
    | none =>
      rw [q] at h6
      cases h6
    | some o =>
      rw [q] at h6
      exact ⟨o, rfl, h6⟩
  exact ⟨h1, h3, e2, fun p hp => (key p hp).1, fun p hp => by
    obtain ⟨_, o, q, z⟩ := key p hp
    exact He.frT_none q z, fun p hp => by
    obtain ⟨_, o, q, z⟩ := key p hp
    rw [q, He.emptyTab_eq z]⟩
def hookP (n : Nat) (T : Tb) (Pr : Prog) (es xs : List DE) : PySem.W.Hook where
  α := He.AlD
  obs := fun s => obsPG n T Pr es xs s.heap.get?
  val := fun _ => (true, (hkFn es xs).map He.DefD.val)
  says := fun _ h => ∃ K : PySem.W.Frag, K.In h ∧ SaysY T Pr es xs h K
  of := fun _ _ e => ⟨_, He.frT_in, saysY_of e⟩
  keeps := fun _ _ _ ⟨K, hK, c⟩ k => ⟨K, PySem.W.Frag.In.keeps hK k, ⟨c.more, c.ok, c.val, c.hd, c.out, fun p hp => k _ _ (c.empty p hp)⟩⟩
theorem obsPG_eq {n : Nat} {T : Tb} {Pr : Prog} {es xs : List DE} {g : Addr → Option Obj} {s : Shared} (h : ∀ a, g a = s.heap.get? a) : obsPG n T Pr es xs g = (hookP n T Pr es xs).obs s := by
  have e : g = s.heap.get? := funext h
  rw [e] <;> rfl
theorem says_ck {T : Tb} {Pr : Prog} {es xs : List DE} {K : PySem.W.Frag} {h : Heap} (c : SaysY T Pr es xs h K) :
    ckP T K = true ∧ ckX T K = true ∧ uniqB Pr es K = true ∧ (∀ e ∈ es, ∃ fd, FunD K e.nm e.qual (defArgs e.st) (defBody e.st) (defScope e.st) [] [] (He.fAd K e.at_) fd) ∧ (∀ e ∈ xs, ∃ fd, FunD K e.nm e.qual (defArgs e.st) (defBody e.st) (defScope e.st) [] [] (He.fAd K e.at_) fd) ∧
    (∀ e ∈ lamEs Pr es, PySem.W.codeHdIn K (He.cT K e.at_).1 (He.cT K e.at_).2 = true ∧ K.lookup (He.cT K e.at_).2 = none ∧ h.get? (He.cT K e.at_).2 = some { cls := .none, data := .fields #[] }) := by
  have m := c.more
  simp only [Bool.and_eq_true] at m
  have key : ∀ e ∈ es ++ xs, ∃ fd, FunD K e.nm e.qual (defArgs e.st) (defBody e.st) (defScope e.st) [] [] (He.fAd K e.at_) fd := fun e he => by
    have hm : e.d ∈ hkFn es xs := List.mem_map.mpr ⟨e, he, rfl⟩
    have h1 := List.all_eq_true.mp c.ok e.d hm
    have h2 : He.fnW K e.d.at_ = e.d.val := List.map_inj_left.mp c.val e.d hm
    obtain ⟨fd, F⟩ := He.DefD.funD (d := e.d) h2 h1
    exact ⟨fd, F⟩
  refine ⟨m.1.1, m.1.2, m.2, fun e he => key e (List.mem_append_left _ he), fun e he => key e (List.mem_append_right _ he), fun e he => ?_⟩
  have hm : e.at_ ∈ hkTf Pr es := List.mem_map.mpr ⟨e, he, rfl⟩
  exact ⟨c.hd _ hm, c.out _ hm, c.empty _ hm⟩
/-- the i-th statement of the module; the j-th of a class -/
def stAt (P : Program) (i : Nat) : Stmt := match P.main.body[i]? with
  | some s => s
  | none => .Pass default
def mtAt (P : Program) (i j : Nat) : Stmt := match P.main.body[i]? with
  | some (.ClassDef (body := b) ..) => match b[j]? with
    | some s => s
    | none => .Pass default
  | _ => .Pass default
end Pi
end

section
/-! PiLaw: from what the interpreter says of the law to the law's statement. -/
namespace Pi
open PySem PySem.Spec PyProof.Rows L2

/-- a lambda: its name, the slots that it captures, their names, its body -/
structure LE where
  k : String
  js : List Nat
  fr : List Str
  ir : IE
def lamF (l : LE) : FunIR := { params := l.fr.length, slots := l.fr.length, body := [.ret l.ir] }
def lamB (T0 : Tb) (L : List LE) (k : String) (js : List Nat) (t : LamT) : Bool := L.any fun l => l.k == k && l.js == js && decide (l.fr = t.fr) && NdefX.nscB t.fr [] t.fr t.scope && noPars t.params && mE T0.nolam t.fr l.ir ⟨t.scope, fun _ => false, false⟩ t.body
theorem lam_ok {T0 : Tb} {L : List LE} {Pr : Prog} (hL : ∀ l ∈ L, Pr l.k = some (lamF l)) : ∀ k js t, (({ T0 with lam := lamB T0 L } : Tb)).lam k js t = true → LamD ({ T0 with lam := lamB T0 L } : Tb) Pr k t := fun k js t h => by
  have h' : lamB T0 L k js t = true := h
  unfold lamB at h'
  simp only [List.any_eq_true, Bool.and_eq_true, beq_iff_eq, decide_eq_true_eq] at h'
  obtain ⟨l, hl, ⟨⟨⟨⟨⟨rfl, h2⟩, h3⟩, h4⟩, h5⟩, h6⟩⟩ := h'
  exact ⟨lamF l, l.ir, hL l hl, by rw [← h3]; rfl, by rw [← h3]; rfl, rfl, rfl, rfl, rfl, h4, h5, h6⟩
/-- what the walk wants -/
theorem law_F {l : PySem.W.OpenLaw} {T : Tb} {Pr : Prog} {es xs : List DE} {N n : Nat} {w : World} {mg : Str → Option Value} {fa : Addr} {h : Heap} {x : Str} (hn : n ≤ 63)
    (chk : es.all (chkDE T Pr) = true) (cov : covB T es = true) (cvx : covX T xs = true) (bnd : ∀ e ∈ es, BindOk e) (bnx : ∀ e ∈ xs, BindOk e) (hlam : ∀ k js t, T.lam k js t = true → LamD T Pr k t) (hl : "law" ∈ T.fns) (hps : ∀ e ∈ es, e.at_ = (("law" : Str), none) → e.f = "law" → e.ps = [x]) (ok : LawOk Pr (N + 1))
    (Y : ∃ K : PySem.W.Frag, K.In h ∧ SaysY T Pr es xs h K) (G : h.Ns mainGlobals mg) (hm : mg "law" = some (.ref fa)) : LawAtG l w (2 * (N + 1) + 2) n x mg fa h := by
  obtain ⟨K, KX, c⟩ := Y
  obtain ⟨ck, cx, uq, defs, defx, tb⟩ := says_ck c
  have cov' := cov
  unfold covB at cov'
  simp only [Bool.and_eq_true, List.all_eq_true, List.any_eq_true, beq_iff_eq, decide_eq_true_eq] at cov'
  obtain ⟨e, he, e1, e2⟩ := cov'.1.1.1 "law" hl
  have hx := hps e he e2 e1
  obtain ⟨fd0, F0⟩ := defs e he
  have hfa : fa = He.fAd K e.at_ := by
    have ckk := ck
    unfold ckP at ckk
    simp only [Bool.and_eq_true, List.all_eq_true] at ckk
    obtain ⟨⟨⟨⟨⟨⟨⟨⟨⟨k1, k2⟩, k3⟩, k4⟩, k5⟩, k6⟩, k7⟩, k8⟩, k9⟩, k10⟩ := ckk
    have z := He.glo_ok KX G (k3 "law" hl)
    have z2 : mg "law" = some (.ref (He.ga K (Str.ofString "law"))) := z
    rw [hm] at z2
    rw [e2]
    cases z2
    rfl
  obtain ⟨fd, q1, q2, q3⟩ := defd_of he defs chk bnd uq (fun e he => (tb e he).1)
  rw [← hfa, e1] at q2
  refine ⟨K, fd, (lamEs Pr es).map (fun e => He.cT K e.at_), fun base => spOf ⟨K, mg, T.cls, T.flds, base, lxOf T Pr es K⟩ (runP Pr (N + 1)) "law", KX, fun p hp => ?_, fun p hp => ?_, fun p hp => ?_, fun s u hK => ?_, fun base H a ns hl' hz hH h3 => ?_, fun s base hKb hGb hTB => ?_⟩
  · obtain ⟨e, he, rfl⟩ := List.mem_map.mp hp
    exact (tb e he).2.2
  · obtain ⟨e, he, rfl⟩ := List.mem_map.mp hp
    exact (tb e he).2.1
  · obtain ⟨e, he, rfl⟩ := List.mem_map.mp hp
    exact PySem.W.codeHd_of_K KX (tb e he).1
  · have b := q1 s [u] hK (by rw [hx]; rfl)
    rw [hx] at b
    exact b
  · refine sp_law ok hn H a ns hl' hz (fun p hp => ?_) h3
    obtain ⟨e, he, rfl⟩ := List.mem_map.mp hp
    exact hH _ (List.mem_map.mpr ⟨e, he, rfl⟩)
  · rw [← hx]
    have S := stat_of (P := l.prog) (w := w) (base0 := base) KX hKb G ck cx defs defx chk cov cvx bnd bnx uq (fun e he => (tb e he).1) hlam (fun e he => hTB _ (List.mem_map.mpr ⟨e, he, rfl⟩))
    exact (fn_all S ⟨l.prog, w, K, mg, base, callerA, [], s, fun _ => none, default, [], [], [], fun _ => false, false, [], fun _ _ => False⟩ rfl rfl rfl rfl (N + 1) base (fun _ _ h => h)).1 q2
end Pi
end

section
/-! PiEv: equations by which the small interpreter is run over symbolic values. -/
namespace Pi
open PySem
theorem run_eq {P : Prog} {f : String} {F : FunIR} {args : List D} {n b : Nat} {S : Store} (hP : P f = some F) (hd : F.defaults = []) (hl : args.length = F.params) (hk : F.keep = false) (hm : F.lams = false) :
    runP P (n + 1) f b args S = (match evB (runP P n) S.length F.body (args.map some ++ List.replicate (F.slots - F.params) none) S with
        | .ok (.ret d fr, _) S' => finP F S.length d fr S'
        | .ok (.nx, _) S' => finP F S.length .non true S'
        | .ok _ _ => .bad
        | .err x S' => if D.refsBs S.length x.vs && decide (S.length ≤ S'.length) then .err x (S'.take S.length) else .bad
        | .bad => .bad) := by
  unfold runP
  rw [hP]
  simp only [hd, hk, hm, hl, List.length_nil, Nat.add_zero, Nat.le_refl, and_self, if_true, List.drop_nil, List.append_nil, chkIf, gkIf, Bool.false_eq_true, if_false]
  all_goals rfl
/-- a call's end, as a function of the body's -/
def endC (F : FunIR) (b : Nat) (r : R (Fl × Slots)) : R (D × Bool) := match r with
  | .ok (.ret d fr, _) S' => finP F b d fr S'
  | .ok (.nx, _) S' => finP F b .non true S'
  | .ok _ _ => .bad
  | .err x S' => if D.refsBs b x.vs && decide (b ≤ S'.length) then .err x (S'.take b) else .bad
  | .bad => .bad
theorem run_end {P : Prog} {f : String} {F : FunIR} {args : List D} {n b : Nat} {S : Store} (hP : P f = some F) (hd : F.defaults = []) (hl : args.length = F.params) (hk : F.keep = false) (hm : F.lams = false) :
    runP P (n + 1) f b args S = endC F S.length (evB (runP P n) S.length F.body (args.map some ++ List.replicate (F.slots - F.params) none) S) := run_eq hP hd hl hk hm
theorem bindOk {α β : Type} {a : α} {S : Store} {f : α → Store → R β} : (R.ok a S).bind f = f a S := rfl
theorem bindErr {α β : Type} {x : Exn} {S : Store} {f : α → Store → R β} : (R.err x S : R α).bind f = .err x S := rfl
theorem of_some {α : Type} {a : α} {S : Store} : R.of (some a) S = .ok a S := rfl
theorem fin_f {r : R D} : fin false r = r := rfl
theorem fin_t {r : R D} : fin true r = r.bind fun u S => (R.of (truD S u) S).bind fun c S => .ok (.bl c) S := rfl
theorem asB_ok {c : Bool} {S : Store} : asB (.ok (.bl c) S) = .ok c S := rfl
theorem endC_ret {F : FunIR} {b : Nat} {d : D} {fr : Bool} {env : Slots} {S : Store} : endC F b (.ok (.ret d fr, env) S) = finP F b d fr S := rfl
theorem endC_nx {F : FunIR} {b : Nat} {env : Slots} {S : Store} : endC F b (.ok (.nx, env) S) = finP F b .non true S := rfl
theorem finP_eq {F : FunIR} {d : D} {fr : Bool} {S : Store} (h1 : F.fresh = false) (h2 : F.keep = false) {b : Nat} (hb : b = S.length) (h3 : d.refsB b = true) : finP F b d fr S = .ok (d, false) S := by
  subst hb
  unfold finP
  simp [h1, h2, h3]
/-- a loop's turn -/
def bodyL (κ : Calls) (b : Nat) (g : IG) (body : List IS) : D → Slots → Store → R (Fl × Slots) := fun x env S => (evG κ b g x env S).bind fun env S => evB κ b body env S
theorem evS_for {κ : Calls} {b : Nat} {g : IG} {it : II} {body : List IS} {env : Slots} {S : Store} : evS κ b (.for_ g it body) env S = (evI κ b it env S).bind fun r S => loopL r.2.1 r.2.2 (bodyL κ b g body) r.1 env S := by
  simp only [evS]
  rfl
theorem loop_nil {body : D → Slots → Store → R (Fl × Slots)} {env : Slots} {S : Store} : loopL none none body [] env S = .ok (.nx, env) S := rfl
theorem loop_brk {body : D → Slots → Store → R (Fl × Slots)} {x : D} {xs : List D} {env env' : Slots} {S S' : Store} (h : body x env S = .ok (.brk, env') S') : loopL none none body (x :: xs) env S = .ok (.nx, env') S' := by
  unfold loopL
  rw [show okG S none = true from rfl, h]
  rfl
theorem loop_nx {body : D → Slots → Store → R (Fl × Slots)} {x : D} {xs : List D} {env env' : Slots} {S S' : Store} (h : body x env S = .ok (.nx, env') S') : loopL none none body (x :: xs) env S = loopL none none body xs env' S' := by
  rw [loopL.eq_2, show okG S none = true from rfl, h]
  rfl
theorem evI_range {κ : Calls} {b : Nat} {x : IE} {env : Slots} {S S' : Store} {i : Int} (h : ev κ b false x env S = .ok (.int i) S') (h1 : -(2 ^ 62) ≤ i) (h2 : i < 2 ^ 62) : evI κ b (.range1 x) env S = .ok (rangeL 0 i, none, none) S' := by
  simp only [evI]
  rw [h]
  show (if _ then _ else _) = _
  rw [if_pos ⟨h1, h2⟩]
theorem for_range {κ : Calls} {b : Nat} {g : IG} {x : IE} {body : List IS} {env : Slots} {S S' : Store} {i : Int} (h : ev κ b false x env S = .ok (.int i) S') (h1 : -(2 ^ 62) ≤ i) (h2 : i < 2 ^ 62) : evS κ b (.for_ g (.range1 x) body) env S = loopL none none (bodyL κ b g body) (rangeL 0 i) env S' := by
  rw [evS_for, evI_range h h1 h2]
  rfl
theorem evB_cons {κ : Calls} {b : Nat} {s : IS} {r : List IS} {env env' : Slots} {S S' : Store} (h : evS κ b s env S = .ok (.nx, env') S') : evB κ b (s :: r) env S = evB κ b r env' S' := by
  simp only [evB]
  rw [h]
  rfl
theorem evB_ret {κ : Calls} {b : Nat} {s : IS} {r : List IS} {env env' : Slots} {S S' : Store} {d : D} {fr : Bool} (h : evS κ b s env S = .ok (.ret d fr, env') S') : evB κ b (s :: r) env S = .ok (.ret d fr, env') S' := by
  simp only [evB]
  rw [h]
  rfl
theorem evB_nil {κ : Calls} {b : Nat} {env : Slots} {S : Store} : evB κ b [] env S = .ok (.nx, env) S := rfl
end Pi
end

section
/-! PiEv2: frames that keep their cells, frames with lambdas, texts of values. -/
namespace Pi
open PySem
theorem run_keep {P : Prog} {f : String} {F : FunIR} {args : List D} {n b : Nat} {S : Store} (hP : P f = some F) (hd : F.defaults = []) (hl : args.length = F.params) (hk : F.keep = true) (hm : F.lams = false) :
    runP P (n + 1) f b args S = (match evB (runP P n) b F.body (args.map some ++ List.replicate (F.slots - F.params) none) S with
        | .ok (.ret d fr, _) S' => finP F b d fr S'
        | .ok (.nx, _) S' => finP F b .non true S'
        | .ok _ _ => .bad
        | .err x S' => .err x S'
        | .bad => .bad) := by
  unfold runP
  rw [hP]
  simp only [hd, hk, hm, hl, List.length_nil, Nat.add_zero, Nat.le_refl, and_self, if_true, List.drop_nil, List.append_nil, chkIf, gkIf, Bool.false_eq_true, if_false]
  all_goals rfl
theorem finP_keep {F : FunIR} {d : D} {fr : Bool} {S : Store} (h1 : F.fresh = false) (h2 : F.keep = true) {b : Nat} : finP F b d fr S = .ok (d, false) S := by
  unfold finP
  simp [h1, h2]
/-- a frame with lambdas: what it runs, and that it gives no function -/
theorem run_lams {P : Prog} {f : String} {F : FunIR} {args : List D} {n b : Nat} {S : Store} (hP : P f = some F) (hd : F.defaults = []) (hl : args.length = F.params) (hk : F.keep = false) (hm : F.lams = true) :
    runP P (n + 1) f b args S = chkFn (endC F S.length (evB (guardK (runP P n)) S.length F.body (args.map some ++ List.replicate (F.slots - F.params) none) S)) := by
  unfold runP
  rw [hP]
  simp only [hd, hk, hm, hl, List.length_nil, Nat.add_zero, Nat.le_refl, and_self, if_true, List.drop_nil, List.append_nil, chkIf, gkIf, Bool.false_eq_true, if_false]
  all_goals rfl
theorem guard_ok {κ : Calls} {f : String} {b : Nat} {us : List D} {S S' : Store} {d : D} {fr : Bool} (h : κ f b us S = .ok (d, fr) S') (hu : D.noLams us = true) (hS : S.all Cell.okIn = true) (hd : d.noFn = true) (hr : restOk S S' = true) : guardK κ f b us S = .ok (d, fr) (restS S S') := by
  unfold guardK
  rw [hu, hS, h]
  unfold rest
  simp [hd, hr]
theorem guard_err {κ : Calls} {f : String} {b : Nat} {us : List D} {S S' : Store} {x : Exn} (h : κ f b us S = .err x S') (hu : D.noLams us = true) (hS : S.all Cell.okIn = true) (hd : D.noFns x.vs = true) (hr : restOk S S' = true) : guardK κ f b us S = .err x (restS S S') := by
  unfold guardK
  rw [hu, hS, h]
  unfold rest
  simp [hd, hr]
theorem okIn_of {c : Cell} (h : c.noFn = true) : c.okIn = true := by
  unfold Cell.okIn
  simp [h]
/-- one cell without functions -/
theorem guard1 {κ : Calls} {f : String} {b : Nat} {us : List D} {c c' : Cell} {d : D} {fr : Bool} (h : κ f b us [c] = .ok (d, fr) [c']) (hu : D.noLams us = true) (hc : c.noFn = true) (hc' : c'.noFn = true) (hd : d.noFn = true) : guardK κ f b us [c] = .ok (d, fr) [c'] := by
  have := guard_ok h hu (by simp [okIn_of hc]) hd (by simp [restOk, hc, hc'])
  simpa [restS, hc] using this
mutual
/-- no text of the value is longer -/
def wt : PyData → Nat
  | .none => 10
  | .bool _ => 10
  | .int _ => 1925
  | .str s => (reprText s).length
  | .list xs => 4 + wts xs
  | .tuple xs => 4 + wts xs
  | .dict kvs => (PyData.shown (.dict kvs)).length
def wts : List PyData → Nat
  | [] => 0
  | x :: xs => 2 + wt x + wts xs
end
theorem list_len (ts : List Str) : (listText ts).length ≤ piled ts + 2 := by
  unfold listText
  rw [strLen_append]
  have e2 : ((("]" : String) : Str)).length = 1 := rfl
  cases ts with
  | nil => exact Nat.le_refl _
  | cons t r =>
    have e := textFrom_length_pos r 1 (("[" : Str) ++ (if 0 > 0 then ", " else "" : String) ++ t) (by decide)
    have e3 : textFrom 0 ("[" : Str) (t :: r) = textFrom 1 (("[" : Str) ++ (if 0 > 0 then ", " else "" : String) ++ t) r := rfl
    rw [e3, e, strLen_append, strLen_append, piled_cons, e2]
    have e4 : ((("[" : String) : Str)).length = 1 := rfl
    have e5 : ((((if 0 > 0 then ", " else "" : String)) : Str)).length = 0 := rfl
    omega
theorem tuple_len (ts : List Str) : (tupleText ts).length ≤ piled ts + 3 := by
  unfold tupleText
  rw [strLen_append, strLen_append]
  have e1 : ((("(" : String) : Str)).length = 1 := rfl
  have e3 : (((if ts.length == 1 then ",)" else ")" : String) : Str)).length ≤ 2 := by split <;> decide
  rw [e1]
  by_cases h : ts = []
  · subst h
    have : (Str.join ", " []).length = 0 := rfl
    omega
  · have := join_length_add ts h
    omega
mutual
theorem shown_le : ∀ p : PyData, p.showable = true → p.shown.length ≤ wt p
  | .none, _ => by simp only [wt]; decide
  | .bool b, _ => by simp only [wt]; cases b <;> decide
  | .int i, h => by
    have := PyProof.Rows.int_text_len_1921 (i := i) (by simpa [PyData.showable] using h)
    simp only [PyData.shown, wt]
    omega
  | .str s, _ => by simp only [PyData.shown, wt]; exact Nat.le_refl _
  | .list xs, h => by
    have := shown_les xs (by simpa [PyData.showable] using h)
    have := list_len (PyData.shownAll xs)
    simp only [PyData.shown, wt]
    omega
  | .tuple xs, h => by
    have := shown_les xs (by simpa [PyData.showable] using h)
    have := tuple_len (PyData.shownAll xs)
    simp only [PyData.shown, wt]
    omega
  | .dict kvs, _ => by simp only [wt]; exact Nat.le_refl _
theorem shown_les : ∀ ps : List PyData, PyData.showableAll ps = true → piled (PyData.shownAll ps) ≤ wts ps
  | [], _ => by simp [PyData.shownAll, piled, wts]
  | p :: ps, h => by
    simp only [PyData.showableAll, Bool.and_eq_true] at h
    have := shown_le p h.1
    have := shown_les ps h.2
    simp only [PyData.shownAll, wts]
    rw [piled_cons]
    omega
end
theorem repr_ok {S : Store} {x : D} {p : PyData} (hx : (flat1 S x).toPyR = some p) (hs : p.showable = true) (hw : wt p ≤ sizeLine) (hd : p.depth ≤ 64) (hn : ((flat1 S x).noLst || !PyData.hasDict p) = true) : callD .repr S [x] = some (.str p.shown) := by
  have h := Nat.le_trans (shown_le p hs) hw
  unfold callD
  simp only [hx]
  rw [if_pos]
  unfold reprOk
  rw [hs, hn]
  simp [h, hd]
end Pi
end

section
namespace K02
open Pi PySem
/-- law(script) : 0:script, 1:pen, 2:lap, 3:bad, 4:tries, 5:due, 6:odd, 7:zero, 8:one, 9:two, 10:a, 11:b -/
def ir_law : FunIR := { params := 1, slots := 12, fresh := false, keep := false, lams := true, body := [.assign (.var 1) (.call "_law_pen" [(.var 0)]),
  .for_ (.var 2) (.range1 (.con (.int 6))) [.assign (.tup [(.var 8), (.var 9)]) (.tup [(.call "_law_number" [(.var 1), (.call "_law_pick" [(.var 1), (.lst [(.con (.int 4)), (.con (.int 99999))])])]), (.call "_law_number" [(.var 1), (.con (.int 9))])]),
  .iff (.cmp .Eq (.call "_law_draw" [(.var 1), (.con (.int 3))]) (.con (.int 0))) [.assign (.var 8) (.call "_law_q" [(.bin .Sub (.bin .Mult (.ix (.var 8) (.con (.int 0))) (.con (.int 5))) (.con (.int 3))), (.con (.int 999959))])] [],
  .assign (.tup [(.var 10), (.var 11)]) (.tup [(.call "_law_handed" [(.var 1), (.var 8)]), (.call "_law_handed" [(.var 1), (.var 9)])]),
  .assign (.var 5) (.lst [(.var 8), (.call "_law_plus" [(.var 8), (.var 9)]), (.call "_law_minus" [(.var 8), (.var 9)]), (.call "_law_times" [(.var 8), (.var 9)]), (.call "_law_less" [(.var 8), (.var 9)])]),
  .iff (.cmp .NotEq (.bi .repr [(.lst [(.call "told" [(.var 10)]), (.call "plus" [(.var 10), (.var 11)]), (.call "minus" [(.var 10), (.var 11)]), (.call "times" [(.var 10), (.var 11)]), (.call "less" [(.var 10), (.var 11)])])]) (.bi .repr [(.var 5)])) [.ret (.con (.bl false))] [],
  .iff (.cmp .NotEq (.bi .repr [(.call "is_ratio" [(.var 10)])]) (.bi .repr [(.not (.isi (.var 10) [.bt "list"]))])) [.ret (.con (.bl false))] [],
  .iff (.band (.cmp .NotEq (.ix (.var 9) (.con (.int 0))) (.con (.int 0))) (.cmp .NotEq (.bi .repr [(.call "share" [(.var 10), (.var 11)])]) (.bi .repr [(.call "_law_share" [(.var 8), (.var 9)])]))) [.ret (.con (.bl false))] []],
  .assign (.var 3) (.call "_law_pick" [(.var 1), (.lst [(.con .non), (.con (.str "1")), (.tup [(.con (.int 1))]), (.tup [(.con (.int 1)), (.con (.int 0))]), (.tup [(.con (.int 1)), (.un .USub (.con (.int 2)))]), (.tup [(.con (.bl true)), (.con (.int 2))]), (.tup [(.con (.int 1)), (.con (.bl true))]), (.con (.bl true)), (.tup [(.con (.int 1)), (.con (.int 2)), (.con (.int 3))]), (.lst []), .dic0])]),
  .assign (.tup [(.var 6), (.var 7)]) (.tup [(.call "_law_pick" [(.var 1), (.lst [(.con (.str "x")), (.tup [(.con (.int 0)), (.con (.int 0))]), (.con .non)])]), (.call "_law_pick" [(.var 1), (.lst [(.con (.int 0)), (.tup [(.con (.int 0)), (.con (.int 6))])])])]),
  .assign (.var 4) (.cellL (.lst [(.tup [(.lam "law#0" [3]), (.tup [(.con (.str "row")), (.var 3)])])])),
  .ex (.mt .append (.var 4) [(.tup [(.lam "law#1" [3, 6]), (.tup [(.con (.str "row")), (.var 3)])])]),
  .ex (.mt .append (.var 4) [(.tup [(.lam "law#2" [3]), (.tup [(.con (.str "row")), (.var 3)])])]),
  .ex (.mt .append (.var 4) [(.tup [(.lam "law#3" [6, 3]), (.tup [(.con (.str "row")), (.var 6)])])]),
  .ex (.mt .append (.var 4) [(.tup [(.lam "law#4" [3]), (.tup [(.con (.str "row")), (.var 3)])])]),
  .ex (.mt .append (.var 4) [(.tup [(.lam "law#5" [3]), (.tup [(.con (.str "row")), (.var 3)])])]),
  .ex (.mt .append (.var 4) [(.tup [(.lam "law#6" [3]), (.tup [(.con (.str "row")), (.var 3)])])]),
  .ex (.mt .append (.var 4) [(.tup [(.lam "law#7" [7]), (.tup [(.con (.str "number")), (.con (.str "share")), (.con (.int 0))])])]),
  .ret (.band (.cmp .Is (.callS "is_ratio" [(.var 3)]) (.con (.bl false))) (.callS "_law_are_due" [(.var 4)]))] }
def nm_law : List Str := ["script", "pen", "lap", "bad", "tries", "due", "odd", "zero", "one", "two", "a", "b"]
/-- _law_pen(script) : 0:script, 1:fold, 2:cell -/
def ir__law_pen : FunIR := { params := 1, slots := 3, fresh := false, keep := true, lams := false, body := [.assign (.var 1) (.con (.int 0)),
  .for_ (.var 2) (.seq (.var 0)) [.assign (.var 1) (.bin .Mod (.bi .int [(.bin .Add (.bin .Mult (.var 1) (.con (.int 173))) (.var 2))]) (.con (.int 999999223)))],
  .ret (.cellD ["cells", "at", "digits", "count", "fold"] [(.bi .list [(.var 0)]), (.con (.int 0)), (.con (.int 0)), (.con (.int 0)), (.var 1)])] }
def nm__law_pen : List Str := ["script", "fold", "cell"]
/-- _law_number(pen, most) : 0:pen, 1:most, 2:top -/
def ir__law_number : FunIR := { params := 2, slots := 3, fresh := false, keep := false, lams := false, body := [.assign (.var 2) (.bin .Sub (.call "_law_draw" [(.var 0), (.bin .Add (.bin .Mult (.con (.int 2)) (.var 1)) (.con (.int 1)))]) (.var 1)),
  .ret (.call "_law_q" [(.var 2), (.call "_law_pick" [(.var 0), (.lst [(.con (.int 1)), (.con (.int 1)), (.con (.int 1)), (.con (.int 2)), (.con (.int 3))])])])] }
def nm__law_number : List Str := ["pen", "most", "top"]
/-- _law_pick(pen, some) : 0:pen, 1:some -/
def ir__law_pick : FunIR := { params := 2, slots := 2, fresh := false, keep := false, lams := false, body := [.ret (.ix (.var 1) (.call "_law_draw" [(.var 0), (.bi .len [(.var 1)])]))] }
def nm__law_pick : List Str := ["pen", "some"]
/-- _law_draw(pen, many) : 0:pen, 1:many, 2:blend, 3:cell, 4:digit -/
def ir__law_draw : FunIR := { params := 2, slots := 5, fresh := false, keep := false, lams := false, body := [.assign (.sub (.var 0) (.con (.str "count"))) (.bin .Add (.ix (.var 0) (.con (.str "count"))) (.con (.int 1))),
  .iff (.band (.cmp .Eq (.ix (.var 0) (.con (.str "digits"))) (.con (.int 0))) (.cmp .Lt (.ix (.var 0) (.con (.str "at"))) (.bi .len [(.ix (.var 0) (.con (.str "cells")))]))) [.assign (.var 3) (.ix (.ix (.var 0) (.con (.str "cells"))) (.ix (.var 0) (.con (.str "at")))),
  .assign (.sub (.var 0) (.con (.str "at"))) (.bin .Add (.ix (.var 0) (.con (.str "at"))) (.con (.int 1))),
  .iff (.cmp .GtE (.var 3) (.bin .Pow (.con (.int 10)) (.con (.int 18)))) [.assign (.sub (.var 0) (.con (.str "digits"))) (.bin .Sub (.var 3) (.bin .Pow (.con (.int 10)) (.con (.int 18))))] [.assign (.sub (.var 0) (.con (.str "fold"))) (.bin .Mod (.bi .int [(.bin .Add (.bin .Mult (.ix (.var 0) (.con (.str "fold"))) (.con (.int 27017))) (.var 3))]) (.con (.int 2147482951)))]] [],
  .iff (.cmp .Gt (.ix (.var 0) (.con (.str "digits"))) (.con (.int 0))) [.assign (.var 4) (.bin .Mod (.bi .int [(.ix (.var 0) (.con (.str "digits")))]) (.var 1)),
  .assign (.sub (.var 0) (.con (.str "digits"))) (.bin .FloorDiv (.ix (.var 0) (.con (.str "digits"))) (.var 1)),
  .ret (.var 4)] [],
  .assign (.var 2) (.bin .Add (.bin .Add (.ix (.var 0) (.con (.str "fold"))) (.bin .Mult (.ix (.var 0) (.con (.str "count"))) (.con (.int 5741)))) (.con (.int 167))),
  .ret (.bin .Mod (.bin .FloorDiv (.bi .int [(.bin .Mod (.bin .Pow (.var 2) (.con (.int 61))) (.con (.int 2305843009213693951)))]) (.con (.int 512))) (.var 1))] }
def nm__law_draw : List Str := ["pen", "many", "blend", "cell", "digit"]
/-- _law_q(top, bottom) : 0:top, 1:bottom, 2:by -/
def ir__law_q : FunIR := { params := 2, slots := 3, fresh := false, keep := false, lams := false, body := [.assign (.var 2) (.call "_law_gcd" [(.var 0), (.var 1)]),
  .assign (.var 2) (.ite (.cmp .Lt (.var 1) (.con (.int 0))) (.un .USub (.var 2)) (.var 2)),
  .ret (.tup [(.bin .FloorDiv (.var 0) (.var 2)), (.bin .FloorDiv (.var 1) (.var 2))])] }
def nm__law_q : List Str := ["top", "bottom", "by"]
/-- _law_handed(pen, ratio) : 0:pen, 1:ratio, 2:by -/
def ir__law_handed : FunIR := { params := 2, slots := 3, fresh := false, keep := false, lams := false, body := [.iff (.band (.cmp .Eq (.ix (.var 1) (.con (.int 1))) (.con (.int 1))) (.cmp .Eq (.call "_law_draw" [(.var 0), (.con (.int 2))]) (.con (.int 0)))) [.ret (.ix (.var 1) (.con (.int 0)))] [],
  .assign (.var 2) (.call "_law_pick" [(.var 0), (.lst [(.con (.int 1)), (.con (.int 1)), (.con (.int 2)), (.con (.int 5))])]),
  .ret (.call "_law_pick" [(.var 0), (.lst [(.tup [(.bin .Mult (.ix (.var 1) (.con (.int 0))) (.var 2)), (.bin .Mult (.ix (.var 1) (.con (.int 1))) (.var 2))]), (.lst [(.bin .Mult (.ix (.var 1) (.con (.int 0))) (.var 2)), (.bin .Mult (.ix (.var 1) (.con (.int 1))) (.var 2))])])])] }
def nm__law_handed : List Str := ["pen", "ratio", "by"]
/-- _law_plus(one, two) : 0:one, 1:two -/
def ir__law_plus : FunIR := { params := 2, slots := 2, fresh := false, keep := false, lams := false, body := [.ret (.call "_law_q" [(.bin .Add (.bin .Mult (.ix (.var 0) (.con (.int 0))) (.ix (.var 1) (.con (.int 1)))) (.bin .Mult (.ix (.var 1) (.con (.int 0))) (.ix (.var 0) (.con (.int 1))))), (.bin .Mult (.ix (.var 0) (.con (.int 1))) (.ix (.var 1) (.con (.int 1))))])] }
def nm__law_plus : List Str := ["one", "two"]
/-- _law_minus(one, two) : 0:one, 1:two -/
def ir__law_minus : FunIR := { params := 2, slots := 2, fresh := false, keep := false, lams := false, body := [.ret (.call "_law_q" [(.bin .Sub (.bin .Mult (.ix (.var 0) (.con (.int 0))) (.ix (.var 1) (.con (.int 1)))) (.bin .Mult (.ix (.var 1) (.con (.int 0))) (.ix (.var 0) (.con (.int 1))))), (.bin .Mult (.ix (.var 0) (.con (.int 1))) (.ix (.var 1) (.con (.int 1))))])] }
def nm__law_minus : List Str := ["one", "two"]
/-- _law_times(one, two) : 0:one, 1:two -/
def ir__law_times : FunIR := { params := 2, slots := 2, fresh := false, keep := false, lams := false, body := [.ret (.call "_law_q" [(.bin .Mult (.ix (.var 0) (.con (.int 0))) (.ix (.var 1) (.con (.int 0)))), (.bin .Mult (.ix (.var 0) (.con (.int 1))) (.ix (.var 1) (.con (.int 1))))])] }
def nm__law_times : List Str := ["one", "two"]
/-- _law_less(one, two) : 0:one, 1:two -/
def ir__law_less : FunIR := { params := 2, slots := 2, fresh := false, keep := false, lams := false, body := [.ret (.cmp .Lt (.bin .Mult (.ix (.var 0) (.con (.int 0))) (.ix (.var 1) (.con (.int 1)))) (.bin .Mult (.ix (.var 1) (.con (.int 0))) (.ix (.var 0) (.con (.int 1)))))] }
def nm__law_less : List Str := ["one", "two"]
/-- told(ratio) : 0:ratio -/
def ir_told : FunIR := { params := 1, slots := 1, fresh := false, keep := false, lams := false, body := [.iff (.call "is_whole" [(.var 0)]) [.ret (.tup [(.var 0), (.con (.int 1))])] [],
  .iff (.not (.call "is_pair" [(.var 0)])) [.raise "BadRow" ["row"] [(.var 0)]] [],
  .ret (.call "lowest" [(.ix (.var 0) (.con (.int 0))), (.ix (.var 0) (.con (.int 1)))])] }
def nm_told : List Str := ["ratio"]
/-- plus(one, other) : 0:one, 1:other, 2:first, 3:second -/
def ir_plus : FunIR := { params := 2, slots := 4, fresh := false, keep := false, lams := false, body := [.assign (.tup [(.var 2), (.var 3)]) (.tup [(.call "told" [(.var 0)]), (.call "told" [(.var 1)])]),
  .ret (.call "summed" [(.var 2), (.var 3)])] }
def nm_plus : List Str := ["one", "other", "first", "second"]
/-- minus(one, other) : 0:one, 1:other, 2:first, 3:second -/
def ir_minus : FunIR := { params := 2, slots := 4, fresh := false, keep := false, lams := false, body := [.assign (.tup [(.var 2), (.var 3)]) (.tup [(.call "told" [(.var 0)]), (.call "told" [(.var 1)])]),
  .ret (.call "lessened" [(.var 2), (.var 3)])] }
def nm_minus : List Str := ["one", "other", "first", "second"]
/-- times(one, other) : 0:one, 1:other, 2:first, 3:second -/
def ir_times : FunIR := { params := 2, slots := 4, fresh := false, keep := false, lams := false, body := [.assign (.tup [(.var 2), (.var 3)]) (.tup [(.call "told" [(.var 0)]), (.call "told" [(.var 1)])]),
  .ret (.call "scaled" [(.var 2), (.var 3)])] }
def nm_times : List Str := ["one", "other", "first", "second"]
/-- less(one, other) : 0:one, 1:other, 2:first, 3:second -/
def ir_less : FunIR := { params := 2, slots := 4, fresh := false, keep := false, lams := false, body := [.assign (.tup [(.var 2), (.var 3)]) (.tup [(.call "told" [(.var 0)]), (.call "told" [(.var 1)])]),
  .ret (.call "below" [(.var 2), (.var 3)])] }
def nm_less : List Str := ["one", "other", "first", "second"]
/-- is_ratio(value) : 0:value -/
def ir_is_ratio : FunIR := { params := 1, slots := 1, fresh := false, keep := false, lams := false, body := [.ret (.bor (.call "is_whole" [(.var 0)]) (.band (.isi (.var 0) [.bt "tuple"]) (.call "is_pair" [(.var 0)])))] }
def nm_is_ratio : List Str := ["value"]
/-- share(one, other) : 0:one, 1:other, 2:first, 3:second -/
def ir_share : FunIR := { params := 2, slots := 4, fresh := false, keep := false, lams := false, body := [.assign (.tup [(.var 2), (.var 3)]) (.tup [(.call "told" [(.var 0)]), (.call "told" [(.var 1)])]),
  .iff (.cmp .Eq (.ix (.var 3) (.con (.int 0))) (.con (.int 0))) [.raise "BadNumber" ["what", "number"] [(.con (.str "share")), (.con (.int 0))]] [],
  .ret (.call "parted" [(.var 2), (.var 3)])] }
def nm_share : List Str := ["one", "other", "first", "second"]
/-- _law_share(one, two) : 0:one, 1:two -/
def ir__law_share : FunIR := { params := 2, slots := 2, fresh := false, keep := false, lams := false, body := [.ret (.call "_law_q" [(.bin .Mult (.ix (.var 0) (.con (.int 0))) (.ix (.var 1) (.con (.int 1)))), (.bin .Mult (.ix (.var 0) (.con (.int 1))) (.ix (.var 1) (.con (.int 0))))])] }
def nm__law_share : List Str := ["one", "two"]
/-- _law_are_due(tries) : 0:tries, 1:action, 2:due -/
def ir__law_are_due : FunIR := { params := 1, slots := 3, fresh := false, keep := false, lams := false, body := [.ret (.bi .all [(.comp (.cmp .Eq (.bi .repr [(.call "_law_fault" [(.var 1)])]) (.bi .repr [(.var 2)])) (.tup [(.var 1), (.var 2)]) (.seq (.var 0)) none [1, 2])])] }
def nm__law_are_due : List Str := ["tries", "action", "due"]
/-- _law_gcd(one, two) : 0:one, 1:two, 2:lap -/
def ir__law_gcd : FunIR := { params := 2, slots := 3, fresh := false, keep := false, lams := false, body := [.assign (.tup [(.var 0), (.var 1)]) (.tup [(.bi .abs [(.var 0)]), (.bi .abs [(.var 1)])]),
  .for_ (.var 2) (.range1 (.bin .Add (.con (.int 4)) (.bin .Mult (.con (.int 2)) (.mt .bits (.bi .int [(.var 1)]) [])))) [.iff (.cmp .Eq (.var 1) (.con (.int 0))) [.brk] [],
  .assign (.tup [(.var 0), (.var 1)]) (.tup [(.var 1), (.bin .Mod (.bi .int [(.var 0)]) (.var 1))])],
  .ret (.var 0)] }
def nm__law_gcd : List Str := ["one", "two", "lap"]
/-- is_whole(value) : 0:value -/
def ir_is_whole : FunIR := { params := 1, slots := 1, fresh := false, keep := false, lams := false, body := [.ret (.band (.isi (.var 0) [.bt "int"]) (.not (.isi (.var 0) [.bt "bool"])))] }
def nm_is_whole : List Str := ["value"]
/-- is_pair(value) : 0:value -/
def ir_is_pair : FunIR := { params := 1, slots := 1, fresh := false, keep := false, lams := false, body := [.iff (.bor (.not (.isi (.var 0) [.bt "tuple", .bt "list"])) (.cmp .NotEq (.bi .len [(.var 0)]) (.con (.int 2)))) [.ret (.con (.bl false))] [],
  .ret (.band (.call "is_whole" [(.ix (.var 0) (.con (.int 0)))]) (.band (.call "is_whole" [(.ix (.var 0) (.con (.int 1)))]) (.cmp .Gt (.ix (.var 0) (.con (.int 1))) (.con (.int 0)))))] }
def nm_is_pair : List Str := ["value"]
/-- lowest(top, bottom) : 0:top, 1:bottom, 2:by -/
def ir_lowest : FunIR := { params := 2, slots := 3, fresh := false, keep := false, lams := false, body := [.assign (.var 2) (.ite (.cmp .Gt (.var 1) (.con (.int 0))) (.bi .gcd [(.var 0), (.var 1)]) (.un .USub (.bi .gcd [(.var 0), (.var 1)]))),
  .ret (.tup [(.bin .FloorDiv (.var 0) (.var 2)), (.bin .FloorDiv (.var 1) (.var 2))])] }
def nm_lowest : List Str := ["top", "bottom", "by"]
/-- summed(one, other) : 0:one, 1:other -/
def ir_summed : FunIR := { params := 2, slots := 2, fresh := false, keep := false, lams := false, body := [.ret (.call "lowest" [(.bin .Add (.bin .Mult (.ix (.var 0) (.con (.int 0))) (.ix (.var 1) (.con (.int 1)))) (.bin .Mult (.ix (.var 1) (.con (.int 0))) (.ix (.var 0) (.con (.int 1))))), (.bin .Mult (.ix (.var 0) (.con (.int 1))) (.ix (.var 1) (.con (.int 1))))])] }
def nm_summed : List Str := ["one", "other"]
/-- lessened(one, other) : 0:one, 1:other -/
def ir_lessened : FunIR := { params := 2, slots := 2, fresh := false, keep := false, lams := false, body := [.ret (.call "lowest" [(.bin .Sub (.bin .Mult (.ix (.var 0) (.con (.int 0))) (.ix (.var 1) (.con (.int 1)))) (.bin .Mult (.ix (.var 1) (.con (.int 0))) (.ix (.var 0) (.con (.int 1))))), (.bin .Mult (.ix (.var 0) (.con (.int 1))) (.ix (.var 1) (.con (.int 1))))])] }
def nm_lessened : List Str := ["one", "other"]
/-- scaled(one, other) : 0:one, 1:other -/
def ir_scaled : FunIR := { params := 2, slots := 2, fresh := false, keep := false, lams := false, body := [.ret (.call "lowest" [(.bin .Mult (.ix (.var 0) (.con (.int 0))) (.ix (.var 1) (.con (.int 0)))), (.bin .Mult (.ix (.var 0) (.con (.int 1))) (.ix (.var 1) (.con (.int 1))))])] }
def nm_scaled : List Str := ["one", "other"]
/-- below(one, other) : 0:one, 1:other -/
def ir_below : FunIR := { params := 2, slots := 2, fresh := false, keep := false, lams := false, body := [.ret (.cmp .Lt (.bin .Mult (.ix (.var 0) (.con (.int 0))) (.ix (.var 1) (.con (.int 1)))) (.bin .Mult (.ix (.var 1) (.con (.int 0))) (.ix (.var 0) (.con (.int 1)))))] }
def nm_below : List Str := ["one", "other"]
/-- parted(one, other) : 0:one, 1:other -/
def ir_parted : FunIR := { params := 2, slots := 2, fresh := false, keep := false, lams := false, body := [.ret (.call "lowest" [(.bin .Mult (.ix (.var 0) (.con (.int 0))) (.ix (.var 1) (.con (.int 1)))), (.bin .Mult (.ix (.var 0) (.con (.int 1))) (.ix (.var 1) (.con (.int 0))))])] }
def nm_parted : List Str := ["one", "other"]
/-- _law_fault(action) : 0:action, 1:error -/
def ir__law_fault : FunIR := { params := 1, slots := 2, fresh := false, keep := false, lams := false, body := [.try_ [.ex (.act 0),
  .ret (.con .non)] ["BadNumber", "BadText", "BadRow", "Unlike", "TooMany"] [("BadText", 1, [.inl "text", .inr "line", .inr "column"]), ("BadNumber", 1, [.inl "number", .inr "what", .inr "number"]), ("BadRow", 1, [.inl "row", .inr "row"]), ("TooMany", 1, [.inl "many", .inr "what", .inr "many", .inr "limit"]), ("Unlike", 1, [.inl "unlike", .inr "what"])]] }
def nm__law_fault : List Str := ["action", "error"]
def lams : List LE := [⟨"law#0", [3], ["bad"], (.call "told" [(.var 0)])⟩,
  ⟨"law#1", [3, 6], ["bad", "odd"], (.call "plus" [(.var 0), (.var 1)])⟩,
  ⟨"law#2", [3], ["bad"], (.call "minus" [(.con (.int 1)), (.var 0)])⟩,
  ⟨"law#3", [6, 3], ["odd", "bad"], (.call "times" [(.var 0), (.var 1)])⟩,
  ⟨"law#4", [3], ["bad"], (.call "less" [(.tup [(.con (.int 1)), (.con (.int 2))]), (.var 0)])⟩,
  ⟨"law#5", [3], ["bad"], (.call "share" [(.var 0), (.con (.int 0))])⟩,
  ⟨"law#6", [3], ["bad"], (.call "share" [(.con (.int 1)), (.var 0)])⟩,
  ⟨"law#7", [7], ["zero"], (.call "share" [(.con (.int 3)), (.var 0)])⟩]
def progL : List (String × FunIR) := [("law", ir_law), ("_law_pen", ir__law_pen), ("_law_number", ir__law_number), ("_law_pick", ir__law_pick), ("_law_draw", ir__law_draw), ("_law_q", ir__law_q), ("_law_handed", ir__law_handed), ("_law_plus", ir__law_plus), ("_law_minus", ir__law_minus), ("_law_times", ir__law_times), ("_law_less", ir__law_less), ("told", ir_told), ("plus", ir_plus), ("minus", ir_minus), ("times", ir_times), ("less", ir_less), ("is_ratio", ir_is_ratio), ("share", ir_share), ("_law_share", ir__law_share), ("_law_are_due", ir__law_are_due), ("_law_gcd", ir__law_gcd), ("is_whole", ir_is_whole), ("is_pair", ir_is_pair), ("lowest", ir_lowest), ("summed", ir_summed), ("lessened", ir_lessened), ("scaled", ir_scaled), ("below", ir_below), ("parted", ir_parted), ("_law_fault", ir__law_fault)] ++ lams.map fun l => (l.k, lamF l)
def prog : Prog := fun f => progL.lookup f
def tb0 : Tb := { fns := ["law", "_law_pen", "_law_number", "_law_pick", "_law_draw", "_law_q", "_law_handed", "_law_plus", "_law_minus", "_law_times", "_law_less", "told", "plus", "minus", "times", "less", "is_ratio", "share", "_law_share", "_law_are_due", "_law_gcd", "is_whole", "is_pair", "lowest", "summed", "lessened", "scaled", "below", "parted", "_law_fault"], gcd := true, cls := [], flds := [], mths := [], inits := [], cons := [], excs := [("BadNumber", ["what", "number"]), ("BadText", ["line", "column"]), ("BadRow", ["row"]), ("Unlike", ["what"]), ("TooMany", ["what", "many", "limit"])], exb := "TrussError" }
def tb : Tb := { tb0 with lam := lamB tb0 lams }
abbrev P : Program := (PySem.Challenge.rw_trusspapers_k02_ratios).prog
def es : List DE := [⟨"law", ("law", none), "law", "law", stAt P 40, nm_law, ["script"]⟩,
  ⟨"_law_pen", ("_law_pen", none), "_law_pen", "_law_pen", stAt P 26, nm__law_pen, ["script"]⟩,
  ⟨"_law_number", ("_law_number", none), "_law_number", "_law_number", stAt P 36, nm__law_number, ["pen", "most"]⟩,
  ⟨"_law_pick", ("_law_pick", none), "_law_pick", "_law_pick", stAt P 28, nm__law_pick, ["pen", "some"]⟩,
  ⟨"_law_draw", ("_law_draw", none), "_law_draw", "_law_draw", stAt P 27, nm__law_draw, ["pen", "many"]⟩,
  ⟨"_law_q", ("_law_q", none), "_law_q", "_law_q", stAt P 30, nm__law_q, ["top", "bottom"]⟩,
  ⟨"_law_handed", ("_law_handed", none), "_law_handed", "_law_handed", stAt P 37, nm__law_handed, ["pen", "ratio"]⟩,
  ⟨"_law_plus", ("_law_plus", none), "_law_plus", "_law_plus", stAt P 31, nm__law_plus, ["one", "two"]⟩,
  ⟨"_law_minus", ("_law_minus", none), "_law_minus", "_law_minus", stAt P 34, nm__law_minus, ["one", "two"]⟩,
  ⟨"_law_times", ("_law_times", none), "_law_times", "_law_times", stAt P 32, nm__law_times, ["one", "two"]⟩,
  ⟨"_law_less", ("_law_less", none), "_law_less", "_law_less", stAt P 33, nm__law_less, ["one", "two"]⟩,
  ⟨"told", ("told", none), "told", "told", stAt P 14, nm_told, ["ratio"]⟩,
  ⟨"plus", ("plus", none), "plus", "plus", stAt P 20, nm_plus, ["one", "other"]⟩,
  ⟨"minus", ("minus", none), "minus", "minus", stAt P 21, nm_minus, ["one", "other"]⟩,
  ⟨"times", ("times", none), "times", "times", stAt P 22, nm_times, ["one", "other"]⟩,
  ⟨"less", ("less", none), "less", "less", stAt P 24, nm_less, ["one", "other"]⟩,
  ⟨"is_ratio", ("is_ratio", none), "is_ratio", "is_ratio", stAt P 12, nm_is_ratio, ["value"]⟩,
  ⟨"share", ("share", none), "share", "share", stAt P 23, nm_share, ["one", "other"]⟩,
  ⟨"_law_share", ("_law_share", none), "_law_share", "_law_share", stAt P 35, nm__law_share, ["one", "two"]⟩,
  ⟨"_law_are_due", ("_law_are_due", none), "_law_are_due", "_law_are_due", stAt P 39, nm__law_are_due, ["tries"]⟩,
  ⟨"_law_gcd", ("_law_gcd", none), "_law_gcd", "_law_gcd", stAt P 29, nm__law_gcd, ["one", "two"]⟩,
  ⟨"is_whole", ("is_whole", none), "is_whole", "is_whole", stAt P 9, nm_is_whole, ["value"]⟩,
  ⟨"is_pair", ("is_pair", none), "is_pair", "is_pair", stAt P 11, nm_is_pair, ["value"]⟩,
  ⟨"lowest", ("lowest", none), "lowest", "lowest", stAt P 13, nm_lowest, ["top", "bottom"]⟩,
  ⟨"summed", ("summed", none), "summed", "summed", stAt P 15, nm_summed, ["one", "other"]⟩,
  ⟨"lessened", ("lessened", none), "lessened", "lessened", stAt P 16, nm_lessened, ["one", "other"]⟩,
  ⟨"scaled", ("scaled", none), "scaled", "scaled", stAt P 17, nm_scaled, ["one", "other"]⟩,
  ⟨"below", ("below", none), "below", "below", stAt P 19, nm_below, ["one", "other"]⟩,
  ⟨"parted", ("parted", none), "parted", "parted", stAt P 18, nm_parted, ["one", "other"]⟩,
  ⟨"_law_fault", ("_law_fault", none), "_law_fault", "_law_fault", stAt P 38, nm__law_fault, ["action"]⟩]
theorem es_chk : es.all (chkDE tb prog) = true := by decide +kernel
theorem es_cov : covB tb es = true := by decide +kernel
def xs : List DE := [⟨"BadNumber", ("BadNumber", some "__init__"), "__init__", "BadNumber.__init__", mtAt P 3 0, ["self", "what", "number"], ["self", "what", "number"]⟩,
  ⟨"BadText", ("BadText", some "__init__"), "__init__", "BadText.__init__", mtAt P 4 0, ["self", "line", "column"], ["self", "line", "column"]⟩,
  ⟨"BadRow", ("BadRow", some "__init__"), "__init__", "BadRow.__init__", mtAt P 5 0, ["self", "row"], ["self", "row"]⟩,
  ⟨"Unlike", ("Unlike", some "__init__"), "__init__", "Unlike.__init__", mtAt P 6 0, ["self", "what"], ["self", "what"]⟩,
  ⟨"TooMany", ("TooMany", some "__init__"), "__init__", "TooMany.__init__", mtAt P 7 0, ["self", "what", "many", "limit"], ["self", "what", "many", "limit"]⟩]
theorem xs_cov : covX tb xs = true := by decide +kernel
theorem lam_prog : ∀ l ∈ lams, prog l.k = some (lamF l) := by
  intro l hl
  simp only [lams, List.mem_cons, List.not_mem_nil, or_false] at hl
  rcases hl with rfl | rfl | rfl | rfl | rfl | rfl | rfl | rfl <;> rfl
def view_ : List Nat := [0, 9, 11, 12, 13, 14, 15, 16, 17, 18, 19, 20, 21, 22, 23, 24, 26, 27, 28, 29, 30, 31, 32, 33, 34, 35, 36, 37, 38, 39, 40]
def loose : List Str := ["TrussError", "BadNumber", "BadText", "BadRow", "Unlike", "TooMany"]
/- places: law=40, _law_pen=26, _law_number=36, _law_pick=28, _law_draw=27, _law_q=30, _law_handed=37, _law_plus=31, _law_minus=34, _law_times=32, _law_less=33, told=14, plus=20, minus=21, times=22, less=24, is_ratio=12, share=23, _law_share=35, _law_are_due=39, _law_gcd=29, is_whole=9, is_pair=11, lowest=13, summed=15, lessened=16, scaled=17, below=19, parted=18, _law_fault=38 -/
end K02
end

section
/-! K02a: what the program's functions compute. -/
namespace K02
open Pi PySem
abbrev qD (t m : Int) : D := .tup [.int t, .int m]
def small (x : Int) : Prop := x.natAbs < 2 ^ 200
theorem mul_ok {i j : Int} (hi : small i) (hj : small j) : mulOk i j = true := by
  unfold small at hi hj
  have b : ∀ {x : Int}, x.natAbs < 2 ^ 200 → Builtin.Int.intBits x ≤ 201 := fun {x} h => by
    unfold Builtin.Int.intBits
    split
    · omega
    · have h0 : x.natAbs ≠ 0 := by
        intro z
        have : x = 0 := by omega
        subst this
        simp_all
      have := (Nat.log2_lt h0).mpr h
      omega
  unfold mulOk
  have h1 := b hi
  have h2 := b hj
  simp only [Bool.or_eq_true, decide_eq_true_eq]
  right
  omega
theorem pyl {i j : Int} (hj : small j) : Builtin.divisionGoesByPylong i j = false := by
  unfold small at hj
  unfold Builtin.divisionGoesByPylong
  by_cases h : j = 0
  · subst h; simp
  · have h0 : j.natAbs ≠ 0 := by omega
    have := (Nat.log2_lt h0).mpr hj
    have hb : (j == 0) = false := by simp [h]
    simp only [hb, Bool.false_eq_true, if_false]
    have : ¬ (j.natAbs.log2 / 30 + 1 > 300) := by omega
    simp [this]
/-- in lowest terms, the bottom above 0 -/
def nt (t m : Int) : Int := if 0 < m then t.fdiv (Nat.gcd t.natAbs m.natAbs) else t.fdiv (-(Nat.gcd t.natAbs m.natAbs : Nat))
def nm (t m : Int) : Int := if 0 < m then m.fdiv (Nat.gcd t.natAbs m.natAbs) else m.fdiv (-(Nat.gcd t.natAbs m.natAbs : Nat))
theorem gcd_small {t m : Int} (h : small m) (h0 : m ≠ 0) : small (Nat.gcd t.natAbs m.natAbs : Nat) := by
  unfold small at *
  have : Nat.gcd t.natAbs m.natAbs ≤ m.natAbs := Nat.gcd_le_right _ (by omega)
  simp only [Int.natAbs_natCast]
  omega
theorem lowest_ok (n b : Nat) {t m : Int} (S : Store) (h0 : m ≠ 0) (hs : small m) : runP prog (n + 1) "lowest" b [.int t, .int m] S = .ok (qD (nt t m) (nm t m), false) S := by
  have hg := gcd_small (t := t) hs h0
  have hg' : small (-(Nat.gcd t.natAbs m.natAbs : Nat) : Int) := by unfold small at *; simpa using hg
  have gp : 0 < Nat.gcd t.natAbs m.natAbs := Nat.gcd_pos_of_pos_right _ (by omega)
  rw [run_end (F := ir_lowest) rfl rfl rfl rfl rfl]
  unfold nt nm
  by_cases hm : 0 < m
  · have e0 : ((Nat.gcd t.natAbs m.natAbs : Nat) : Int) ≠ 0 := by omega
    simp only [ir_lowest, evB, evS.eq_1, evS.eq_2, evS.eq_4, evS.eq_5, evS_for, evS.eq_8, evS.eq_9, evS.eq_10, evS.eq_12, evS.eq_13, evS.eq_14, evS.eq_15, ev, evEs, evO, evTO, evG, evGs, fin_f, fin_t, bindOk, bindErr, of_some, asB_ok, endC_ret, endC_nx, cmpD, eqD, ordD, isD, isNon, callD, lenD, binD, addD, intD, unD, truD, ixD, seqOf, isAny, isOne, tagOf, tagIs, askTys, List.map, List.replicate, List.cons_append, List.nil_append, List.getElem?_cons_zero, List.getElem?_cons_succ, Option.bind_some, id_eq, List.set_cons_zero, List.set_cons_succ, Option.map_some, List.length_cons, List.length_nil, if_true, Bool.not_true, Bool.not_false, Bool.false_eq_true, if_false, Bool.true_and, Bool.and_true, hm, decide_true, e0, pyl hg, or_self, Nat.reduceLeDiff]
    rw [finP_eq rfl rfl rfl rfl]
  · have e0 : (-(Nat.gcd t.natAbs m.natAbs : Nat) : Int) ≠ 0 := by omega
    simp only [ir_lowest, evB, evS.eq_1, evS.eq_2, evS.eq_4, evS.eq_5, evS_for, evS.eq_8, evS.eq_9, evS.eq_10, evS.eq_12, evS.eq_13, evS.eq_14, evS.eq_15, ev, evEs, evO, evTO, evG, evGs, fin_f, fin_t, bindOk, bindErr, of_some, asB_ok, endC_ret, endC_nx, cmpD, eqD, ordD, isD, isNon, callD, lenD, binD, addD, intD, unD, truD, ixD, seqOf, isAny, isOne, tagOf, tagIs, askTys, List.map, List.replicate, List.cons_append, List.nil_append, List.getElem?_cons_zero, List.getElem?_cons_succ, Option.bind_some, id_eq, List.set_cons_zero, List.set_cons_succ, Option.map_some, List.length_cons, List.length_nil, if_true, Bool.not_true, Bool.not_false, Bool.false_eq_true, if_false, Bool.true_and, Bool.and_true, hm, decide_false, e0, pyl hg', or_self, Nat.reduceLeDiff]
    rw [finP_eq rfl rfl rfl rfl]
theorem whole_int (n b : Nat) (i : Int) (S : Store) : runP prog (n + 1) "is_whole" b [.int i] S = .ok (.bl true, false) S := by
  rw [run_end (F := ir_is_whole) rfl rfl rfl rfl rfl]
  simp [ir_is_whole, evB, evS.eq_1, evS.eq_2, evS.eq_4, evS.eq_5, evS_for, evS.eq_8, evS.eq_9, evS.eq_10, evS.eq_12, evS.eq_13, evS.eq_14, evS.eq_15, ev, evEs, evO, evTO, evG, evGs, fin_f, fin_t, bindOk, bindErr, of_some, asB_ok, endC_ret, endC_nx, cmpD, eqD, ordD, isD, isNon, callD, lenD, binD, addD, intD, unD, truD, ixD, seqOf, isAny, isOne, tagOf, tagIs, askTys, List.map, List.replicate, List.cons_append, List.nil_append, List.getElem?_cons_zero, List.getElem?_cons_succ, Option.bind_some, id_eq, List.set_cons_zero, List.set_cons_succ, Option.map_some, List.length_cons, List.length_nil, if_true, Bool.not_true, Bool.not_false, Bool.false_eq_true, if_false, Bool.true_and, Bool.and_true]
  rw [finP_eq rfl rfl rfl rfl]
/-- a ratio as it may be passed -/
inductive Hd (t m : Int) : D → Prop
  | int : m = 1 → Hd t m (.int t)
  | tup (k : Int) : 0 < k → k ≤ 5 → Hd t m (.tup [.int (t * k), .int (m * k)])
  | lst (k : Int) : 0 < k → k ≤ 5 → Hd t m (.lst [.int (t * k), .int (m * k)])
theorem whole_tup (n b : Nat) (xs : List D) (S : Store) : runP prog (n + 1) "is_whole" b [.tup xs] S = .ok (.bl false, false) S := by
  rw [run_end (F := ir_is_whole) rfl rfl rfl rfl rfl]
  simp [ir_is_whole, evB, evS.eq_1, evS.eq_2, evS.eq_4, evS.eq_5, evS_for, evS.eq_8, evS.eq_9, evS.eq_10, evS.eq_12, evS.eq_13, evS.eq_14, evS.eq_15, ev, evEs, evO, evTO, evG, evGs, fin_f, fin_t, bindOk, bindErr, of_some, asB_ok, endC_ret, endC_nx, cmpD, eqD, ordD, isD, isNon, callD, lenD, binD, addD, intD, unD, truD, ixD, seqOf, isAny, isOne, tagOf, tagIs, askTys, List.map, List.replicate, List.cons_append, List.nil_append, List.getElem?_cons_zero, List.getElem?_cons_succ, Option.bind_some, id_eq, List.set_cons_zero, List.set_cons_succ, Option.map_some, List.length_cons, List.length_nil, if_true, Bool.not_true, Bool.not_false, Bool.false_eq_true, if_false, Bool.true_and, Bool.and_true]
  rw [finP_eq rfl rfl rfl rfl]
theorem whole_lst (n b : Nat) (xs : List D) (S : Store) : runP prog (n + 1) "is_whole" b [.lst xs] S = .ok (.bl false, false) S := by
  rw [run_end (F := ir_is_whole) rfl rfl rfl rfl rfl]
  simp [ir_is_whole, evB, evS.eq_1, evS.eq_2, evS.eq_4, evS.eq_5, evS_for, evS.eq_8, evS.eq_9, evS.eq_10, evS.eq_12, evS.eq_13, evS.eq_14, evS.eq_15, ev, evEs, evO, evTO, evG, evGs, fin_f, fin_t, bindOk, bindErr, of_some, asB_ok, endC_ret, endC_nx, cmpD, eqD, ordD, isD, isNon, callD, lenD, binD, addD, intD, unD, truD, ixD, seqOf, isAny, isOne, tagOf, tagIs, askTys, List.map, List.replicate, List.cons_append, List.nil_append, List.getElem?_cons_zero, List.getElem?_cons_succ, Option.bind_some, id_eq, List.set_cons_zero, List.set_cons_succ, Option.map_some, List.length_cons, List.length_nil, if_true, Bool.not_true, Bool.not_false, Bool.false_eq_true, if_false, Bool.true_and, Bool.and_true, lstOf]
  rw [finP_eq rfl rfl rfl rfl]
theorem atI0 {a b : D} : L2.atI [a, b] 0 = some a := rfl
theorem atI1 {a b : D} : L2.atI [a, b] 1 = some b := rfl
theorem pair_tup (n b : Nat) (i j : Int) (hj : 0 < j) (S : Store) : runP prog (n + 2) "is_pair" b [.tup [.int i, .int j]] S = .ok (.bl true, false) S := by
  rw [run_end (F := ir_is_pair) rfl rfl rfl rfl rfl]
  simp [ir_is_pair, evB, evS.eq_1, evS.eq_2, evS.eq_4, evS.eq_5, evS_for, evS.eq_8, evS.eq_9, evS.eq_10, evS.eq_12, evS.eq_13, evS.eq_14, evS.eq_15, ev, evEs, evO, evTO, evG, evGs, fin_f, fin_t, bindOk, bindErr, of_some, asB_ok, endC_ret, endC_nx, cmpD, eqD, ordD, isD, isNon, callD, lenD, binD, addD, intD, unD, truD, ixD, seqOf, isAny, isOne, tagOf, tagIs, askTys, List.map, List.replicate, List.cons_append, List.nil_append, List.getElem?_cons_zero, List.getElem?_cons_succ, Option.bind_some, id_eq, List.set_cons_zero, List.set_cons_succ, Option.map_some, List.length_cons, List.length_nil, if_true, Bool.not_true, Bool.not_false, Bool.false_eq_true, if_false, Bool.true_and, Bool.and_true, lstOf, atI0, atI1, whole_int, hj]
  rw [finP_eq rfl rfl rfl rfl]
theorem pair_lst (n b : Nat) (i j : Int) (hj : 0 < j) (S : Store) : runP prog (n + 2) "is_pair" b [.lst [.int i, .int j]] S = .ok (.bl true, false) S := by
  rw [run_end (F := ir_is_pair) rfl rfl rfl rfl rfl]
  simp [ir_is_pair, evB, evS.eq_1, evS.eq_2, evS.eq_4, evS.eq_5, evS_for, evS.eq_8, evS.eq_9, evS.eq_10, evS.eq_12, evS.eq_13, evS.eq_14, evS.eq_15, ev, evEs, evO, evTO, evG, evGs, fin_f, fin_t, bindOk, bindErr, of_some, asB_ok, endC_ret, endC_nx, cmpD, eqD, ordD, isD, isNon, callD, lenD, binD, addD, intD, unD, truD, ixD, seqOf, isAny, isOne, tagOf, tagIs, askTys, List.map, List.replicate, List.cons_append, List.nil_append, List.getElem?_cons_zero, List.getElem?_cons_succ, Option.bind_some, id_eq, List.set_cons_zero, List.set_cons_succ, Option.map_some, List.length_cons, List.length_nil, if_true, Bool.not_true, Bool.not_false, Bool.false_eq_true, if_false, Bool.true_and, Bool.and_true, lstOf, atI0, atI1, whole_int, hj]
  rw [finP_eq rfl rfl rfl rfl]
/-- reduced -/
structure Red (t m : Int) : Prop where
  pos : 0 < m
  gcd : Nat.gcd t.natAbs m.natAbs = 1
  st : t.natAbs < 2 ^ 60
  sm : m.natAbs < 2 ^ 60
theorem nt_mul {t m k : Int} (r : Red t m) (hk : 0 < k) : nt (t * k) (m * k) = t ∧ nm (t * k) (m * k) = m := by
  have hp : 0 < m * k := Int.mul_pos r.pos hk
  have hg : Nat.gcd (t * k).natAbs (m * k).natAbs = k.natAbs := by
    rw [Int.natAbs_mul, Int.natAbs_mul, Nat.gcd_mul_right, r.gcd, Nat.one_mul]
  have hka : ((k.natAbs : Nat) : Int) = k := by omega
  unfold nt nm
  rw [if_pos hp, if_pos hp, hg, hka]
  constructor
  · rw [Int.mul_fdiv_cancel _ (by omega)]
  · rw [Int.mul_fdiv_cancel _ (by omega)]
theorem mul5 {t k : Int} (h : t.natAbs < 2 ^ 60) (h0 : 0 < k) (h5 : k ≤ 5) : small (t * k) := by
  unfold small
  rw [Int.natAbs_mul]
  have : k.natAbs ≤ 5 := by omega
  have := Nat.mul_le_mul (Nat.le_of_lt h) this
  omega
theorem told_ok (n b : Nat) {t m : Int} {d : D} (r : Red t m) (h : Hd t m d) (S : Store) : runP prog (n + 3) "told" b [d] S = .ok (qD t m, false) S := by
  rw [run_end (F := ir_told) rfl rfl (by rfl) rfl rfl]
  have hp := r.pos
  cases h with
  | int e =>
    subst e
    simp [ir_told, evB, evS.eq_1, evS.eq_2, evS.eq_4, evS.eq_5, evS_for, evS.eq_8, evS.eq_9, evS.eq_10, evS.eq_12, evS.eq_13, evS.eq_14, evS.eq_15, ev, evEs, evO, evTO, evG, evGs, fin_f, fin_t, bindOk, bindErr, of_some, asB_ok, endC_ret, endC_nx, cmpD, eqD, ordD, isD, isNon, callD, lenD, binD, addD, intD, unD, truD, ixD, seqOf, isAny, isOne, tagOf, tagIs, askTys, List.map, List.replicate, List.cons_append, List.nil_append, List.getElem?_cons_zero, List.getElem?_cons_succ, Option.bind_some, id_eq, List.set_cons_zero, List.set_cons_succ, Option.map_some, List.length_cons, List.length_nil, if_true, Bool.not_true, Bool.not_false, Bool.false_eq_true, if_false, Bool.true_and, Bool.and_true, whole_int]
    rw [finP_eq rfl rfl rfl rfl]
  | tup k h0 h5 =>
    have hpk : 0 < m * k := Int.mul_pos hp h0
    simp [ir_told, evB, evS.eq_1, evS.eq_2, evS.eq_4, evS.eq_5, evS_for, evS.eq_8, evS.eq_9, evS.eq_10, evS.eq_12, evS.eq_13, evS.eq_14, evS.eq_15, ev, evEs, evO, evTO, evG, evGs, fin_f, fin_t, bindOk, bindErr, of_some, asB_ok, endC_ret, endC_nx, cmpD, eqD, ordD, isD, isNon, callD, lenD, binD, addD, intD, unD, truD, ixD, seqOf, isAny, isOne, tagOf, tagIs, askTys, List.map, List.replicate, List.cons_append, List.nil_append, List.getElem?_cons_zero, List.getElem?_cons_succ, Option.bind_some, id_eq, List.set_cons_zero, List.set_cons_succ, Option.map_some, List.length_cons, List.length_nil, if_true, Bool.not_true, Bool.not_false, Bool.false_eq_true, if_false, Bool.true_and, Bool.and_true, whole_tup, pair_tup, hpk, atI0, atI1, lowest_ok _ _ _ (show m * k ≠ 0 by omega) (mul5 r.sm h0 h5), nt_mul r h0]
    rw [finP_eq rfl rfl rfl rfl]
  | lst k h0 h5 =>
    have hpk : 0 < m * k := Int.mul_pos hp h0
    simp [ir_told, evB, evS.eq_1, evS.eq_2, evS.eq_4, evS.eq_5, evS_for, evS.eq_8, evS.eq_9, evS.eq_10, evS.eq_12, evS.eq_13, evS.eq_14, evS.eq_15, ev, evEs, evO, evTO, evG, evGs, fin_f, fin_t, bindOk, bindErr, of_some, asB_ok, endC_ret, endC_nx, cmpD, eqD, ordD, isD, isNon, callD, lenD, binD, addD, intD, unD, truD, ixD, seqOf, isAny, isOne, tagOf, tagIs, askTys, List.map, List.replicate, List.cons_append, List.nil_append, List.getElem?_cons_zero, List.getElem?_cons_succ, Option.bind_some, id_eq, List.set_cons_zero, List.set_cons_succ, Option.map_some, List.length_cons, List.length_nil, if_true, Bool.not_true, Bool.not_false, Bool.false_eq_true, if_false, Bool.true_and, Bool.and_true, lstOf, whole_lst, pair_lst, hpk, atI0, atI1, lowest_ok _ _ _ (show m * k ≠ 0 by omega) (mul5 r.sm h0 h5), nt_mul r h0]
    rw [finP_eq rfl rfl rfl rfl]
end K02
end

section
namespace K02
open Pi PySem
theorem sm_mul {i j : Int} (hi : i.natAbs < 2 ^ 60) (hj : j.natAbs < 2 ^ 60) : (i * j).natAbs < 2 ^ 120 := by
  rw [Int.natAbs_mul]
  have h1 : 0 ≤ j.natAbs := Nat.zero_le _
  calc i.natAbs * j.natAbs ≤ 2 ^ 60 * j.natAbs := Nat.mul_le_mul_right _ (Nat.le_of_lt hi)
    _ < 2 ^ 60 * 2 ^ 60 := Nat.mul_lt_mul_of_pos_left hj (by decide)
    _ = 2 ^ 120 := by decide
theorem s60 {i : Int} (h : i.natAbs < 2 ^ 60) : small i := by unfold small; omega
theorem s120 {i : Int} (h : i.natAbs < 2 ^ 120) : small i := by unfold small; omega
section
variable {t m t' m' : Int} (r : Red t m) (r' : Red t' m')
include r r'
theorem mm_ne : m * m' ≠ 0 := by
  have := Int.mul_pos r.pos r'.pos
  omega
theorem mm_small : small (m * m') := s120 (sm_mul r.sm r'.sm)
theorem summed_ok (n b : Nat) (S : Store) : runP prog (n + 2) "summed" b [qD t m, qD t' m'] S = .ok (qD (nt (t * m' + t' * m) (m * m')) (nm (t * m' + t' * m) (m * m')), false) S := by
  rw [run_end (F := ir_summed) rfl rfl rfl rfl rfl]
  simp [ir_summed, evB, evS.eq_1, evS.eq_2, evS.eq_4, evS.eq_5, evS_for, evS.eq_8, evS.eq_9, evS.eq_10, evS.eq_12, evS.eq_13, evS.eq_14, evS.eq_15, ev, evEs, evO, evTO, evG, evGs, fin_f, fin_t, bindOk, bindErr, of_some, asB_ok, endC_ret, endC_nx, cmpD, eqD, ordD, isD, isNon, callD, lenD, binD, addD, intD, unD, truD, ixD, seqOf, isAny, isOne, tagOf, tagIs, askTys, List.map, List.replicate, List.cons_append, List.nil_append, List.getElem?_cons_zero, List.getElem?_cons_succ, Option.bind_some, id_eq, List.set_cons_zero, List.set_cons_succ, Option.map_some, List.length_cons, List.length_nil, if_true, Bool.not_true, Bool.not_false, Bool.false_eq_true, if_false, Bool.true_and, Bool.and_true, mulD, atI0, atI1, mul_ok (s60 r.st) (s60 r'.sm), mul_ok (s60 r'.st) (s60 r.sm), mul_ok (s60 r.sm) (s60 r'.sm), lowest_ok _ _ _ (mm_ne r r') (mm_small r r')]
  rw [finP_eq rfl rfl rfl rfl]
theorem lessened_ok (n b : Nat) (S : Store) : runP prog (n + 2) "lessened" b [qD t m, qD t' m'] S = .ok (qD (nt (t * m' - t' * m) (m * m')) (nm (t * m' - t' * m) (m * m')), false) S := by
  rw [run_end (F := ir_lessened) rfl rfl rfl rfl rfl]
  simp [ir_lessened, evB, evS.eq_1, evS.eq_2, evS.eq_4, evS.eq_5, evS_for, evS.eq_8, evS.eq_9, evS.eq_10, evS.eq_12, evS.eq_13, evS.eq_14, evS.eq_15, ev, evEs, evO, evTO, evG, evGs, fin_f, fin_t, bindOk, bindErr, of_some, asB_ok, endC_ret, endC_nx, cmpD, eqD, ordD, isD, isNon, callD, lenD, binD, addD, intD, unD, truD, ixD, seqOf, isAny, isOne, tagOf, tagIs, askTys, List.map, List.replicate, List.cons_append, List.nil_append, List.getElem?_cons_zero, List.getElem?_cons_succ, Option.bind_some, id_eq, List.set_cons_zero, List.set_cons_succ, Option.map_some, List.length_cons, List.length_nil, if_true, Bool.not_true, Bool.not_false, Bool.false_eq_true, if_false, Bool.true_and, Bool.and_true, mulD, atI0, atI1, mul_ok (s60 r.st) (s60 r'.sm), mul_ok (s60 r'.st) (s60 r.sm), mul_ok (s60 r.sm) (s60 r'.sm), lowest_ok _ _ _ (mm_ne r r') (mm_small r r')]
  rw [finP_eq rfl rfl rfl rfl]
theorem scaled_ok (n b : Nat) (S : Store) : runP prog (n + 2) "scaled" b [qD t m, qD t' m'] S = .ok (qD (nt (t * t') (m * m')) (nm (t * t') (m * m')), false) S := by
  rw [run_end (F := ir_scaled) rfl rfl rfl rfl rfl]
  simp [ir_scaled, evB, evS.eq_1, evS.eq_2, evS.eq_4, evS.eq_5, evS_for, evS.eq_8, evS.eq_9, evS.eq_10, evS.eq_12, evS.eq_13, evS.eq_14, evS.eq_15, ev, evEs, evO, evTO, evG, evGs, fin_f, fin_t, bindOk, bindErr, of_some, asB_ok, endC_ret, endC_nx, cmpD, eqD, ordD, isD, isNon, callD, lenD, binD, addD, intD, unD, truD, ixD, seqOf, isAny, isOne, tagOf, tagIs, askTys, List.map, List.replicate, List.cons_append, List.nil_append, List.getElem?_cons_zero, List.getElem?_cons_succ, Option.bind_some, id_eq, List.set_cons_zero, List.set_cons_succ, Option.map_some, List.length_cons, List.length_nil, if_true, Bool.not_true, Bool.not_false, Bool.false_eq_true, if_false, Bool.true_and, Bool.and_true, mulD, atI0, atI1, mul_ok (s60 r.st) (s60 r'.st), mul_ok (s60 r.sm) (s60 r'.sm), lowest_ok _ _ _ (mm_ne r r') (mm_small r r')]
  rw [finP_eq rfl rfl rfl rfl]
theorem mt_ne (h : t' ≠ 0) : m * t' ≠ 0 := Int.mul_ne_zero (by have := r.pos; omega) h
theorem parted_ok (n b : Nat) (S : Store) (h : t' ≠ 0) : runP prog (n + 2) "parted" b [qD t m, qD t' m'] S = .ok (qD (nt (t * m') (m * t')) (nm (t * m') (m * t')), false) S := by
  rw [run_end (F := ir_parted) rfl rfl rfl rfl rfl]
  simp [ir_parted, evB, evS.eq_1, evS.eq_2, evS.eq_4, evS.eq_5, evS_for, evS.eq_8, evS.eq_9, evS.eq_10, evS.eq_12, evS.eq_13, evS.eq_14, evS.eq_15, ev, evEs, evO, evTO, evG, evGs, fin_f, fin_t, bindOk, bindErr, of_some, asB_ok, endC_ret, endC_nx, cmpD, eqD, ordD, isD, isNon, callD, lenD, binD, addD, intD, unD, truD, ixD, seqOf, isAny, isOne, tagOf, tagIs, askTys, List.map, List.replicate, List.cons_append, List.nil_append, List.getElem?_cons_zero, List.getElem?_cons_succ, Option.bind_some, id_eq, List.set_cons_zero, List.set_cons_succ, Option.map_some, List.length_cons, List.length_nil, if_true, Bool.not_true, Bool.not_false, Bool.false_eq_true, if_false, Bool.true_and, Bool.and_true, mulD, atI0, atI1, mul_ok (s60 r.st) (s60 r'.sm), mul_ok (s60 r.sm) (s60 r'.st), lowest_ok _ _ _ (mt_ne r r' h) (s120 (sm_mul r.sm r'.st))]
  rw [finP_eq rfl rfl rfl rfl]
theorem below_ok (n b : Nat) (S : Store) : runP prog (n + 1) "below" b [qD t m, qD t' m'] S = .ok (.bl (decide (t * m' < t' * m)), false) S := by
  rw [run_end (F := ir_below) rfl rfl rfl rfl rfl]
  simp [ir_below, evB, evS.eq_1, evS.eq_2, evS.eq_4, evS.eq_5, evS_for, evS.eq_8, evS.eq_9, evS.eq_10, evS.eq_12, evS.eq_13, evS.eq_14, evS.eq_15, ev, evEs, evO, evTO, evG, evGs, fin_f, fin_t, bindOk, bindErr, of_some, asB_ok, endC_ret, endC_nx, cmpD, eqD, ordD, isD, isNon, callD, lenD, binD, addD, intD, unD, truD, ixD, seqOf, isAny, isOne, tagOf, tagIs, askTys, List.map, List.replicate, List.cons_append, List.nil_append, List.getElem?_cons_zero, List.getElem?_cons_succ, Option.bind_some, id_eq, List.set_cons_zero, List.set_cons_succ, Option.map_some, List.length_cons, List.length_nil, if_true, Bool.not_true, Bool.not_false, Bool.false_eq_true, if_false, Bool.true_and, Bool.and_true, mulD, atI0, atI1, mul_ok (s60 r.st) (s60 r'.sm), mul_ok (s60 r'.st) (s60 r.sm)]
  rw [finP_eq rfl rfl rfl rfl]
variable {d d' : D} (h : Hd t m d) (h' : Hd t' m' d')
include h h'
theorem plus_ok (n b : Nat) (S : Store) : runP prog (n + 4) "plus" b [d, d'] S = .ok (qD (nt (t * m' + t' * m) (m * m')) (nm (t * m' + t' * m) (m * m')), false) S := by
  rw [run_end (F := ir_plus) rfl rfl rfl rfl rfl]
  simp [ir_plus, evB, evS.eq_1, evS.eq_2, evS.eq_4, evS.eq_5, evS_for, evS.eq_8, evS.eq_9, evS.eq_10, evS.eq_12, evS.eq_13, evS.eq_14, evS.eq_15, ev, evEs, evO, evTO, evG, evGs, fin_f, fin_t, bindOk, bindErr, of_some, asB_ok, endC_ret, endC_nx, cmpD, eqD, ordD, isD, isNon, callD, lenD, binD, addD, intD, unD, truD, ixD, seqOf, isAny, isOne, tagOf, tagIs, askTys, List.map, List.replicate, List.cons_append, List.nil_append, List.getElem?_cons_zero, List.getElem?_cons_succ, Option.bind_some, id_eq, List.set_cons_zero, List.set_cons_succ, Option.map_some, List.length_cons, List.length_nil, if_true, Bool.not_true, Bool.not_false, Bool.false_eq_true, if_false, Bool.true_and, Bool.and_true, told_ok _ _ r h, told_ok _ _ r' h', summed_ok r r']
  rw [finP_eq rfl rfl rfl rfl]
theorem minus_ok (n b : Nat) (S : Store) : runP prog (n + 4) "minus" b [d, d'] S = .ok (qD (nt (t * m' - t' * m) (m * m')) (nm (t * m' - t' * m) (m * m')), false) S := by
  rw [run_end (F := ir_minus) rfl rfl rfl rfl rfl]
  simp [ir_minus, evB, evS.eq_1, evS.eq_2, evS.eq_4, evS.eq_5, evS_for, evS.eq_8, evS.eq_9, evS.eq_10, evS.eq_12, evS.eq_13, evS.eq_14, evS.eq_15, ev, evEs, evO, evTO, evG, evGs, fin_f, fin_t, bindOk, bindErr, of_some, asB_ok, endC_ret, endC_nx, cmpD, eqD, ordD, isD, isNon, callD, lenD, binD, addD, intD, unD, truD, ixD, seqOf, isAny, isOne, tagOf, tagIs, askTys, List.map, List.replicate, List.cons_append, List.nil_append, List.getElem?_cons_zero, List.getElem?_cons_succ, Option.bind_some, id_eq, List.set_cons_zero, List.set_cons_succ, Option.map_some, List.length_cons, List.length_nil, if_true, Bool.not_true, Bool.not_false, Bool.false_eq_true, if_false, Bool.true_and, Bool.and_true, told_ok _ _ r h, told_ok _ _ r' h', lessened_ok r r']
  rw [finP_eq rfl rfl rfl rfl]
theorem times_ok (n b : Nat) (S : Store) : runP prog (n + 4) "times" b [d, d'] S = .ok (qD (nt (t * t') (m * m')) (nm (t * t') (m * m')), false) S := by
  rw [run_end (F := ir_times) rfl rfl rfl rfl rfl]
  simp [ir_times, evB, evS.eq_1, evS.eq_2, evS.eq_4, evS.eq_5, evS_for, evS.eq_8, evS.eq_9, evS.eq_10, evS.eq_12, evS.eq_13, evS.eq_14, evS.eq_15, ev, evEs, evO, evTO, evG, evGs, fin_f, fin_t, bindOk, bindErr, of_some, asB_ok, endC_ret, endC_nx, cmpD, eqD, ordD, isD, isNon, callD, lenD, binD, addD, intD, unD, truD, ixD, seqOf, isAny, isOne, tagOf, tagIs, askTys, List.map, List.replicate, List.cons_append, List.nil_append, List.getElem?_cons_zero, List.getElem?_cons_succ, Option.bind_some, id_eq, List.set_cons_zero, List.set_cons_succ, Option.map_some, List.length_cons, List.length_nil, if_true, Bool.not_true, Bool.not_false, Bool.false_eq_true, if_false, Bool.true_and, Bool.and_true, told_ok _ _ r h, told_ok _ _ r' h', scaled_ok r r']
  rw [finP_eq rfl rfl rfl rfl]
theorem less_ok (n b : Nat) (S : Store) : runP prog (n + 4) "less" b [d, d'] S = .ok (.bl (decide (t * m' < t' * m)), false) S := by
  rw [run_end (F := ir_less) rfl rfl rfl rfl rfl]
  simp [ir_less, evB, evS.eq_1, evS.eq_2, evS.eq_4, evS.eq_5, evS_for, evS.eq_8, evS.eq_9, evS.eq_10, evS.eq_12, evS.eq_13, evS.eq_14, evS.eq_15, ev, evEs, evO, evTO, evG, evGs, fin_f, fin_t, bindOk, bindErr, of_some, asB_ok, endC_ret, endC_nx, cmpD, eqD, ordD, isD, isNon, callD, lenD, binD, addD, intD, unD, truD, ixD, seqOf, isAny, isOne, tagOf, tagIs, askTys, List.map, List.replicate, List.cons_append, List.nil_append, List.getElem?_cons_zero, List.getElem?_cons_succ, Option.bind_some, id_eq, List.set_cons_zero, List.set_cons_succ, Option.map_some, List.length_cons, List.length_nil, if_true, Bool.not_true, Bool.not_false, Bool.false_eq_true, if_false, Bool.true_and, Bool.and_true, told_ok _ _ r h, told_ok _ _ r' h', below_ok r r']
  rw [finP_eq rfl rfl rfl rfl]
theorem share_ok (n b : Nat) (S : Store) (h0 : t' ≠ 0) : runP prog (n + 4) "share" b [d, d'] S = .ok (qD (nt (t * m') (m * t')) (nm (t * m') (m * t')), false) S := by
  rw [run_end (F := ir_share) rfl rfl rfl rfl rfl]
  simp [ir_share, evB, evS.eq_1, evS.eq_2, evS.eq_4, evS.eq_5, evS_for, evS.eq_8, evS.eq_9, evS.eq_10, evS.eq_12, evS.eq_13, evS.eq_14, evS.eq_15, ev, evEs, evO, evTO, evG, evGs, fin_f, fin_t, bindOk, bindErr, of_some, asB_ok, endC_ret, endC_nx, cmpD, eqD, ordD, isD, isNon, callD, lenD, binD, addD, intD, unD, truD, ixD, seqOf, isAny, isOne, tagOf, tagIs, askTys, List.map, List.replicate, List.cons_append, List.nil_append, List.getElem?_cons_zero, List.getElem?_cons_succ, Option.bind_some, id_eq, List.set_cons_zero, List.set_cons_succ, Option.map_some, List.length_cons, List.length_nil, if_true, Bool.not_true, Bool.not_false, Bool.false_eq_true, if_false, Bool.true_and, Bool.and_true, told_ok _ _ r h, told_ok _ _ r' h', atI0, h0, parted_ok r r' _ _ _ h0]
  rw [finP_eq rfl rfl rfl rfl]
end
def isL : D → Bool
  | .lst _ => true
  | _ => false
theorem ratio_ok {t m : Int} (r : Red t m) {d : D} (h : Hd t m d) (n b : Nat) (S : Store) : runP prog (n + 3) "is_ratio" b [d] S = .ok (.bl (!isL d), false) S := by
  rw [run_end (F := ir_is_ratio) rfl rfl (by rfl) rfl rfl]
  cases h with
  | int e =>
    simp [ir_is_ratio, evB, evS.eq_1, evS.eq_2, evS.eq_4, evS.eq_5, evS_for, evS.eq_8, evS.eq_9, evS.eq_10, evS.eq_12, evS.eq_13, evS.eq_14, evS.eq_15, ev, evEs, evO, evTO, evG, evGs, fin_f, fin_t, bindOk, bindErr, of_some, asB_ok, endC_ret, endC_nx, cmpD, eqD, ordD, isD, isNon, callD, lenD, binD, addD, intD, unD, truD, ixD, seqOf, isAny, isOne, tagOf, tagIs, askTys, List.map, List.replicate, List.cons_append, List.nil_append, List.getElem?_cons_zero, List.getElem?_cons_succ, Option.bind_some, id_eq, List.set_cons_zero, List.set_cons_succ, Option.map_some, List.length_cons, List.length_nil, if_true, Bool.not_true, Bool.not_false, Bool.false_eq_true, if_false, Bool.true_and, Bool.and_true, whole_int, isL]
    rw [finP_eq rfl rfl rfl rfl]
  | tup k h0 h5 =>
    have hpk : 0 < m * k := Int.mul_pos r.pos h0
    simp [ir_is_ratio, evB, evS.eq_1, evS.eq_2, evS.eq_4, evS.eq_5, evS_for, evS.eq_8, evS.eq_9, evS.eq_10, evS.eq_12, evS.eq_13, evS.eq_14, evS.eq_15, ev, evEs, evO, evTO, evG, evGs, fin_f, fin_t, bindOk, bindErr, of_some, asB_ok, endC_ret, endC_nx, cmpD, eqD, ordD, isD, isNon, callD, lenD, binD, addD, intD, unD, truD, ixD, seqOf, isAny, isOne, tagOf, tagIs, askTys, List.map, List.replicate, List.cons_append, List.nil_append, List.getElem?_cons_zero, List.getElem?_cons_succ, Option.bind_some, id_eq, List.set_cons_zero, List.set_cons_succ, Option.map_some, List.length_cons, List.length_nil, if_true, Bool.not_true, Bool.not_false, Bool.false_eq_true, if_false, Bool.true_and, Bool.and_true, whole_tup, pair_tup, hpk, isL]
    rw [finP_eq rfl rfl rfl rfl]
  | lst k h0 h5 =>
    simp [ir_is_ratio, evB, evS.eq_1, evS.eq_2, evS.eq_4, evS.eq_5, evS_for, evS.eq_8, evS.eq_9, evS.eq_10, evS.eq_12, evS.eq_13, evS.eq_14, evS.eq_15, ev, evEs, evO, evTO, evG, evGs, fin_f, fin_t, bindOk, bindErr, of_some, asB_ok, endC_ret, endC_nx, cmpD, eqD, ordD, isD, isNon, callD, lenD, binD, addD, intD, unD, truD, ixD, seqOf, isAny, isOne, tagOf, tagIs, askTys, List.map, List.replicate, List.cons_append, List.nil_append, List.getElem?_cons_zero, List.getElem?_cons_succ, Option.bind_some, id_eq, List.set_cons_zero, List.set_cons_succ, Option.map_some, List.length_cons, List.length_nil, if_true, Bool.not_true, Bool.not_false, Bool.false_eq_true, if_false, Bool.true_and, Bool.and_true, whole_lst, isL, lstOf]
    rw [finP_eq rfl rfl rfl rfl]
end K02
end

section
namespace K02
open Pi PySem
/-- one lap of the law's own gcd -/
abbrev gcdBody (n b : Nat) : D → Slots → Store → R (Fl × Slots) := bodyL (runP prog n) b (.var 2) [.iff (.cmp .Eq (.var 1) (.con (.int 0))) [.brk] [],
  .assign (.tup [(.var 0), (.var 1)]) (.tup [(.var 1), (.bin .Mod (.bi .int [(.var 0)]) (.var 1))])]
theorem lap_zero (n b : Nat) (a : Int) (x : D) (l : Option D) (S : Store) : gcdBody n b x [some (.int a), some (.int ((0 : Nat) : Int)), l] S = .ok (.brk, [some (.int a), some (.int ((0 : Nat) : Int)), some x]) S := by
  simp [gcdBody, bodyL, evB, evS.eq_1, evS.eq_2, evS.eq_4, evS.eq_5, evS_for, evS.eq_8, evS.eq_9, evS.eq_10, evS.eq_12, evS.eq_13, evS.eq_14, evS.eq_15, ev, evEs, evO, evTO, evG, evGs, fin_f, fin_t, bindOk, bindErr, of_some, asB_ok, endC_ret, endC_nx, cmpD, eqD, ordD, isD, isNon, callD, lenD, binD, addD, intD, unD, truD, ixD, seqOf, isAny, isOne, tagOf, tagIs, askTys, List.map, List.replicate, List.cons_append, List.nil_append, List.getElem?_cons_zero, List.getElem?_cons_succ, Option.bind_some, id_eq, List.set_cons_zero, List.set_cons_succ, Option.map_some, List.length_cons, List.length_nil, if_true, Bool.not_true, Bool.not_false, Bool.false_eq_true, if_false, Bool.true_and, Bool.and_true]
theorem lap_step (n b : Nat) (a c : Nat) (h : c ≠ 0) (x : D) (l : Option D) (S : Store) : gcdBody n b x [some (.int a), some (.int c), l] S = .ok (.nx, [some (.int c), some (.int ((a % c : Nat) : Int)), some x]) S := by
  have h' : ((c : Nat) : Int) ≠ 0 := by omega
  simp [gcdBody, bodyL, evB, evS.eq_1, evS.eq_2, evS.eq_4, evS.eq_5, evS_for, evS.eq_8, evS.eq_9, evS.eq_10, evS.eq_12, evS.eq_13, evS.eq_14, evS.eq_15, ev, evEs, evO, evTO, evG, evGs, fin_f, fin_t, bindOk, bindErr, of_some, asB_ok, endC_ret, endC_nx, cmpD, eqD, ordD, isD, isNon, callD, lenD, binD, addD, intD, unD, truD, ixD, seqOf, isAny, isOne, tagOf, tagIs, askTys, List.map, List.replicate, List.cons_append, List.nil_append, List.getElem?_cons_zero, List.getElem?_cons_succ, Option.bind_some, id_eq, List.set_cons_zero, List.set_cons_succ, Option.map_some, List.length_cons, List.length_nil, if_true, Bool.not_true, Bool.not_false, Bool.false_eq_true, if_false, Bool.true_and, Bool.and_true, h', h]
  exact Int.fmod_eq_emod_of_nonneg _ (Int.natCast_nonneg _)
theorem gcd_loop (n b : Nat) (S : Store) : ∀ (k : Nat) (a c : Nat) (xs : List D) (l : Option D), c < 2 ^ k → 2 * k + 1 ≤ xs.length → ∃ e1 e2, loopL none none (gcdBody n b) xs [some (.int a), some (.int c), l] S = .ok (.nx, [some (.int ((Nat.gcd a c : Nat) : Int)), e1, e2]) S
  | 0, a, c, xs, l, hc, hl => by
    have : c = 0 := by omega
    subst this
    cases xs with
    | nil => simp at hl
    | cons x xs =>
      rw [Nat.gcd_zero_right]
      exact ⟨_, _, loop_brk (lap_zero n b a x l S)⟩
  | k + 1, a, c, xs, l, hc, hl => by
    cases xs with
    | nil => simp at hl
    | cons x xs =>
      by_cases h0 : c = 0
      · subst h0
        rw [Nat.gcd_zero_right]
        exact ⟨_, _, loop_brk (lap_zero n b a x l S)⟩
      · cases xs with
        | nil => simp at hl
        | cons y ys =>
          rw [loop_nx (lap_step n b a c h0 x l S)]
          by_cases h1 : a % c = 0
          · have hg : Nat.gcd a c = c := by
              rw [Nat.gcd_comm, Nat.gcd_rec, h1, Nat.gcd_zero_left]
            rw [h1, hg]
            exact ⟨_, _, loop_brk (lap_zero n b c y (some x) S)⟩
          · have hlt : a % c < c := Nat.mod_lt _ (by omega)
            have h2 : c % (a % c) < 2 ^ k := by
              have q1 : c % (a % c) < a % c := Nat.mod_lt _ (by omega)
              have q2 := Nat.mod_add_div c (a % c)
              have q3 : 1 ≤ c / (a % c) := (Nat.one_le_div_iff (by omega)).mpr (Nat.le_of_lt hlt)
              have q4 : a % c ≤ (a % c) * (c / (a % c)) := Nat.le_mul_of_pos_right _ q3
              have : 2 ^ (k + 1) = 2 * 2 ^ k := by rw [Nat.pow_succ]; omega
              omega
            have hg : Nat.gcd (a % c) (c % (a % c)) = Nat.gcd a c := by
              rw [Nat.gcd_comm (a % c), ← Nat.gcd_rec, ← Nat.gcd_rec, Nat.gcd_comm]
            rw [loop_nx (lap_step n b c (a % c) h1 y (some x) S), ← hg]
            exact gcd_loop n b S k (a % c) (c % (a % c)) ys (some y) h2 (by simp at hl; omega)
theorem bits_lt {x : Int} : x.natAbs < 2 ^ Builtin.Int.intBits x := by
  unfold Builtin.Int.intBits
  split
  · rename_i h
    have : x = 0 := by simpa using h
    subst this; decide
  · exact Nat.lt_log2_self
theorem bits_le {x : Int} (h : small x) : Builtin.Int.intBits x ≤ 201 := by
  unfold small at h
  unfold Builtin.Int.intBits
  split
  · omega
  · rename_i h0
    have h1 : x.natAbs ≠ 0 := by
      intro z
      have : x = 0 := by omega
      subst this; simp at h0
    have := (Nat.log2_lt h1).mpr h
    omega
theorem lgcd_ok (n b : Nat) {t m : Int} (hm : small m) (S : Store) : runP prog (n + 1) "_law_gcd" b [.int t, .int m] S = .ok (.int (Nat.gcd t.natAbs m.natAbs : Nat), false) S := by
  rw [run_end (F := ir__law_gcd) rfl rfl rfl rfl rfl]
  have ea : ∀ x : Int, (if x < 0 then -x else x) = ((x.natAbs : Nat) : Int) := fun x => by split <;> omega
  have hb : small ((m.natAbs : Nat) : Int) := by unfold small at *; simpa using hm
  have hbl := bits_le hb
  have mo : mulOk 2 ((Builtin.Int.intBits ((m.natAbs : Nat) : Int) : Nat) : Int) = true := by
    unfold mulOk
    have : Builtin.Int.intBits 2 ≤ 64 := by decide
    simp [this]
  have r1 : -(2 ^ 62 : Int) ≤ 4 + 2 * ((Builtin.Int.intBits ((m.natAbs : Nat) : Int) : Nat) : Int) := by omega
  have r2 : 4 + 2 * ((Builtin.Int.intBits ((m.natAbs : Nat) : Int) : Nat) : Int) < (2 ^ 62 : Int) := by omega
  obtain ⟨e1, e2, hl⟩ := gcd_loop n S.length S (Builtin.Int.intBits ((m.natAbs : Nat) : Int)) t.natAbs m.natAbs (rangeL 0 (4 + 2 * ((Builtin.Int.intBits ((m.natAbs : Nat) : Int) : Nat) : Int))) none (by have := bits_lt (x := ((m.natAbs : Nat) : Int)); simpa using this) (by unfold rangeL; simp; omega)
  rw [show ir__law_gcd.body = [_, _, _] from rfl]
  rw [evB_cons (env' := [some (.int (t.natAbs : Nat)), some (.int (m.natAbs : Nat)), none]) (S' := S) (by simp only [evB, evS.eq_1, evS.eq_2, evS.eq_4, evS.eq_5, evS_for, evS.eq_8, evS.eq_9, evS.eq_10, evS.eq_12, evS.eq_13, evS.eq_14, evS.eq_15, ev, evEs, evO, evTO, evG, evGs, fin_f, fin_t, bindOk, bindErr, of_some, asB_ok, endC_ret, endC_nx, cmpD, eqD, ordD, isD, isNon, callD, lenD, binD, addD, intD, unD, truD, ixD, seqOf, isAny, isOne, tagOf, tagIs, askTys, List.map, List.replicate, List.cons_append, List.nil_append, List.getElem?_cons_zero, List.getElem?_cons_succ, Option.bind_some, id_eq, List.set_cons_zero, List.set_cons_succ, Option.map_some, List.length_cons, List.length_nil, if_true, Bool.not_true, Bool.not_false, Bool.false_eq_true, if_false, Bool.true_and, Bool.and_true, ea, Nat.reduceSub, ir__law_gcd]; rfl)]
  rw [evB_cons (env' := [some (.int ((Nat.gcd t.natAbs m.natAbs : Nat) : Int)), e1, e2]) (S' := S) ?_]
  · rw [evB_ret (d := .int ((Nat.gcd t.natAbs m.natAbs : Nat) : Int)) (fr := false) (env' := [some (.int ((Nat.gcd t.natAbs m.natAbs : Nat) : Int)), e1, e2]) (S' := S) rfl]
    rw [endC_ret, finP_eq rfl rfl rfl rfl]
  · rw [for_range (i := 4 + 2 * ((Builtin.Int.intBits ((m.natAbs : Nat) : Int) : Nat) : Int)) (S' := S) ?_ r1 r2]
    · exact hl
    · simp only [evB, evS.eq_1, evS.eq_2, evS.eq_4, evS.eq_5, evS_for, evS.eq_8, evS.eq_9, evS.eq_10, evS.eq_12, evS.eq_13, evS.eq_14, evS.eq_15, ev, evEs, evO, evTO, evG, evGs, fin_f, fin_t, bindOk, bindErr, of_some, asB_ok, endC_ret, endC_nx, cmpD, eqD, ordD, isD, isNon, callD, lenD, binD, addD, intD, unD, truD, ixD, seqOf, isAny, isOne, tagOf, tagIs, askTys, List.map, List.replicate, List.cons_append, List.nil_append, List.getElem?_cons_zero, List.getElem?_cons_succ, Option.bind_some, id_eq, List.set_cons_zero, List.set_cons_succ, Option.map_some, List.length_cons, List.length_nil, if_true, Bool.not_true, Bool.not_false, Bool.false_eq_true, if_false, Bool.true_and, Bool.and_true, methD, mtOk, mulD, mo]
theorem lq_pos (κ : Calls) {t m : Int} (g : Nat) (S : Store) (hg : small ((g : Nat) : Int)) (gp : 0 < g) (hm : 0 < m) (hl : κ "_law_gcd" S.length [.int t, .int m] S = .ok (.int ((g : Nat) : Int), false) S) :
    endC ir__law_q S.length (evB κ S.length ir__law_q.body ([.int t, .int m].map some ++ List.replicate (ir__law_q.slots - ir__law_q.params) none) S) = .ok (qD (t.fdiv g) (m.fdiv g), false) S := by
  have e0 : ((g : Nat) : Int) ≠ 0 := by omega
  have hm' : ¬ m < 0 := by omega
  simp only [ir__law_q, evB, evS.eq_1, evS.eq_2, evS.eq_4, evS.eq_5, evS_for, evS.eq_8, evS.eq_9, evS.eq_10, evS.eq_12, evS.eq_13, evS.eq_14, evS.eq_15, ev, evEs, evO, evTO, evG, evGs, fin_f, fin_t, bindOk, bindErr, of_some, asB_ok, endC_ret, endC_nx, cmpD, eqD, ordD, isD, isNon, callD, lenD, binD, addD, intD, unD, truD, ixD, seqOf, isAny, isOne, tagOf, tagIs, askTys, List.map, List.replicate, List.cons_append, List.nil_append, List.getElem?_cons_zero, List.getElem?_cons_succ, Option.bind_some, id_eq, List.set_cons_zero, List.set_cons_succ, Option.map_some, List.length_cons, List.length_nil, if_true, Bool.not_true, Bool.not_false, Bool.false_eq_true, if_false, Bool.true_and, Bool.and_true, hl, hm, hm', decide_false, e0, pyl hg, or_self, Nat.reduceLeDiff, Nat.reduceAdd, Nat.reduceSub]
  rw [finP_eq rfl rfl rfl rfl]
theorem lq_neg (κ : Calls) {t m : Int} (g : Nat) (S : Store) (hg : small (-((g : Nat) : Int))) (gp : 0 < g) (hm : m < 0) (hl : κ "_law_gcd" S.length [.int t, .int m] S = .ok (.int ((g : Nat) : Int), false) S) :
    endC ir__law_q S.length (evB κ S.length ir__law_q.body ([.int t, .int m].map some ++ List.replicate (ir__law_q.slots - ir__law_q.params) none) S) = .ok (qD (t.fdiv (-(g : Int))) (m.fdiv (-(g : Int))), false) S := by
  have e0 : (-(g : Nat) : Int) ≠ 0 := by omega
  simp only [ir__law_q, evB, evS.eq_1, evS.eq_2, evS.eq_4, evS.eq_5, evS_for, evS.eq_8, evS.eq_9, evS.eq_10, evS.eq_12, evS.eq_13, evS.eq_14, evS.eq_15, ev, evEs, evO, evTO, evG, evGs, fin_f, fin_t, bindOk, bindErr, of_some, asB_ok, endC_ret, endC_nx, cmpD, eqD, ordD, isD, isNon, callD, lenD, binD, addD, intD, unD, truD, ixD, seqOf, isAny, isOne, tagOf, tagIs, askTys, List.map, List.replicate, List.cons_append, List.nil_append, List.getElem?_cons_zero, List.getElem?_cons_succ, Option.bind_some, id_eq, List.set_cons_zero, List.set_cons_succ, Option.map_some, List.length_cons, List.length_nil, if_true, Bool.not_true, Bool.not_false, Bool.false_eq_true, if_false, Bool.true_and, Bool.and_true, hl, hm, decide_true, e0, pyl hg, or_self, Nat.reduceLeDiff, Nat.reduceAdd, Nat.reduceSub]
  rw [finP_eq rfl rfl rfl rfl]
theorem lq_run (n b : Nat) {t m : Int} (S : Store) : runP prog (n + 2) "_law_q" b [.int t, .int m] S = endC ir__law_q S.length (evB (runP prog (n + 1)) S.length ir__law_q.body ([.int t, .int m].map some ++ List.replicate (ir__law_q.slots - ir__law_q.params) none) S) := by
  rw [run_end (F := ir__law_q) rfl rfl rfl rfl rfl]
theorem lq_ok (n b : Nat) {t m : Int} (S : Store) (h0 : m ≠ 0) (hs : small m) : runP prog (n + 2) "_law_q" b [.int t, .int m] S = .ok (qD (nt t m) (nm t m), false) S := by
  have hg := gcd_small (t := t) hs h0
  have gp : 0 < Nat.gcd t.natAbs m.natAbs := Nat.gcd_pos_of_pos_right _ (by omega)
  rw [lq_run]
  by_cases hm : 0 < m
  · rw [lq_pos (runP prog (n + 1)) (Nat.gcd t.natAbs m.natAbs) S hg gp hm (lgcd_ok n S.length hs S)]
    have e1 : nt t m = t.fdiv ((Nat.gcd t.natAbs m.natAbs : Nat) : Int) := if_pos hm
    have e2 : nm t m = m.fdiv ((Nat.gcd t.natAbs m.natAbs : Nat) : Int) := if_pos hm
    rw [e1, e2]
  · rw [lq_neg (runP prog (n + 1)) (Nat.gcd t.natAbs m.natAbs) S (by unfold small at *; simpa using hg) gp (by omega) (lgcd_ok n S.length hs S)]
    have e1 : nt t m = t.fdiv (-((Nat.gcd t.natAbs m.natAbs : Nat) : Int)) := if_neg hm
    have e2 : nm t m = m.fdiv (-((Nat.gcd t.natAbs m.natAbs : Nat) : Int)) := if_neg hm
    rw [e1, e2]
end K02
end

section
/-! K02d: draws. -/
namespace K02
open Pi PySem
def pen (ns : List Int) (at_ dg ct fd : Int) : Cell := .dct [.inr "cells", .inr "at", .inr "digits", .inr "count", .inr "fold"] [.lst (ns.map D.int), .int at_, .int dg, .int ct, .int fd]
section
variable {ns : List Int} {at_ dg ct fd x : Int}
theorem ix_cells : ixD [pen ns at_ dg ct fd] (.obj 0) (.str "cells") = some (.lst (ns.map D.int)) := rfl
theorem ix_at : ixD [pen ns at_ dg ct fd] (.obj 0) (.str "at") = some (.int at_) := rfl
theorem ix_digits : ixD [pen ns at_ dg ct fd] (.obj 0) (.str "digits") = some (.int dg) := rfl
theorem ix_count : ixD [pen ns at_ dg ct fd] (.obj 0) (.str "count") = some (.int ct) := rfl
theorem ix_fold : ixD [pen ns at_ dg ct fd] (.obj 0) (.str "fold") = some (.int fd) := rfl
theorem set_at : setAt [pen ns at_ dg ct fd] 0 (.str "at") (.int x) = some [pen ns x dg ct fd] := rfl
theorem set_digits : setAt [pen ns at_ dg ct fd] 0 (.str "digits") (.int x) = some [pen ns at_ x ct fd] := rfl
theorem set_count : setAt [pen ns at_ dg ct fd] 0 (.str "count") (.int x) = some [pen ns at_ dg x fd] := rfl
theorem set_fold : setAt [pen ns at_ dg ct fd] 0 (.str "fold") (.int x) = some [pen ns at_ dg ct x] := rfl
theorem len_cells {S : Store} : callD .len S [.lst (ns.map D.int)] = some (.int (ns.length : Nat)) := by
  simp [callD, lenD, seqOf]
theorem int_int {S : Store} : callD .int S [.int x] = some (.int x) := rfl
end
def PenOk (k : Nat) (c : Cell) : Prop := ∃ ns at_ dg ct fd, c = pen ns at_ dg ct fd ∧ 0 ≤ at_ ∧ 0 ≤ dg ∧ 0 ≤ ct ∧ ct ≤ k ∧ 0 ≤ fd ∧ fd < 2 ^ 31
section
variable {S : Store} {i j : Int}
theorem bAdd : binD .Add S (.int i) (.int j) = some (.int (i + j)) := rfl
theorem bSub : binD .Sub S (.int i) (.int j) = some (.int (i - j)) := rfl
theorem bMul (h : mulOk i j = true) : binD .Mult S (.int i) (.int j) = some (.int (i * j)) := by simp [binD, mulD, h]
theorem bMod (h : j ≠ 0) : binD .Mod S (.int i) (.int j) = some (.int (i.fmod j)) := by simp [binD, intD, h]
theorem bDiv (h : j ≠ 0) (hs : small j) : binD .FloorDiv S (.int i) (.int j) = some (.int (i.fdiv j)) := by simp [binD, intD, h, pyl hs]
theorem bPow (h : i.natAbs < 2 ^ 64) : binD .Pow S (.int i) (.int 61) = some (.int (i ^ 61)) := by
  have e : (61 : Int).toNat = 61 := rfl
  simp [binD, intD, h, e]
theorem bTen : binD .Pow S (.int 10) (.int 18) = some (.int 1000000000000000000) := rfl
end
theorem mul_small {i : Int} (j : Int) (h : Builtin.Int.intBits j ≤ 64) : mulOk i j = true := by
  unfold mulOk
  simp [h]
theorem ix_cell (S : Store) (ns : List Int) {i : Int} (h0 : 0 ≤ i) (h1 : i < (ns.length : Nat)) : ∃ z, ixD S (.lst (ns.map D.int)) (.int i) = some (.int z) := by
  have hl : i.toNat < ns.length := by omega
  refine ⟨ns[i.toNat], ?_⟩
  show L2.atI (ns.map D.int) i = _
  unfold L2.atI L2.ixN
  rw [if_pos h0, List.length_map, if_pos h1]
  simp [hl]
/-- the end of a draw: the digit of what is kept, or of the blend -/
abbrev drawTail : List IS := [.iff (.cmp .Gt (.ix (.var 0) (.con (.str "digits"))) (.con (.int 0))) [.assign (.var 4) (.bin .Mod (.bi .int [(.ix (.var 0) (.con (.str "digits")))]) (.var 1)),
  .assign (.sub (.var 0) (.con (.str "digits"))) (.bin .FloorDiv (.ix (.var 0) (.con (.str "digits"))) (.var 1)),
  .ret (.var 4)] [],
  .assign (.var 2) (.bin .Add (.bin .Add (.ix (.var 0) (.con (.str "fold"))) (.bin .Mult (.ix (.var 0) (.con (.str "count"))) (.con (.int 5741)))) (.con (.int 167))),
  .ret (.bin .Mod (.bin .FloorDiv (.bi .int [(.bin .Mod (.bin .Pow (.var 2) (.con (.int 61))) (.con (.int 2305843009213693951)))]) (.con (.int 512))) (.var 1))]
theorem fmod_lt {i m : Int} (h : 0 < m) : 0 ≤ i.fmod m ∧ i.fmod m < m := ⟨Int.fmod_nonneg_of_pos _ h, Int.fmod_lt_of_pos _ h⟩
theorem tail_ok (κ : Calls) {m : Int} (hm : 0 < m) (hs : small m) {k : Nat} (hk : k < 2 ^ 20) {c : Cell} (h : PenOk k c) (e2 e3 e4 : Option D) : ∃ d c' env' fr, evB κ 1 drawTail [some (.obj 0), some (.int m), e2, e3, e4] [c] = .ok (.ret (.int d) fr, env') [c'] ∧ 0 ≤ d ∧ d < m ∧ PenOk k c' := by
  obtain ⟨ns, at_, dg, ct, fd, rfl, h1, h2, h3, h4, h5, h6⟩ := h
  have hm0 : m ≠ 0 := by omega
  by_cases hd : 0 < dg
  · refine ⟨dg.fmod m, pen ns at_ (dg.fdiv m) ct fd, [some (.obj 0), some (.int m), e2, e3, some (.int (dg.fmod m))], false, ?_, (fmod_lt hm).1, (fmod_lt hm).2, ⟨ns, at_, dg.fdiv m, ct, fd, rfl, h1, Int.fdiv_nonneg h2 (Int.le_of_lt hm), h3, h4, h5, h6⟩⟩
    simp only [drawTail, evB, evS.eq_1, evS.eq_2, evS.eq_4, evS.eq_5, evS_for, evS.eq_8, evS.eq_9, evS.eq_10, evS.eq_12, evS.eq_13, evS.eq_14, evS.eq_15, ev, evEs, evO, evTO, evG, evGs, fin_f, fin_t, bindOk, bindErr, of_some, asB_ok, endC_ret, endC_nx, cmpD, eqD, ordD, isD, isNon, unD, truD, isAny, isOne, tagOf, tagIs, askTys, List.replicate, List.cons_append, List.nil_append, List.getElem?_cons_zero, List.getElem?_cons_succ, Option.bind_some, id_eq, List.set_cons_zero, List.set_cons_succ, Option.map_some, List.length_cons, List.length_nil, if_true, Bool.not_true, Bool.not_false, Bool.false_eq_true, if_false, Bool.true_and, Bool.and_true, ix_digits, int_int, hd, decide_true, bMod hm0, bDiv hm0 hs, set_digits, wrOk, Nat.zero_lt_one, D.refsB]
    rfl
  · have hbl : (fd + ct * 5741 + 167).natAbs < 2 ^ 64 := by omega
    refine ⟨((((fd + ct * 5741 + 167) ^ 61).fmod 2305843009213693951).fdiv 512).fmod m, pen ns at_ dg ct fd, [some (.obj 0), some (.int m), some (.int (fd + ct * 5741 + 167)), e3, e4], true, ?_, (fmod_lt hm).1, (fmod_lt hm).2, ⟨ns, at_, dg, ct, fd, rfl, h1, h2, h3, h4, h5, h6⟩⟩
    generalize hB : fd + ct * 5741 + 167 = B at hbl
    simp only [drawTail, evB, evS.eq_1, evS.eq_2, evS.eq_4, evS.eq_5, evS_for, evS.eq_8, evS.eq_9, evS.eq_10, evS.eq_12, evS.eq_13, evS.eq_14, evS.eq_15, ev, evEs, evO, evTO, evG, evGs, fin_f, fin_t, bindOk, bindErr, of_some, asB_ok, endC_ret, endC_nx, cmpD, eqD, ordD, isD, isNon, unD, truD, isAny, isOne, tagOf, tagIs, askTys, List.replicate, List.cons_append, List.nil_append, List.getElem?_cons_zero, List.getElem?_cons_succ, Option.bind_some, id_eq, List.set_cons_zero, List.set_cons_succ, Option.map_some, List.length_cons, List.length_nil, if_true, Bool.not_true, Bool.not_false, Bool.false_eq_true, if_false, Bool.true_and, Bool.and_true, ix_digits, ix_fold, ix_count, int_int, hd, decide_false, bAdd, bMul (mul_small (i := ct) 5741 (by decide)), hB, bPow hbl]
    rw [bMod (by decide)]
    simp only [evB, evS.eq_1, evS.eq_2, evS.eq_4, evS.eq_5, evS_for, evS.eq_8, evS.eq_9, evS.eq_10, evS.eq_12, evS.eq_13, evS.eq_14, evS.eq_15, ev, evEs, evO, evTO, evG, evGs, fin_f, fin_t, bindOk, bindErr, of_some, asB_ok, endC_ret, endC_nx, cmpD, eqD, ordD, isD, isNon, unD, truD, isAny, isOne, tagOf, tagIs, askTys, List.replicate, List.cons_append, List.nil_append, List.getElem?_cons_zero, List.getElem?_cons_succ, Option.bind_some, id_eq, List.set_cons_zero, List.set_cons_succ, Option.map_some, List.length_cons, List.length_nil, if_true, Bool.not_true, Bool.not_false, Bool.false_eq_true, if_false, Bool.true_and, Bool.and_true, int_int]
    rw [bDiv (by decide) (by unfold small; decide)]
    simp only [evB, evS.eq_1, evS.eq_2, evS.eq_4, evS.eq_5, evS_for, evS.eq_8, evS.eq_9, evS.eq_10, evS.eq_12, evS.eq_13, evS.eq_14, evS.eq_15, ev, evEs, evO, evTO, evG, evGs, fin_f, fin_t, bindOk, bindErr, of_some, asB_ok, endC_ret, endC_nx, cmpD, eqD, ordD, isD, isNon, unD, truD, isAny, isOne, tagOf, tagIs, askTys, List.replicate, List.cons_append, List.nil_append, List.getElem?_cons_zero, List.getElem?_cons_succ, Option.bind_some, id_eq, List.set_cons_zero, List.set_cons_succ, Option.map_some, List.length_cons, List.length_nil, if_true, Bool.not_true, Bool.not_false, Bool.false_eq_true, if_false, Bool.true_and, Bool.and_true, bMod hm0]
    rfl
/-- the head of a draw: a number of the script is taken -/
abbrev drawHead : List IS := [.assign (.var 3) (.ix (.ix (.var 0) (.con (.str "cells"))) (.ix (.var 0) (.con (.str "at")))),
  .assign (.sub (.var 0) (.con (.str "at"))) (.bin .Add (.ix (.var 0) (.con (.str "at"))) (.con (.int 1))),
  .iff (.cmp .GtE (.var 3) (.bin .Pow (.con (.int 10)) (.con (.int 18)))) [.assign (.sub (.var 0) (.con (.str "digits"))) (.bin .Sub (.var 3) (.bin .Pow (.con (.int 10)) (.con (.int 18))))] [.assign (.sub (.var 0) (.con (.str "fold"))) (.bin .Mod (.bi .int [(.bin .Add (.bin .Mult (.ix (.var 0) (.con (.str "fold"))) (.con (.int 27017))) (.var 3))]) (.con (.int 2147482951)))]]
theorem head_ok (κ : Calls) {m : Int} {k : Nat} {ns : List Int} {at_ dg ct fd : Int} (h1 : 0 ≤ at_) (h2 : 0 ≤ dg) (h3 : 0 ≤ ct) (h4 : ct ≤ k) (h5 : 0 ≤ fd) (h6 : fd < 2 ^ 31) (hl : at_ < (ns.length : Nat)) : ∃ z c', evB κ 1 drawHead [some (.obj 0), some (.int m), none, none, none] [pen ns at_ dg ct fd] = .ok (.nx, [some (.obj 0), some (.int m), none, some (.int z), none]) [c'] ∧ PenOk k c' := by
  obtain ⟨z, hz⟩ := ix_cell [pen ns at_ dg ct fd] ns h1 hl
  by_cases hb : (1000000000000000000 : Int) ≤ z
  · refine ⟨z, pen ns (at_ + 1) (z - 1000000000000000000) ct fd, ?_, ⟨ns, _, _, ct, fd, rfl, by omega, by omega, h3, h4, h5, h6⟩⟩
    simp only [drawHead, evB, evS.eq_1, evS.eq_2, evS.eq_4, evS.eq_5, evS_for, evS.eq_8, evS.eq_9, evS.eq_10, evS.eq_12, evS.eq_13, evS.eq_14, evS.eq_15, ev, evEs, evO, evTO, evG, evGs, fin_f, fin_t, bindOk, bindErr, of_some, asB_ok, endC_ret, endC_nx, cmpD, eqD, ordD, isD, isNon, unD, truD, isAny, isOne, tagOf, tagIs, askTys, List.replicate, List.cons_append, List.nil_append, List.getElem?_cons_zero, List.getElem?_cons_succ, Option.bind_some, id_eq, List.set_cons_zero, List.set_cons_succ, Option.map_some, List.length_cons, List.length_nil, if_true, Bool.not_true, Bool.not_false, Bool.false_eq_true, if_false, Bool.true_and, Bool.and_true, ix_cells, ix_at, hz, bAdd, set_at, bTen, bSub, set_digits, hb, decide_true, wrOk, Nat.zero_lt_one, D.refsB]
  · refine ⟨z, pen ns (at_ + 1) dg ct ((fd * 27017 + z).fmod 2147482951), ?_, ⟨ns, _, _, ct, _, rfl, by omega, h2, h3, h4, (fmod_lt (by decide)).1, ?_⟩⟩
    · simp only [drawHead, evB, evS.eq_1, evS.eq_2, evS.eq_4, evS.eq_5, evS_for, evS.eq_8, evS.eq_9, evS.eq_10, evS.eq_12, evS.eq_13, evS.eq_14, evS.eq_15, ev, evEs, evO, evTO, evG, evGs, fin_f, fin_t, bindOk, bindErr, of_some, asB_ok, endC_ret, endC_nx, cmpD, eqD, ordD, isD, isNon, unD, truD, isAny, isOne, tagOf, tagIs, askTys, List.replicate, List.cons_append, List.nil_append, List.getElem?_cons_zero, List.getElem?_cons_succ, Option.bind_some, id_eq, List.set_cons_zero, List.set_cons_succ, Option.map_some, List.length_cons, List.length_nil, if_true, Bool.not_true, Bool.not_false, Bool.false_eq_true, if_false, Bool.true_and, Bool.and_true, ix_cells, ix_at, ix_fold, hz, bAdd, set_at, bTen, set_fold, hb, decide_false, wrOk, Nat.zero_lt_one, D.refsB, bMul (mul_small (i := fd) 27017 (by decide)), int_int]
      rw [bMod (by decide)]
      simp only [evB, evS.eq_1, evS.eq_2, evS.eq_4, evS.eq_5, evS_for, evS.eq_8, evS.eq_9, evS.eq_10, evS.eq_12, evS.eq_13, evS.eq_14, evS.eq_15, ev, evEs, evO, evTO, evG, evGs, fin_f, fin_t, bindOk, bindErr, of_some, asB_ok, endC_ret, endC_nx, cmpD, eqD, ordD, isD, isNon, unD, truD, isAny, isOne, tagOf, tagIs, askTys, List.replicate, List.cons_append, List.nil_append, List.getElem?_cons_zero, List.getElem?_cons_succ, Option.bind_some, id_eq, List.set_cons_zero, List.set_cons_succ, Option.map_some, List.length_cons, List.length_nil, if_true, Bool.not_true, Bool.not_false, Bool.false_eq_true, if_false, Bool.true_and, Bool.and_true, set_fold, wrOk, Nat.zero_lt_one, D.refsB]
    · have := (fmod_lt (i := fd * 27017 + z) (m := 2147482951) (by decide)).2
      omega
theorem draw_ok (n b : Nat) {m : Int} (hm : 0 < m) (hs : small m) {k : Nat} (hk : k + 1 < 2 ^ 20) {c : Cell} (h : PenOk k c) : ∃ d c', runP prog (n + 1) "_law_draw" b [.obj 0, .int m] [c] = .ok (.int d, false) [c'] ∧ 0 ≤ d ∧ d < m ∧ PenOk (k + 1) c' := by
  rw [run_end (F := ir__law_draw) rfl rfl rfl rfl rfl]
  generalize runP prog n = κ
  obtain ⟨ns, at_, dg, ct, fd, rfl, h1, h2, h3, h4, h5, h6⟩ := h
  rw [show ir__law_draw.body = _ :: (.iff _ drawHead []) :: drawTail from rfl]
  rw [evB_cons (env' := [some (.obj 0), some (.int m), none, none, none]) (S' := [pen ns at_ dg (ct + 1) fd]) (by
    simp only [evB, evS.eq_1, evS.eq_2, evS.eq_4, evS.eq_5, evS_for, evS.eq_8, evS.eq_9, evS.eq_10, evS.eq_12, evS.eq_13, evS.eq_14, evS.eq_15, ev, evEs, evO, evTO, evG, evGs, fin_f, fin_t, bindOk, bindErr, of_some, asB_ok, endC_ret, endC_nx, cmpD, eqD, ordD, isD, isNon, unD, truD, isAny, isOne, tagOf, tagIs, askTys, List.replicate, List.cons_append, List.nil_append, List.getElem?_cons_zero, List.getElem?_cons_succ, Option.bind_some, id_eq, List.set_cons_zero, List.set_cons_succ, Option.map_some, List.length_cons, List.length_nil, if_true, Bool.not_true, Bool.not_false, Bool.false_eq_true, if_false, Bool.true_and, Bool.and_true, List.map, ix_count, bAdd, set_count, wrOk, Nat.zero_lt_one, D.refsB, ir__law_draw, Nat.reduceSub]; rfl)]
  have fin : ∀ {env c}, PenOk (k + 1) c → (∃ e2 e3 e4, env = [some (.obj 0), some (.int m), e2, e3, e4]) → ∃ d c', endC ir__law_draw 1 (evB κ 1 drawTail env [c]) = .ok (.int d, false) [c'] ∧ 0 ≤ d ∧ d < m ∧ PenOk (k + 1) c' := by
    rintro env c hc ⟨e2, e3, e4, rfl⟩
    obtain ⟨d, c', env', fr, e, d1, d2, hc'⟩ := tail_ok κ hm hs hk hc e2 e3 e4
    refine ⟨d, c', ?_, d1, d2, hc'⟩
    rw [e, endC_ret]
    exact finP_eq (S := [c']) rfl rfl rfl rfl
  by_cases hc : dg = 0 ∧ at_ < (ns.length : Nat)
  · obtain ⟨z, c', e, hc'⟩ := head_ok (k := k + 1) (m := m) (dg := dg) (ct := ct + 1) κ h1 h2 (by omega) (by omega) h5 h6 hc.2
    rw [evB_cons (env' := [some (.obj 0), some (.int m), none, some (.int z), none]) (S' := [c']) ?_]
    · exact fin hc' ⟨_, _, _, rfl⟩
    · rw [evS.eq_5]
      simp only [evB, evS.eq_1, evS.eq_2, evS.eq_4, evS.eq_5, evS_for, evS.eq_8, evS.eq_9, evS.eq_10, evS.eq_12, evS.eq_13, evS.eq_14, evS.eq_15, ev, evEs, evO, evTO, evG, evGs, fin_f, fin_t, bindOk, bindErr, of_some, asB_ok, endC_ret, endC_nx, cmpD, eqD, ordD, isD, isNon, unD, truD, isAny, isOne, tagOf, tagIs, askTys, List.replicate, List.cons_append, List.nil_append, List.getElem?_cons_zero, List.getElem?_cons_succ, Option.bind_some, id_eq, List.set_cons_zero, List.set_cons_succ, Option.map_some, List.length_cons, List.length_nil, if_true, Bool.not_true, Bool.not_false, Bool.false_eq_true, if_false, Bool.true_and, Bool.and_true, ix_digits, ix_at, ix_cells, len_cells, hc.1, hc.2, decide_true]
      rw [hc.1] at e
      exact e
  · rw [evB_cons (env' := [some (.obj 0), some (.int m), none, none, none]) (S' := [pen ns at_ dg (ct + 1) fd]) ?_]
    · exact fin ⟨ns, at_, dg, ct + 1, fd, rfl, h1, h2, by omega, by omega, h5, h6⟩ ⟨_, _, _, rfl⟩
    · rw [evS.eq_5]
      by_cases h0 : dg = 0
      · have h7 : ¬ at_ < (ns.length : Nat) := fun z => hc ⟨h0, z⟩
        simp only [evB, evS.eq_1, evS.eq_2, evS.eq_4, evS.eq_5, evS_for, evS.eq_8, evS.eq_9, evS.eq_10, evS.eq_12, evS.eq_13, evS.eq_14, evS.eq_15, ev, evEs, evO, evTO, evG, evGs, fin_f, fin_t, bindOk, bindErr, of_some, asB_ok, endC_ret, endC_nx, cmpD, eqD, ordD, isD, isNon, unD, truD, isAny, isOne, tagOf, tagIs, askTys, List.replicate, List.cons_append, List.nil_append, List.getElem?_cons_zero, List.getElem?_cons_succ, Option.bind_some, id_eq, List.set_cons_zero, List.set_cons_succ, Option.map_some, List.length_cons, List.length_nil, if_true, Bool.not_true, Bool.not_false, Bool.false_eq_true, if_false, Bool.true_and, Bool.and_true, ix_digits, ix_at, ix_cells, len_cells, h0, h7, decide_true, decide_false]
      · simp only [evB, evS.eq_1, evS.eq_2, evS.eq_4, evS.eq_5, evS_for, evS.eq_8, evS.eq_9, evS.eq_10, evS.eq_12, evS.eq_13, evS.eq_14, evS.eq_15, ev, evEs, evO, evTO, evG, evGs, fin_f, fin_t, bindOk, bindErr, of_some, asB_ok, endC_ret, endC_nx, cmpD, eqD, ordD, isD, isNon, unD, truD, isAny, isOne, tagOf, tagIs, askTys, List.replicate, List.cons_append, List.nil_append, List.getElem?_cons_zero, List.getElem?_cons_succ, Option.bind_some, id_eq, List.set_cons_zero, List.set_cons_succ, Option.map_some, List.length_cons, List.length_nil, if_true, Bool.not_true, Bool.not_false, Bool.false_eq_true, if_false, Bool.true_and, Bool.and_true, ix_digits, h0, decide_false]
end K02
end

section
/-! K02e: what is drawn. -/
namespace K02
open Pi PySem
theorem PenOk.mono {k j : Nat} {c : Cell} (h : PenOk k c) (hj : k ≤ j) : PenOk j c := by
  obtain ⟨ns, at_, dg, ct, fd, e, h1, h2, h3, h4, h5⟩ := h
  exact ⟨ns, at_, dg, ct, fd, e, h1, h2, h3, by omega, h5⟩
def DrawK (κ : Calls) : Prop := ∀ {m : Int} {k : Nat} {c : Cell}, 0 < m → small m → k + 1 < 2 ^ 20 → PenOk k c → ∃ d c', κ "_law_draw" 1 [.obj 0, .int m] [c] = .ok (.int d, false) [c'] ∧ 0 ≤ d ∧ d < m ∧ PenOk (k + 1) c'
theorem drawK (n : Nat) : DrawK (runP prog (n + 1)) := fun hm hs hk h => draw_ok n 1 hm hs hk h
theorem ix_lst (S : Store) (xs : List D) {i : Int} (h0 : 0 ≤ i) (h1 : i < (xs.length : Nat)) : ∃ x ∈ xs, ixD S (.lst xs) (.int i) = some x := by
  have hl : i.toNat < xs.length := by omega
  refine ⟨xs[i.toNat], List.getElem_mem hl, ?_⟩
  show L2.atI xs i = _
  unfold L2.atI L2.ixN
  rw [if_pos h0, if_pos h1]
  simp [hl]
theorem len_lst (S : Store) (xs : List D) : callD .len S [.lst xs] = some (.int (xs.length : Nat)) := by
  simp [callD, lenD, seqOf]
theorem pick_body (κ : Calls) (K : DrawK κ) {xs : List D} (hx : xs ≠ []) (hl : xs.length < 1000) (hr : ∀ x ∈ xs, x.refsB 0 = true) {k : Nat} (hk : k + 1 < 2 ^ 20) {c : Cell} (h : PenOk k c) :
    ∃ x ∈ xs, ∃ c', endC ir__law_pick 1 (evB κ 1 ir__law_pick.body [some (.obj 0), some (.lst xs)] [c]) = .ok (x, false) [c'] ∧ PenOk (k + 1) c' := by
  have hp : 0 < xs.length := List.length_pos_iff.mpr hx
  obtain ⟨d, c', e, d1, d2, hc'⟩ := K (m := (xs.length : Nat)) (by omega) (by unfold small; simp; omega) hk h
  obtain ⟨x, hxm, ex⟩ := ix_lst [c'] xs d1 d2
  refine ⟨x, hxm, c', ?_, hc'⟩
  simp only [ir__law_pick, evB, evS.eq_1, evS.eq_2, evS.eq_4, evS.eq_5, evS_for, evS.eq_8, evS.eq_9, evS.eq_10, evS.eq_12, evS.eq_13, evS.eq_14, evS.eq_15, ev, evEs, evO, evTO, evG, evGs, fin_f, fin_t, bindOk, bindErr, of_some, asB_ok, endC_ret, endC_nx, cmpD, eqD, ordD, isD, isNon, unD, truD, isAny, isOne, tagOf, tagIs, askTys, List.replicate, List.cons_append, List.nil_append, List.getElem?_cons_zero, List.getElem?_cons_succ, Option.bind_some, id_eq, List.set_cons_zero, List.set_cons_succ, Option.map_some, List.length_cons, List.length_nil, if_true, Bool.not_true, Bool.not_false, Bool.false_eq_true, if_false, Bool.true_and, Bool.and_true, len_lst, e, ex]
  exact finP_eq (S := [c']) rfl rfl rfl (D.refsB_mono (Nat.zero_le _) x (hr x hxm))
theorem pick_ok (n b : Nat) {xs : List D} (hx : xs ≠ []) (hl : xs.length < 1000) (hr : ∀ x ∈ xs, x.refsB 0 = true) {k : Nat} (hk : k + 1 < 2 ^ 20) {c : Cell} (h : PenOk k c) :
    ∃ x ∈ xs, ∃ c', runP prog (n + 2) "_law_pick" b [.obj 0, .lst xs] [c] = .ok (x, false) [c'] ∧ PenOk (k + 1) c' := by
  rw [run_end (F := ir__law_pick) rfl rfl rfl rfl rfl]
  exact pick_body (runP prog (n + 1)) (drawK n) hx hl hr hk h
theorem red_aux {q1 q2 : Int} {g : Nat} (gp : 0 < g) (hg : Nat.gcd ((g : Int) * q1).natAbs ((g : Int) * q2).natAbs = g) (hm : 0 < (g : Int) * q2) (ht : ((g : Int) * q1).natAbs < 2 ^ 60) (hs : ((g : Int) * q2).natAbs < 2 ^ 60) : Red (((g : Int) * q1).fdiv g) (((g : Int) * q2).fdiv g) := by
  have g0 : (g : Int) ≠ 0 := by omega
  rw [Int.mul_fdiv_cancel_left _ g0, Int.mul_fdiv_cancel_left _ g0]
  rw [Int.natAbs_mul] at ht hs
  rw [Int.natAbs_mul, Int.natAbs_mul, Nat.gcd_mul_left] at hg
  have e : (g : Int).natAbs = g := by simp
  rw [e] at ht hs hg
  refine ⟨?_, ?_, ?_, ?_⟩
  · exact Int.pos_of_mul_pos_right hm (by omega)
  · have : g * Nat.gcd q1.natAbs q2.natAbs = g * 1 := by omega
    exact Nat.eq_of_mul_eq_mul_left gp this
  · exact Nat.lt_of_le_of_lt (Nat.le_mul_of_pos_left _ gp) ht
  · exact Nat.lt_of_le_of_lt (Nat.le_mul_of_pos_left _ gp) hs
theorem red_of {t m : Int} (hm : 0 < m) (ht : t.natAbs < 2 ^ 60) (hs : m.natAbs < 2 ^ 60) : Red (nt t m) (nm t m) := by
  have gp : 0 < Nat.gcd t.natAbs m.natAbs := Nat.gcd_pos_of_pos_right _ (by omega)
  have d1 : (Nat.gcd t.natAbs m.natAbs : Int) ∣ t := Int.natAbs_dvd_natAbs.mp (by simpa using Nat.gcd_dvd_left t.natAbs m.natAbs)
  have d2 : (Nat.gcd t.natAbs m.natAbs : Int) ∣ m := Int.natAbs_dvd_natAbs.mp (by simpa using Nat.gcd_dvd_right t.natAbs m.natAbs)
  unfold nt nm
  rw [if_pos hm, if_pos hm]
  obtain ⟨q1, e1⟩ := d1
  obtain ⟨q2, e2⟩ := d2
  have key := fun h1 h2 h3 h4 => red_aux (q1 := q1) (q2 := q2) gp h1 h2 h3 h4
  rw [← e1, ← e2] at key
  exact key rfl hm ht hs
theorem mul_small_l {j : Int} (i : Int) (h : Builtin.Int.intBits i ≤ 64) : mulOk i j = true := by
  unfold mulOk
  simp [h]
theorem nt_le {t m : Int} (hm : 0 < m) : (nt t m).natAbs ≤ t.natAbs := by
  have gp : 0 < Nat.gcd t.natAbs m.natAbs := Nat.gcd_pos_of_pos_right _ (by omega)
  have d1 : (Nat.gcd t.natAbs m.natAbs : Int) ∣ t := Int.natAbs_dvd_natAbs.mp (by simpa using Nat.gcd_dvd_left t.natAbs m.natAbs)
  unfold nt
  rw [if_pos hm]
  revert gp d1
  generalize Nat.gcd t.natAbs m.natAbs = g
  intro gp d1
  obtain ⟨q, rfl⟩ := d1
  have g0 : (g : Int) ≠ 0 := by omega
  rw [Int.mul_fdiv_cancel_left _ g0, Int.natAbs_mul]
  exact Nat.le_mul_of_pos_left _ (by simpa using gp)
def QK (κ : Calls) : Prop := ∀ (S : Store) {t m : Int}, m ≠ 0 → small m → κ "_law_q" S.length [.int t, .int m] S = .ok (qD (nt t m) (nm t m), false) S
theorem qK (n : Nat) : QK (runP prog (n + 2)) := fun S _ _ h0 hs => lq_ok n S.length S h0 hs
def PickK (κ : Calls) : Prop := ∀ {xs : List D} {k : Nat} {c : Cell}, xs ≠ [] → xs.length < 1000 → (∀ x ∈ xs, x.refsB 0 = true) → k + 1 < 2 ^ 20 → PenOk k c → ∃ x ∈ xs, ∃ c', κ "_law_pick" 1 [.obj 0, .lst xs] [c] = .ok (x, false) [c'] ∧ PenOk (k + 1) c'
theorem pickK (n : Nat) : PickK (runP prog (n + 2)) := fun hx hl hr hk h => pick_ok n 1 hx hl hr hk h
theorem number_body (κ : Calls) (K : DrawK κ) (L : QK κ) (M : PickK κ) {most : Int} (h0 : 0 ≤ most) (h1 : most ≤ 99999) {k : Nat} (hk : k + 2 < 2 ^ 20) {c : Cell} (h : PenOk k c) :
    ∃ t m c', endC ir__law_number 1 (evB κ 1 ir__law_number.body [some (.obj 0), some (.int most), none] [c]) = .ok (qD t m, false) [c'] ∧ Red t m ∧ t.natAbs < 2 ^ 20 ∧ PenOk (k + 2) c' := by
  obtain ⟨d, c1, e1, d1, d2, hc1⟩ := K (m := 2 * most + 1) (by omega) (by unfold small; omega) (by omega) h
  obtain ⟨x, hx, c2, e2, hc2⟩ := M (xs := [.int 1, .int 1, .int 1, .int 2, .int 3]) (k := k + 1) (by simp) (by simp) (by simp [D.refsB]) (by omega) hc1
  obtain ⟨m, rfl, m1, m2⟩ : ∃ m : Int, x = .int m ∧ 0 < m ∧ m ≤ 3 := by
    simp only [List.mem_cons, List.not_mem_nil, or_false] at hx
    rcases hx with rfl | rfl | rfl | rfl | rfl
    · exact ⟨1, rfl, by decide, by decide⟩
    · exact ⟨1, rfl, by decide, by decide⟩
    · exact ⟨1, rfl, by decide, by decide⟩
    · exact ⟨2, rfl, by decide, by decide⟩
    · exact ⟨3, rfl, by decide, by decide⟩
  have q := L [c2] (t := d - most) (m := m) (by omega) (by unfold small; omega)
  have r := red_of (t := d - most) (m := m) m1 (by omega) (by omega)
  refine ⟨nt (d - most) m, nm (d - most) m, c2, ?_, r, ?_, hc2⟩
  · have q' : κ "_law_q" 1 [.int (d - most), .int m] [c2] = .ok (qD (nt (d - most) m) (nm (d - most) m), false) [c2] := q
    simp only [ir__law_number, evB, evS.eq_1, evS.eq_2, evS.eq_4, evS.eq_5, evS_for, evS.eq_8, evS.eq_9, evS.eq_10, evS.eq_12, evS.eq_13, evS.eq_14, evS.eq_15, ev, evEs, evO, evTO, evG, evGs, fin_f, fin_t, bindOk, bindErr, of_some, asB_ok, endC_ret, endC_nx, cmpD, eqD, ordD, isD, isNon, unD, truD, isAny, isOne, tagOf, tagIs, askTys, List.replicate, List.cons_append, List.nil_append, List.getElem?_cons_zero, List.getElem?_cons_succ, Option.bind_some, id_eq, List.set_cons_zero, List.set_cons_succ, Option.map_some, List.length_cons, List.length_nil, if_true, Bool.not_true, Bool.not_false, Bool.false_eq_true, if_false, Bool.true_and, Bool.and_true, bMul (mul_small_l (j := most) 2 (by decide)), bAdd, bSub, e1, e2, q', Nat.reduceLeDiff, Nat.reduceAdd]
    exact finP_eq (S := [c2]) rfl rfl rfl rfl
  · have hle : (nt (d - most) m).natAbs ≤ (d - most).natAbs := nt_le m1
    omega
theorem number_ok (n b : Nat) {most : Int} (h0 : 0 ≤ most) (h1 : most ≤ 99999) {k : Nat} (hk : k + 2 < 2 ^ 20) {c : Cell} (h : PenOk k c) :
    ∃ t m c', runP prog (n + 3) "_law_number" b [.obj 0, .int most] [c] = .ok (qD t m, false) [c'] ∧ Red t m ∧ t.natAbs < 2 ^ 20 ∧ PenOk (k + 2) c' := by
  rw [run_end (F := ir__law_number) rfl rfl rfl rfl rfl]
  exact number_body (runP prog (n + 2)) (drawK (n + 1)) (qK n) (pickK n) h0 h1 hk h
end K02
end

section
/-! K02f: ratios as they are passed; the law's own sums. -/
namespace K02
open Pi PySem
theorem ix_q0 (S : Store) (a b : D) : ixD S (.tup [a, b]) (.int 0) = some a := rfl
theorem ix_q1 (S : Store) (a b : D) : ixD S (.tup [a, b]) (.int 1) = some b := rfl
theorem handed_body (κ : Calls) (K : DrawK κ) (M : PickK κ) {t m : Int} (r : Red t m) {k : Nat} (hk : k + 3 < 2 ^ 20) {c : Cell} (h : PenOk k c) :
    ∃ d c', endC ir__law_handed 1 (evB κ 1 ir__law_handed.body [some (.obj 0), some (qD t m), none] [c]) = .ok (d, false) [c'] ∧ Hd t m d ∧ PenOk (k + 3) c' := by
  -- behind the test
  have rest : ∀ {c1 : Cell}, PenOk (k + 1) c1 → ∃ d c', endC ir__law_handed 1 (evB κ 1 [.assign (.var 2) (.call "_law_pick" [(.var 0), (.lst [(.con (.int 1)), (.con (.int 1)), (.con (.int 2)), (.con (.int 5))])]),
      .ret (.call "_law_pick" [(.var 0), (.lst [(.tup [(.bin .Mult (.ix (.var 1) (.con (.int 0))) (.var 2)), (.bin .Mult (.ix (.var 1) (.con (.int 1))) (.var 2))]), (.lst [(.bin .Mult (.ix (.var 1) (.con (.int 0))) (.var 2)), (.bin .Mult (.ix (.var 1) (.con (.int 1))) (.var 2))])])])]
      [some (.obj 0), some (qD t m), none] [c1]) = .ok (d, false) [c'] ∧ Hd t m d ∧ PenOk (k + 3) c' := fun {c1} h1 => by
    obtain ⟨x, hx, c2, e2, hc2⟩ := M (xs := [.int 1, .int 1, .int 2, .int 5]) (k := k + 1) (by simp) (by simp) (by simp [D.refsB]) (by omega) h1
    obtain ⟨y, rfl, y1, y2⟩ : ∃ m : Int, x = .int m ∧ 0 < m ∧ m ≤ 5 := by
      simp only [List.mem_cons, List.not_mem_nil, or_false] at hx
      rcases hx with rfl | rfl | rfl | rfl
      · exact ⟨1, rfl, by decide, by decide⟩
      · exact ⟨1, rfl, by decide, by decide⟩
      · exact ⟨2, rfl, by decide, by decide⟩
      · exact ⟨5, rfl, by decide, by decide⟩
    obtain ⟨d, hd, c3, e3, hc3⟩ := M (xs := [.tup [.int (t * y), .int (m * y)], .lst [.int (t * y), .int (m * y)]]) (k := k + 2) (by simp) (by simp) (by simp [D.refsB, D.refsBs]) (by omega) hc2
    have hdd : Hd t m d := by
      simp only [List.mem_cons, List.not_mem_nil, or_false] at hd
      rcases hd with rfl | rfl
      · exact .tup y y1 y2
      · exact .lst y y1 y2
    have hr : d.refsB 1 = true := by cases hdd <;> rfl
    have sy : small y := by unfold small; omega
    refine ⟨d, c3, ?_, hdd, hc3⟩
    simp only [evB, evS.eq_1, evS.eq_2, evS.eq_4, evS.eq_5, evS_for, evS.eq_8, evS.eq_9, evS.eq_10, evS.eq_12, evS.eq_13, evS.eq_14, evS.eq_15, ev, evEs, evO, evTO, evG, evGs, fin_f, fin_t, bindOk, bindErr, of_some, asB_ok, endC_ret, endC_nx, cmpD, eqD, ordD, isD, isNon, unD, truD, isAny, isOne, tagOf, tagIs, askTys, List.replicate, List.cons_append, List.nil_append, List.getElem?_cons_zero, List.getElem?_cons_succ, Option.bind_some, id_eq, List.set_cons_zero, List.set_cons_succ, Option.map_some, List.length_cons, List.length_nil, if_true, Bool.not_true, Bool.not_false, Bool.false_eq_true, if_false, Bool.true_and, Bool.and_true, e2, ix_q0, ix_q1, bMul (mul_ok (s60 r.st) sy), bMul (mul_ok (s60 r.sm) sy), e3, Nat.reduceLeDiff, Nat.reduceAdd]
    exact finP_eq (S := [c3]) rfl rfl rfl hr
  rw [show ir__law_handed.body = _ :: [_, _] from rfl]
  by_cases hm : m = 1
  · obtain ⟨d, c1, e1, d1, d2, hc1⟩ := K (m := 2) (by omega) (by unfold small; decide) (by omega) h
    by_cases hd : d = 0
    · refine ⟨.int t, c1, ?_, .int hm, hc1.mono (by omega)⟩
      rw [evB_ret (d := .int t) (fr := false) (env' := [some (.obj 0), some (qD t m), none]) (S' := [c1]) (by
        rw [evS.eq_5]
        simp only [evB, evS.eq_1, evS.eq_2, evS.eq_4, evS.eq_5, evS_for, evS.eq_8, evS.eq_9, evS.eq_10, evS.eq_12, evS.eq_13, evS.eq_14, evS.eq_15, ev, evEs, evO, evTO, evG, evGs, fin_f, fin_t, bindOk, bindErr, of_some, asB_ok, endC_ret, endC_nx, cmpD, eqD, ordD, isD, isNon, unD, truD, isAny, isOne, tagOf, tagIs, askTys, List.replicate, List.cons_append, List.nil_append, List.getElem?_cons_zero, List.getElem?_cons_succ, Option.bind_some, id_eq, List.set_cons_zero, List.set_cons_succ, Option.map_some, List.length_cons, List.length_nil, if_true, Bool.not_true, Bool.not_false, Bool.false_eq_true, if_false, Bool.true_and, Bool.and_true, ix_q1, ix_q0, hm, e1, hd, decide_true]
        rfl)]
      rw [endC_ret]
      exact finP_eq (S := [c1]) rfl rfl rfl rfl
    · rw [evB_cons (env' := [some (.obj 0), some (qD t m), none]) (S' := [c1]) (by
        rw [evS.eq_5]
        simp only [evB, evS.eq_1, evS.eq_2, evS.eq_4, evS.eq_5, evS_for, evS.eq_8, evS.eq_9, evS.eq_10, evS.eq_12, evS.eq_13, evS.eq_14, evS.eq_15, ev, evEs, evO, evTO, evG, evGs, fin_f, fin_t, bindOk, bindErr, of_some, asB_ok, endC_ret, endC_nx, cmpD, eqD, ordD, isD, isNon, unD, truD, isAny, isOne, tagOf, tagIs, askTys, List.replicate, List.cons_append, List.nil_append, List.getElem?_cons_zero, List.getElem?_cons_succ, Option.bind_some, id_eq, List.set_cons_zero, List.set_cons_succ, Option.map_some, List.length_cons, List.length_nil, if_true, Bool.not_true, Bool.not_false, Bool.false_eq_true, if_false, Bool.true_and, Bool.and_true, ix_q1, hm, e1, hd, decide_true, decide_false])]
      exact rest hc1
  · rw [evB_cons (env' := [some (.obj 0), some (qD t m), none]) (S' := [c]) (by
      rw [evS.eq_5]
      simp only [evB, evS.eq_1, evS.eq_2, evS.eq_4, evS.eq_5, evS_for, evS.eq_8, evS.eq_9, evS.eq_10, evS.eq_12, evS.eq_13, evS.eq_14, evS.eq_15, ev, evEs, evO, evTO, evG, evGs, fin_f, fin_t, bindOk, bindErr, of_some, asB_ok, endC_ret, endC_nx, cmpD, eqD, ordD, isD, isNon, unD, truD, isAny, isOne, tagOf, tagIs, askTys, List.replicate, List.cons_append, List.nil_append, List.getElem?_cons_zero, List.getElem?_cons_succ, Option.bind_some, id_eq, List.set_cons_zero, List.set_cons_succ, Option.map_some, List.length_cons, List.length_nil, if_true, Bool.not_true, Bool.not_false, Bool.false_eq_true, if_false, Bool.true_and, Bool.and_true, ix_q1, hm, decide_false])]
    exact rest (h.mono (by omega))
theorem handed_ok (n b : Nat) {t m : Int} (r : Red t m) {k : Nat} (hk : k + 3 < 2 ^ 20) {c : Cell} (h : PenOk k c) :
    ∃ d c', runP prog (n + 3) "_law_handed" b [.obj 0, qD t m] [c] = .ok (d, false) [c'] ∧ Hd t m d ∧ PenOk (k + 3) c' := by
  rw [run_end (F := ir__law_handed) rfl rfl rfl rfl rfl]
  exact handed_body (runP prog (n + 2)) (drawK (n + 1)) (pickK n) r hk h
section
variable {t m t' m' : Int} (r : Red t m) (r' : Red t' m')
include r r'
theorem lplus_body (κ : Calls) (L : QK κ) (S : Store) : endC ir__law_plus S.length (evB κ S.length ir__law_plus.body [some (qD t m), some (qD t' m')] S) = .ok (qD (nt (t * m' + t' * m) (m * m')) (nm (t * m' + t' * m) (m * m')), false) S := by
  have q := L S (t := t * m' + t' * m) (mm_ne r r') (mm_small r r')
  simp only [ir__law_plus, evB, evS.eq_1, evS.eq_2, evS.eq_4, evS.eq_5, evS_for, evS.eq_8, evS.eq_9, evS.eq_10, evS.eq_12, evS.eq_13, evS.eq_14, evS.eq_15, ev, evEs, evO, evTO, evG, evGs, fin_f, fin_t, bindOk, bindErr, of_some, asB_ok, endC_ret, endC_nx, cmpD, eqD, ordD, isD, isNon, unD, truD, isAny, isOne, tagOf, tagIs, askTys, List.replicate, List.cons_append, List.nil_append, List.getElem?_cons_zero, List.getElem?_cons_succ, Option.bind_some, id_eq, List.set_cons_zero, List.set_cons_succ, Option.map_some, List.length_cons, List.length_nil, if_true, Bool.not_true, Bool.not_false, Bool.false_eq_true, if_false, Bool.true_and, Bool.and_true, ix_q0, ix_q1, bMul (mul_ok (s60 r.st) (s60 r'.sm)), bMul (mul_ok (s60 r'.st) (s60 r.sm)), bMul (mul_ok (s60 r.sm) (s60 r'.sm)), bAdd, q]
  exact finP_eq rfl rfl rfl rfl
theorem lminus_body (κ : Calls) (L : QK κ) (S : Store) : endC ir__law_minus S.length (evB κ S.length ir__law_minus.body [some (qD t m), some (qD t' m')] S) = .ok (qD (nt (t * m' - t' * m) (m * m')) (nm (t * m' - t' * m) (m * m')), false) S := by
  have q := L S (t := t * m' - t' * m) (mm_ne r r') (mm_small r r')
  simp only [ir__law_minus, evB, evS.eq_1, evS.eq_2, evS.eq_4, evS.eq_5, evS_for, evS.eq_8, evS.eq_9, evS.eq_10, evS.eq_12, evS.eq_13, evS.eq_14, evS.eq_15, ev, evEs, evO, evTO, evG, evGs, fin_f, fin_t, bindOk, bindErr, of_some, asB_ok, endC_ret, endC_nx, cmpD, eqD, ordD, isD, isNon, unD, truD, isAny, isOne, tagOf, tagIs, askTys, List.replicate, List.cons_append, List.nil_append, List.getElem?_cons_zero, List.getElem?_cons_succ, Option.bind_some, id_eq, List.set_cons_zero, List.set_cons_succ, Option.map_some, List.length_cons, List.length_nil, if_true, Bool.not_true, Bool.not_false, Bool.false_eq_true, if_false, Bool.true_and, Bool.and_true, ix_q0, ix_q1, bMul (mul_ok (s60 r.st) (s60 r'.sm)), bMul (mul_ok (s60 r'.st) (s60 r.sm)), bMul (mul_ok (s60 r.sm) (s60 r'.sm)), bSub, q]
  exact finP_eq rfl rfl rfl rfl
theorem ltimes_body (κ : Calls) (L : QK κ) (S : Store) : endC ir__law_times S.length (evB κ S.length ir__law_times.body [some (qD t m), some (qD t' m')] S) = .ok (qD (nt (t * t') (m * m')) (nm (t * t') (m * m')), false) S := by
  have q := L S (t := t * t') (mm_ne r r') (mm_small r r')
  simp only [ir__law_times, evB, evS.eq_1, evS.eq_2, evS.eq_4, evS.eq_5, evS_for, evS.eq_8, evS.eq_9, evS.eq_10, evS.eq_12, evS.eq_13, evS.eq_14, evS.eq_15, ev, evEs, evO, evTO, evG, evGs, fin_f, fin_t, bindOk, bindErr, of_some, asB_ok, endC_ret, endC_nx, cmpD, eqD, ordD, isD, isNon, unD, truD, isAny, isOne, tagOf, tagIs, askTys, List.replicate, List.cons_append, List.nil_append, List.getElem?_cons_zero, List.getElem?_cons_succ, Option.bind_some, id_eq, List.set_cons_zero, List.set_cons_succ, Option.map_some, List.length_cons, List.length_nil, if_true, Bool.not_true, Bool.not_false, Bool.false_eq_true, if_false, Bool.true_and, Bool.and_true, ix_q0, ix_q1, bMul (mul_ok (s60 r.st) (s60 r'.st)), bMul (mul_ok (s60 r.sm) (s60 r'.sm)), q]
  exact finP_eq rfl rfl rfl rfl
theorem lshare_body (κ : Calls) (L : QK κ) (S : Store) (h : t' ≠ 0) : endC ir__law_share S.length (evB κ S.length ir__law_share.body [some (qD t m), some (qD t' m')] S) = .ok (qD (nt (t * m') (m * t')) (nm (t * m') (m * t')), false) S := by
  have q := L S (t := t * m') (mt_ne r r' h) (s120 (sm_mul r.sm r'.st))
  simp only [ir__law_share, evB, evS.eq_1, evS.eq_2, evS.eq_4, evS.eq_5, evS_for, evS.eq_8, evS.eq_9, evS.eq_10, evS.eq_12, evS.eq_13, evS.eq_14, evS.eq_15, ev, evEs, evO, evTO, evG, evGs, fin_f, fin_t, bindOk, bindErr, of_some, asB_ok, endC_ret, endC_nx, cmpD, eqD, ordD, isD, isNon, unD, truD, isAny, isOne, tagOf, tagIs, askTys, List.replicate, List.cons_append, List.nil_append, List.getElem?_cons_zero, List.getElem?_cons_succ, Option.bind_some, id_eq, List.set_cons_zero, List.set_cons_succ, Option.map_some, List.length_cons, List.length_nil, if_true, Bool.not_true, Bool.not_false, Bool.false_eq_true, if_false, Bool.true_and, Bool.and_true, ix_q0, ix_q1, bMul (mul_ok (s60 r.st) (s60 r'.sm)), bMul (mul_ok (s60 r.sm) (s60 r'.st)), q]
  exact finP_eq rfl rfl rfl rfl
theorem lless_ok (n b : Nat) (S : Store) : runP prog (n + 1) "_law_less" b [qD t m, qD t' m'] S = .ok (.bl (decide (t * m' < t' * m)), false) S := by
  rw [run_end (F := ir__law_less) rfl rfl rfl rfl rfl]
  simp only [ir__law_less, evB, evS.eq_1, evS.eq_2, evS.eq_4, evS.eq_5, evS_for, evS.eq_8, evS.eq_9, evS.eq_10, evS.eq_12, evS.eq_13, evS.eq_14, evS.eq_15, ev, evEs, evO, evTO, evG, evGs, fin_f, fin_t, bindOk, bindErr, of_some, asB_ok, endC_ret, endC_nx, cmpD, eqD, ordD, isD, isNon, unD, truD, isAny, isOne, tagOf, tagIs, askTys, List.replicate, List.cons_append, List.nil_append, List.getElem?_cons_zero, List.getElem?_cons_succ, Option.bind_some, id_eq, List.set_cons_zero, List.set_cons_succ, Option.map_some, List.length_cons, List.length_nil, if_true, Bool.not_true, Bool.not_false, Bool.false_eq_true, if_false, Bool.true_and, Bool.and_true, List.map, Nat.reduceSub, ix_q0, ix_q1, bMul (mul_ok (s60 r.st) (s60 r'.sm)), bMul (mul_ok (s60 r'.st) (s60 r.sm))]
  exact finP_eq rfl rfl rfl rfl
theorem lplus_ok (n b : Nat) (S : Store) : runP prog (n + 3) "_law_plus" b [qD t m, qD t' m'] S = .ok (qD (nt (t * m' + t' * m) (m * m')) (nm (t * m' + t' * m) (m * m')), false) S := by
  rw [run_end (F := ir__law_plus) rfl rfl rfl rfl rfl]
  exact lplus_body r r' (runP prog (n + 2)) (qK n) S
theorem lminus_ok (n b : Nat) (S : Store) : runP prog (n + 3) "_law_minus" b [qD t m, qD t' m'] S = .ok (qD (nt (t * m' - t' * m) (m * m')) (nm (t * m' - t' * m) (m * m')), false) S := by
  rw [run_end (F := ir__law_minus) rfl rfl rfl rfl rfl]
  exact lminus_body r r' (runP prog (n + 2)) (qK n) S
theorem ltimes_ok (n b : Nat) (S : Store) : runP prog (n + 3) "_law_times" b [qD t m, qD t' m'] S = .ok (qD (nt (t * t') (m * m')) (nm (t * t') (m * m')), false) S := by
  rw [run_end (F := ir__law_times) rfl rfl rfl rfl rfl]
  exact ltimes_body r r' (runP prog (n + 2)) (qK n) S
theorem lshare_ok (n b : Nat) (S : Store) (h : t' ≠ 0) : runP prog (n + 3) "_law_share" b [qD t m, qD t' m'] S = .ok (qD (nt (t * m') (m * t')) (nm (t * m') (m * t')), false) S := by
  rw [run_end (F := ir__law_share) rfl rfl rfl rfl rfl]
  exact lshare_body r r' (runP prog (n + 2)) (qK n) S h
end
end K02
end

section
/-! K02g: the law's pen; texts of ratios; what the law's frame may call. -/
namespace K02
open Pi PySem
abbrev penBody (n b : Nat) : D → Slots → Store → R (Fl × Slots) := bodyL (runP prog n) b (.var 2) [.assign (.var 1) (.bin .Mod (.bi .int [(.bin .Add (.bin .Mult (.var 1) (.con (.int 173))) (.var 2))]) (.con (.int 999999223)))]
theorem pen_loop (n b : Nat) (sc : Option D) : ∀ (ns : List Int) (fd : Int) (l : Option D), 0 ≤ fd → fd < 2 ^ 31 → ∃ fd' l', loopL none none (penBody n b) (ns.map D.int) [sc, some (.int fd), l] [] = .ok (.nx, [sc, some (.int fd'), l']) [] ∧ 0 ≤ fd' ∧ fd' < 2 ^ 31
  | [], fd, l, h0, h1 => ⟨fd, l, rfl, h0, h1⟩
  | z :: ns, fd, l, h0, h1 => by
    have m0 := fmod_lt (i := fd * 173 + z) (m := 999999223) (by decide)
    obtain ⟨fd', l', e, b0, b1⟩ := pen_loop n b sc ns ((fd * 173 + z).fmod 999999223) (some (.int z)) m0.1 (by omega)
    refine ⟨fd', l', ?_, b0, b1⟩
    rw [List.map_cons, loop_nx (env' := [sc, some (.int ((fd * 173 + z).fmod 999999223)), some (.int z)]) (S' := [])]
    · exact e
    · simp only [penBody, bodyL, evB, evS.eq_1, evS.eq_2, evS.eq_4, evS.eq_5, evS_for, evS.eq_8, evS.eq_9, evS.eq_10, evS.eq_12, evS.eq_13, evS.eq_14, evS.eq_15, ev, evEs, evO, evTO, evG, evGs, fin_f, fin_t, bindOk, bindErr, of_some, asB_ok, endC_ret, endC_nx, cmpD, eqD, ordD, isD, isNon, unD, truD, isAny, isOne, tagOf, tagIs, askTys, List.replicate, List.cons_append, List.nil_append, List.getElem?_cons_zero, List.getElem?_cons_succ, Option.bind_some, id_eq, List.set_cons_zero, List.set_cons_succ, Option.map_some, List.length_cons, List.length_nil, if_true, Bool.not_true, Bool.not_false, Bool.false_eq_true, if_false, Bool.true_and, Bool.and_true, bMul (mul_small (i := fd) 173 (by decide)), bAdd, int_int]
      rw [bMod (by decide)]
      simp only [evB, evS.eq_1, evS.eq_2, evS.eq_4, evS.eq_5, evS_for, evS.eq_8, evS.eq_9, evS.eq_10, evS.eq_12, evS.eq_13, evS.eq_14, evS.eq_15, ev, evEs, evO, evTO, evG, evGs, fin_f, fin_t, bindOk, bindErr, of_some, asB_ok, endC_ret, endC_nx, cmpD, eqD, ordD, isD, isNon, unD, truD, isAny, isOne, tagOf, tagIs, askTys, List.replicate, List.cons_append, List.nil_append, List.getElem?_cons_zero, List.getElem?_cons_succ, Option.bind_some, id_eq, List.set_cons_zero, List.set_cons_succ, Option.map_some, List.length_cons, List.length_nil, if_true, Bool.not_true, Bool.not_false, Bool.false_eq_true, if_false, Bool.true_and, Bool.and_true]
theorem seq_scr (S : Store) (ns : List Int) : seqOf S (scrOf ns) = some (ns.map D.int) := rfl
theorem list_scr (S : Store) (ns : List Int) : callD .list S [scrOf ns] = some (.lst (ns.map D.int)) := rfl
theorem guard_scr (ns : List Int) (xs : List D) : guardOf (scrOf ns) xs = none := rfl
theorem pen_ok (n : Nat) (ns : List Int) : ∃ c, runP prog (n + 1) "_law_pen" 0 [scrOf ns] [] = .ok (.obj 0, false) [c] ∧ PenOk 0 c := by
  obtain ⟨fd, l, e, h0, h1⟩ := pen_loop n 0 (some (scrOf ns)) ns 0 none (by decide) (by decide)
  refine ⟨pen ns 0 0 0 fd, ?_, ⟨ns, 0, 0, 0, fd, rfl, by decide, by decide, by decide, by decide, h0, h1⟩⟩
  rw [run_keep (F := ir__law_pen) rfl rfl rfl rfl rfl]
  rw [show ir__law_pen.body = [.assign (.var 1) (.con (.int 0)), .for_ (.var 2) (.seq (.var 0)) [.assign (.var 1) (.bin .Mod (.bi .int [(.bin .Add (.bin .Mult (.var 1) (.con (.int 173))) (.var 2))]) (.con (.int 999999223)))],
  .ret (.cellD ["cells", "at", "digits", "count", "fold"] [(.bi .list [(.var 0)]), (.con (.int 0)), (.con (.int 0)), (.con (.int 0)), (.var 1)])] from rfl]
  rw [evB_cons (env' := [some (scrOf ns), some (.int 0), none]) (S' := []) rfl]
  rw [evB_cons (env' := [some (scrOf ns), some (.int fd), l]) (S' := [])]
  · have e2 : evB (runP prog n) 0 [.ret (.cellD ["cells", "at", "digits", "count", "fold"] [(.bi .list [(.var 0)]), (.con (.int 0)), (.con (.int 0)), (.con (.int 0)), (.var 1)])] [some (scrOf ns), some (.int fd), l] [] = .ok (.ret (.obj 0) false, [some (scrOf ns), some (.int fd), l]) [pen ns 0 0 0 fd] := by
      simp only [evB, evS.eq_1, evS.eq_2, evS.eq_4, evS.eq_5, evS_for, evS.eq_8, evS.eq_9, evS.eq_10, evS.eq_12, evS.eq_13, evS.eq_14, evS.eq_15, ev, evEs, evO, evTO, evG, evGs, fin_f, fin_t, bindOk, bindErr, of_some, asB_ok, endC_ret, endC_nx, cmpD, eqD, ordD, isD, isNon, unD, truD, isAny, isOne, tagOf, tagIs, askTys, List.replicate, List.cons_append, List.nil_append, List.getElem?_cons_zero, List.getElem?_cons_succ, Option.bind_some, id_eq, List.set_cons_zero, List.set_cons_succ, Option.map_some, List.length_cons, List.length_nil, if_true, Bool.not_true, Bool.not_false, Bool.false_eq_true, if_false, Bool.true_and, Bool.and_true, list_scr]
      rfl
    rw [e2]
    exact finP_keep rfl rfl
  · rw [evS_for]
    have e3 : evI (runP prog n) 0 (.seq (.var 0)) [some (scrOf ns), some (.int 0), none] [] = .ok (ns.map D.int, none, none) [] := by
      simp only [evI, evB, evS.eq_1, evS.eq_2, evS.eq_4, evS.eq_5, evS_for, evS.eq_8, evS.eq_9, evS.eq_10, evS.eq_12, evS.eq_13, evS.eq_14, evS.eq_15, ev, evEs, evO, evTO, evG, evGs, fin_f, fin_t, bindOk, bindErr, of_some, asB_ok, endC_ret, endC_nx, cmpD, eqD, ordD, isD, isNon, unD, truD, isAny, isOne, tagOf, tagIs, askTys, List.replicate, List.cons_append, List.nil_append, List.getElem?_cons_zero, List.getElem?_cons_succ, Option.bind_some, id_eq, List.set_cons_zero, List.set_cons_succ, Option.map_some, List.length_cons, List.length_nil, if_true, Bool.not_true, Bool.not_false, Bool.false_eq_true, if_false, Bool.true_and, Bool.and_true, seq_scr, guard_scr]
    rw [e3, bindOk]
    exact e
theorem pen_noFn {k : Nat} {c : Cell} (h : PenOk k c) : c.noFn = true := by
  obtain ⟨ns, at_, dg, ct, fd, rfl, -⟩ := h
  have : D.noFns (ns.map D.int) = true := by
    induction ns with
    | nil => rfl
    | cons z ns ih => simpa [D.noFns, D.noFn] using ih
  simp [Cell.noFn, Cell.vals, pen, D.noFns, D.noFn, this]
theorem hd_noFn {t m : Int} {d : D} (h : Hd t m d) : d.noFn = true := by cases h <;> rfl
theorem hd_noLam {t m : Int} {d : D} (h : Hd t m d) : d.noLam = true := by cases h <;> rfl
theorem nt_small {t m : Int} (hm : m ≠ 0) (ht : small t) : small (nt t m) := by
  have gp : 0 < Nat.gcd t.natAbs m.natAbs := Nat.gcd_pos_of_pos_right _ (by omega)
  have d1 : (Nat.gcd t.natAbs m.natAbs : Int) ∣ t := Int.natAbs_dvd_natAbs.mp (by simpa using Nat.gcd_dvd_left t.natAbs m.natAbs)
  unfold nt
  revert gp d1
  generalize Nat.gcd t.natAbs m.natAbs = g
  intro gp d1
  obtain ⟨q, rfl⟩ := d1
  have g0 : (g : Int) ≠ 0 := by omega
  have hq : q.natAbs ≤ ((g : Int) * q).natAbs := by
    rw [Int.natAbs_mul]
    exact Nat.le_mul_of_pos_left _ (by simpa using gp)
  unfold small at *
  split
  · rw [Int.mul_fdiv_cancel_left _ g0]; omega
  · rw [show (g : Int) * q = (-(g : Int)) * (-q) by rw [Int.neg_mul_neg], Int.mul_fdiv_cancel_left _ (by omega)]; omega
theorem nm_small {t m : Int} (hm : m ≠ 0) (ht : small m) : small (nm t m) := by
  have gp : 0 < Nat.gcd t.natAbs m.natAbs := Nat.gcd_pos_of_pos_right _ (by omega)
  have d1 : (Nat.gcd t.natAbs m.natAbs : Int) ∣ m := Int.natAbs_dvd_natAbs.mp (by simpa using Nat.gcd_dvd_right t.natAbs m.natAbs)
  unfold nm
  revert gp d1
  generalize Nat.gcd t.natAbs m.natAbs = g
  intro gp d1
  obtain ⟨q, rfl⟩ := d1
  have g0 : (g : Int) ≠ 0 := by omega
  have hq : q.natAbs ≤ ((g : Int) * q).natAbs := by
    rw [Int.natAbs_mul]
    exact Nat.le_mul_of_pos_left _ (by simpa using gp)
  unfold small at *
  split
  · rw [Int.mul_fdiv_cancel_left _ g0]; omega
  · rw [show (g : Int) * q = (-(g : Int)) * (-q) by rw [Int.neg_mul_neg], Int.mul_fdiv_cancel_left _ (by omega)]; omega
theorem show_small {x : Int} (h : small x) : PyData.showable (.int x) = true := by
  unfold small at h
  simp only [PyData.showable, decide_eq_true_eq]
  by_cases h0 : x.natAbs = 0
  · rw [h0]; decide
  · exact (Nat.log2_lt h0).mpr (by omega)
/-- two numbers are told as a text -/
theorem repr_q {t m : Int} (S : Store) (ht : small t) (hm : small m) : ∃ s, callD .repr S [qD t m] = some (.str s) := by
  refine ⟨_, repr_ok (p := .tuple [.int t, .int m]) rfl ?_ (show 4 + (2 + 1925 + (2 + 1925 + 0)) ≤ 16777216 by decide) (show 1 ≤ 64 by decide) rfl⟩
  have := show_small ht
  have := show_small hm
  simp_all [PyData.showable, PyData.showableAll]
theorem repr_five {a b c d e f g h : Int} (o : Bool) (S : Store) (ha : small a) (hb : small b) (hc : small c) (hd : small d) (he : small e) (hf : small f) (hg : small g) (hh : small h) :
    ∃ s, callD .repr S [.lst [qD a b, qD c d, qD e f, qD g h, .bl o]] = some (.str s) := by
  refine ⟨_, repr_ok (p := .list [.tuple [.int a, .int b], .tuple [.int c, .int d], .tuple [.int e, .int f], .tuple [.int g, .int h], .bool o]) rfl ?_ (show 4 + (2 + 3858 + (2 + 3858 + (2 + 3858 + (2 + 3858 + (2 + 10 + 0))))) ≤ 16777216 by decide) (show 2 ≤ 64 by decide) rfl⟩
  have := show_small ha
  have := show_small hb
  have := show_small hc
  have := show_small hd
  have := show_small he
  have := show_small hf
  have := show_small hg
  have := show_small hh
  simp_all [PyData.showable, PyData.showableAll]
theorem repr_bl (b : Bool) (S : Store) : ∃ s, callD .repr S [.bl b] = some (.str s) :=
  ⟨_, repr_ok (p := .bool b) rfl rfl (show 10 ≤ 16777216 by decide) (show 0 ≤ 64 by decide) rfl⟩
end K02
end

section
/-! K02i: what the law's own frame calls. -/
namespace K02
open Pi PySem
/-- what the law's frame finds when it calls -/
structure LK (κ : Calls) : Prop where
  draw : ∀ {m : Int} {k : Nat} {c : Cell}, 0 < m → small m → k + 1 < 2 ^ 20 → PenOk k c → ∃ d c', κ "_law_draw" 0 [.obj 0, .int m] [c] = .ok (.int d, false) [c'] ∧ 0 ≤ d ∧ d < m ∧ PenOk (k + 1) c'
  pick : ∀ {xs : List D} {k : Nat} {c : Cell}, xs ≠ [] → xs.length < 1000 → (∀ x ∈ xs, x.refsB 0 = true) → (∀ x ∈ xs, x.noFn = true) → D.noLams xs = true → k + 1 < 2 ^ 20 → PenOk k c → ∃ x ∈ xs, ∃ c', κ "_law_pick" 0 [.obj 0, .lst xs] [c] = .ok (x, false) [c'] ∧ PenOk (k + 1) c'
  number : ∀ {most : Int} {k : Nat} {c : Cell}, 0 ≤ most → most ≤ 99999 → k + 2 < 2 ^ 20 → PenOk k c → ∃ t m c', κ "_law_number" 0 [.obj 0, .int most] [c] = .ok (qD t m, false) [c'] ∧ Red t m ∧ t.natAbs < 2 ^ 20 ∧ PenOk (k + 2) c'
  handed : ∀ {t m : Int} {k : Nat} {c : Cell}, Red t m → k + 3 < 2 ^ 20 → PenOk k c → ∃ d c', κ "_law_handed" 0 [.obj 0, qD t m] [c] = .ok (d, false) [c'] ∧ Hd t m d ∧ PenOk (k + 3) c'
  q : ∀ {t m : Int} {k : Nat} {c : Cell}, m ≠ 0 → small m → PenOk k c → κ "_law_q" 0 [.int t, .int m] [c] = .ok (qD (nt t m) (nm t m), false) [c]
  lplus : ∀ {t m t' m' : Int} {k : Nat} {c : Cell}, Red t m → Red t' m' → PenOk k c → κ "_law_plus" 0 [qD t m, qD t' m'] [c] = .ok (qD (nt (t * m' + t' * m) (m * m')) (nm (t * m' + t' * m) (m * m')), false) [c]
  lminus : ∀ {t m t' m' : Int} {k : Nat} {c : Cell}, Red t m → Red t' m' → PenOk k c → κ "_law_minus" 0 [qD t m, qD t' m'] [c] = .ok (qD (nt (t * m' - t' * m) (m * m')) (nm (t * m' - t' * m) (m * m')), false) [c]
  ltimes : ∀ {t m t' m' : Int} {k : Nat} {c : Cell}, Red t m → Red t' m' → PenOk k c → κ "_law_times" 0 [qD t m, qD t' m'] [c] = .ok (qD (nt (t * t') (m * m')) (nm (t * t') (m * m')), false) [c]
  lless : ∀ {t m t' m' : Int} {k : Nat} {c : Cell}, Red t m → Red t' m' → PenOk k c → κ "_law_less" 0 [qD t m, qD t' m'] [c] = .ok (.bl (decide (t * m' < t' * m)), false) [c]
  lshare : ∀ {t m t' m' : Int} {k : Nat} {c : Cell}, Red t m → Red t' m' → t' ≠ 0 → PenOk k c → κ "_law_share" 0 [qD t m, qD t' m'] [c] = .ok (qD (nt (t * m') (m * t')) (nm (t * m') (m * t')), false) [c]
  told : ∀ {t m : Int} {d : D} {k : Nat} {c : Cell}, Red t m → Hd t m d → PenOk k c → κ "told" 0 [d] [c] = .ok (qD t m, false) [c]
  plus : ∀ {t m t' m' : Int} {d d' : D} {k : Nat} {c : Cell}, Red t m → Red t' m' → Hd t m d → Hd t' m' d' → PenOk k c → κ "plus" 0 [d, d'] [c] = .ok (qD (nt (t * m' + t' * m) (m * m')) (nm (t * m' + t' * m) (m * m')), false) [c]
  minus : ∀ {t m t' m' : Int} {d d' : D} {k : Nat} {c : Cell}, Red t m → Red t' m' → Hd t m d → Hd t' m' d' → PenOk k c → κ "minus" 0 [d, d'] [c] = .ok (qD (nt (t * m' - t' * m) (m * m')) (nm (t * m' - t' * m) (m * m')), false) [c]
  times : ∀ {t m t' m' : Int} {d d' : D} {k : Nat} {c : Cell}, Red t m → Red t' m' → Hd t m d → Hd t' m' d' → PenOk k c → κ "times" 0 [d, d'] [c] = .ok (qD (nt (t * t') (m * m')) (nm (t * t') (m * m')), false) [c]
  less : ∀ {t m t' m' : Int} {d d' : D} {k : Nat} {c : Cell}, Red t m → Red t' m' → Hd t m d → Hd t' m' d' → PenOk k c → κ "less" 0 [d, d'] [c] = .ok (.bl (decide (t * m' < t' * m)), false) [c]
  share : ∀ {t m t' m' : Int} {d d' : D} {k : Nat} {c : Cell}, Red t m → Red t' m' → Hd t m d → Hd t' m' d' → t' ≠ 0 → PenOk k c → κ "share" 0 [d, d'] [c] = .ok (qD (nt (t * m') (m * t')) (nm (t * m') (m * t')), false) [c]
  ratio : ∀ {t m : Int} {d : D} {k : Nat} {c : Cell}, Red t m → Hd t m d → PenOk k c → κ "is_ratio" 0 [d] [c] = .ok (.bl (!isL d), false) [c]
theorem lams1 {d : D} (h : d.noLam = true) : D.noLams [d] = true := by simp [D.noLams, h]
theorem lams2 {d d' : D} (h : d.noLam = true) (h' : d'.noLam = true) : D.noLams [d, d'] = true := by simp [D.noLams, h, h']
theorem lk (n : Nat) : LK (guardK (runP prog (n + 4))) where
  draw hm hs hk h := by
    obtain ⟨d, c', e, d1, d2, h'⟩ := draw_ok (n + 3) 0 hm hs hk h
    exact ⟨d, c', guard1 e rfl (pen_noFn h) (pen_noFn h') rfl, d1, d2, h'⟩
  pick hx hl hr hf hn hk h := by
    obtain ⟨x, hx, c', e, h'⟩ := pick_ok (n + 2) 0 hx hl hr hk h
    exact ⟨x, hx, c', guard1 e (lams2 rfl hn) (pen_noFn h) (pen_noFn h') (hf x hx), h'⟩
  number h0 h1 hk h := by
    obtain ⟨t, m, c', e, r, ht, h'⟩ := number_ok (n + 1) 0 h0 h1 hk h
    exact ⟨t, m, c', guard1 e rfl (pen_noFn h) (pen_noFn h') rfl, r, ht, h'⟩
  handed r hk h := by
    obtain ⟨d, c', e, hd, h'⟩ := handed_ok (n + 1) 0 r hk h
    exact ⟨d, c', guard1 e rfl (pen_noFn h) (pen_noFn h') (hd_noFn hd), hd, h'⟩
  q hm hs h := guard1 (lq_ok (n + 2) 0 _ hm hs) rfl (pen_noFn h) (pen_noFn h) rfl
  lplus r r' h := guard1 (lplus_ok r r' (n + 1) 0 _) rfl (pen_noFn h) (pen_noFn h) rfl
  lminus r r' h := guard1 (lminus_ok r r' (n + 1) 0 _) rfl (pen_noFn h) (pen_noFn h) rfl
  ltimes r r' h := guard1 (ltimes_ok r r' (n + 1) 0 _) rfl (pen_noFn h) (pen_noFn h) rfl
  lless r r' h := guard1 (lless_ok r r' (n + 3) 0 _) rfl (pen_noFn h) (pen_noFn h) rfl
  lshare r r' h0 h := guard1 (lshare_ok r r' (n + 1) 0 _ h0) rfl (pen_noFn h) (pen_noFn h) rfl
  told r hd h := guard1 (told_ok (n + 1) 0 r hd _) (lams1 (hd_noLam hd)) (pen_noFn h) (pen_noFn h) rfl
  plus r r' hd hd' h := guard1 (plus_ok r r' hd hd' n 0 _) (lams2 (hd_noLam hd) (hd_noLam hd')) (pen_noFn h) (pen_noFn h) rfl
  minus r r' hd hd' h := guard1 (minus_ok r r' hd hd' n 0 _) (lams2 (hd_noLam hd) (hd_noLam hd')) (pen_noFn h) (pen_noFn h) rfl
  times r r' hd hd' h := guard1 (times_ok r r' hd hd' n 0 _) (lams2 (hd_noLam hd) (hd_noLam hd')) (pen_noFn h) (pen_noFn h) rfl
  less r r' hd hd' h := guard1 (less_ok r r' hd hd' n 0 _) (lams2 (hd_noLam hd) (hd_noLam hd')) (pen_noFn h) (pen_noFn h) rfl
  share r r' hd hd' h0 h := guard1 (share_ok r r' hd hd' n 0 _ h0) (lams2 (hd_noLam hd) (hd_noLam hd')) (pen_noFn h) (pen_noFn h) rfl
  ratio r hd h := guard1 (ratio_ok r hd (n + 1) 0 _) (lams1 (hd_noLam hd)) (pen_noFn h) (pen_noFn h) rfl
theorem guard_pen (n : Nat) (ns : List Int) : ∃ c, guardK (runP prog (n + 1)) "_law_pen" 0 [scrOf ns] [] = .ok (.obj 0, false) [c] ∧ PenOk 0 c := by
  obtain ⟨c, e, h⟩ := pen_ok n ns
  have hl : D.noLams [scrOf ns] = true := by
    have : D.noLams (ns.map D.int) = true := by
      clear e
      induction ns with
      | nil => rfl
      | cons z ns ih => simpa [D.noLams, D.noLam] using ih
    simp [scrOf, D.noLams, D.noLam, this]
  exact ⟨c, guard_ok e hl rfl rfl (by simp [restOk, pen_noFn h]), h⟩
end K02
end

section
/-! K02j: one lap of the law's loop. -/
namespace K02
open Pi PySem
abbrev l1 : IS := .assign (.tup [(.var 8), (.var 9)]) (.tup [(.call "_law_number" [(.var 1), (.call "_law_pick" [(.var 1), (.lst [(.con (.int 4)), (.con (.int 99999))])])]), (.call "_law_number" [(.var 1), (.con (.int 9))])])
abbrev l2 : IS := .iff (.cmp .Eq (.call "_law_draw" [(.var 1), (.con (.int 3))]) (.con (.int 0))) [.assign (.var 8) (.call "_law_q" [(.bin .Sub (.bin .Mult (.ix (.var 8) (.con (.int 0))) (.con (.int 5))) (.con (.int 3))), (.con (.int 999959))])] []
abbrev l3 : IS := .assign (.tup [(.var 10), (.var 11)]) (.tup [(.call "_law_handed" [(.var 1), (.var 8)]), (.call "_law_handed" [(.var 1), (.var 9)])])
abbrev l4 : IS := .assign (.var 5) (.lst [(.var 8), (.call "_law_plus" [(.var 8), (.var 9)]), (.call "_law_minus" [(.var 8), (.var 9)]), (.call "_law_times" [(.var 8), (.var 9)]), (.call "_law_less" [(.var 8), (.var 9)])])
abbrev l5 : IS := .iff (.cmp .NotEq (.bi .repr [(.lst [(.call "told" [(.var 10)]), (.call "plus" [(.var 10), (.var 11)]), (.call "minus" [(.var 10), (.var 11)]), (.call "times" [(.var 10), (.var 11)]), (.call "less" [(.var 10), (.var 11)])])]) (.bi .repr [(.var 5)])) [.ret (.con (.bl false))] []
abbrev l6 : IS := .iff (.cmp .NotEq (.bi .repr [(.call "is_ratio" [(.var 10)])]) (.bi .repr [(.not (.isi (.var 10) [.bt "list"]))])) [.ret (.con (.bl false))] []
abbrev l7 : IS := .iff (.band (.cmp .NotEq (.ix (.var 9) (.con (.int 0))) (.con (.int 0))) (.cmp .NotEq (.bi .repr [(.call "share" [(.var 10), (.var 11)])]) (.bi .repr [(.call "_law_share" [(.var 8), (.var 9)])]))) [.ret (.con (.bl false))] []
theorem isi_hd {t m : Int} {d : D} (h : Hd t m d) (c : Cell) : isAny [c] d [.bt "list"] = some (isL d) := by cases h <;> rfl
theorem eq_str (S : Store) (a : Str) : eqD S (.str a) (.str a) = some true := by simp [eqD]
section
variable {κ : Calls} (K : LK κ)
include K
theorem step1 {k : Nat} {c : Cell} (h : PenOk k c) (hk : k + 20 < 2 ^ 20) (s0 e2 e3 e4 e5 e6 e7 e8 e9 e10 e11 : Option D) :
    ∃ t m t' m' c', evS κ 0 l1 [s0, some (.obj 0), e2, e3, e4, e5, e6, e7, e8, e9, e10, e11] [c] = .ok (.nx, [s0, some (.obj 0), e2, e3, e4, e5, e6, e7, some (qD t m), some (qD t' m'), e10, e11]) [c'] ∧ Red t m ∧ t.natAbs < 2 ^ 20 ∧ Red t' m' ∧ PenOk (k + 5) c' := by
  obtain ⟨x, hx, c1, q1, h1⟩ := K.pick (xs := [.int 4, .int 99999]) (by simp) (by simp) (by simp [D.refsB]) (by simp [D.noFn]) rfl (by omega) h
  obtain ⟨most, rfl, m0, m1⟩ : ∃ m : Int, x = .int m ∧ 0 ≤ m ∧ m ≤ 99999 := by
    simp only [List.mem_cons, List.not_mem_nil, or_false] at hx
    rcases hx with rfl | rfl
    · exact ⟨4, rfl, by decide, by decide⟩
    · exact ⟨99999, rfl, by decide, by decide⟩
  obtain ⟨t, m, c2, q2, r2, t2, h2⟩ := K.number m0 m1 (by omega) h1
  obtain ⟨t', m', c3, q3, r3, t3, h3⟩ := K.number (most := 9) (by decide) (by decide) (by omega) h2
  refine ⟨t, m, t', m', c3, ?_, r2, t2, r3, h3⟩
  simp only [l1, evB, evS.eq_1, evS.eq_2, evS.eq_4, evS.eq_5, evS_for, evS.eq_8, evS.eq_9, evS.eq_10, evS.eq_12, evS.eq_13, evS.eq_14, evS.eq_15, ev, evEs, evO, evTO, evG, evGs, fin_f, fin_t, bindOk, bindErr, of_some, asB_ok, endC_ret, endC_nx, cmpD, eqD, ordD, isD, isNon, unD, truD, isAny, isOne, tagOf, tagIs, askTys, List.replicate, List.cons_append, List.nil_append, List.getElem?_cons_zero, List.getElem?_cons_succ, Option.bind_some, id_eq, List.set_cons_zero, List.set_cons_succ, Option.map_some, List.length_cons, List.length_nil, if_true, Bool.not_true, Bool.not_false, Bool.false_eq_true, if_false, Bool.true_and, Bool.and_true, q1, q2, q3, Nat.reduceLeDiff, Nat.reduceAdd]
theorem step2 {k : Nat} {c : Cell} (h : PenOk k c) (hk : k + 20 < 2 ^ 20) {t m : Int} (r : Red t m) (ht : t.natAbs < 2 ^ 20) (s0 e2 e3 e4 e5 e6 e7 e9 e10 e11 : Option D) :
    ∃ t' m' c', evS κ 0 l2 [s0, some (.obj 0), e2, e3, e4, e5, e6, e7, some (qD t m), e9, e10, e11] [c] = .ok (.nx, [s0, some (.obj 0), e2, e3, e4, e5, e6, e7, some (qD t' m'), e9, e10, e11]) [c'] ∧ Red t' m' ∧ PenOk (k + 1) c' := by
  obtain ⟨d, c1, q1, d0, d1, h1⟩ := K.draw (m := 3) (by decide) (by unfold small; decide) (by omega) h
  by_cases hd : d = 0
  · have q2 := K.q (t := t * 5 - 3) (m := 999959) (by decide) (by unfold small; decide) h1
    refine ⟨_, _, c1, ?_, red_of (t := t * 5 - 3) (m := 999959) (by decide) (by omega) (by decide), h1⟩
    rw [l2, evS.eq_5]
    simp only [evB, evS.eq_1, evS.eq_2, evS.eq_4, evS.eq_5, evS_for, evS.eq_8, evS.eq_9, evS.eq_10, evS.eq_12, evS.eq_13, evS.eq_14, evS.eq_15, ev, evEs, evO, evTO, evG, evGs, fin_f, fin_t, bindOk, bindErr, of_some, asB_ok, endC_ret, endC_nx, cmpD, eqD, ordD, isD, isNon, unD, truD, isAny, isOne, tagOf, tagIs, askTys, List.replicate, List.cons_append, List.nil_append, List.getElem?_cons_zero, List.getElem?_cons_succ, Option.bind_some, id_eq, List.set_cons_zero, List.set_cons_succ, Option.map_some, List.length_cons, List.length_nil, if_true, Bool.not_true, Bool.not_false, Bool.false_eq_true, if_false, Bool.true_and, Bool.and_true, q1, hd, decide_true, ix_q0, bMul (mul_small (i := t) 5 (by decide)), bSub, q2]
  · refine ⟨t, m, c1, ?_, r, h1⟩
    rw [l2, evS.eq_5]
    simp only [evB, evS.eq_1, evS.eq_2, evS.eq_4, evS.eq_5, evS_for, evS.eq_8, evS.eq_9, evS.eq_10, evS.eq_12, evS.eq_13, evS.eq_14, evS.eq_15, ev, evEs, evO, evTO, evG, evGs, fin_f, fin_t, bindOk, bindErr, of_some, asB_ok, endC_ret, endC_nx, cmpD, eqD, ordD, isD, isNon, unD, truD, isAny, isOne, tagOf, tagIs, askTys, List.replicate, List.cons_append, List.nil_append, List.getElem?_cons_zero, List.getElem?_cons_succ, Option.bind_some, id_eq, List.set_cons_zero, List.set_cons_succ, Option.map_some, List.length_cons, List.length_nil, if_true, Bool.not_true, Bool.not_false, Bool.false_eq_true, if_false, Bool.true_and, Bool.and_true, q1, hd, decide_false]
theorem step3 {k : Nat} {c : Cell} (h : PenOk k c) (hk : k + 20 < 2 ^ 20) {t m t' m' : Int} (r : Red t m) (r' : Red t' m') (s0 e2 e3 e4 e5 e6 e7 e10 e11 : Option D) :
    ∃ d d' c', evS κ 0 l3 [s0, some (.obj 0), e2, e3, e4, e5, e6, e7, some (qD t m), some (qD t' m'), e10, e11] [c] = .ok (.nx, [s0, some (.obj 0), e2, e3, e4, e5, e6, e7, some (qD t m), some (qD t' m'), some d, some d']) [c'] ∧ Hd t m d ∧ Hd t' m' d' ∧ PenOk (k + 6) c' := by
  obtain ⟨d, c1, q1, hd1, h1⟩ := K.handed r (by omega) h
  obtain ⟨d', c2, q2, hd2, h2⟩ := K.handed r' (by omega) h1
  refine ⟨d, d', c2, ?_, hd1, hd2, h2⟩
  simp only [l3, evB, evS.eq_1, evS.eq_2, evS.eq_4, evS.eq_5, evS_for, evS.eq_8, evS.eq_9, evS.eq_10, evS.eq_12, evS.eq_13, evS.eq_14, evS.eq_15, ev, evEs, evO, evTO, evG, evGs, fin_f, fin_t, bindOk, bindErr, of_some, asB_ok, endC_ret, endC_nx, cmpD, eqD, ordD, isD, isNon, unD, truD, isAny, isOne, tagOf, tagIs, askTys, List.replicate, List.cons_append, List.nil_append, List.getElem?_cons_zero, List.getElem?_cons_succ, Option.bind_some, id_eq, List.set_cons_zero, List.set_cons_succ, Option.map_some, List.length_cons, List.length_nil, if_true, Bool.not_true, Bool.not_false, Bool.false_eq_true, if_false, Bool.true_and, Bool.and_true, q1, q2, Nat.reduceLeDiff, Nat.reduceAdd]
theorem step4 {k : Nat} {c : Cell} (h : PenOk k c) {t m t' m' : Int} (r : Red t m) (r' : Red t' m') (s0 e2 e3 e4 e5 e6 e7 e10 e11 : Option D) :
    evS κ 0 l4 [s0, some (.obj 0), e2, e3, e4, e5, e6, e7, some (qD t m), some (qD t' m'), e10, e11] [c] = .ok (.nx, [s0, some (.obj 0), e2, e3, e4, some (.lst [qD t m, qD (nt (t * m' + t' * m) (m * m')) (nm (t * m' + t' * m) (m * m')), qD (nt (t * m' - t' * m) (m * m')) (nm (t * m' - t' * m) (m * m')), qD (nt (t * t') (m * m')) (nm (t * t') (m * m')), .bl (decide (t * m' < t' * m))]), e6, e7, some (qD t m), some (qD t' m'), e10, e11]) [c] := by
  simp only [l4, evB, evS.eq_1, evS.eq_2, evS.eq_4, evS.eq_5, evS_for, evS.eq_8, evS.eq_9, evS.eq_10, evS.eq_12, evS.eq_13, evS.eq_14, evS.eq_15, ev, evEs, evO, evTO, evG, evGs, fin_f, fin_t, bindOk, bindErr, of_some, asB_ok, endC_ret, endC_nx, cmpD, eqD, ordD, isD, isNon, unD, truD, isAny, isOne, tagOf, tagIs, askTys, List.replicate, List.cons_append, List.nil_append, List.getElem?_cons_zero, List.getElem?_cons_succ, Option.bind_some, id_eq, List.set_cons_zero, List.set_cons_succ, Option.map_some, List.length_cons, List.length_nil, if_true, Bool.not_true, Bool.not_false, Bool.false_eq_true, if_false, Bool.true_and, Bool.and_true, K.lplus r r' h, K.lminus r r' h, K.ltimes r r' h, K.lless r r' h, Nat.reduceLeDiff, Nat.reduceAdd]
theorem add_small {a b : Int} (ha : a.natAbs < 2 ^ 120) (hb : b.natAbs < 2 ^ 120) : small (a + b) := by unfold small; omega
theorem sub_small {a b : Int} (ha : a.natAbs < 2 ^ 120) (hb : b.natAbs < 2 ^ 120) : small (a - b) := by unfold small; omega
theorem step5 {k : Nat} {c : Cell} (h : PenOk k c) {t m t' m' : Int} (r : Red t m) (r' : Red t' m') {d d' : D} (hd : Hd t m d) (hd' : Hd t' m' d') (s0 e2 e3 e4 e6 e7 e8 e9 : Option D) :
    evS κ 0 l5 [s0, some (.obj 0), e2, e3, e4, some (.lst [qD t m, qD (nt (t * m' + t' * m) (m * m')) (nm (t * m' + t' * m) (m * m')), qD (nt (t * m' - t' * m) (m * m')) (nm (t * m' - t' * m) (m * m')), qD (nt (t * t') (m * m')) (nm (t * t') (m * m')), .bl (decide (t * m' < t' * m))]), e6, e7, e8, e9, some d, some d'] [c] = .ok (.nx, [s0, some (.obj 0), e2, e3, e4, some (.lst [qD t m, qD (nt (t * m' + t' * m) (m * m')) (nm (t * m' + t' * m) (m * m')), qD (nt (t * m' - t' * m) (m * m')) (nm (t * m' - t' * m) (m * m')), qD (nt (t * t') (m * m')) (nm (t * t') (m * m')), .bl (decide (t * m' < t' * m))]), e6, e7, e8, e9, some d, some d']) [c] := by
  have hm := mm_ne r r'
  have hs := mm_small r r'
  have p1 := sm_mul r.st r'.sm
  have p2 := sm_mul r'.st r.sm
  obtain ⟨s, es⟩ := repr_five (decide (t * m' < t' * m)) [c] (s60 r.st) (s60 r.sm) (nt_small hm (add_small K p1 p2)) (nm_small (t := t * m' + t' * m) hm hs) (nt_small hm (sub_small K p1 p2)) (nm_small (t := t * m' - t' * m) hm hs) (nt_small hm (s120 (sm_mul r.st r'.st))) (nm_small (t := t * t') hm hs)
  rw [l5, evS.eq_5]
  simp only [evB, evS.eq_1, evS.eq_2, evS.eq_4, evS.eq_5, evS_for, evS.eq_8, evS.eq_9, evS.eq_10, evS.eq_12, evS.eq_13, evS.eq_14, evS.eq_15, ev, evEs, evO, evTO, evG, evGs, fin_f, fin_t, bindOk, bindErr, of_some, asB_ok, endC_ret, endC_nx, cmpD, eqD, ordD, isD, isNon, unD, truD, isAny, isOne, tagOf, tagIs, askTys, List.replicate, List.cons_append, List.nil_append, List.getElem?_cons_zero, List.getElem?_cons_succ, Option.bind_some, id_eq, List.set_cons_zero, List.set_cons_succ, Option.map_some, List.length_cons, List.length_nil, if_true, Bool.not_true, Bool.not_false, Bool.false_eq_true, if_false, Bool.true_and, Bool.and_true, K.told r hd h, K.plus r r' hd hd' h, K.minus r r' hd hd' h, K.times r r' hd hd' h, K.less r r' hd hd' h, Nat.reduceLeDiff, Nat.reduceAdd, es, decide_true]
theorem step6 {k : Nat} {c : Cell} (h : PenOk k c) {t m : Int} (r : Red t m) {d : D} (hd : Hd t m d) (s0 e2 e3 e4 e5 e6 e7 e8 e9 e11 : Option D) :
    evS κ 0 l6 [s0, some (.obj 0), e2, e3, e4, e5, e6, e7, e8, e9, some d, e11] [c] = .ok (.nx, [s0, some (.obj 0), e2, e3, e4, e5, e6, e7, e8, e9, some d, e11]) [c] := by
  obtain ⟨s, es⟩ := repr_bl (!isL d) [c]
  have hi := isi_hd hd c
  rw [l6, evS.eq_5]
  simp only [evB, ev, evEs, fin_f, bindOk, of_some, List.getElem?_cons_zero, List.getElem?_cons_succ, Option.bind_some, id_eq, K.ratio r hd h, hi, es, cmpD, truD, eq_str, Option.map_some, Bool.not_true, asB_ok, Bool.false_eq_true, if_false]
theorem step7 {k : Nat} {c : Cell} (h : PenOk k c) {t m t' m' : Int} (r : Red t m) (r' : Red t' m') {d d' : D} (hd : Hd t m d) (hd' : Hd t' m' d') (s0 e2 e3 e4 e5 e6 e7 : Option D) :
    evS κ 0 l7 [s0, some (.obj 0), e2, e3, e4, e5, e6, e7, some (qD t m), some (qD t' m'), some d, some d'] [c] = .ok (.nx, [s0, some (.obj 0), e2, e3, e4, e5, e6, e7, some (qD t m), some (qD t' m'), some d, some d']) [c] := by
  rw [l7, evS.eq_5]
  by_cases h0 : t' = 0
  · simp only [evB, evS.eq_1, evS.eq_2, evS.eq_4, evS.eq_5, evS_for, evS.eq_8, evS.eq_9, evS.eq_10, evS.eq_12, evS.eq_13, evS.eq_14, evS.eq_15, ev, evEs, evO, evTO, evG, evGs, fin_f, fin_t, bindOk, bindErr, of_some, asB_ok, endC_ret, endC_nx, cmpD, eqD, ordD, isD, isNon, unD, truD, isAny, isOne, tagOf, tagIs, askTys, List.replicate, List.cons_append, List.nil_append, List.getElem?_cons_zero, List.getElem?_cons_succ, Option.bind_some, id_eq, List.set_cons_zero, List.set_cons_succ, Option.map_some, List.length_cons, List.length_nil, if_true, Bool.not_true, Bool.not_false, Bool.false_eq_true, if_false, Bool.true_and, Bool.and_true, ix_q0, h0, decide_true]
  · have hm := mt_ne r r' h0
    obtain ⟨s, es⟩ := repr_q [c] (nt_small hm (s120 (sm_mul r.st r'.sm))) (nm_small (t := t * m') hm (s120 (sm_mul r.sm r'.st)))
    simp only [evB, evS.eq_1, evS.eq_2, evS.eq_4, evS.eq_5, evS_for, evS.eq_8, evS.eq_9, evS.eq_10, evS.eq_12, evS.eq_13, evS.eq_14, evS.eq_15, ev, evEs, evO, evTO, evG, evGs, fin_f, fin_t, bindOk, bindErr, of_some, asB_ok, endC_ret, endC_nx, cmpD, eqD, ordD, isD, isNon, unD, truD, isAny, isOne, tagOf, tagIs, askTys, List.replicate, List.cons_append, List.nil_append, List.getElem?_cons_zero, List.getElem?_cons_succ, Option.bind_some, id_eq, List.set_cons_zero, List.set_cons_succ, Option.map_some, List.length_cons, List.length_nil, if_true, Bool.not_true, Bool.not_false, Bool.false_eq_true, if_false, Bool.true_and, Bool.and_true, ix_q0, h0, decide_false, K.share r r' hd hd' h0 h, K.lshare r r' h0 h, es, decide_true]
abbrev lapB : List IS := [l1, l2, l3, l4, l5, l6, l7]
theorem lap_ok {k : Nat} {c : Cell} (h : PenOk k c) (hk : k + 40 < 2 ^ 20) (x : D) (s0 e2 e3 e4 e5 e6 e7 e8 e9 e10 e11 : Option D) :
    ∃ f5 f8 f9 f10 f11 c', bodyL κ 0 (.var 2) lapB x [s0, some (.obj 0), e2, e3, e4, e5, e6, e7, e8, e9, e10, e11] [c] = .ok (.nx, [s0, some (.obj 0), some x, e3, e4, f5, e6, e7, f8, f9, f10, f11]) [c'] ∧ PenOk (k + 12) c' := by
  obtain ⟨t, m, t', m', c1, q1, r1, ht, r1', h1⟩ := step1 K h (by omega) s0 (some x) e3 e4 e5 e6 e7 e8 e9 e10 e11
  obtain ⟨t2, m2, c2, q2, r2, h2⟩ := step2 K h1 (by omega) r1 ht s0 (some x) e3 e4 e5 e6 e7 (some (qD t' m')) e10 e11
  obtain ⟨d, d', c3, q3, hd, hd', h3⟩ := step3 K h2 (by omega) r2 r1' s0 (some x) e3 e4 e5 e6 e7 e10 e11
  refine ⟨some (.lst [qD t2 m2, qD (nt (t2 * m' + t' * m2) (m2 * m')) (nm (t2 * m' + t' * m2) (m2 * m')), qD (nt (t2 * m' - t' * m2) (m2 * m')) (nm (t2 * m' - t' * m2) (m2 * m')), qD (nt (t2 * t') (m2 * m')) (nm (t2 * t') (m2 * m')), .bl (decide (t2 * m' < t' * m2))]), some (qD t2 m2), some (qD t' m'), some d, some d', c3, ?_, h3⟩
  unfold bodyL
  simp only [evG, bindOk, List.set_cons_succ, List.set_cons_zero]
  rw [lapB, evB_cons q1, evB_cons q2, evB_cons q3, evB_cons (step4 K h3 r2 r1' _ _ _ _ _ _ _ _ _), evB_cons (step5 K h3 r2 r1' hd hd' _ _ _ _ _ _ _ _), evB_cons (step6 K h3 r2 hd _ _ _ _ _ _ _ _ _ _), evB_cons (step7 K h3 r2 r1' hd hd' _ _ _ _ _ _ _)]
  rfl
theorem laps_ok (xs : List D) : ∀ {k : Nat} {c : Cell}, PenOk k c → k + 12 * xs.length + 40 < 2 ^ 20 → ∀ (s0 e2 e3 e4 e5 e6 e7 e8 e9 e10 e11 : Option D), ∃ f2 f5 f8 f9 f10 f11 c', loopL none none (bodyL κ 0 (.var 2) lapB) xs [s0, some (.obj 0), e2, e3, e4, e5, e6, e7, e8, e9, e10, e11] [c] = .ok (.nx, [s0, some (.obj 0), f2, e3, e4, f5, e6, e7, f8, f9, f10, f11]) [c'] ∧ PenOk (k + 12 * xs.length) c' := by
  induction xs with
  | nil => exact fun h hk s0 e2 e3 e4 e5 e6 e7 e8 e9 e10 e11 => ⟨e2, e5, e8, e9, e10, e11, _, rfl, h⟩
  | cons x xs ih =>
    intro k c h hk s0 e2 e3 e4 e5 e6 e7 e8 e9 e10 e11
    simp only [List.length_cons] at hk
    obtain ⟨f5, f8, f9, f10, f11, c1, q1, h1⟩ := lap_ok K h (by omega) x s0 e2 e3 e4 e5 e6 e7 e8 e9 e10 e11
    obtain ⟨g2, g5, g8, g9, g10, g11, c2, q2, h2⟩ := ih h1 (by omega) s0 (some x) e3 e4 f5 e6 e7 f8 f9 f10 f11
    exact ⟨g2, g5, g8, g9, g10, g11, c2, by rw [loop_nx q1]; exact q2, by simp only [List.length_cons]; rw [show k + 12 * (xs.length + 1) = k + 12 + 12 * xs.length by omega]; exact h2⟩
end
end K02
end

section
/-! K02k: values that are none; errors; what is due. -/
namespace K02
open Pi PySem
abbrev bRow (d : D) : Exn := ⟨"BadRow", ["row"], [d]⟩
abbrev bNum : Exn := ⟨"BadNumber", ["number", "what"], [.int 0, .str "share"]⟩
structure BadOk (d : D) : Prop where
  told : ∀ n b S, runP prog (n + 3) "told" b [d] S = .err (bRow d) S
  ratio : ∀ n b S, runP prog (n + 3) "is_ratio" b [d] S = .ok (.bl false, false) S
  fn : d.noFn = true
  lam : d.noLam = true
  refs : ∀ b, d.refsB b = true
  conv : ∀ env, D.conv env d = some d
  rep : ∃ s, ∀ S, callD .repr S [.tup [.str "row", d]] = some (.str s)
theorem endC_err {F : FunIR} {S : Store} {x : Exn} (h : D.refsBs S.length x.vs = true) : (endC F S.length (.err x S) : R (D × Bool)) = .err x S := by
  unfold endC
  simp [h]
def bads : List D := [.non, .str "1", .tup [.int 1], .tup [.int 1, .int 0], .tup [.int 1, .int (-2)], .tup [.bl true, .int 2], .tup [.int 1, .bl true], .bl true, .tup [.int 1, .int 2, .int 3], .lst [], .dct [] []]
def odds : List D := [.str "x", .tup [.int 0, .int 0], .non]
def isW : D → Bool
  | .int _ => true
  | _ => false
theorem whole_is (n b : Nat) (S : Store) : ∀ d : D, (∀ i, d ≠ .obj i) → (∀ x, d ≠ .glob x) → (∀ x, d ≠ .ty x) → (∀ k js, d ≠ .lam k js) → (∀ k ws, d ≠ .clo k ws) → runP prog (n + 1) "is_whole" b [d] S = .ok (.bl (isW d), false) S := by
  intro d h1 h2 h3 h4 h5
  rw [run_end (F := ir_is_whole) rfl rfl rfl rfl rfl]
  cases d with
  | obj i => exact absurd rfl (h1 i)
  | glob i => exact absurd rfl (h2 i)
  | ty i => exact absurd rfl (h3 i)
  | lam i j => exact absurd rfl (h4 i j)
  | clo i j => exact absurd rfl (h5 i j)
  | _ =>
    simp [ir_is_whole, evB, evS.eq_1, evS.eq_2, evS.eq_4, evS.eq_5, evS_for, evS.eq_8, evS.eq_9, evS.eq_10, evS.eq_12, evS.eq_13, evS.eq_14, evS.eq_15, ev, evEs, evO, evTO, evG, evGs, fin_f, fin_t, bindOk, bindErr, of_some, asB_ok, endC_ret, endC_nx, cmpD, eqD, ordD, isD, isNon, callD, lenD, binD, addD, intD, unD, truD, ixD, seqOf, isAny, isOne, tagOf, tagIs, askTys, List.map, List.replicate, List.cons_append, List.nil_append, List.getElem?_cons_zero, List.getElem?_cons_succ, Option.bind_some, id_eq, List.set_cons_zero, List.set_cons_succ, Option.map_some, List.length_cons, List.length_nil, if_true, Bool.not_true, Bool.not_false, Bool.false_eq_true, if_false, Bool.true_and, Bool.and_true, isW]
    rw [finP_eq rfl rfl rfl rfl]
theorem whole_bl (n b : Nat) (c : Bool) (S : Store) : runP prog (n + 1) "is_whole" b [.bl c] S = .ok (.bl false, false) S := whole_is n b S _ (by simp) (by simp) (by simp) (by simp) (by simp)
theorem whole_no : ∀ d ∈ bads ++ odds, ∀ n b S, runP prog (n + 1) "is_whole" b [d] S = .ok (.bl false, false) S := by
  intro d hd n b S
  simp only [bads, odds, List.cons_append, List.nil_append, List.mem_cons, List.not_mem_nil, or_false] at hd
  rcases hd with rfl | rfl | rfl | rfl | rfl | rfl | rfl | rfl | rfl | rfl | rfl | rfl | rfl | rfl <;> exact whole_is n b S _ (by simp) (by simp) (by simp) (by simp) (by simp)
theorem pair_no : ∀ d ∈ bads ++ odds, ∀ n b S, runP prog (n + 2) "is_pair" b [d] S = .ok (.bl false, false) S := by
  intro d hd n b S
  simp only [bads, odds, List.cons_append, List.nil_append, List.mem_cons, List.not_mem_nil, or_false] at hd
  rw [run_end (F := ir_is_pair) rfl rfl rfl rfl rfl]
  rcases hd with rfl | rfl | rfl | rfl | rfl | rfl | rfl | rfl | rfl | rfl | rfl | rfl | rfl | rfl <;>
  · simp [ir_is_pair, evB, evS.eq_1, evS.eq_2, evS.eq_4, evS.eq_5, evS_for, evS.eq_8, evS.eq_9, evS.eq_10, evS.eq_12, evS.eq_13, evS.eq_14, evS.eq_15, ev, evEs, evO, evTO, evG, evGs, fin_f, fin_t, bindOk, bindErr, of_some, asB_ok, endC_ret, endC_nx, cmpD, eqD, ordD, isD, isNon, callD, lenD, binD, addD, intD, unD, truD, ixD, seqOf, isAny, isOne, tagOf, tagIs, askTys, List.map, List.replicate, List.cons_append, List.nil_append, List.getElem?_cons_zero, List.getElem?_cons_succ, Option.bind_some, id_eq, List.set_cons_zero, List.set_cons_succ, Option.map_some, List.length_cons, List.length_nil, if_true, Bool.not_true, Bool.not_false, Bool.false_eq_true, if_false, Bool.true_and, Bool.and_true, lstOf, dctOf, atI0, atI1, whole_int, whole_bl]
    rw [finP_eq rfl rfl rfl rfl]
theorem isTup_b (S : Store) : ∀ d ∈ bads ++ odds, ∃ c, isAny S d [.bt "tuple"] = some c := by
  intro d hd
  simp only [bads, odds, List.cons_append, List.nil_append, List.mem_cons, List.not_mem_nil, or_false] at hd
  rcases hd with rfl | rfl | rfl | rfl | rfl | rfl | rfl | rfl | rfl | rfl | rfl | rfl | rfl | rfl <;> exact ⟨_, rfl⟩
theorem bad_ok : ∀ d ∈ bads ++ odds, BadOk d := fun d hd => by
  have hr : ∀ b, d.refsB b = true := fun b => by
    simp only [bads, odds, List.cons_append, List.nil_append, List.mem_cons, List.not_mem_nil, or_false] at hd
    rcases hd with rfl | rfl | rfl | rfl | rfl | rfl | rfl | rfl | rfl | rfl | rfl | rfl | rfl | rfl <;> rfl
  refine ⟨fun n b S => ?_, fun n b S => ?_, ?_, ?_, hr, fun env => ?_, ?_⟩
  · rw [run_end (F := ir_told) rfl rfl rfl rfl rfl]
    have h1 := whole_no d hd (n + 1)
    have h2 := pair_no d hd n
    have e : evB (runP prog (n + 2)) S.length ir_told.body ([d].map some ++ List.replicate (ir_told.slots - ir_told.params) none) S = .err (bRow d) S := by
      simp only [ir_told, evB, evS.eq_1, evS.eq_2, evS.eq_4, evS.eq_5, evS_for, evS.eq_8, evS.eq_9, evS.eq_10, evS.eq_12, evS.eq_13, evS.eq_14, evS.eq_15, ev, evEs, evO, evTO, evG, evGs, fin_f, fin_t, bindOk, bindErr, of_some, asB_ok, endC_ret, endC_nx, cmpD, eqD, ordD, isD, isNon, callD, lenD, binD, addD, intD, unD, truD, ixD, seqOf, isAny, isOne, tagOf, tagIs, askTys, List.map, List.replicate, List.cons_append, List.nil_append, List.getElem?_cons_zero, List.getElem?_cons_succ, Option.bind_some, id_eq, List.set_cons_zero, List.set_cons_succ, Option.map_some, List.length_cons, List.length_nil, if_true, Bool.not_true, Bool.not_false, Bool.false_eq_true, if_false, Bool.true_and, Bool.and_true, h1, h2, Nat.reduceSub]
      rfl
    rw [e]
    exact endC_err (by simp [D.refsBs, hr])
  · rw [run_end (F := ir_is_ratio) rfl rfl rfl rfl rfl]
    have h1 := whole_no d hd (n + 1)
    have h2 := pair_no d hd n
    obtain ⟨c, hc⟩ := isTup_b S d hd
    have e : evB (runP prog (n + 2)) S.length ir_is_ratio.body ([d].map some ++ List.replicate (ir_is_ratio.slots - ir_is_ratio.params) none) S = .ok (.ret (.bl false) false, [some d]) S := by
      simp only [ir_is_ratio, evB, evS.eq_12, ev, evEs, fin_f, bindOk, of_some, asB_ok, List.map, Nat.reduceSub, List.replicate, List.append_nil, List.getElem?_cons_zero, Option.bind_some, id_eq, h1, h2, hc, Bool.false_eq_true, if_false]
      cases c <;> rfl
    rw [e, endC_ret]
    exact finP_eq rfl rfl rfl rfl
  · simp only [bads, odds, List.cons_append, List.nil_append, List.mem_cons, List.not_mem_nil, or_false] at hd
    rcases hd with rfl | rfl | rfl | rfl | rfl | rfl | rfl | rfl | rfl | rfl | rfl | rfl | rfl | rfl <;> rfl
  · simp only [bads, odds, List.cons_append, List.nil_append, List.mem_cons, List.not_mem_nil, or_false] at hd
    rcases hd with rfl | rfl | rfl | rfl | rfl | rfl | rfl | rfl | rfl | rfl | rfl | rfl | rfl | rfl <;> rfl
  · simp only [bads, odds, List.cons_append, List.nil_append, List.mem_cons, List.not_mem_nil, or_false] at hd
    rcases hd with rfl | rfl | rfl | rfl | rfl | rfl | rfl | rfl | rfl | rfl | rfl | rfl | rfl | rfl <;> rfl
  · simp only [bads, odds, List.cons_append, List.nil_append, List.mem_cons, List.not_mem_nil, or_false] at hd
    rcases hd with rfl | rfl | rfl | rfl | rfl | rfl | rfl | rfl | rfl | rfl | rfl | rfl | rfl | rfl <;> exact ⟨_, fun S => repr_ok rfl rfl (by decide +kernel) (by decide +kernel) rfl⟩
end K02
end

section
/-! K02l: errors that are told; what is due. -/
namespace K02
open Pi PySem
theorem endC_okB {F : FunIR} {S : Store} {d : D} {fr : Bool} {env : Slots} (h1 : F.fresh = false) (h2 : F.keep = false) (h : d.refsB S.length = true) : endC F S.length (.ok (.ret d fr, env) S) = .ok (d, false) S := by
  rw [endC_ret]
  exact finP_eq h1 h2 rfl h
theorem fault_row (κ : Calls) {k : String} {ws : List D} {d : D} {S : Store} (h : κ k S.length ws S = .err (bRow d) S) (hr : d.refsB S.length = true) : endC ir__law_fault S.length (evB κ S.length ir__law_fault.body [some (.clo k ws), none] S) = .ok (.tup [.str "row", d], false) S := by
  have e : evB κ S.length ir__law_fault.body [some (.clo k ws), none] S = .ok (.ret (.tup [.str "row", d]) false, [some (.clo k ws), none]) S := by
    simp only [ir__law_fault, evB, evS.eq_1, evS.eq_2, evS.eq_4, evS.eq_5, evS_for, evS.eq_8, evS.eq_9, evS.eq_10, evS.eq_12, evS.eq_13, evS.eq_14, evS.eq_15, ev, evEs, evO, evTO, evG, evGs, fin_f, fin_t, bindOk, bindErr, of_some, asB_ok, endC_ret, endC_nx, cmpD, eqD, ordD, isD, isNon, unD, truD, isAny, isOne, tagOf, tagIs, askTys, List.replicate, List.cons_append, List.nil_append, List.getElem?_cons_zero, List.getElem?_cons_succ, Option.bind_some, id_eq, List.set_cons_zero, List.set_cons_succ, Option.map_some, List.length_cons, List.length_nil, if_true, Bool.not_true, Bool.not_false, Bool.false_eq_true, if_false, Bool.true_and, Bool.and_true, h]
    rfl
  rw [e]
  exact endC_okB rfl rfl (by simp [D.refsB, D.refsBs, hr])
theorem fault_num (κ : Calls) {k : String} {ws : List D} {S : Store} (h : κ k S.length ws S = .err bNum S) : endC ir__law_fault S.length (evB κ S.length ir__law_fault.body [some (.clo k ws), none] S) = .ok (.tup [.str "number", .str "share", .int 0], false) S := by
  have e : evB κ S.length ir__law_fault.body [some (.clo k ws), none] S = .ok (.ret (.tup [.str "number", .str "share", .int 0]) false, [some (.clo k ws), none]) S := by
    simp only [ir__law_fault, evB, evS.eq_1, evS.eq_2, evS.eq_4, evS.eq_5, evS_for, evS.eq_8, evS.eq_9, evS.eq_10, evS.eq_12, evS.eq_13, evS.eq_14, evS.eq_15, ev, evEs, evO, evTO, evG, evGs, fin_f, fin_t, bindOk, bindErr, of_some, asB_ok, endC_ret, endC_nx, cmpD, eqD, ordD, isD, isNon, unD, truD, isAny, isOne, tagOf, tagIs, askTys, List.replicate, List.cons_append, List.nil_append, List.getElem?_cons_zero, List.getElem?_cons_succ, Option.bind_some, id_eq, List.set_cons_zero, List.set_cons_succ, Option.map_some, List.length_cons, List.length_nil, if_true, Bool.not_true, Bool.not_false, Bool.false_eq_true, if_false, Bool.true_and, Bool.and_true, h]
    rfl
  rw [e]
  exact endC_okB rfl rfl rfl
/-- one try -/
def Due (κ : Calls) (b : Nat) (S : Store) (x : D) : Prop := ∃ k ws due s, x = .tup [.clo k ws, due] ∧ κ "_law_fault" b [.clo k ws] S = .ok (due, false) S ∧ callD .repr S [due] = some (.str s)
theorem comp_due {κ : Calls} {b : Nat} {S : Store} (g : Guard) (hg : okG S g = true) (env : Slots) (h0 : ∃ e0 e1 e2, env = [e0, e1, e2]) : ∀ xs : List D, (∀ x ∈ xs, Due κ b S x) →
    compL g none (fun x S => (evG κ b (.tup [.var 1, .var 2]) x (wipeE env [1, 2]) S).bind fun env' S => (evTO κ b none env' S).bind fun c S =>
        if c then (ev κ b false (.cmp .Eq (.bi .repr [.call "_law_fault" [.var 1]]) (.bi .repr [.var 2])) env' S).bind fun y S => .ok (some y) S else .ok none S) xs S = .ok (xs.map fun _ => .bl true) S
  | [], _ => by
    unfold compL
    rw [hg]
    rfl
  | x :: xs, h => by
    obtain ⟨e0, e1, e2, rfl⟩ := h0
    have ih := comp_due g hg [e0, e1, e2] ⟨_, _, _, rfl⟩ xs (fun x hx => h x (List.mem_cons_of_mem _ hx))
    obtain ⟨k, ws, due, s, rfl, q1, q2⟩ := h x (List.mem_cons_self ..)
    unfold compL
    rw [hg, show okG S none = true from rfl]
    have e : ((evG κ b (.tup [.var 1, .var 2]) (.tup [.clo k ws, due]) (wipeE [e0, e1, e2] [1, 2]) S).bind fun env' S => (evTO κ b none env' S).bind fun c S =>
        if c then (ev κ b false (.cmp .Eq (.bi .repr [.call "_law_fault" [.var 1]]) (.bi .repr [.var 2])) env' S).bind fun y S => .ok (some y) S else .ok none S) = .ok (some (.bl true)) S := by
      simp only [evB, evS.eq_1, evS.eq_2, evS.eq_4, evS.eq_5, evS_for, evS.eq_8, evS.eq_9, evS.eq_10, evS.eq_12, evS.eq_13, evS.eq_14, evS.eq_15, ev, evEs, evO, evTO, evG, evGs, fin_f, fin_t, bindOk, bindErr, of_some, asB_ok, endC_ret, endC_nx, cmpD, eqD, ordD, isD, isNon, unD, truD, isAny, isOne, tagOf, tagIs, askTys, List.replicate, List.cons_append, List.nil_append, List.getElem?_cons_zero, List.getElem?_cons_succ, Option.bind_some, id_eq, List.set_cons_zero, List.set_cons_succ, Option.map_some, List.length_cons, List.length_nil, if_true, Bool.not_true, Bool.not_false, Bool.false_eq_true, if_false, Bool.true_and, Bool.and_true, wipeE, q1, q2, decide_true]
    simp only [Bool.and_self, if_true]
    rw [e]
    simp only [List.map_cons]
    rw [ih]
theorem all_true : ∀ xs : List D, allBl (xs.map fun _ => D.bl true) = some true
  | [] => rfl
  | x :: xs => by simp [allBl, all_true xs]
theorem due_body (κ : Calls) {xs : List D} {S : Store} {o : Nat} (ho : S[o]? = some (.ice xs)) (h : ∀ x ∈ xs, Due κ S.length S x) (hl : xs.length < 1000) : endC ir__law_are_due S.length (evB κ S.length ir__law_are_due.body [some (.obj o), none, none] S) = .ok (.bl true, false) S := by
  have hg : okG S (guardOf (.obj o) xs) = true := by
    unfold okG guardOf
    simp only [ho]
    exact D.beqs_refl xs
  have hi : evI κ S.length (.seq (.var 0)) [some (.obj o), none, none] S = .ok (xs, guardOf (.obj o) xs, none) S := by
    have : seqOf S (.obj o) = some xs := by simp [seqOf, ho]
    simp only [evI, evB, evS.eq_1, evS.eq_2, evS.eq_4, evS.eq_5, evS_for, evS.eq_8, evS.eq_9, evS.eq_10, evS.eq_12, evS.eq_13, evS.eq_14, evS.eq_15, ev, evEs, evO, evTO, evG, evGs, fin_f, fin_t, bindOk, bindErr, of_some, asB_ok, endC_ret, endC_nx, cmpD, eqD, ordD, isD, isNon, unD, truD, isAny, isOne, tagOf, tagIs, askTys, List.replicate, List.cons_append, List.nil_append, List.getElem?_cons_zero, List.getElem?_cons_succ, Option.bind_some, id_eq, List.set_cons_zero, List.set_cons_succ, Option.map_some, List.length_cons, List.length_nil, if_true, Bool.not_true, Bool.not_false, Bool.false_eq_true, if_false, Bool.true_and, Bool.and_true, this]
  have hc := comp_due (κ := κ) (b := S.length) (guardOf (.obj o) xs) hg [some (.obj o), none, none] ⟨_, _, _, rfl⟩ xs h
  have hz : (xs.map fun _ => D.bl true).length < sizeLine := by
    rw [List.length_map]
    exact Nat.lt_trans hl (by decide)
  have e : ev κ S.length false (.comp (.cmp .Eq (.bi .repr [.call "_law_fault" [.var 1]]) (.bi .repr [.var 2])) (.tup [.var 1, .var 2]) (.seq (.var 0)) none [1, 2]) [some (.obj o), none, none] S = .ok (.lst (xs.map fun _ => D.bl true)) S := by
    rw [ev.eq_def]
    simp only [hi, fin_f, bindOk]
    rw [hc, bindOk, if_pos hz]
  have e2 : evB κ S.length ir__law_are_due.body [some (.obj o), none, none] S = .ok (.ret (.bl true) false, [some (.obj o), none, none]) S := by
    rw [show ir__law_are_due.body = [.ret (.bi .all [(.comp (.cmp .Eq (.bi .repr [(.call "_law_fault" [(.var 1)])]) (.bi .repr [(.var 2)])) (.tup [(.var 1), (.var 2)]) (.seq (.var 0)) none [1, 2])])] from rfl]
    apply evB_ret
    rw [evS.eq_12, ev, evEs, e]
    simp only [bindOk, evEs, fin_f, callD, lstOf, Option.bind_some, all_true, Option.map_some, of_some]
    rfl
  rw [e2]
  exact endC_okB rfl rfl rfl
end K02
end

section
/-! K02n: the tries; the law. -/
namespace K02
open Pi PySem
section
variable {d : D} (h : BadOk d)
include h
theorem plus_bad (o : D) (n b : Nat) (S : Store) : runP prog (n + 4) "plus" b [d, o] S = .err (bRow d) S := by
  rw [run_end (F := ir_plus) rfl rfl rfl rfl rfl]
  have e : evB (runP prog (n + 3)) S.length ir_plus.body ([d, o].map some ++ List.replicate (ir_plus.slots - ir_plus.params) none) S = .err (bRow d) S := by
    simp only [ir_plus, evB, evS.eq_1, evS.eq_2, evS.eq_4, evS.eq_5, evS_for, evS.eq_8, evS.eq_9, evS.eq_10, evS.eq_12, evS.eq_13, evS.eq_14, evS.eq_15, ev, evEs, evO, evTO, evG, evGs, fin_f, fin_t, bindOk, bindErr, of_some, asB_ok, endC_ret, endC_nx, cmpD, eqD, ordD, isD, isNon, unD, truD, isAny, isOne, tagOf, tagIs, askTys, List.replicate, List.cons_append, List.nil_append, List.getElem?_cons_zero, List.getElem?_cons_succ, Option.bind_some, id_eq, List.set_cons_zero, List.set_cons_succ, Option.map_some, List.length_cons, List.length_nil, if_true, Bool.not_true, Bool.not_false, Bool.false_eq_true, if_false, Bool.true_and, Bool.and_true, List.map, Nat.reduceSub, h.told]
  rw [e]
  exact endC_err (by simp [D.refsBs, h.refs])
theorem times_bad (o : D) (n b : Nat) (S : Store) : runP prog (n + 4) "times" b [d, o] S = .err (bRow d) S := by
  rw [run_end (F := ir_times) rfl rfl rfl rfl rfl]
  have e : evB (runP prog (n + 3)) S.length ir_times.body ([d, o].map some ++ List.replicate (ir_times.slots - ir_times.params) none) S = .err (bRow d) S := by
    simp only [ir_times, evB, evS.eq_1, evS.eq_2, evS.eq_4, evS.eq_5, evS_for, evS.eq_8, evS.eq_9, evS.eq_10, evS.eq_12, evS.eq_13, evS.eq_14, evS.eq_15, ev, evEs, evO, evTO, evG, evGs, fin_f, fin_t, bindOk, bindErr, of_some, asB_ok, endC_ret, endC_nx, cmpD, eqD, ordD, isD, isNon, unD, truD, isAny, isOne, tagOf, tagIs, askTys, List.replicate, List.cons_append, List.nil_append, List.getElem?_cons_zero, List.getElem?_cons_succ, Option.bind_some, id_eq, List.set_cons_zero, List.set_cons_succ, Option.map_some, List.length_cons, List.length_nil, if_true, Bool.not_true, Bool.not_false, Bool.false_eq_true, if_false, Bool.true_and, Bool.and_true, List.map, Nat.reduceSub, h.told]
  rw [e]
  exact endC_err (by simp [D.refsBs, h.refs])
theorem share_bad (o : D) (n b : Nat) (S : Store) : runP prog (n + 4) "share" b [d, o] S = .err (bRow d) S := by
  rw [run_end (F := ir_share) rfl rfl rfl rfl rfl]
  have e : evB (runP prog (n + 3)) S.length ir_share.body ([d, o].map some ++ List.replicate (ir_share.slots - ir_share.params) none) S = .err (bRow d) S := by
    simp only [ir_share, evB, evS.eq_1, evS.eq_2, evS.eq_4, evS.eq_5, evS_for, evS.eq_8, evS.eq_9, evS.eq_10, evS.eq_12, evS.eq_13, evS.eq_14, evS.eq_15, ev, evEs, evO, evTO, evG, evGs, fin_f, fin_t, bindOk, bindErr, of_some, asB_ok, endC_ret, endC_nx, cmpD, eqD, ordD, isD, isNon, unD, truD, isAny, isOne, tagOf, tagIs, askTys, List.replicate, List.cons_append, List.nil_append, List.getElem?_cons_zero, List.getElem?_cons_succ, Option.bind_some, id_eq, List.set_cons_zero, List.set_cons_succ, Option.map_some, List.length_cons, List.length_nil, if_true, Bool.not_true, Bool.not_false, Bool.false_eq_true, if_false, Bool.true_and, Bool.and_true, List.map, Nat.reduceSub, h.told]
  rw [e]
  exact endC_err (by simp [D.refsBs, h.refs])
theorem told_1 (n b : Nat) (S : Store) : runP prog (n + 3) "told" b [.int 1] S = .ok (qD 1 1, false) S := told_ok n b (t := 1) (m := 1) ⟨by decide, by decide, by decide, by decide⟩ (.int rfl) S
theorem told_12 (n b : Nat) (S : Store) : runP prog (n + 3) "told" b [.tup [.int 1, .int 2]] S = .ok (qD 1 2, false) S := told_ok n b (t := 1) (m := 2) ⟨by decide, by decide, by decide, by decide⟩ (.tup 1 (by decide) (by decide)) S
theorem minus_bad (n b : Nat) (S : Store) : runP prog (n + 4) "minus" b [.int 1, d] S = .err (bRow d) S := by
  rw [run_end (F := ir_minus) rfl rfl rfl rfl rfl]
  have e : evB (runP prog (n + 3)) S.length ir_minus.body ([.int 1, d].map some ++ List.replicate (ir_minus.slots - ir_minus.params) none) S = .err (bRow d) S := by
    simp only [ir_minus, evB, evS.eq_1, evS.eq_2, evS.eq_4, evS.eq_5, evS_for, evS.eq_8, evS.eq_9, evS.eq_10, evS.eq_12, evS.eq_13, evS.eq_14, evS.eq_15, ev, evEs, evO, evTO, evG, evGs, fin_f, fin_t, bindOk, bindErr, of_some, asB_ok, endC_ret, endC_nx, cmpD, eqD, ordD, isD, isNon, unD, truD, isAny, isOne, tagOf, tagIs, askTys, List.replicate, List.cons_append, List.nil_append, List.getElem?_cons_zero, List.getElem?_cons_succ, Option.bind_some, id_eq, List.set_cons_zero, List.set_cons_succ, Option.map_some, List.length_cons, List.length_nil, if_true, Bool.not_true, Bool.not_false, Bool.false_eq_true, if_false, Bool.true_and, Bool.and_true, List.map, Nat.reduceSub, h.told, told_1 h]
  rw [e]
  exact endC_err (by simp [D.refsBs, h.refs])
theorem less_bad (n b : Nat) (S : Store) : runP prog (n + 4) "less" b [.tup [.int 1, .int 2], d] S = .err (bRow d) S := by
  rw [run_end (F := ir_less) rfl rfl rfl rfl rfl]
  have e : evB (runP prog (n + 3)) S.length ir_less.body ([.tup [.int 1, .int 2], d].map some ++ List.replicate (ir_less.slots - ir_less.params) none) S = .err (bRow d) S := by
    simp only [ir_less, evB, evS.eq_1, evS.eq_2, evS.eq_4, evS.eq_5, evS_for, evS.eq_8, evS.eq_9, evS.eq_10, evS.eq_12, evS.eq_13, evS.eq_14, evS.eq_15, ev, evEs, evO, evTO, evG, evGs, fin_f, fin_t, bindOk, bindErr, of_some, asB_ok, endC_ret, endC_nx, cmpD, eqD, ordD, isD, isNon, unD, truD, isAny, isOne, tagOf, tagIs, askTys, List.replicate, List.cons_append, List.nil_append, List.getElem?_cons_zero, List.getElem?_cons_succ, Option.bind_some, id_eq, List.set_cons_zero, List.set_cons_succ, Option.map_some, List.length_cons, List.length_nil, if_true, Bool.not_true, Bool.not_false, Bool.false_eq_true, if_false, Bool.true_and, Bool.and_true, List.map, Nat.reduceSub, h.told, told_12 h]
  rw [e]
  exact endC_err (by simp [D.refsBs, h.refs])
theorem share_bad2 (n b : Nat) (S : Store) : runP prog (n + 4) "share" b [.int 1, d] S = .err (bRow d) S := by
  rw [run_end (F := ir_share) rfl rfl rfl rfl rfl]
  have e : evB (runP prog (n + 3)) S.length ir_share.body ([.int 1, d].map some ++ List.replicate (ir_share.slots - ir_share.params) none) S = .err (bRow d) S := by
    simp only [ir_share, evB, evS.eq_1, evS.eq_2, evS.eq_4, evS.eq_5, evS_for, evS.eq_8, evS.eq_9, evS.eq_10, evS.eq_12, evS.eq_13, evS.eq_14, evS.eq_15, ev, evEs, evO, evTO, evG, evGs, fin_f, fin_t, bindOk, bindErr, of_some, asB_ok, endC_ret, endC_nx, cmpD, eqD, ordD, isD, isNon, unD, truD, isAny, isOne, tagOf, tagIs, askTys, List.replicate, List.cons_append, List.nil_append, List.getElem?_cons_zero, List.getElem?_cons_succ, Option.bind_some, id_eq, List.set_cons_zero, List.set_cons_succ, Option.map_some, List.length_cons, List.length_nil, if_true, Bool.not_true, Bool.not_false, Bool.false_eq_true, if_false, Bool.true_and, Bool.and_true, List.map, Nat.reduceSub, h.told, told_1 h]
  rw [e]
  exact endC_err (by simp [D.refsBs, h.refs])
theorem lam0 (n b : Nat) (S : Store) : runP prog (n + 5) "law#0" b [d] S = .err (bRow d) S := by
  rw [run_end (F := lamF ⟨"law#0", [3], ["bad"], (.call "told" [(.var 0)])⟩) rfl rfl rfl rfl rfl]
  have e : evB (runP prog (n + 4)) S.length [.ret (.call "told" [(.var 0)])] [some d] S = .err (bRow d) S := by
    simp only [evB, evS.eq_1, evS.eq_2, evS.eq_4, evS.eq_5, evS_for, evS.eq_8, evS.eq_9, evS.eq_10, evS.eq_12, evS.eq_13, evS.eq_14, evS.eq_15, ev, evEs, evO, evTO, evG, evGs, fin_f, fin_t, bindOk, bindErr, of_some, asB_ok, endC_ret, endC_nx, cmpD, eqD, ordD, isD, isNon, unD, truD, isAny, isOne, tagOf, tagIs, askTys, List.replicate, List.cons_append, List.nil_append, List.getElem?_cons_zero, List.getElem?_cons_succ, Option.bind_some, id_eq, List.set_cons_zero, List.set_cons_succ, Option.map_some, List.length_cons, List.length_nil, if_true, Bool.not_true, Bool.not_false, Bool.false_eq_true, if_false, Bool.true_and, Bool.and_true, h.told]
  rw [show (lamF ⟨"law#0", [3], ["bad"], (.call "told" [(.var 0)])⟩).body = [.ret (.call "told" [(.var 0)])] from rfl]
  refine (congrArg _ e).trans (endC_err (by simp [D.refsBs, h.refs]))
theorem lam1 (o : D) (n b : Nat) (S : Store) : runP prog (n + 5) "law#1" b [d, o] S = .err (bRow d) S := by
  rw [run_end (F := lamF ⟨"law#1", [3, 6], ["bad", "odd"], (.call "plus" [(.var 0), (.var 1)])⟩) rfl rfl rfl rfl rfl]
  have e : evB (runP prog (n + 4)) S.length [.ret (.call "plus" [(.var 0), (.var 1)])] [some d, some o] S = .err (bRow d) S := by
    simp only [evB, evS.eq_1, evS.eq_2, evS.eq_4, evS.eq_5, evS_for, evS.eq_8, evS.eq_9, evS.eq_10, evS.eq_12, evS.eq_13, evS.eq_14, evS.eq_15, ev, evEs, evO, evTO, evG, evGs, fin_f, fin_t, bindOk, bindErr, of_some, asB_ok, endC_ret, endC_nx, cmpD, eqD, ordD, isD, isNon, unD, truD, isAny, isOne, tagOf, tagIs, askTys, List.replicate, List.cons_append, List.nil_append, List.getElem?_cons_zero, List.getElem?_cons_succ, Option.bind_some, id_eq, List.set_cons_zero, List.set_cons_succ, Option.map_some, List.length_cons, List.length_nil, if_true, Bool.not_true, Bool.not_false, Bool.false_eq_true, if_false, Bool.true_and, Bool.and_true, plus_bad h]
  refine (congrArg _ e).trans (endC_err (by simp [D.refsBs, h.refs]))
theorem lam2 (n b : Nat) (S : Store) : runP prog (n + 5) "law#2" b [d] S = .err (bRow d) S := by
  rw [run_end (F := lamF ⟨"law#2", [3], ["bad"], (.call "minus" [(.con (.int 1)), (.var 0)])⟩) rfl rfl rfl rfl rfl]
  have e : evB (runP prog (n + 4)) S.length [.ret (.call "minus" [(.con (.int 1)), (.var 0)])] [some d] S = .err (bRow d) S := by
    simp only [evB, evS.eq_1, evS.eq_2, evS.eq_4, evS.eq_5, evS_for, evS.eq_8, evS.eq_9, evS.eq_10, evS.eq_12, evS.eq_13, evS.eq_14, evS.eq_15, ev, evEs, evO, evTO, evG, evGs, fin_f, fin_t, bindOk, bindErr, of_some, asB_ok, endC_ret, endC_nx, cmpD, eqD, ordD, isD, isNon, unD, truD, isAny, isOne, tagOf, tagIs, askTys, List.replicate, List.cons_append, List.nil_append, List.getElem?_cons_zero, List.getElem?_cons_succ, Option.bind_some, id_eq, List.set_cons_zero, List.set_cons_succ, Option.map_some, List.length_cons, List.length_nil, if_true, Bool.not_true, Bool.not_false, Bool.false_eq_true, if_false, Bool.true_and, Bool.and_true, minus_bad h]
  refine (congrArg _ e).trans (endC_err (by simp [D.refsBs, h.refs]))
theorem lam3 (o : D) (n b : Nat) (S : Store) : runP prog (n + 5) "law#3" b [d, o] S = .err (bRow d) S := by
  rw [run_end (F := lamF ⟨"law#3", [6, 3], ["odd", "bad"], (.call "times" [(.var 0), (.var 1)])⟩) rfl rfl rfl rfl rfl]
  have e : evB (runP prog (n + 4)) S.length [.ret (.call "times" [(.var 0), (.var 1)])] [some d, some o] S = .err (bRow d) S := by
    simp only [evB, evS.eq_1, evS.eq_2, evS.eq_4, evS.eq_5, evS_for, evS.eq_8, evS.eq_9, evS.eq_10, evS.eq_12, evS.eq_13, evS.eq_14, evS.eq_15, ev, evEs, evO, evTO, evG, evGs, fin_f, fin_t, bindOk, bindErr, of_some, asB_ok, endC_ret, endC_nx, cmpD, eqD, ordD, isD, isNon, unD, truD, isAny, isOne, tagOf, tagIs, askTys, List.replicate, List.cons_append, List.nil_append, List.getElem?_cons_zero, List.getElem?_cons_succ, Option.bind_some, id_eq, List.set_cons_zero, List.set_cons_succ, Option.map_some, List.length_cons, List.length_nil, if_true, Bool.not_true, Bool.not_false, Bool.false_eq_true, if_false, Bool.true_and, Bool.and_true, times_bad h]
  refine (congrArg _ e).trans (endC_err (by simp [D.refsBs, h.refs]))
theorem lam4 (n b : Nat) (S : Store) : runP prog (n + 5) "law#4" b [d] S = .err (bRow d) S := by
  rw [run_end (F := lamF ⟨"law#4", [3], ["bad"], (.call "less" [(.tup [(.con (.int 1)), (.con (.int 2))]), (.var 0)])⟩) rfl rfl rfl rfl rfl]
  have e : evB (runP prog (n + 4)) S.length [.ret (.call "less" [(.tup [(.con (.int 1)), (.con (.int 2))]), (.var 0)])] [some d] S = .err (bRow d) S := by
    simp only [evB, evS.eq_1, evS.eq_2, evS.eq_4, evS.eq_5, evS_for, evS.eq_8, evS.eq_9, evS.eq_10, evS.eq_12, evS.eq_13, evS.eq_14, evS.eq_15, ev, evEs, evO, evTO, evG, evGs, fin_f, fin_t, bindOk, bindErr, of_some, asB_ok, endC_ret, endC_nx, cmpD, eqD, ordD, isD, isNon, unD, truD, isAny, isOne, tagOf, tagIs, askTys, List.replicate, List.cons_append, List.nil_append, List.getElem?_cons_zero, List.getElem?_cons_succ, Option.bind_some, id_eq, List.set_cons_zero, List.set_cons_succ, Option.map_some, List.length_cons, List.length_nil, if_true, Bool.not_true, Bool.not_false, Bool.false_eq_true, if_false, Bool.true_and, Bool.and_true, less_bad h, Nat.reduceAdd, Nat.reduceLeDiff]
  refine (congrArg _ e).trans (endC_err (by simp [D.refsBs, h.refs]))
theorem lam5 (n b : Nat) (S : Store) : runP prog (n + 5) "law#5" b [d] S = .err (bRow d) S := by
  rw [run_end (F := lamF ⟨"law#5", [3], ["bad"], (.call "share" [(.var 0), (.con (.int 0))])⟩) rfl rfl rfl rfl rfl]
  have e : evB (runP prog (n + 4)) S.length [.ret (.call "share" [(.var 0), (.con (.int 0))])] [some d] S = .err (bRow d) S := by
    simp only [evB, evS.eq_1, evS.eq_2, evS.eq_4, evS.eq_5, evS_for, evS.eq_8, evS.eq_9, evS.eq_10, evS.eq_12, evS.eq_13, evS.eq_14, evS.eq_15, ev, evEs, evO, evTO, evG, evGs, fin_f, fin_t, bindOk, bindErr, of_some, asB_ok, endC_ret, endC_nx, cmpD, eqD, ordD, isD, isNon, unD, truD, isAny, isOne, tagOf, tagIs, askTys, List.replicate, List.cons_append, List.nil_append, List.getElem?_cons_zero, List.getElem?_cons_succ, Option.bind_some, id_eq, List.set_cons_zero, List.set_cons_succ, Option.map_some, List.length_cons, List.length_nil, if_true, Bool.not_true, Bool.not_false, Bool.false_eq_true, if_false, Bool.true_and, Bool.and_true, share_bad h]
  refine (congrArg _ e).trans (endC_err (by simp [D.refsBs, h.refs]))
theorem lam6 (n b : Nat) (S : Store) : runP prog (n + 5) "law#6" b [d] S = .err (bRow d) S := by
  rw [run_end (F := lamF ⟨"law#6", [3], ["bad"], (.call "share" [(.con (.int 1)), (.var 0)])⟩) rfl rfl rfl rfl rfl]
  have e : evB (runP prog (n + 4)) S.length [.ret (.call "share" [(.con (.int 1)), (.var 0)])] [some d] S = .err (bRow d) S := by
    simp only [evB, evS.eq_1, evS.eq_2, evS.eq_4, evS.eq_5, evS_for, evS.eq_8, evS.eq_9, evS.eq_10, evS.eq_12, evS.eq_13, evS.eq_14, evS.eq_15, ev, evEs, evO, evTO, evG, evGs, fin_f, fin_t, bindOk, bindErr, of_some, asB_ok, endC_ret, endC_nx, cmpD, eqD, ordD, isD, isNon, unD, truD, isAny, isOne, tagOf, tagIs, askTys, List.replicate, List.cons_append, List.nil_append, List.getElem?_cons_zero, List.getElem?_cons_succ, Option.bind_some, id_eq, List.set_cons_zero, List.set_cons_succ, Option.map_some, List.length_cons, List.length_nil, if_true, Bool.not_true, Bool.not_false, Bool.false_eq_true, if_false, Bool.true_and, Bool.and_true, share_bad2 h]
  refine (congrArg _ e).trans (endC_err (by simp [D.refsBs, h.refs]))
end
def Zero (z : D) : Prop := ∀ n b S, runP prog (n + 3) "told" b [z] S = .ok (qD 0 1, false) S
theorem told_3 (n b : Nat) (S : Store) : runP prog (n + 3) "told" b [.int 3] S = .ok (qD 3 1, false) S := told_ok n b (t := 3) (m := 1) ⟨by decide, by decide, by decide, by decide⟩ (.int rfl) S
theorem zero1 : Zero (.int 0) := fun n b S => told_ok n b (t := 0) (m := 1) ⟨by decide, by decide, by decide, by decide⟩ (.int rfl) S
theorem zero2 : Zero (.tup [.int 0, .int 6]) := fun n b S => by
  rw [run_end (F := ir_told) rfl rfl (by rfl) rfl rfl]
  have e : nt 0 6 = 0 ∧ nm 0 6 = 1 := by decide
  have e2 : small 6 := by unfold small; decide
  simp [ir_told, evB, evS.eq_1, evS.eq_2, evS.eq_4, evS.eq_5, evS_for, evS.eq_8, evS.eq_9, evS.eq_10, evS.eq_12, evS.eq_13, evS.eq_14, evS.eq_15, ev, evEs, evO, evTO, evG, evGs, fin_f, fin_t, bindOk, bindErr, of_some, asB_ok, endC_ret, endC_nx, cmpD, eqD, ordD, isD, isNon, callD, lenD, binD, addD, intD, unD, truD, ixD, seqOf, isAny, isOne, tagOf, tagIs, askTys, List.map, List.replicate, List.cons_append, List.nil_append, List.getElem?_cons_zero, List.getElem?_cons_succ, Option.bind_some, id_eq, List.set_cons_zero, List.set_cons_succ, Option.map_some, List.length_cons, List.length_nil, if_true, Bool.not_true, Bool.not_false, Bool.false_eq_true, if_false, Bool.true_and, Bool.and_true, whole_tup, pair_tup, atI0, atI1, lowest_ok _ _ _ (show (6 : Int) ≠ 0 by decide) e2, e]
  rw [finP_eq rfl rfl rfl rfl]
theorem lam7 {z : D} (h : Zero z) (n b : Nat) (S : Store) : runP prog (n + 5) "law#7" b [z] S = .err bNum S := by
  have hs : ∀ b, runP prog (n + 4) "share" b [.int 3, z] S = .err bNum S := fun b => by
    rw [run_end (F := ir_share) rfl rfl rfl rfl rfl]
    have e : evB (runP prog (n + 3)) S.length ir_share.body ([.int 3, z].map some ++ List.replicate (ir_share.slots - ir_share.params) none) S = .err bNum S := by
      simp only [ir_share, evB, evS.eq_1, evS.eq_2, evS.eq_4, evS.eq_5, evS_for, evS.eq_8, evS.eq_9, evS.eq_10, evS.eq_12, evS.eq_13, evS.eq_14, evS.eq_15, ev, evEs, evO, evTO, evG, evGs, fin_f, fin_t, bindOk, bindErr, of_some, asB_ok, endC_ret, endC_nx, cmpD, eqD, ordD, isD, isNon, unD, truD, isAny, isOne, tagOf, tagIs, askTys, List.replicate, List.cons_append, List.nil_append, List.getElem?_cons_zero, List.getElem?_cons_succ, Option.bind_some, id_eq, List.set_cons_zero, List.set_cons_succ, Option.map_some, List.length_cons, List.length_nil, if_true, Bool.not_true, Bool.not_false, Bool.false_eq_true, if_false, Bool.true_and, Bool.and_true, List.map, Nat.reduceSub, h n, told_3, ix_q0, Nat.reduceAdd, Nat.reduceLeDiff, decide_true]
      rfl
    rw [e]
    exact endC_err rfl
  rw [run_end (F := lamF ⟨"law#7", [7], ["zero"], (.call "share" [(.con (.int 3)), (.var 0)])⟩) rfl rfl rfl rfl rfl]
  have e : evB (runP prog (n + 4)) S.length [.ret (.call "share" [(.con (.int 3)), (.var 0)])] [some z] S = .err bNum S := by
    simp only [evB, evS.eq_1, evS.eq_2, evS.eq_4, evS.eq_5, evS_for, evS.eq_8, evS.eq_9, evS.eq_10, evS.eq_12, evS.eq_13, evS.eq_14, evS.eq_15, ev, evEs, evO, evTO, evG, evGs, fin_f, fin_t, bindOk, bindErr, of_some, asB_ok, endC_ret, endC_nx, cmpD, eqD, ordD, isD, isNon, unD, truD, isAny, isOne, tagOf, tagIs, askTys, List.replicate, List.cons_append, List.nil_append, List.getElem?_cons_zero, List.getElem?_cons_succ, Option.bind_some, id_eq, List.set_cons_zero, List.set_cons_succ, Option.map_some, List.length_cons, List.length_nil, if_true, Bool.not_true, Bool.not_false, Bool.false_eq_true, if_false, Bool.true_and, Bool.and_true, hs]
  refine (congrArg _ e).trans (endC_err rfl)
theorem fault_rowR {k : String} {ws : List D} {d : D} (hd : BadOk d) {n : Nat} (h : ∀ b S, runP prog (n + 5) k b ws S = .err (bRow d) S) (b : Nat) (S : Store) : runP prog (n + 6) "_law_fault" b [.clo k ws] S = .ok (.tup [.str "row", d], false) S := by
  rw [run_end (F := ir__law_fault) rfl rfl rfl rfl rfl]
  exact fault_row (runP prog (n + 5)) (h _ S) (hd.refs _)
theorem fault_numR {k : String} {ws : List D} {n : Nat} (h : ∀ b S, runP prog (n + 5) k b ws S = .err bNum S) (b : Nat) (S : Store) : runP prog (n + 6) "_law_fault" b [.clo k ws] S = .ok (.tup [.str "number", .str "share", .int 0], false) S := by
  rw [run_end (F := ir__law_fault) rfl rfl rfl rfl rfl]
  exact fault_num (runP prog (n + 5)) (h _ S)
def triesL (bad odd : D) : List D := [.tup [.lam "law#0" [3], .tup [.str "row", bad]], .tup [.lam "law#1" [3, 6], .tup [.str "row", bad]], .tup [.lam "law#2" [3], .tup [.str "row", bad]], .tup [.lam "law#3" [6, 3], .tup [.str "row", odd]], .tup [.lam "law#4" [3], .tup [.str "row", bad]], .tup [.lam "law#5" [3], .tup [.str "row", bad]], .tup [.lam "law#6" [3], .tup [.str "row", bad]], .tup [.lam "law#7" [7], .tup [.str "number", .str "share", .int 0]]]
def triesC (bad odd zero : D) : List D := [.tup [.clo "law#0" [bad], .tup [.str "row", bad]], .tup [.clo "law#1" [bad, odd], .tup [.str "row", bad]], .tup [.clo "law#2" [bad], .tup [.str "row", bad]], .tup [.clo "law#3" [odd, bad], .tup [.str "row", odd]], .tup [.clo "law#4" [bad], .tup [.str "row", bad]], .tup [.clo "law#5" [bad], .tup [.str "row", bad]], .tup [.clo "law#6" [bad], .tup [.str "row", bad]], .tup [.clo "law#7" [zero], .tup [.str "number", .str "share", .int 0]]]
theorem due_num (S : Store) : ∃ s, callD .repr S [.tup [.str "number", .str "share", .int 0]] = some (.str s) := ⟨_, repr_ok rfl rfl (by decide +kernel) (by decide +kernel) rfl⟩
theorem dues {bad odd zero : D} (hb : BadOk bad) (ho : BadOk odd) (hz : Zero zero) (n b : Nat) (S : Store) : ∀ x ∈ triesC bad odd zero, Due (runP prog (n + 6)) b S x := by
  obtain ⟨s, es⟩ := hb.rep
  obtain ⟨s', es'⟩ := ho.rep
  obtain ⟨s2, es2⟩ := due_num S
  intro x hx
  simp only [triesC, List.mem_cons, List.not_mem_nil, or_false] at hx
  rcases hx with rfl | rfl | rfl | rfl | rfl | rfl | rfl | rfl
  · exact ⟨_, _, _, _, rfl, fault_rowR hb (lam0 hb n) b S, es S⟩
  · exact ⟨_, _, _, _, rfl, fault_rowR hb (lam1 hb _ n) b S, es S⟩
  · exact ⟨_, _, _, _, rfl, fault_rowR hb (lam2 hb n) b S, es S⟩
  · exact ⟨_, _, _, _, rfl, fault_rowR ho (lam3 ho _ n) b S, es' S⟩
  · exact ⟨_, _, _, _, rfl, fault_rowR hb (lam4 hb n) b S, es S⟩
  · exact ⟨_, _, _, _, rfl, fault_rowR hb (lam5 hb n) b S, es S⟩
  · exact ⟨_, _, _, _, rfl, fault_rowR hb (lam6 hb n) b S, es S⟩
  · exact ⟨_, _, _, _, rfl, fault_numR (lam7 hz n) b S, es2⟩
theorem are_due {bad odd zero : D} (hb : BadOk bad) (ho : BadOk odd) (hz : Zero zero) (n b : Nat) (c : Cell) : runP prog (n + 7) "_law_are_due" b [.obj 1] [c, .ice (triesC bad odd zero)] = .ok (.bl true, false) [c, .ice (triesC bad odd zero)] := by
  rw [run_end (F := ir__law_are_due) rfl rfl rfl rfl rfl]
  exact due_body (runP prog (n + 6)) (o := 1) rfl (dues hb ho hz n _ _) (show 8 < 1000 by decide)
end K02
end

section
/-! K02o: the law. -/
namespace K02
open Pi PySem
theorem restS_self : ∀ S : Store, restS S S = S
  | [] => rfl
  | c :: S => by simp [restS, restS_self S]
theorem restOk_self : ∀ S : Store, restOk S S = true
  | [] => rfl
  | c :: S => by simp [restOk, restOk_self S]
theorem conv1 {env : Slots} {k : String} {j : Nat} {d : D} (h : env[j]? = some (some d)) (hf : d.noFn = true) : D.conv env (.lam k [j]) = some (.clo k [d]) := by
  simp [D.conv, h, D.noFns, hf]
theorem conv2 {env : Slots} {k : String} {i j : Nat} {d e : D} (h : env[i]? = some (some d)) (h' : env[j]? = some (some e)) (hf : d.noFn = true) (hf' : e.noFn = true) : D.conv env (.lam k [i, j]) = some (.clo k [d, e]) := by
  simp [D.conv, h, h', D.noFns, hf, hf']
section
variable {bad odd zero : D} (hb : BadOk bad) (ho : BadOk odd) (zf : zero.noFn = true) (zl : zero.noLam = true) (zr : zero.refsB 0 = true)
variable {s0 f2 f5 f8 f9 f10 f11 : Option D}
include hb ho zf
theorem convs_tries : D.convs [s0, some (.obj 0), f2, some bad, some (.obj 1), f5, some odd, some zero, f8, f9, f10, f11] (triesL bad odd) = some (triesC bad odd zero) := by
  have row : ∀ env, D.conv env (.str "row") = some (.str "row") := fun _ => rfl
  have num : ∀ env, D.conv env (.str "number") = some (.str "number") := fun _ => rfl
  have sh : ∀ env, D.conv env (.str "share") = some (.str "share") := fun _ => rfl
  have z0 : ∀ env, D.conv env (.int 0) = some (.int 0) := fun _ => rfl
  have tu : ∀ env xs, D.conv env (.tup xs) = (D.convs env xs).map .tup := fun env xs => by rw [D.conv]
  generalize hE : [s0, some (.obj 0), f2, some bad, some (.obj 1), f5, some odd, some zero, f8, f9, f10, f11] = env
  have q3 : env[3]? = some (some bad) := by rw [← hE]; rfl
  have q6 : env[6]? = some (some odd) := by rw [← hE]; rfl
  have q7 : env[7]? = some (some zero) := by rw [← hE]; rfl
  simp only [triesL, triesC, D.convs, tu, row, num, sh, z0, hb.conv, ho.conv, conv1 q3 hb.fn, conv2 q3 q6 hb.fn ho.fn, conv2 q6 q3 ho.fn hb.fn, conv1 q7 zf, Option.map_some]
include zl zr
theorem refs_tries : D.refsBs 0 (triesC bad odd zero) = true := by
  simp [triesC, D.refsBs, D.refsB, hb.refs, ho.refs, zr]
theorem noLam_tries : D.noLams (triesC bad odd zero) = true := by
  simp [triesC, D.noLams, D.noLam, hb.lam, ho.lam, zl]
theorem noFn_tries : D.noFns (triesL bad odd) = false := rfl
/-- the store as a callee sees it -/
theorem conv_store {ns : List Int} {at_ dg ct fd : Int} : ([pen ns at_ dg ct fd, Cell.ice (triesL bad odd)] : Store).map (Cell.conv [s0, some (.obj 0), f2, some bad, some (.obj 1), f5, some odd, some zero, f8, f9, f10, f11]) = [pen ns at_ dg ct fd, .ice (triesC bad odd zero)] := by
  have e : Cell.conv [s0, some (.obj 0), f2, some bad, some (.obj 1), f5, some odd, some zero, f8, f9, f10, f11] (.ice (triesL bad odd)) = .ice (triesC bad odd zero) := by
    unfold Cell.conv
    simp only [noFn_tries hb ho zf zl zr, convs_tries hb ho zf, refs_tries hb ho zf zl zr, Bool.false_eq_true, if_false, if_true]
  simp only [List.map_cons, List.map_nil, e]
  rfl
theorem okIn_tries : Cell.okIn (.ice (triesC bad odd zero)) = true := by
  unfold Cell.okIn
  simp [noLam_tries hb ho zf zl zr]
end
theorem app_step {κ : Calls} {env : Slots} {c : Cell} {ys : List D} {e : IE} {y : D} (he : ev κ 0 false e env [c, .lst ys] = .ok y [c, .lst ys]) (h4 : env[4]? = some (some (.obj 1))) (hl : ys.length < 100) : evS κ 0 (.ex (.mt .append (.var 4) [e])) env [c, .lst ys] = .ok (.nx, env) [c, .lst (ys ++ [y])] := by
  have hz : ys.length < sizeLine := Nat.lt_trans hl (by decide)
  simp only [evS, ev, h4, Option.bind_some, id_eq, of_some, fin_f, bindOk, evEs, he]
  simp [mtOk, methD, hz, wrOk, bindOk, of_some, fin_f]
end K02
end

section
/-! K02p: the law's end. -/
namespace K02
open Pi PySem
section
variable {bad odd zero : D} (hb : BadOk bad) (ho : BadOk odd) (hz : Zero zero) (zf : zero.noFn = true) (zl : zero.noLam = true) (zr : zero.refsB 0 = true)
variable {s0 f2 f5 f8 f9 f10 f11 : Option D}
theorem toIce_pen (ns : List Int) (at_ dg ct fd : Int) : Cell.toIce (pen ns at_ dg ct fd) = pen ns at_ dg ct fd := by
  have h : (pen ns at_ dg ct fd).noFn = true := by
    have : D.noFns (ns.map D.int) = true := by
      induction ns with
      | nil => rfl
      | cons z ns ih => simpa [D.noFns, D.noFn] using ih
    simp [Cell.noFn, Cell.vals, pen, D.noFns, D.noFn, this]
  show (if (pen ns at_ dg ct fd).noFn then _ else _) = _
  rw [if_pos h]
theorem pen_fn (ns : List Int) (at_ dg ct fd : Int) : (pen ns at_ dg ct fd).noFn = true := by
    have : D.noFns (ns.map D.int) = true := by
      induction ns with
      | nil => rfl
      | cons z ns ih => simpa [D.noFns, D.noFn] using ih
    simp [Cell.noFn, Cell.vals, pen, D.noFns, D.noFn, this]
theorem call_s {κ0 : Calls} {f : String} {es : List IE} {us us' : List D} {r : Bool} {env : Slots} {S S1 S2 : Store} (he : evEs (guardK κ0) 0 es env S = .ok us S) (e1 : S.map Cell.toIce = S1) (e2 : S1.map (Cell.conv env) = S2) (hc : D.convs env us = some us') (hl : D.noLams us' = true) (hi : S2.all Cell.okIn = true) (hs : restS S1 S2 = S1) (h : κ0 f 0 us' S2 = .ok (.bl r, false) S2) :
    ev (guardK κ0) 0 false (.callS f es) env S = .ok (.bl r) S1 := by
  rw [ev, he, bindOk]
  simp only [hc, e1, e2]
  rw [guard_ok h hl hi rfl (restOk_self _), restS_self]
  unfold restR
  simp only [bindOk, hs, fin_f]
include hb ho hz zf zl zr
theorem last_ok (n : Nat) (ns : List Int) (at_ dg ct fd : Int) : evS (guardK (runP prog (n + 7))) 0 (.ret (.band (.cmp .Is (.callS "is_ratio" [(.var 3)]) (.con (.bl false))) (.callS "_law_are_due" [(.var 4)]))) [s0, some (.obj 0), f2, some bad, some (.obj 1), f5, some odd, some zero, f8, f9, f10, f11] [pen ns at_ dg ct fd, .lst (triesL bad odd)] = .ok (.ret (.bl true) false, [s0, some (.obj 0), f2, some bad, some (.obj 1), f5, some odd, some zero, f8, f9, f10, f11]) [pen ns at_ dg ct fd, .ice (triesL bad odd)] := by
  have i1 : ([pen ns at_ dg ct fd, Cell.lst (triesL bad odd)] : Store).map Cell.toIce = [pen ns at_ dg ct fd, Cell.ice (triesL bad odd)] := by
    simp only [List.map_cons, List.map_nil, toIce_pen]
    rfl
  have i2 : ([pen ns at_ dg ct fd, Cell.ice (triesL bad odd)] : Store).map Cell.toIce = [pen ns at_ dg ct fd, Cell.ice (triesL bad odd)] := by
    simp only [List.map_cons, List.map_nil, toIce_pen]
    rfl
  have i3 := conv_store (s0 := s0) (f2 := f2) (f5 := f5) (f8 := f8) (f9 := f9) (f10 := f10) (f11 := f11) (ns := ns) (at_ := at_) (dg := dg) (ct := ct) (fd := fd) hb ho zf zl zr
  have i4 : ([pen ns at_ dg ct fd, .ice (triesC bad odd zero)] : Store).all Cell.okIn = true := by
    simp [okIn_of (pen_fn ns at_ dg ct fd), okIn_tries hb ho zf zl zr]
  have i5 : restS [pen ns at_ dg ct fd, Cell.ice (triesL bad odd)] [pen ns at_ dg ct fd, .ice (triesC bad odd zero)] = [pen ns at_ dg ct fd, Cell.ice (triesL bad odd)] := by
    simp only [restS, pen_fn, if_true]
    rfl
  have c1 := call_s (κ0 := runP prog (n + 7)) (f := "is_ratio") (es := [.var 3]) (us := [bad]) (us' := [bad]) (by simp only [evEs, ev, List.getElem?_cons_zero, List.getElem?_cons_succ, Option.bind_some, id_eq, of_some, fin_f, bindOk]) i1 i3 (by simp [D.convs, hb.conv]) (lams1 hb.lam) i4 i5 (hb.ratio (n + 4) 0 _)
  have c2 := call_s (κ0 := runP prog (n + 7)) (f := "_law_are_due") (es := [.var 4]) (us := [.obj 1]) (us' := [.obj 1]) (by simp only [evEs, ev, List.getElem?_cons_zero, List.getElem?_cons_succ, Option.bind_some, id_eq, of_some, fin_f, bindOk]) i2 i3 rfl rfl i4 i5 (are_due hb ho hz n 0 _)
  rw [evS.eq_12]
  rw [ev.eq_10, ev.eq_7, c1, bindOk]
  simp only [ev.eq_2, fin_f, of_some, bindOk, cmpD, isD, decide_true, asB_ok, if_true, c2]
  rfl
end
abbrev loopS : IS := .for_ (.var 2) (.range1 (.con (.int 6))) lapB
abbrev t1 : IS := .assign (.var 3) (.call "_law_pick" [(.var 1), (.lst [(.con .non), (.con (.str "1")), (.tup [(.con (.int 1))]), (.tup [(.con (.int 1)), (.con (.int 0))]), (.tup [(.con (.int 1)), (.un .USub (.con (.int 2)))]), (.tup [(.con (.bl true)), (.con (.int 2))]), (.tup [(.con (.int 1)), (.con (.bl true))]), (.con (.bl true)), (.tup [(.con (.int 1)), (.con (.int 2)), (.con (.int 3))]), (.lst []), .dic0])])
abbrev t2 : IS := .assign (.tup [(.var 6), (.var 7)]) (.tup [(.call "_law_pick" [(.var 1), (.lst [(.con (.str "x")), (.tup [(.con (.int 0)), (.con (.int 0))]), (.con .non)])]), (.call "_law_pick" [(.var 1), (.lst [(.con (.int 0)), (.tup [(.con (.int 0)), (.con (.int 6))])])])])
section
variable {κ : Calls} (K : LK κ)
include K
theorem t1_ok {k : Nat} {c : Cell} (h : PenOk k c) (hk : k + 1 < 2 ^ 20) (s0 e2 e3 e4 e5 e6 e7 e8 e9 e10 e11 : Option D) :
    ∃ d ∈ bads, ∃ c', evS κ 0 t1 [s0, some (.obj 0), e2, e3, e4, e5, e6, e7, e8, e9, e10, e11] [c] = .ok (.nx, [s0, some (.obj 0), e2, some d, e4, e5, e6, e7, e8, e9, e10, e11]) [c'] ∧ PenOk (k + 1) c' := by
  obtain ⟨x, hx, c1, q1, h1⟩ := K.pick (xs := bads) (by simp [bads]) (show 11 < 1000 by decide) (fun x hx => (bad_ok x (List.mem_append_left _ hx)).refs 0) (fun x hx => (bad_ok x (List.mem_append_left _ hx)).fn) rfl hk h
  refine ⟨x, hx, c1, ?_, h1⟩
  unfold bads at q1
  simp only [t1, evB, evS.eq_1, evS.eq_2, evS.eq_4, evS.eq_5, evS_for, evS.eq_8, evS.eq_9, evS.eq_10, evS.eq_12, evS.eq_13, evS.eq_14, evS.eq_15, ev, evEs, evO, evTO, evG, evGs, fin_f, fin_t, bindOk, bindErr, of_some, asB_ok, endC_ret, endC_nx, cmpD, eqD, ordD, isD, isNon, unD, truD, isAny, isOne, tagOf, tagIs, askTys, List.replicate, List.cons_append, List.nil_append, List.getElem?_cons_zero, List.getElem?_cons_succ, Option.bind_some, id_eq, List.set_cons_zero, List.set_cons_succ, Option.map_some, List.length_cons, List.length_nil, if_true, Bool.not_true, Bool.not_false, Bool.false_eq_true, if_false, Bool.true_and, Bool.and_true, Nat.reduceAdd, Nat.reduceLeDiff, q1]
theorem t2_ok {k : Nat} {c : Cell} (h : PenOk k c) (hk : k + 2 < 2 ^ 20) (s0 e2 e3 e4 e5 e6 e7 e8 e9 e10 e11 : Option D) :
    ∃ d ∈ odds, ∃ z, (z = .int 0 ∨ z = .tup [.int 0, .int 6]) ∧ ∃ c', evS κ 0 t2 [s0, some (.obj 0), e2, e3, e4, e5, e6, e7, e8, e9, e10, e11] [c] = .ok (.nx, [s0, some (.obj 0), e2, e3, e4, e5, some d, some z, e8, e9, e10, e11]) [c'] ∧ PenOk (k + 2) c' := by
  obtain ⟨x, hx, c1, q1, h1⟩ := K.pick (xs := odds) (by simp [odds]) (show 3 < 1000 by decide) (fun x hx => (bad_ok x (List.mem_append_right _ hx)).refs 0) (fun x hx => (bad_ok x (List.mem_append_right _ hx)).fn) rfl (by omega) h
  obtain ⟨z, hz, c2, q2, h2⟩ := K.pick (xs := [.int 0, .tup [.int 0, .int 6]]) (by simp) (by simp) (by simp [D.refsB, D.refsBs]) (by simp [D.noFn, D.noFns]) rfl (by omega) h1
  refine ⟨x, hx, z, by simpa using hz, c2, ?_, h2⟩
  unfold odds at q1
  simp only [t2, evB, evS.eq_1, evS.eq_2, evS.eq_4, evS.eq_5, evS_for, evS.eq_8, evS.eq_9, evS.eq_10, evS.eq_12, evS.eq_13, evS.eq_14, evS.eq_15, ev, evEs, evO, evTO, evG, evGs, fin_f, fin_t, bindOk, bindErr, of_some, asB_ok, endC_ret, endC_nx, cmpD, eqD, ordD, isD, isNon, unD, truD, isAny, isOne, tagOf, tagIs, askTys, List.replicate, List.cons_append, List.nil_append, List.getElem?_cons_zero, List.getElem?_cons_succ, Option.bind_some, id_eq, List.set_cons_zero, List.set_cons_succ, Option.map_some, List.length_cons, List.length_nil, if_true, Bool.not_true, Bool.not_false, Bool.false_eq_true, if_false, Bool.true_and, Bool.and_true, Nat.reduceAdd, Nat.reduceLeDiff, q1, q2]
end
abbrev appL (k : String) (js : List Nat) (i : Nat) : IS := .ex (.mt .append (.var 4) [(.tup [(.lam k js), (.tup [(.con (.str "row")), (.var i)])])])
abbrev t3 : List IS := [.assign (.var 4) (.cellL (.lst [(.tup [(.lam "law#0" [3]), (.tup [(.con (.str "row")), (.var 3)])])])), appL "law#1" [3, 6] 3, appL "law#2" [3] 3, appL "law#3" [6, 3] 6, appL "law#4" [3] 3, appL "law#5" [3] 3, appL "law#6" [3] 3,
  .ex (.mt .append (.var 4) [(.tup [(.lam "law#7" [7]), (.tup [(.con (.str "number")), (.con (.str "share")), (.con (.int 0))])])]),
  .ret (.band (.cmp .Is (.callS "is_ratio" [(.var 3)]) (.con (.bl false))) (.callS "_law_are_due" [(.var 4)]))]
theorem appL_ok {κ : Calls} {c : Cell} {ys : List D} {k : String} {js : List Nat} {i : Nat} {d : D} {env : Slots} (hi : env[i]? = some (some d)) (h4 : env[4]? = some (some (.obj 1))) (hl : ys.length < 100) :
    evS κ 0 (appL k js i) env [c, .lst ys] = .ok (.nx, env) [c, .lst (ys ++ [.tup [.lam k js, .tup [.str "row", d]]])] :=
  app_step (by simp only [evB, evS.eq_1, evS.eq_2, evS.eq_4, evS.eq_5, evS_for, evS.eq_8, evS.eq_9, evS.eq_10, evS.eq_12, evS.eq_13, evS.eq_14, evS.eq_15, ev, evEs, evO, evTO, evG, evGs, fin_f, fin_t, bindOk, bindErr, of_some, asB_ok, endC_ret, endC_nx, cmpD, eqD, ordD, isD, isNon, unD, truD, isAny, isOne, tagOf, tagIs, askTys, List.replicate, List.cons_append, List.nil_append, List.getElem?_cons_zero, List.getElem?_cons_succ, Option.bind_some, id_eq, List.set_cons_zero, List.set_cons_succ, Option.map_some, List.length_cons, List.length_nil, if_true, Bool.not_true, Bool.not_false, Bool.false_eq_true, if_false, Bool.true_and, Bool.and_true, hi, Nat.reduceAdd, Nat.reduceLeDiff]) h4 hl
theorem t3_ok {bad odd zero : D} (hb : BadOk bad) (ho : BadOk odd) (hz : Zero zero) (zf : zero.noFn = true) (zl : zero.noLam = true) (zr : zero.refsB 0 = true) (n : Nat) (ns : List Int) (at_ dg ct fd : Int) (s0 f2 f4 f5 f8 f9 f10 f11 : Option D) :
    evB (guardK (runP prog (n + 7))) 0 t3 [s0, some (.obj 0), f2, some bad, f4, f5, some odd, some zero, f8, f9, f10, f11] [pen ns at_ dg ct fd] = .ok (.ret (.bl true) false, [s0, some (.obj 0), f2, some bad, some (.obj 1), f5, some odd, some zero, f8, f9, f10, f11]) [pen ns at_ dg ct fd, .ice (triesL bad odd)] := by
  rw [t3, evB_cons (env' := [s0, some (.obj 0), f2, some bad, some (.obj 1), f5, some odd, some zero, f8, f9, f10, f11]) (S' := [pen ns at_ dg ct fd, .lst [.tup [.lam "law#0" [3], .tup [.str "row", bad]]]])]
  · rw [evB_cons (appL_ok (d := bad) rfl rfl (by simp)), evB_cons (appL_ok (d := bad) rfl rfl (by simp)), evB_cons (appL_ok (d := odd) rfl rfl (by simp)), evB_cons (appL_ok (d := bad) rfl rfl (by simp)), evB_cons (appL_ok (d := bad) rfl rfl (by simp)), evB_cons (appL_ok (d := bad) rfl rfl (by simp))]
    rw [evB_cons (app_step (y := .tup [.lam "law#7" [7], .tup [.str "number", .str "share", .int 0]]) (by simp only [evB, evS.eq_1, evS.eq_2, evS.eq_4, evS.eq_5, evS_for, evS.eq_8, evS.eq_9, evS.eq_10, evS.eq_12, evS.eq_13, evS.eq_14, evS.eq_15, ev, evEs, evO, evTO, evG, evGs, fin_f, fin_t, bindOk, bindErr, of_some, asB_ok, endC_ret, endC_nx, cmpD, eqD, ordD, isD, isNon, unD, truD, isAny, isOne, tagOf, tagIs, askTys, List.replicate, List.cons_append, List.nil_append, List.getElem?_cons_zero, List.getElem?_cons_succ, Option.bind_some, id_eq, List.set_cons_zero, List.set_cons_succ, Option.map_some, List.length_cons, List.length_nil, if_true, Bool.not_true, Bool.not_false, Bool.false_eq_true, if_false, Bool.true_and, Bool.and_true, Nat.reduceAdd, Nat.reduceLeDiff]) rfl (by simp))]
    exact evB_ret (last_ok hb ho hz zf zl zr n ns at_ dg ct fd)
  · simp only [evB, evS.eq_1, evS.eq_2, evS.eq_4, evS.eq_5, evS_for, evS.eq_8, evS.eq_9, evS.eq_10, evS.eq_12, evS.eq_13, evS.eq_14, evS.eq_15, ev, evEs, evO, evTO, evG, evGs, fin_f, fin_t, bindOk, bindErr, of_some, asB_ok, endC_ret, endC_nx, cmpD, eqD, ordD, isD, isNon, unD, truD, isAny, isOne, tagOf, tagIs, askTys, List.replicate, List.cons_append, List.nil_append, List.getElem?_cons_zero, List.getElem?_cons_succ, Option.bind_some, id_eq, List.set_cons_zero, List.set_cons_succ, Option.map_some, List.length_cons, List.length_nil, if_true, Bool.not_true, Bool.not_false, Bool.false_eq_true, if_false, Bool.true_and, Bool.and_true, Nat.reduceAdd, Nat.reduceLeDiff]
    rfl
theorem law_ok (n : Nat) : LawOk prog (n + 8) := fun ns hl hz => by
  rw [run_lams (F := ir_law) rfl rfl rfl rfl rfl]
  obtain ⟨c0, q0, h0⟩ := guard_pen (n + 6) ns
  have K : LK (guardK (runP prog (n + 7))) := lk (n + 3)
  obtain ⟨f2, f5, f8, f9, f10, f11, c1, q1, h1⟩ := laps_ok K (rangeL 0 6) h0 (by show 0 + 12 * 6 + 40 < 2 ^ 20; decide) (some (scrOf ns)) none none none none none none none none none none
  obtain ⟨bad, hb, c2, q2, h2⟩ := t1_ok K h1 (by show 0 + 12 * 6 + 1 < 2 ^ 20; decide) (some (scrOf ns)) f2 none none f5 none none f8 f9 f10 f11
  obtain ⟨odd, ho, zero, hz, c3, q3, h3⟩ := t2_ok K h2 (by show 0 + 12 * 6 + 1 + 2 < 2 ^ 20; decide) (some (scrOf ns)) f2 (some bad) none f5 none none f8 f9 f10 f11
  obtain ⟨ms, at_, dg, ct, fd, rfl, -⟩ := h3
  have hz' : Zero zero ∧ zero.noFn = true ∧ zero.noLam = true ∧ zero.refsB 0 = true := by
    rcases hz with rfl | rfl
    · exact ⟨zero1, rfl, rfl, rfl⟩
    · exact ⟨zero2, rfl, rfl, rfl⟩
  have q4 := t3_ok (bad_ok bad (List.mem_append_left _ hb)) (bad_ok odd (List.mem_append_right _ ho)) hz'.1 hz'.2.1 hz'.2.2.1 hz'.2.2.2 n ms at_ dg ct fd (some (scrOf ns)) f2 none f5 f8 f9 f10 f11
  have e : evB (guardK (runP prog (n + 7))) 0 ir_law.body [some (scrOf ns), none, none, none, none, none, none, none, none, none, none, none] [] = .ok (.ret (.bl true) false, [some (scrOf ns), some (.obj 0), f2, some bad, some (.obj 1), f5, some odd, some zero, f8, f9, f10, f11]) [pen ms at_ dg ct fd, .ice (triesL bad odd)] := by
    rw [show ir_law.body = .assign (.var 1) (.call "_law_pen" [(.var 0)]) :: loopS :: t1 :: t2 :: t3 from rfl]
    rw [evB_cons (env' := [some (scrOf ns), some (.obj 0), none, none, none, none, none, none, none, none, none, none]) (S' := [c0])]
    · rw [evB_cons (env' := [some (scrOf ns), some (.obj 0), f2, none, none, f5, none, none, f8, f9, f10, f11]) (S' := [c1])]
      · rw [evB_cons q2, evB_cons q3]
        exact q4
      · rw [loopS, for_range (S' := [c0]) (i := 6) rfl (by decide) (by decide)]
        exact q1
    · simp only [evB, evS.eq_1, evS.eq_2, evS.eq_4, evS.eq_5, evS_for, evS.eq_8, evS.eq_9, evS.eq_10, evS.eq_12, evS.eq_13, evS.eq_14, evS.eq_15, ev, evEs, evO, evTO, evG, evGs, fin_f, fin_t, bindOk, bindErr, of_some, asB_ok, endC_ret, endC_nx, cmpD, eqD, ordD, isD, isNon, unD, truD, isAny, isOne, tagOf, tagIs, askTys, List.replicate, List.cons_append, List.nil_append, List.getElem?_cons_zero, List.getElem?_cons_succ, Option.bind_some, id_eq, List.set_cons_zero, List.set_cons_succ, Option.map_some, List.length_cons, List.length_nil, if_true, Bool.not_true, Bool.not_false, Bool.false_eq_true, if_false, Bool.true_and, Bool.and_true, q0]
  refine ⟨[], false, ?_⟩
  rw [show ([scrOf ns].map some ++ List.replicate (ir_law.slots - ir_law.params) none : Slots) = [some (scrOf ns), none, none, none, none, none, none, none, none, none, none, none] from rfl, show ([] : Store).length = 0 from rfl, e]
  rfl
end K02
end

section
set_option maxHeartbeats 0
namespace K02
open PySem PySem.W Pi
theorem es_bind : ∀ e ∈ es, BindOk e := by
  unfold es
  simp only [List.forall_mem_cons]
  refine ⟨?_, ?_, ?_, ?_, ?_, ?_, ?_, ?_, ?_, ?_, ?_, ?_, ?_, ?_, ?_, ?_, ?_, ?_, ?_, ?_, ?_, ?_, ?_, ?_, ?_, ?_, ?_, ?_, ?_, ?_, fun _ h => by cases h⟩
  · exact fun kV doc pm an cdv ct us hl => match us, hl with | [_], _ => rfl
  · exact fun kV doc pm an cdv ct us hl => match us, hl with | [_], _ => rfl
  · exact fun kV doc pm an cdv ct us hl => match us, hl with | [_, _], _ => rfl
  · exact fun kV doc pm an cdv ct us hl => match us, hl with | [_, _], _ => rfl
  · exact fun kV doc pm an cdv ct us hl => match us, hl with | [_, _], _ => rfl
  · exact fun kV doc pm an cdv ct us hl => match us, hl with | [_, _], _ => rfl
  · exact fun kV doc pm an cdv ct us hl => match us, hl with | [_, _], _ => rfl
  · exact fun kV doc pm an cdv ct us hl => match us, hl with | [_, _], _ => rfl
  · exact fun kV doc pm an cdv ct us hl => match us, hl with | [_, _], _ => rfl
  · exact fun kV doc pm an cdv ct us hl => match us, hl with | [_, _], _ => rfl
  · exact fun kV doc pm an cdv ct us hl => match us, hl with | [_, _], _ => rfl
  · exact fun kV doc pm an cdv ct us hl => match us, hl with | [_], _ => rfl
  · exact fun kV doc pm an cdv ct us hl => match us, hl with | [_, _], _ => rfl
  · exact fun kV doc pm an cdv ct us hl => match us, hl with | [_, _], _ => rfl
  · exact fun kV doc pm an cdv ct us hl => match us, hl with | [_, _], _ => rfl
  · exact fun kV doc pm an cdv ct us hl => match us, hl with | [_, _], _ => rfl
  · exact fun kV doc pm an cdv ct us hl => match us, hl with | [_], _ => rfl
  · exact fun kV doc pm an cdv ct us hl => match us, hl with | [_, _], _ => rfl
  · exact fun kV doc pm an cdv ct us hl => match us, hl with | [_, _], _ => rfl
  · exact fun kV doc pm an cdv ct us hl => match us, hl with | [_], _ => rfl
  · exact fun kV doc pm an cdv ct us hl => match us, hl with | [_, _], _ => rfl
  · exact fun kV doc pm an cdv ct us hl => match us, hl with | [_], _ => rfl
  · exact fun kV doc pm an cdv ct us hl => match us, hl with | [_], _ => rfl
  · exact fun kV doc pm an cdv ct us hl => match us, hl with | [_, _], _ => rfl
  · exact fun kV doc pm an cdv ct us hl => match us, hl with | [_, _], _ => rfl
  · exact fun kV doc pm an cdv ct us hl => match us, hl with | [_, _], _ => rfl
  · exact fun kV doc pm an cdv ct us hl => match us, hl with | [_, _], _ => rfl
  · exact fun kV doc pm an cdv ct us hl => match us, hl with | [_, _], _ => rfl
  · exact fun kV doc pm an cdv ct us hl => match us, hl with | [_, _], _ => rfl
  · exact fun kV doc pm an cdv ct us hl => match us, hl with | [_], _ => rfl
theorem xs_bind : ∀ e ∈ xs, BindOk e := by
  unfold xs
  simp only [List.forall_mem_cons]
  refine ⟨?_, ?_, ?_, ?_, ?_, fun _ h => by cases h⟩
  · exact fun kV doc pm an cdv ct us hl => match us, hl with | [_, _, _], _ => rfl
  · exact fun kV doc pm an cdv ct us hl => match us, hl with | [_, _, _], _ => rfl
  · exact fun kV doc pm an cdv ct us hl => match us, hl with | [_, _], _ => rfl
  · exact fun kV doc pm an cdv ct us hl => match us, hl with | [_, _], _ => rfl
  · exact fun kV doc pm an cdv ct us hl => match us, hl with | [_, _, _, _], _ => rfl
abbrev R : PySem.W.OpenRow := PySem.W.OpenLaw.row PySem.Challenge.rw_trusspapers_k02_ratios
abbrev hk : PySem.W.Hook := hookP 5 tb prog es xs
def ob (s : PySem.W.SharedT) : He.AlD := obsPG 5 tb prog es xs (HandSHeadRun.getT s)
theorem ob_eq (s : PySem.W.SharedT) : ob s = hk.obs s.abs := obsPG_eq (HandSHeadRun.getT_eq s)
theorem run (w : World) : HandSHeadRun.RunEqI R (PySem.W.view R.prog view_) hk ob 40000 loose w := by
  unfold HandSHeadRun.RunEqI; kernel_rfl
end K02
open PySem PySem.W PySem.Calls PyProof.Rows
theorem K02.holds_of (ok : Pi.LawOk K02.prog (39 + 1)) : PySem.Challenge.rw_trusspapers_k02_ratios.Holds := by
  w_on; o_law
  refine HandSHeadRun.head_imp (r := OpenLaw.row PySem.Challenge.rw_trusspapers_k02_ratios) (q := view (OpenLaw.row PySem.Challenge.rw_trusspapers_k02_ratios).prog K02.view_) (H := K02.hk) (ob := K02.ob) (M := 40000) (loose := K02.loose) (d := HandSHeadRun.topDef (OpenLaw.row PySem.Challenge.rw_trusspapers_k02_ratios).prog 40) (kwd := []) K02.ob_eq
    K02.run (by kernel_rfl) (by kernel_rfl) (by kernel_rfl) (by rfl) (by first | assumption | decide +kernel) (by decide +kernel) ⟨rfl, rfl, rfl, rfl, rfl, by decide +kernel⟩ ?hw ?hc
  case hw => w_witness2
  case hc =>
    refine Pi.walk_G (l := PySem.Challenge.rw_trusspapers_k02_ratios) (n := 63) (k := 2 * (39 + 1) + 2) (x := "script") rfl (by decide) (by kernel_rfl) ⟨rfl, by decide, by decide⟩ ?F
    intro w mg fa h Y G hmg0
    have hmg : mg ("law" : PySem.Str) = some (.ref fa) := by
      have e : (HandSHeadRun.topDef (OpenLaw.row PySem.Challenge.rw_trusspapers_k02_ratios).prog 40).name = ("law" : PySem.Str) := by kernel_rfl
      rw [← e]
      exact hmg0
    exact Pi.law_F (by decide) K02.es_chk K02.es_cov K02.xs_cov K02.es_bind K02.xs_bind (Pi.lam_ok K02.lam_prog) (by decide +kernel) (by decide +kernel) ok Y G hmg
end

theorem PySem.Challenge.cw_trusspapers_k02_ratios_holds : PySem.Challenge.rw_trusspapers_k02_ratios.Holds := by
  exact K02.holds_of (K02.law_ok 32)
