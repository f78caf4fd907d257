import PyProof.Rows.All
import Wide.All
import OpenK.AllK
import Wide.FinOn
import PySem.Syntax
import HandS.ForMost
import HandS.Exc
import HandS.TryOnly
import HandS.ExcOwn
import HandS.TryMany
import HandS.Flow
import HandS.Style
import HandS.TupAny
import HandS.TupMul
import HandS.Deep
import HandS.Zip
import HandS.Conv
import HandS.IsInst
import HandS.Lambda
import HandS.ExcField
import KE.KExcSuper
import HandS.ExcInit
import HandS.HeadWalk
import PyProof.Rows.IntBool
import PyProof.Rows.RuleB_bool
import KE.SortData
import KE.DatumOrd
import KE.KDictCopyH
import KE.KDictExact
import HandS.DictTup
import PyProof.AutoSeq1
import HandS.TupLen
import HandS.Strs
import HandS.Defaults
import HandS.HeadHook4
import KE.KStateDown
import HandS.ForExc
import HandS.Head0
import HandS.Head1
import HandS.Head2
import HandS.HeadEnd
import PySem.Challenge.RW_messagehouse_k52_whole_copies
set_option linter.all false
set_option maxRecDepth 100000
/-! MCore: a small language of our own: values, a store of what changes, terms, and what they come to. -/
namespace MP
open PySem (Operator CmpOp)

/-- values; lst: a list that nobody changes; ref: a thing of the store; scr: the script -/
inductive PV where
  | non | bl (b : Bool) | int (i : Int) | str (x : List Nat) | tup (xs : List PV) | lst (xs : List PV) | ref (n : Nat) | fn (n : Nat) | scr (ns : List Int)
  deriving Inhabited

/-- what changes -/
inductive MO where
  | lst (xs : List PV) | dK (kvs : List (PV × PV)) | dT (kvs : List (PV × PV)) | ins (c : Nat) (fs : List (Nat × PV))
  deriving Inhabited

abbrev Sto := List MO
structure Exn where
  c : Nat
  arg : Option PV

inductive Out (α : Type) where
  | ok (a : α) (st : Sto)
  | exc (e : Exn) (st : Sto)
  | stuck
namespace Out
variable {α β : Type}
def bind (o : Out α) (f : α → Sto → Out β) : Out β := match o with
  | ok a st => f a st
  | exc e st => exc e st
  | stuck => stuck
end Out

abbrev Env := List (Option PV)
abbrev M (α : Type) := Env → Sto → Out α

/-- built-ins -/
inductive Bt where
  | len | abs | max2 | min2 | int | str | list (m : Bool) | tuple | sum | all | any | sorted (m : Bool)
  deriving DecidableEq
/-- methods of built-in types -/
inductive Mt where
  | append | extend | pop | popAt | index | get2
  deriving DecidableEq
/-- types that are asked for -/
inductive Ty where
  | int | bool | str | tuple | list
  deriving DecidableEq

inductive Tg where
  | name (i : Nat)
  | tup (ts : List Tg)
  deriving Inhabited

mutual
inductive IE where
  | var (i : Nat) | con (v : PV) | glo (c : Nat) | fnv (f : Nat)
  | tup (es : IEs) | lst (m : Bool) (es : IEs) | dct (t : Bool)
  | bin (m : Bool) (op : Operator) (a b : IE) | cmp (op : CmpOp) (a b : IE) | chn (o1 o2 : CmpOp) (a b c : IE)
  | bop (k : Bool) (a : IE) (es : IEs) | not (a : IE) | neg (a : IE) | ife (c a b : IE)
  | call (f : Nat) (pure : Bool) (es : IEs)
  | blt (b : Bt) (es : IEs)
  | met (m : Mt) (o : IE) (es : IEs)
  | idx (a b : IE) | ixg (c : Nat) (b : IE) | ixo (a b : IE) | dix (a b : IE) | din (neg : Bool) (a b : IE) | slc (m : Bool) (a : IE) (lo hi : IE)
  | nop
  | lc (m : Bool) (own : List Nat) (tg : Tg) (it : II) (c elt : IE)
  | isi (a : IE) (t : Ty)
  | erl (g : Nat) (b : IE)
inductive IEs where
  | nil
  | cons (e : IE) (es : IEs)
inductive II where
  | ev (e : IE) | rng1 (a : IE) | rng2 (a b : IE) | enm (e : IE) | zip (a b : IE)
end

inductive IS where
  | set (t : Tg) (e : IE) | par (is : List Nat) (es : IEs) | expr (e : IE) | ret (e : IE) | retn
  | ife (c : IE) (a b : List IS) | for_ (t : Tg) (it : II) (b : List IS) | while_ (c : IE) (b : List IS)
  | raise (c : Nat) | raiseA (c : Nat) (e : IE) | pass | setIx (o i e : IE) | setD (o i e : IE)

/-- how a statement ends -/
inductive Fl where
  | nx (σ : Env)
  | rt (v : PV)

/-! ### lines -/
def line : Nat := 16777216
theorem turns_ex : ∃ n : Nat, n = 1000000 := ⟨_, rfl⟩
/-- how often a loop turns at most; shut, so that nobody unfolds it -/
noncomputable def turns : Nat := turns_ex.choose
theorem turns_eq : turns = 1000000 := turns_ex.choose_spec

/-! ### values -/
mutual
/-- as data: == -/
def eqv : PV → PV → Bool
  | .non, .non => true
  | .bl a, .bl b => a == b
  | .bl a, .int j => (if a then 1 else 0) == j
  | .int i, .bl b => i == (if b then 1 else 0)
  | .int i, .int j => i == j
  | .str x, .str y => x == y
  | .lst xs, .lst ys => eqvs xs ys
  | .tup xs, .tup ys => eqvs xs ys
  | _, _ => false
def eqvs : List PV → List PV → Bool
  | [], [] => true
  | x :: xs, y :: ys => eqv x y && eqvs xs ys
  | _, _ => false
end
mutual
/-- data of at most so many levels -/
def dataN : Nat → PV → Bool
  | _, .non | _, .bl _ | _, .int _ | _, .str _ => true
  | n + 1, .tup xs | n + 1, .lst xs => datasN n xs
  | _, _ => false
def datasN : Nat → List PV → Bool
  | _, [] => true
  | n, x :: xs => dataN n x && datasN n xs
end
mutual
def data : PV → Bool
  | .non | .bl _ | .int _ | .str _ => true
  | .tup xs | .lst xs => datas xs
  | _ => false
def datas : List PV → Bool
  | [] => true
  | x :: xs => data x && datas xs
end
mutual
/-- no thing of the store in it -/
def closed : PV → Bool
  | .ref _ => false
  | .tup xs | .lst xs => closeds xs
  | _ => true
def closeds : List PV → Bool
  | [] => true
  | x :: xs => closed x && closeds xs
end
/-- a list of the store, read -/
def rd (st : Sto) : PV → PV
  | .ref n => (match st[n]? with
    | some (.lst xs) => .lst xs
    | _ => .ref n)
  | v => v
def isLst : PV → Bool
  | .lst _ => true
  | _ => false
def deep : Nat := 150
/-- may be compared by == -/
def eqOk (a b : PV) : Bool := (dataN deep b && data a) || (dataN deep a && data b)
def truth : PV → Option Bool
  | .non => some false
  | .bl b => some b
  | .int i => some (i != 0)
  | .str x => some (!x.isEmpty)
  | .tup xs | .lst xs => some (!xs.isEmpty)
  | _ => none
def isInt : PV → Option Int
  | .int i => some i
  | _ => none
def intsOf : List PV → Option (List Int)
  | [] => some []
  | .int i :: r => (intsOf r).map (i :: ·)
  | _ => none
def boolsOf : List PV → Option (List Bool)
  | [] => some []
  | .bl b :: r => (boolsOf r).map (b :: ·)
  | _ => none
/-- an index of Python's -/
def ixOf (n : Nat) (i : Int) : Option Nat := if 0 ≤ i then (if i < n then some i.toNat else none) else if -(n : Int) ≤ i then some (i + n).toNat else none
/-- an end of a slice -/
def cutIx (n d : Nat) : Option Int → Nat
  | none => d
  | some v => if v < 0 then (v + n).toNat else min v.toNat n
def cut {α : Type} (xs : List α) (lo hi : Option Int) : List α := (xs.drop (cutIx xs.length 0 lo)).take (cutIx xs.length xs.length hi - cutIx xs.length 0 lo)

def ok1 (v : PV) (st : Sto) : Out PV := .ok v st
/-- a value, or nothing -/
def may (o : Option PV) (st : Sto) : Out PV := match o with
  | some v => .ok v st
  | none => .stuck
/-- a new list -/
def newL (m : Bool) (xs : List PV) (st : Sto) : Out PV := if xs.length ≤ line then (if m then .ok (.ref st.length) (st ++ [.lst xs]) else .ok (.lst xs) st) else .stuck
def newT (xs : List PV) (st : Sto) : Out PV := if xs.length ≤ line then .ok (.tup xs) st else .stuck

def small (i : Int) : Bool := Nat.ble i.natAbs 18446744073709551615
def binop (m : Bool) (op : Operator) (a b : PV) (st : Sto) : Out PV := match op, rd st a, rd st b with
  | .Add, .int i, .int j => .ok (.int (i + j)) st
  | .Add, .tup xs, .tup ys => newT (xs ++ ys) st
  | .Add, .lst xs, .lst ys => newL m (xs ++ ys) st
  | .Add, .str x, .str y => if x.length + y.length ≤ line then .ok (.str (x ++ y)) st else .stuck
  | .Sub, .int i, .int j => .ok (.int (i - j)) st
  | .Sub, .bl a, .bl b => .ok (.int ((if a then 1 else 0) - (if b then 1 else 0))) st
  | .Mult, .int i, .int j => if small i || small j then .ok (.int (i * j)) st else .stuck
  | .Mult, .int i, .bl b => .ok (.int (i * (if b then 1 else 0))) st
  | .Mult, .tup xs, .int k => if xs ≠ [] ∧ 2 ≤ k ∧ k ≤ 1000 ∧ xs.length ≤ 1000 then newT (List.replicate k.toNat xs).flatten st else .stuck
  | .Mult, .lst xs, .int k => if -1000000 ≤ k ∧ k ≤ 1000000 ∧ xs.length * k.toNat ≤ line then newL m (List.replicate k.toNat xs).flatten st else .stuck
  | .FloorDiv, .int i, .int j => if 0 < j ∧ j < 1073741824 then .ok (.int (i / j)) st else .stuck
  | .Mod, .int i, .int j => if 0 < j then .ok (.int (i % j)) st else .stuck
  | .Pow, .int i, .int j => if 0 ≤ j ∧ j ≤ 1000000 ∧ i.natAbs < 2 ^ 64 then .ok (.int (i ^ j.toNat)) st else .stuck
  | _, _, _ => .stuck

def isKey : PV → Bool
  | .int _ | .str _ => true
  | _ => false
/-- a key of keys; kt: tuples of the module's own are none -/
def isTKey (kt : List (List PV)) : PV → Bool
  | .tup xs => xs.all isKey && !(kt.any fun ys => eqvs ys xs)
  | _ => false
/-- the value of a key -/
def look (k : PV) : List (PV × PV) → Option PV
  | [] => none
  | (j, v) :: r => if eqv j k then some v else look k r
def put (k v : PV) (l : List (PV × PV)) : List (PV × PV) := if (l.any fun p => eqv p.1 k) then l.map (fun p => if eqv p.1 k then (p.1, v) else p) else l ++ [(k, v)]
def signIn : PV → List Nat → Option Bool
  | .str [c], t => some (t.elem c)
  | _, _ => none
def isIn2 (x : PV) : PV → Option Bool
  | .tup xs | .lst xs => if (dataN deep x && datas xs) then some (xs.any fun z => eqv z x) else none
  | .str t => signIn x t
  | _ => none
/-- x in y: none: not to be told -/
def isIn (x y : PV) (st : Sto) : Option Bool := isIn2 x (rd st y)
/-- what a dict has at a key -/
def dget (kt : List (List PV)) (d k : PV) (st : Sto) : Option (Option PV) := match d with
  | .ref n => (match st[n]? with
    | some (.dK kvs) => if isKey k then some (look k kvs) else none
    | some (.dT kvs) => if isTKey kt k then some (look k kvs) else none
    | _ => none)
  | _ => none
def ordI (f : Int → Int → Bool) : PV → PV → Option Bool
  | .int i, .int j => some (f i j)
  | _, _ => none
/-- the order of ints, and of texts -/
def ordS (f : Int → Int → Bool) (g : List Nat → List Nat → Bool) : PV → PV → Option Bool
  | .int i, .int j => some (f i j)
  | .str x, .str y => some (g x y)
  | _, _ => none
def isSame : PV → PV → Option Bool
  | .non, .non => some true
  | _, .non => some false
  | .bl a, .bl b => some (a == b)
  | _, _ => none
def cmpop (op : CmpOp) (a b : PV) (st : Sto) : Option Bool := match op with
  | .Eq => if eqOk (rd st a) (rd st b) then some (eqv (rd st a) (rd st b)) else none
  | .NotEq => if eqOk (rd st a) (rd st b) then some (!eqv (rd st a) (rd st b)) else none
  | .Lt => ordS (fun i j => decide (i < j)) (fun x y => decide (x < y)) a b
  | .LtE => ordI (fun i j => decide (i ≤ j)) a b
  | .Gt => ordS (fun i j => decide (j < i)) (fun x y => decide (y < x)) a b
  | .GtE => ordI (fun i j => decide (j ≤ i)) a b
  | .Is => isSame a b
  | .IsNot => (isSame a b).map (!·)
  | .In => isIn a b st
  | .NotIn => (isIn a b st).map (!·)
def blOut (o : Option Bool) (st : Sto) : Out PV := match o with
  | some b => .ok (.bl b) st
  | none => .stuck

def subs (a b : PV) (st : Sto) : Out PV := match rd st a, b with
  | .tup xs, .int i | .lst xs, .int i => may ((ixOf xs.length i).bind fun j => xs[j]?) st
  | .str x, .int i => may ((ixOf x.length i).bind fun j => x[j]?.map fun c => .str [c]) st
  | _, _ => .stuck
def strsOf : List PV → Option (List (List Nat))
  | [] => some []
  | .str x :: r => (strsOf r).map (x :: ·)
  | _ => none
/-- the place of a text in a row of texts -/
def posOf (z : List Nat) : List (List Nat) → Option Nat
  | [] => none
  | x :: xs => if x = z then some 0 else (posOf z xs).map (· + 1)
def ixOfS (xs : List PV) (z : List Nat) : Option PV := ((strsOf xs).bind (posOf z)).map fun (i : Nat) => PV.int i
def isTup : Option PV → Bool
  | some (.tup _) => true
  | _ => false
def posT (a b : PV) : Option PV := match a, b with
  | .tup xs, .str z => ixOfS xs z
  | _, _ => none
def posL (a b : PV) : Option PV := match a, b with
  | .lst xs, .str z => ixOfS xs z
  | _, _ => none
def slice (m : Bool) (a : PV) (lo hi : Option Int) (st : Sto) : Out PV := match rd st a with
  | .tup xs => .ok (.tup (cut xs lo hi)) st
  | .lst xs => newL m (cut xs lo hi) st
  | .str x => .ok (.str (cut x lo hi)) st
  | _ => .stuck
def tyIs : PV → Ty → Option Bool
  | .non, _ => some false
  | .bl _, .bool => some true | .bl _, .int => some true | .bl _, _ => some false
  | .int _, .int => some true | .int _, _ => some false
  | .str _, .str => some true | .str _, _ => some false
  | .tup _, .tuple => some true | .tup _, _ => some false
  | .lst _, .list => some true | .lst _, _ => some false
  | _, _ => none

/-! ### the order of data -/
mutual
def lt2 : PV → PV → Bool
  | .bl a, .bl b => !a && b
  | .int i, .int j => decide (i < j)
  | .str x, .str y => decide (x < y)
  | .tup xs, .tup ys => lts xs ys
  | .lst xs, .lst ys => lts xs ys
  | _, _ => false
def lts : List PV → List PV → Bool
  | x :: xs, y :: ys => if eqv x y then lts xs ys else lt2 x y
  | [], _ :: _ => true
  | _, [] => false
end
mutual
/-- of the same sorts, place by place -/
def alk : PV → PV → Bool
  | .non, .non => true
  | .bl _, .bl _ => true
  | .int _, .int _ => true
  | .str _, .str _ => true
  | .tup xs, .tup ys => alks xs ys
  | .lst xs, .lst ys => alks xs ys
  | _, _ => false
def alks : List PV → List PV → Bool
  | x :: xs, y :: ys => alk x y && alks xs ys
  | _, _ => true
end
def insP (x : PV) : List PV → List PV
  | [] => [x]
  | y :: ys => if lt2 y x then y :: insP x ys else x :: y :: ys
def sortP : List PV → List PV
  | [] => []
  | x :: xs => insP x (sortP xs)
def tupN : PV → Bool
  | .tup (_ :: _) => true
  | _ => false
def noTup : PV → Bool
  | .tup _ => false
  | .non => false
  | _ => true
def okStr (x : List Nat) : Bool := x.all fun c => decide (c < 0x110000)
/-- a key's words are words -/
def okKey : PV → Bool
  | .int _ => true
  | .str x => okStr x && decide (x.length ≤ line)
  | .tup xs => xs.all fun y => match y with
    | .int _ => true
    | .str x => okStr x && decide (x.length ≤ line)
    | _ => false
  | _ => false
/-- may be sorted -/
def sortOk (xs : List PV) : Bool := (xs.all fun x => xs.all fun y => alk x y) && (xs.all tupN || xs.all noTup) && datasN deep xs
def sortedL (m : Bool) (xs : List PV) (st : Sto) : Out PV := if sortOk xs then newL m (sortP xs) st else .stuck
def bSorted (m : Bool) (st : Sto) : PV → Out PV
  | .lst xs => sortedL m xs st
  | .ref n => (match st[n]? with
    | some (.dK kvs) | some (.dT kvs) => if (kvs.map (·.1)).all okKey then sortedL m (kvs.map (·.1)) st else .stuck
    | _ => .stuck)
  | _ => .stuck

def bLen (st : Sto) : PV → Out PV
  | .tup xs | .lst xs => .ok (.int xs.length) st
  | .str x => if x.length ≤ line then .ok (.int x.length) st else .stuck
  | .ref n => (match st[n]? with
    | some (.dK kvs) | some (.dT kvs) => .ok (.int kvs.length) st
    | _ => .stuck)
  | _ => .stuck
def bList (m : Bool) (st : Sto) : PV → Out PV
  | .tup xs | .lst xs => newL m xs st
  | .scr ns => newL m (ns.map .int) st
  | _ => .stuck
def bTuple (st : Sto) : PV → Out PV
  | .tup xs => .ok (.tup xs) st
  | .lst xs => newT xs st
  | _ => .stuck
def bSum (st : Sto) : PV → Out PV
  | .lst xs => (match intsOf xs with
    | some ns => .ok (.int ns.sum) st
    | none => .stuck)
  | _ => .stuck
def bAll (st : Sto) : PV → Out PV
  | .lst xs => (match boolsOf xs with
    | some bs => .ok (.bl (bs.all id)) st
    | none => .stuck)
  | _ => .stuck
def bAny (st : Sto) : PV → Out PV
  | .lst xs => (match boolsOf xs with
    | some bs => .ok (.bl (bs.any id)) st
    | none => .stuck)
  | _ => .stuck
def builtin (b : Bt) (vs : List PV) (st : Sto) : Out PV := match b, vs with
  | .len, [v] => bLen st (rd st v)
  | .abs, [.int i] => .ok (.int (if i < 0 then -i else i)) st
  | .max2, [.int i, .int j] => .ok (.int (if j > i then j else i)) st
  | .min2, [.int i, .int j] => .ok (.int (if j < i then j else i)) st
  | .int, [.int i] => .ok (.int i) st
  | .list m, [v] => bList m st (rd st v)
  | .tuple, [v] => bTuple st (rd st v)
  | .sum, [v] => bSum st (rd st v)
  | .all, [v] => bAll st (rd st v)
  | .any, [v] => bAny st (rd st v)
  | .sorted m, [v] => bSorted m st (rd st v)
  | _, _ => .stuck

def methodAt (m : Mt) (n : Nat) (o : Option MO) (vs : List PV) (st : Sto) : Out PV := match m, o, vs with
  | .append, some (.lst xs), [v] => if xs.length < line then .ok .non (st.set n (.lst (xs ++ [v]))) else .stuck
  | .extend, some (.lst xs), [.tup ys] => if xs.length + ys.length ≤ line then .ok .non (st.set n (.lst (xs ++ ys))) else .stuck
  | .extend, some (.lst xs), [.lst ys] => if xs.length + ys.length ≤ line then .ok .non (st.set n (.lst (xs ++ ys))) else .stuck
  | .pop, some (.lst xs), [] => (match xs.getLast? with
    | some v => .ok v (st.set n (.lst xs.dropLast))
    | none => .stuck)
  | .popAt, some (.lst xs), [.int i] => (match ixOf xs.length i with
    | some j => (match xs[j]? with
      | some v => .ok v (st.set n (.lst (xs.eraseIdx j)))
      | none => .stuck)
    | none => .stuck)
  | _, _, _ => .stuck
def method (m : Mt) (o : PV) (vs : List PV) (st : Sto) : Out PV := match o with
  | .ref n => methodAt m n st[n]? vs st
  | _ => .stuck

def setLAt (n : Nat) (o : Option MO) (j : Int) (v : PV) (st : Sto) : Out Unit := match o with
  | some (.lst xs) => (match ixOf xs.length j with
    | some p => .ok () (st.set n (.lst (xs.set p v)))
    | none => .stuck)
  | _ => .stuck
def setL (x y v : PV) (st : Sto) : Out Unit := match x, y with
  | .ref n, .int j => setLAt n st[n]? j v st
  | _, _ => .stuck
def setDAt (kt : List (List PV)) (n : Nat) (o : Option MO) (k v : PV) (st : Sto) : Out Unit := match o with
  | some (.dK kvs) => if isKey k && decide (kvs.length < line) then .ok () (st.set n (.dK (put k v kvs))) else .stuck
  | some (.dT kvs) => if isTKey kt k && decide (kvs.length < line) then .ok () (st.set n (.dT (put k v kvs))) else .stuck
  | _ => .stuck
def setD (kt : List (List PV)) (x y v : PV) (st : Sto) : Out Unit := match x with
  | .ref n => setDAt kt n st[n]? y v st
  | _ => .stuck

/-! ### what is walked -/
inductive Src where
  | items (xs : List PV)
  | live (n : Nat)
  | liveE (n : Nat)
def Src.get (s : Src) (st : Sto) (i : Nat) : Option (Option PV) := match s with
  | items xs => some xs[i]?
  | live n => (match st[n]? with
    | some (.lst xs) => some xs[i]?
    | _ => none)
  | liveE n => (match st[n]? with
    | some (.lst xs) => some (xs[i]?.map fun v => .tup [.int i, v])
    | _ => none)
/-- a list of the store -/
def isRow (st : Sto) (n : Nat) : Bool := match st[n]? with
  | some (.lst _) => true
  | _ => false
def rangeL (lo : Int) (n : Nat) : List PV := (List.range n).map fun (i : Nat) => PV.int (lo + i)
def enumL (xs : List PV) : Nat → List PV
  | i => (xs.zipIdx i).map fun p => .tup [.int p.2, p.1]
def zipL (xs ys : List PV) : List PV := (xs.zip ys).map fun p => .tup [p.1, p.2]
def wide (i : Int) : Bool := Nat.ble i.natAbs 4611686018427387903

/-! ### targets -/
mutual
def assign : Tg → PV → Env → Option Env
  | .name i, v, σ => if i < σ.length then some (σ.set i (some v)) else none
  | .tup ts, .tup xs, σ => assigns ts xs σ
  | .tup _, _, _ => none
def assigns : List Tg → List PV → Env → Option Env
  | [], [], σ => some σ
  | t :: ts, x :: xs, σ => (assign t x σ).bind fun σ' => assigns ts xs σ'
  | _, _, _ => none
end
def forget (σ : Env) : List Nat → Env
  | [] => σ
  | v :: vs => (forget σ vs).set v none

/-- a comprehension's turns -/
def compG (s : Src) (step : PV → Sto → Out (Option PV)) : Nat → Nat → List PV → Sto → Out (List PV)
  | 0, _, _, _ => .stuck
  | k + 1, i, acc, st => (match s.get st i with
    | none => .stuck
    | some none => .ok acc.reverse st
    | some (some x) => (match step x st with
      | .ok none st' => compG s step k (i + 1) acc st'
      | .ok (some y) st' => if acc.length < line then compG s step k (i + 1) (y :: acc) st' else .stuck
      | _ => .stuck))
/-- a for's turns -/
def forG (s : Src) (step : PV → Env → Sto → Out Fl) : Nat → Nat → Env → Sto → Out Fl
  | 0, _, _, _ => .stuck
  | k + 1, i, σ, st => (match s.get st i with
    | none => .stuck
    | some none => .ok (.nx σ) st
    | some (some x) => (match step x σ st with
      | .ok (.nx σ') st' => forG s step k (i + 1) σ' st'
      | o => o))
def whileG (c : Env → Sto → Out Bool) (step : Env → Sto → Out Fl) : Nat → Env → Sto → Out Fl
  | 0, _, _ => .stuck
  | k + 1, σ, st => (match c σ st with
    | .ok true st1 => (match step σ st1 with
      | .ok (.nx σ') st' => whileG c step k σ' st'
      | o => o)
    | .ok false st1 => .ok (.nx σ) st1
    | .exc e st1 => .exc e st1
    | .stuck => .stuck)

/-- limits that are told, with their figures -/
def limTab : List (Int × List Nat) := [(8, [56]), (60, [54,48]), (64, [54,52]), (100, [49,48,48]), (120, [49,50,48]), (255, [50,53,53]), (400, [52,48,48]), (1000, [49,48,48,48]), (16384, [49,54,51,56,52]), (1000000, [49,48,48,48,48,48,48])]
def limOk (i : Int) : Bool := limTab.any fun q => decide (q.1 = i)
def limText (i : Int) : List Nat := (limTab.lookup i).getD []
/-- a value and a space: many -/
def manyT : List Nat := [109,97,110,121,32]

/-- what the texts give: constants of the module; a def that tells errors: the classes and their words, in order, and whether a class is under another one -/
structure Top where
  cs : List PV
  kt : List (List PV)
  errs : Nat → List (Nat × Option (List Nat))
  under : Nat → Nat → Bool
abbrev CallF := Nat → List PV → Sto → Out PV

def tellE (T : Top) (e : Exn) : List (Nat × Option (List Nat)) → Out PV
  | [] => .stuck
  | (c, some w) :: r => if T.under e.c c then .ok (.str w) [] else tellE T e r
  | (c, none) :: r => if T.under e.c c then (match e.arg with
    | some (.int i) => .ok (.str (manyT ++ limText i)) []
    | _ => .stuck) else tellE T e r

def optI : Option PV → Option (Option Int)
  | none => some none
  | some (.int i) => some (some i)
  | _ => none

/-- the value of a call in an empty store -/
def pureCall (f : Nat) (cf : CallF) (vs : List PV) (st : Sto) : Out PV := if closeds vs then (match cf f vs [] with
  | .ok v _ => if closed v then .ok v st else .stuck
  | .exc e _ => .exc e st
  | .stuck => .stuck) else .stuck

noncomputable section
variable (T : Top) (cf : CallF)
mutual
def ev : IE → Env → Sto → Out PV
  | .var i, σ, st => (match σ[i]? with
    | some (some v) => .ok v st
    | _ => .stuck)
  | .con v, _, st => .ok v st
  | .glo c, _, st => may T.cs[c]? st
  | .fnv f, _, st => .ok (.fn f) st
  | .tup es, σ, st => (evs es σ st).bind newT
  | .lst m es, σ, st => (evs es σ st).bind (newL m)
  | .dct t, _, st => .ok (.ref st.length) (st ++ [if t then .dT [] else .dK []])
  | .bin m op a b, σ, st => (ev a σ st).bind fun x st1 => (ev b σ st1).bind fun y st2 => binop m op x y st2
  | .cmp op a b, σ, st => (ev a σ st).bind fun x st1 => (ev b σ st1).bind fun y st2 => blOut (cmpop op x y st2) st2
  | .chn o1 o2 a b c, σ, st => (ev a σ st).bind fun x st1 => (ev b σ st1).bind fun y st2 => (match cmpop o1 x y st2 with
    | some true => (ev c σ st2).bind fun z st3 => blOut (cmpop o2 y z st3) st3
    | some false => .ok (.bl false) st2
    | none => .stuck)
  | .bop k a es, σ, st => (ev a σ st).bind fun x st1 => (match es with
    | .nil => .ok x st1
    | es => (match truth (rd st1 x) with
      | some b => if b = k then evB k es σ st1 else .ok x st1
      | none => .stuck))
  | .not a, σ, st => (ev a σ st).bind fun x st1 => blOut ((truth (rd st1 x)).map fun b => !b) st1
  | .neg a, σ, st => (ev a σ st).bind fun x st1 => (match x with
    | .int i => .ok (.int (-i)) st1
    | _ => .stuck)
  | .ife c a b, σ, st => (test c σ st).bind fun t st1 => if t then ev a σ st1 else ev b σ st1
  | .call f p es, σ, st => (evs es σ st).bind fun vs st1 => if p then pureCall f cf vs st1 else cf f vs st1
  | .blt b es, σ, st => (evs es σ st).bind fun vs st1 => builtin b vs st1
  | .met m o es, σ, st => (ev o σ st).bind fun x st1 => if isLst (rd st1 x) then (evs es σ st1).bind fun vs st2 => method m x vs st2 else .stuck
  | .idx a b, σ, st => (ev a σ st).bind fun x st1 => (ev b σ st1).bind fun y st2 => subs x y st2
  | .ixg c b, σ, st => if isTup T.cs[c]? then (ev b σ st).bind fun y st2 => may (T.cs[c]?.bind fun x => posT x y) st2 else .stuck
  | .ixo a b, σ, st => (ev a σ st).bind fun x st1 => if isLst (rd st1 x) then (ev b σ st1).bind fun y st2 => may (posL (rd st2 x) y) st2 else .stuck
  | .dix a b, σ, st => (ev a σ st).bind fun x st1 => (ev b σ st1).bind fun y st2 => may ((dget T.kt x y st2).bind id) st2
  | .din neg a b, σ, st => (ev a σ st).bind fun x st1 => (ev b σ st1).bind fun y st2 => blOut ((dget T.kt y x st2).map fun o => if neg then !o.isSome else o.isSome) st2
  | .slc m a lo hi, σ, st => (ev a σ st).bind fun x st1 => (part lo σ st1).bind fun l st2 => (part hi σ st2).bind fun h st3 => slice m x l h st3
  | .nop, _, _ => .stuck
  | .lc m own tg it c elt, σ, st => (src it σ st).bind fun s st1 =>
      (compG s (fun x st' => (match assign tg x (forget σ own) with
        | none => .stuck
        | some σ' => (match c with
          | .nop => (ev elt σ' st').bind fun y st2 => .ok (some y) st2
          | c => (test c σ' st').bind fun b st2 => if b then (ev elt σ' st2).bind fun y st3 => .ok (some y) st3 else .ok none st2))) turns 0 [] st1).bind (newL m)
  | .isi a t, σ, st => (ev a σ st).bind fun x st1 => blOut (tyIs (rd st1 x) t) st1
  | .erl g b, σ, st => (match ev b σ st with
    | .ok _ st1 => .ok (.str []) st1
    | .exc e st1 => (match tellE T e (T.errs g) with
      | .ok v _ => .ok v st1
      | _ => .stuck)
    | .stuck => .stuck)
def evs : IEs → Env → Sto → Out (List PV)
  | .nil, _, st => .ok [] st
  | .cons e es, σ, st => (ev e σ st).bind fun x st1 => (evs es σ st1).bind fun xs st2 => .ok (x :: xs) st2
/-- the rest of a row of and (true), or (false) -/
def evB (k : Bool) : IEs → Env → Sto → Out PV
  | .nil, _, _ => .stuck
  | .cons a es, σ, st => (ev a σ st).bind fun x st1 => (match es with
    | .nil => .ok x st1
    | es => (match truth (rd st1 x) with
      | some b => if b = k then evB k es σ st1 else .ok x st1
      | none => .stuck))
def part : IE → Env → Sto → Out (Option Int)
  | .nop, _, st => .ok none st
  | e, σ, st => (ev e σ st).bind fun x st1 => (match x with
    | .int i => .ok (some i) st1
    | _ => .stuck)
def test : IE → Env → Sto → Out Bool
  | .not a, σ, st => (test a σ st).bind fun b st1 => .ok (!b) st1
  | .bop k a es, σ, st => (test a σ st).bind fun b st1 => if b = k then tests k es σ st1 else .ok b st1
  | .ife c a b, σ, st => (test c σ st).bind fun t st1 => if t then test a σ st1 else test b σ st1
  | e, σ, st => (ev e σ st).bind fun x st1 => (match truth (rd st1 x) with
    | some b => .ok b st1
    | none => .stuck)
def tests (k : Bool) : IEs → Env → Sto → Out Bool
  | .nil, _, st => .ok k st
  | .cons a es, σ, st => (test a σ st).bind fun b st1 => if b = k then tests k es σ st1 else .ok b st1
def src : II → Env → Sto → Out Src
  | .ev e, σ, st => (ev e σ st).bind fun x st1 => (match x with
    | .tup xs | .lst xs => .ok (.items xs) st1
    | .str x => .ok (.items (x.map fun c => .str [c])) st1
    | .scr ns => .ok (.items (ns.map .int)) st1
    | .ref n => if isRow st1 n then .ok (.live n) st1 else .stuck
    | _ => .stuck)
  | .rng1 a, σ, st => (ev a σ st).bind fun x st1 => (match x with
    | .int j => if wide j then .ok (.items (rangeL 0 j.toNat)) st1 else .stuck
    | _ => .stuck)
  | .rng2 a b, σ, st => (ev a σ st).bind fun x st1 => (ev b σ st1).bind fun y st2 => (match x, y with
    | .int i, .int j => if wide i && wide j then .ok (.items (rangeL i (j - i).toNat)) st2 else .stuck
    | _, _ => .stuck)
  | .enm e, σ, st => (ev e σ st).bind fun x st1 => (match x with
    | .lst xs => .ok (.items (enumL xs 0)) st1
    | .ref n => if isRow st1 n then .ok (.liveE n) st1 else .stuck
    | _ => .stuck)
  | .zip a b, σ, st => (ev a σ st).bind fun x st1 => (ev b σ st1).bind fun y st2 => (match x, y with
    | .lst xs, .lst ys => .ok (.items (zipL xs ys)) st2
    | .tup xs, .tup ys => .ok (.items (zipL xs ys)) st2
    | _, _ => .stuck)
end

def pars : List Nat → List PV → Env → Option Env
  | [], [], σ => some σ
  | i :: is, v :: vs, σ => if i < σ.length then pars is vs (σ.set i (some v)) else none
  | _, _, _ => none

mutual
def ex : IS → Env → Sto → Out Fl
  | .set t e, σ, st => (ev T cf e σ st).bind fun v st1 => (match assign t v σ with
    | some σ' => .ok (.nx σ') st1
    | none => .stuck)
  | .par is es, σ, st => (evs T cf es σ st).bind fun vs st1 => (match pars is vs σ with
    | some σ' => .ok (.nx σ') st1
    | none => .stuck)
  | .expr e, σ, st => (ev T cf e σ st).bind fun _ st1 => .ok (.nx σ) st1
  | .ret e, σ, st => (ev T cf e σ st).bind fun v st1 => .ok (.rt v) st1
  | .retn, _, st => .ok (.rt .non) st
  | .ife c a b, σ, st => (test T cf c σ st).bind fun t st1 => if t then exs a σ st1 else exs b σ st1
  | .for_ t it b, σ, st => (src T cf it σ st).bind fun s st1 => forG s (fun x σ' st' => (match assign t x σ' with
    | some σ2 => exs b σ2 st'
    | none => .stuck)) turns 0 σ st1
  | .while_ c b, σ, st => whileG (fun σ' st' => test T cf c σ' st') (fun σ' st' => exs b σ' st') turns σ st
  | .raise c, _, st => .exc ⟨c, none⟩ st
  | .raiseA c e, σ, st => (ev T cf e σ st).bind fun v st1 => (match v with
    | .int i => if limOk i then .exc ⟨c, some (.int i)⟩ st1 else .stuck
    | _ => .stuck)
  | .pass, σ, st => .ok (.nx σ) st
  | .setIx o i e, σ, st => (ev T cf e σ st).bind fun v st1 => (ev T cf o σ st1).bind fun x st2 => (ev T cf i σ st2).bind fun y st3 => (setL x y v st3).bind fun _ st4 => .ok (.nx σ) st4
  | .setD o i e, σ, st => (ev T cf e σ st).bind fun v st1 => (ev T cf o σ st1).bind fun x st2 => (ev T cf i σ st2).bind fun y st3 => (setD T.kt x y v st3).bind fun _ st4 => .ok (.nx σ) st4
def exs : List IS → Env → Sto → Out Fl
  | [], σ, st => .ok (.nx σ) st
  | s :: r, σ, st => (match ex s σ st with
    | .ok (.nx σ') st' => exs r σ' st'
    | o => o)
end
end

/-- a def: how many parameters, how many names, its body -/
structure Df where
  ps : Nat
  ns : Nat
  body : List IS
  deriving Inhabited

/-- calls, by the levels that are left -/
noncomputable def callN (T : Top) (D : Nat → Option Df) : Nat → CallF
  | 0 => fun _ _ _ => .stuck
  | k + 1 => fun f vs st => (match D f with
    | none => .stuck
    | some d => if vs.length = d.ps then (match exs T (callN T D k) d.body (vs.map some ++ List.replicate (d.ns - d.ps) none) st with
      | .ok (.rt v) st' => .ok v st'
      | .ok (.nx _) st' => .ok .non st'
      | .exc e st' => .exc e st'
      | .stuck => .stuck) else .stuck)
end MP

set_option linter.all false
set_option maxRecDepth 100000
set_option maxHeartbeats 1000000
/-! MEval: plain facts of the evaluator, for all laws. -/
namespace MP
noncomputable def runB (T : Top) (cf : CallF) (d : Df) (vs : List PV) (st : Sto) : Out PV := if vs.length = d.ps then (match exs T cf d.body (vs.map some ++ List.replicate (d.ns - d.ps) none) st with
      | .ok (.rt v) st' => .ok v st'
      | .ok (.nx _) st' => .ok .non st'
      | .exc e st' => .exc e st'
      | .stuck => .stuck) else .stuck
theorem callN_succ {T : Top} {D : Nat → Option Df} {k f : Nat} {d : Df} (h : D f = some d) : callN T D (k + 1) f = runB T (callN T D k) d := by
  funext vs st
  show (match D f with
    | none => Out.stuck
    | some d => if vs.length = d.ps then (match exs T (callN T D k) d.body (vs.map some ++ List.replicate (d.ns - d.ps) none) st with
      | .ok (.rt v) st' => .ok v st'
      | .ok (.nx _) st' => .ok .non st'
      | .exc e st' => .exc e st'
      | .stuck => .stuck) else .stuck) = _
  rw [h]
  rfl
/-- the gate of a comprehension -/
noncomputable def gate (T : Top) (cf : CallF) : IE → MP.M Bool
  | .nop => fun _ st => .ok true st
  | c => test T cf c
def stepC (tg : Tg) (env : MP.Env) (tst : MP.M Bool) (el : MP.M PV) (x : PV) (st : Sto) : Out (Option PV) := match MP.assign tg x env with
  | none => .stuck
  | some σ' => (tst σ' st).bind fun b st2 => if b then (el σ' st2).bind fun y st3 => .ok (some y) st3 else .ok none st2
section
variable {T : Top} {cf : CallF} {σ : Env} {st st' : Sto}
theorem ev_lc {m : Bool} {own : List Nat} {tg : Tg} {it : II} {c elt : IE} : ev T cf (.lc m own tg it c elt) = fun σ st => (src T cf it σ st).bind fun s st1 => (compG s (stepC tg (forget σ own) (gate T cf c) (ev T cf elt)) turns 0 [] st1).bind (newL m) := by
  funext σ st
  rw [ev]
  congr 1
  funext s st1
  congr 2
  funext x st'
  unfold stepC
  cases MP.assign tg x (forget σ own) with
  | none => rfl
  | some σ' => cases c <;> rfl
/-! loops over what stands still -/
def forL (step : PV → Env → Sto → Out Fl) : List PV → Env → Sto → Out Fl
  | [], σ, st => .ok (.nx σ) st
  | x :: xs, σ, st => (match step x σ st with
      | .ok (.nx σ') st' => forL step xs σ' st'
      | o => o)
theorem forG_go {xs : List PV} {step : PV → Env → Sto → Out Fl} : ∀ (n i : Nat) (σ : Env) (st : Sto), i ≤ xs.length → xs.length < n + i → forG (.items xs) step n i σ st = forL step (xs.drop i) σ st
  | 0, i, σ, st, h1, h2 => by omega
  | n + 1, i, σ, st, h1, h2 => by
    rw [forG]
    simp only [Src.get]
    by_cases hi : i < xs.length
    · have e1 : xs[i]? = some xs[i] := List.getElem?_eq_getElem hi
      have e2 : xs.drop i = xs[i] :: xs.drop (i + 1) := List.drop_eq_getElem_cons hi
      rw [e1, e2, forL]
      simp only []
      cases step xs[i] σ st with
      | ok fl st1 =>
        cases fl with
        | nx σ1 => exact forG_go n (i + 1) σ1 st1 (by omega) (by omega)
        | rt v => rfl
      | exc => rfl
      | stuck => rfl
    · have e1 : xs[i]? = none := List.getElem?_eq_none (by omega)
      have e2 : xs.drop i = [] := List.drop_eq_nil_of_le (by omega)
      rw [e1, e2, forL]
theorem forG_items {xs : List PV} {step : PV → Env → Sto → Out Fl} (h : xs.length < turns) : forG (.items xs) step turns 0 σ st = forL step xs σ st := forG_go turns 0 σ st (Nat.zero_le _) (by omega)
def compL (step : PV → Sto → Out (Option PV)) : List PV → Sto → Out (List PV)
  | [], st => .ok [] st
  | x :: xs, st => (match step x st with
      | .ok none st' => compL step xs st'
      | .ok (some y) st' => (compL step xs st').bind fun ys st2 => .ok (y :: ys) st2
      | _ => .stuck)
theorem compG_go {xs : List PV} {step : PV → Sto → Out (Option PV)} (hx : xs.length ≤ line) : ∀ (n i : Nat) (acc : List PV) (st : Sto), i ≤ xs.length → xs.length < n + i → acc.length ≤ i → compG (.items xs) step n i acc st = (compL step (xs.drop i) st).bind fun ys st2 => .ok (acc.reverse ++ ys) st2
  | 0, i, acc, st, h1, h2, _ => by omega
  | n + 1, i, acc, st, h1, h2, h3 => by
    rw [compG]
    simp only [Src.get]
    by_cases hi : i < xs.length
    · have e1 : xs[i]? = some xs[i] := List.getElem?_eq_getElem hi
      have e2 : xs.drop i = xs[i] :: xs.drop (i + 1) := List.drop_eq_getElem_cons hi
      rw [e1, e2, compL]
      simp only []
      cases step xs[i] st with
      | ok o st1 =>
        cases o with
        | none => exact compG_go hx n (i + 1) acc st1 (by omega) (by omega) (by omega)
        | some y =>
          have hl : acc.length < line := by omega
          simp only [hl, if_true]
          rw [compG_go hx n (i + 1) (y :: acc) st1 (by omega) (by omega) (by simp; omega)]
          cases compL step (xs.drop (i + 1)) st1 <;> simp [Out.bind]
      | exc => rfl
      | stuck => rfl
    · have e1 : xs[i]? = none := List.getElem?_eq_none (by omega)
      have e2 : xs.drop i = [] := List.drop_eq_nil_of_le (by omega)
      rw [e1, e2, compL]
      simp [Out.bind]
theorem turns_line : turns ≤ line := by rw [turns_eq]; decide
theorem compG_items {xs : List PV} {step : PV → Sto → Out (Option PV)} (h : xs.length < turns) : compG (.items xs) step turns 0 [] st = compL step xs st := by
  have := turns_line
  rw [compG_go (by omega) turns 0 [] st (Nat.zero_le _) (by omega) (Nat.le_refl _)]
  cases h2 : compL step (xs.drop 0) st with
  | ok ys st2 => rw [List.drop_zero] at h2; rw [h2]; rfl
  | exc => rw [List.drop_zero] at h2; rw [h2]; rfl
  | stuck => rw [List.drop_zero] at h2; rw [h2]; rfl
theorem compL_map {step : PV → Sto → Out (Option PV)} {f : PV → PV} : ∀ {xs : List PV}, (∀ x ∈ xs, step x st = .ok (some (f x)) st) → compL step xs st = .ok (xs.map f) st
  | [], _ => rfl
  | x :: xs, h => by
    rw [compL, h x (List.mem_cons_self ..)]
    simp only [compL_map (xs := xs) fun y hy => h y (List.mem_cons_of_mem _ hy), Out.bind, List.map]
theorem compL_filterMap {step : PV → Sto → Out (Option PV)} {f : PV → Option PV} : ∀ {xs : List PV}, (∀ x ∈ xs, step x st = .ok (f x) st) → compL step xs st = .ok (xs.filterMap f) st
  | [], _ => rfl
  | x :: xs, h => by
    rw [compL, h x (List.mem_cons_self ..)]
    have ih := compL_filterMap (xs := xs) fun y hy => h y (List.mem_cons_of_mem _ hy)
    cases hf : f x with
    | none => simp only [ih, List.filterMap_cons, hf]
    | some y => simp only [ih, List.filterMap_cons, hf, Out.bind]
/-- a for with an invariant; it may end early -/
theorem for_inv {s : Src} {step : PV → Env → Sto → Out Fl} {xs : List PV} (I : Nat → Env → Sto → Prop) (R : PV → Sto → Prop)
    (hget : ∀ i σ st, i ≤ xs.length → I i σ st → s.get st i = some xs[i]?)
    (hstep : ∀ i x σ st, xs[i]? = some x → I i σ st → ∃ fl st', step x σ st = .ok fl st' ∧ (match fl with
      | .nx σ' => I (i + 1) σ' st'
      | .rt v => R v st')) (hl : xs.length < turns) (h0 : I 0 σ st) :
    ∃ fl st', forG s step turns 0 σ st = .ok fl st' ∧ (match fl with
      | .nx σ' => I xs.length σ' st'
      | .rt v => R v st') := by
  have go : ∀ (n i : Nat) (σ : Env) (st : Sto), i ≤ xs.length → xs.length < n + i → I i σ st → ∃ fl st', forG s step n i σ st = .ok fl st' ∧ (match fl with
      | .nx σ' => I xs.length σ' st'
      | .rt v => R v st') := by
    intro n
    induction n with
    | zero => intro i σ st h1 h2; omega
    | succ n ih =>
      intro i σ st h1 h2 hI
      rw [forG, hget i σ st h1 hI]
      by_cases hi : i < xs.length
      · have e1 : xs[i]? = some xs[i] := List.getElem?_eq_getElem hi
        rw [e1]
        obtain ⟨fl, st', hs, hp⟩ := hstep i _ σ st e1 hI
        simp only [hs]
        cases fl with
        | nx σ1 => exact ih (i + 1) σ1 st' (by omega) (by omega) hp
        | rt v => exact ⟨_, _, rfl, hp⟩
      · have e1 : xs[i]? = none := List.getElem?_eq_none (by omega)
        rw [e1]
        have : i = xs.length := by omega
        subst this
        exact ⟨_, _, rfl, hI⟩
  exact go turns 0 σ st (Nat.zero_le _) (by omega) h0
/-- a for with an invariant; it goes to its end -/
theorem for_inv' {s : Src} {step : PV → Env → Sto → Out Fl} {xs : List PV} (I : Nat → Env → Sto → Prop)
    (hget : ∀ i σ st, i ≤ xs.length → I i σ st → s.get st i = some xs[i]?)
    (hstep : ∀ i x σ st, xs[i]? = some x → I i σ st → ∃ σ' st', step x σ st = .ok (.nx σ') st' ∧ I (i + 1) σ' st') (hl : xs.length < turns) (h0 : I 0 σ st) :
    ∃ σ' st', forG s step turns 0 σ st = .ok (.nx σ') st' ∧ I xs.length σ' st' := by
  obtain ⟨fl, st', h1, h2⟩ := for_inv (s := s) (step := step) (xs := xs) I (fun _ _ => False) hget (fun i x σ st hx hI => by
    obtain ⟨σ', st', h1, h2⟩ := hstep i x σ st hx hI
    exact ⟨_, _, h1, h2⟩) hl h0
  cases fl with
  | nx σ' => exact ⟨_, _, h1, h2⟩
  | rt v => exact h2.elim
/-- a comprehension with an invariant -/
theorem comp_inv {s : Src} {step : PV → Sto → Out (Option PV)} {xs : List PV} (I : Nat → List PV → Sto → Prop)
    (hget : ∀ i acc st, i ≤ xs.length → I i acc st → s.get st i = some xs[i]?)
    (hstep : ∀ i x acc st, xs[i]? = some x → I i acc st → ∃ o st', step x st = .ok o st' ∧ (match o with
      | some y => I (i + 1) (acc ++ [y]) st'
      | none => I (i + 1) acc st')) (hl : xs.length < turns) (h0 : I 0 [] st) :
    ∃ ys st', compG s step turns 0 [] st = .ok ys st' ∧ I xs.length ys st' ∧ ys.length ≤ xs.length := by
  have htl := turns_line
  have go : ∀ (n i : Nat) (acc : List PV) (st : Sto), i ≤ xs.length → xs.length < n + i → acc.length ≤ i → I i acc.reverse st → ∃ ys st', compG s step n i acc st = .ok ys st' ∧ I xs.length ys st' ∧ ys.length ≤ xs.length := by
    intro n
    induction n with
    | zero => intro i acc st h1 h2; omega
    | succ n ih =>
      intro i acc st h1 h2 h3 hI
      rw [compG, hget i _ st h1 hI]
      by_cases hi : i < xs.length
      · have e1 : xs[i]? = some xs[i] := List.getElem?_eq_getElem hi
        rw [e1]
        obtain ⟨o, st', hs, hp⟩ := hstep i _ _ st e1 hI
        simp only [hs]
        cases o with
        | none => exact ih (i + 1) acc st' (by omega) (by omega) (by omega) hp
        | some y =>
          have hl : acc.length < line := by omega
          simp only [hl, if_true]
          exact ih (i + 1) (y :: acc) st' (by omega) (by omega) (by simp; omega) (by simpa using hp)
      · have e1 : xs[i]? = none := List.getElem?_eq_none (by omega)
        rw [e1]
        have : i = xs.length := by omega
        subst this
        exact ⟨_, _, rfl, hI, by simpa using h3⟩
  exact go turns 0 [] st (Nat.zero_le _) (by omega) (Nat.le_refl _) h0
/-- a while with a measure -/
theorem while_inv {c : Env → Sto → Out Bool} {step : Env → Sto → Out Fl} (I : Nat → Env → Sto → Prop) (Q : Env → Sto → Prop) (R : PV → Sto → Prop)
    (h : ∀ m σ st, I m σ st → (∃ st1, c σ st = .ok false st1 ∧ Q σ st1) ∨ ∃ st1 fl st', c σ st = .ok true st1 ∧ step σ st1 = .ok fl st' ∧ (match fl with
      | .nx σ' => ∃ m', m' < m ∧ I m' σ' st'
      | .rt v => R v st')) : ∀ (n m : Nat) (σ : Env) (st : Sto), m < n → I m σ st → ∃ fl st', whileG c step n σ st = .ok fl st' ∧ (match fl with
      | .nx σ' => Q σ' st'
      | .rt v => R v st')
  | 0, m, σ, st, h1, _ => by omega
  | n + 1, m, σ, st, h1, hI => by
    rw [whileG]
    rcases h m σ st hI with ⟨st1, hc, hq⟩ | ⟨st1, fl, st', hc, hs, hp⟩
    · rw [hc]
      exact ⟨_, _, rfl, hq⟩
    · rw [hc]
      simp only [hs]
      cases fl with
      | nx σ1 =>
        obtain ⟨m', hm, hI'⟩ := hp
        exact while_inv I Q R h n m' σ1 st' (by omega) hI'
      | rt v => exact ⟨_, _, rfl, hp⟩
end
end MP

set_option Elab.async false
set_option linter.all false
set_option maxRecDepth 100000
set_option maxHeartbeats 4000000
/-! MRep: how values and stores of MCore stand in HandS's heaps. -/
namespace MP
open PySem PySem.Spec PyProof.Rows L2

/-- what the module gives, by numbers -/
structure Gs where
  K : PySem.W.Frag
  mg : Str → Option Value
  F : Nat → Option Addr
  C : Nat → Option Addr
  /-- the tuples of the module's own -/
  kt : List (List PV)
  /-- the tables of code objects -/
  T : List (Addr × Str)

abbrev toS (x : List Nat) : Str := ⟨x.toArray⟩

/-- a list that stands still: locked, or the module's -/
def Still (K : PySem.W.Frag) (H : Hp) (a : Addr) (xs : List V) : Prop := (∃ o, H a = some (.frz o (.lst xs))) ∨ ∀ H' : Hp, SqL K H' a xs
mutual
inductive RV (G : Gs) (H : Hp) (B ρ : List Addr) : V → PV → Prop
  | non : RV G H B ρ .non .non
  | bl (b : Bool) : RV G H B ρ (.bl b) (.bl b)
  | int (i : Int) : RV G H B ρ (.int i) (.int i)
  | str {x : List Nat} (h : okStr x = true) (hl : x.length ≤ line) : RV G H B ρ (.str (toS x)) (.str x)
  | tup {a : Addr} {xs : List V} {ps : List PV} (h : H a = some (.tup xs)) (r : RVs G H B ρ xs ps) : RV G H B ρ (.ref a) (.tup ps)
  | ktup {a : Addr} {xs : List V} {ps : List PV} (h : (∀ H' : Hp, SqT G.K H' a xs) ∧ ∃ o, G.K.lookup a = some o ∧ o.cls = .type "tuple" ∧ o.dict = none) (hm : ps ∈ G.kt) (r : RVs G H B ρ xs ps) : RV G H B ρ (.ref a) (.tup ps)
  | lst {a : Addr} {xs : List V} {ps : List PV} (h : H a = some (.lst xs)) (n : a ∉ B) (r : RVs G H B ρ xs ps) : RV G H B ρ (.ref a) (.lst ps)
  | ref {a : Addr} {n : Nat} (h : ρ[n]? = some a) : RV G H B ρ (.ref a) (.ref n)
  | fn {a : Addr} {n : Nat} (h : G.F n = some a) : RV G H B ρ (.ref a) (.fn n)
  | scr {a : Addr} {ns : List Int} (h : Still G.K H a (ns.map V.int)) : RV G H B ρ (.ref a) (.scr ns)
inductive RVs (G : Gs) (H : Hp) (B ρ : List Addr) : List V → List PV → Prop
  | nil : RVs G H B ρ [] []
  | cons {x : V} {xs : List V} {p : PV} {ps : List PV} (h : RV G H B ρ x p) (r : RVs G H B ρ xs ps) : RVs G H B ρ (x :: xs) (p :: ps)
end

/-- a key -/
def kP : Key → PV
  | .inl i => .int i
  | .inr x => .str x.cps.toList
/-- a dict's pairs -/
inductive RKs (G : Gs) (H : Hp) (B ρ : List Addr) {κ : Type} (f : κ → PV) : List (κ × V) → List (PV × PV) → Prop
  | nil : RKs G H B ρ f [] []
  | cons {k : κ} {x : V} {v : PV} {ks : List (κ × V)} {vs : List (PV × PV)} (h : RV G H B ρ x v) (r : RKs G H B ρ f ks vs) : RKs G H B ρ f ((k, x) :: ks) ((f k, v) :: vs)
def ktP (k : List Key) : PV := .tup (k.map kP)
/-- a thing of the store -/
inductive RO (G : Gs) (H : Hp) (B ρ : List Addr) (a : Addr) : MO → Prop
  | lst {xs : List V} {ps : List PV} (h : H a = some (.lst xs)) (r : RVs G H B ρ xs ps) : RO G H B ρ a (.lst ps)
  | dK {ks : List (Key × V)} {vs : List (PV × PV)} (h : H a = some (.dK ks)) (r : RKs G H B ρ kP ks vs) : RO G H B ρ a (.dK vs)
  | dT {ks : List (List Key × V)} {vs : List (PV × PV)} (h : H a = some (.dT ks)) (r : RKs G H B ρ ktP ks vs) : RO G H B ρ a (.dT vs)

/-- what may stand in the store -/
def isMut : HO → Prop
  | .lst _ => True
  | .dK _ => True
  | .dT _ => True
  | _ => False
theorem isMut.parts {o : HO} (h : isMut o) : (∀ xs, o ≠ .tup xs) ∧ (∀ ob u, o ≠ .frz ob u) ∧ ∀ ps, o ≠ .tbl ps :=
  ⟨fun _ z => by subst z; exact h, fun _ _ z => by subst z; exact h, fun _ z => by subst z; exact h⟩
/-- nothing but a table is there -/
def gone (H : Hp) (a : Addr) : Prop := ∀ o, H a = some o → ∃ ps, o = .tbl ps
theorem gone_none {H : Hp} {a : Addr} (h : H a = none) : gone H a := fun o e => by rw [h] at e; cases e
theorem gone_not {H : Hp} {a : Addr} {o : HO} (g : gone H a) (h : H a = some o) (t : ∀ ps, o ≠ .tbl ps) : False := (g o h).elim t
theorem gone_mut {H : Hp} {a : Addr} {o : HO} (g : gone H a) (h : H a = some o) (t : isMut o) : False := gone_not g h t.parts.2.2
theorem tabs_set {T : List (Addr × Str)} {H : Hp} {a : Addr} {o u : HO} (t : LamX.Tabs T H) (h : H a = some u) (hm : isMut u) : LamX.Tabs T (upd H a o) := fun p hp => by
  obtain ⟨ps, h1, h2, h3⟩ := t p hp
  have n1 : p.1 ≠ a := fun z => by
    rw [z, h] at h1
    cases h1
    exact hm
  refine ⟨ps, by rw [upd_ne n1]; exact h1, h2, fun pos cv hc => ?_⟩
  obtain ⟨c, e1, e2⟩ := h3 pos cv hc
  have n2 : c ≠ a := fun z => by
    rw [z, h] at e2
    cases e2
    exact hm
  exact ⟨c, e1, by rw [upd_ne n2]; exact e2⟩
theorem tabs_new {T : List (Addr × Str)} {H : Hp} {a : Addr} {o : HO} (t : LamX.Tabs T H) (h : H a = none) : LamX.Tabs T (upd H a o) := t.ext fun b u e => by rw [upd_ne (ne_of_none e h)]; exact e
/-- what goes on from one heap to another one -/
structure Ext (H : Hp) (B ρ : List Addr) (H' : Hp) (B' ρ' : List Addr) : Prop where
  pre : ∃ more, ρ' = ρ ++ more
  sub : ∀ a ∈ B, a ∈ B'
  new : ∀ a ∈ B', a ∈ B ∨ gone H a
  newr : ∀ a ∈ ρ', a ∈ ρ ∨ gone H a
  keep : ∀ a o, H a = some o → a ∉ ρ → (∀ ps, o ≠ .tbl ps) → H' a = some o
  tup : ∀ a xs, H a = some (.tup xs) → H' a = some (.tup xs)
  frz : ∀ a o u, H a = some (.frz o u) → H' a = some (.frz o u)
  grow : ∀ a, gone H' a → gone H a
structure RSto (G : Gs) (H : Hp) (B ρ : List Addr) (st : Sto) : Prop where
  nd : ρ.Nodup
  sub : ∀ a ∈ ρ, a ∈ B
  len : ρ.length = st.length
  obj : ∀ (n : Nat) (a : Addr) (o : MO), ρ[n]? = some a → st[n]? = some o → RO G H B ρ a o
  /-- what may change is there -/
  has : ∀ a ∈ B, ∃ o, H a = some o ∧ isMut o
  tabs : LamX.Tabs G.T H
structure REnv (G : Gs) (H : Hp) (B ρ : List Addr) (σ : L2.St) (σ' : Env) : Prop where
  len : σ.length = σ'.length
  at_ : ∀ (i : Nat) (v : PV), σ'[i]? = some (some v) → ∃ x, σ[i]? = some (some x) ∧ RV G H B ρ x v

section
variable {G : Gs} {H H' H1 H2 : Hp} {B ρ B' ρ' B1 ρ1 B2 ρ2 : List Addr} {st : Sto}
theorem Ext.refl : Ext H B ρ H B ρ := ⟨⟨[], by simp⟩, fun _ h => h, fun _ h => .inl h, fun _ h => .inl h, fun _ _ h _ _ => h, fun _ _ h => h, fun _ _ _ h => h, fun _ h => h⟩
theorem Ext.get (e : Ext H B ρ H' B' ρ') {n : Nat} {a : Addr} (h : ρ[n]? = some a) : ρ'[n]? = some a := by
  obtain ⟨m, em⟩ := e.pre
  rw [em, List.getElem?_append_left (List.getElem?_eq_some_iff.mp h).1]
  exact h
theorem Ext.trans (a : Ext H B ρ H1 B1 ρ1) (b : Ext H1 B1 ρ1 H2 B2 ρ2) : Ext H B ρ H2 B2 ρ2 where
  pre := by
    obtain ⟨m1, e1⟩ := a.pre
    obtain ⟨m2, e2⟩ := b.pre
    exact ⟨m1 ++ m2, by rw [e2, e1, List.append_assoc]⟩
  sub := fun x h => b.sub x (a.sub x h)
  new := fun x h => (b.new x h).elim (a.new x) fun q => .inr (a.grow x q)
  newr := fun x h => (b.newr x h).elim (a.newr x) fun q => .inr (a.grow x q)
  keep := fun x o h n t => b.keep x o (a.keep x o h n t) (fun z => (a.newr x z).elim n fun q => gone_not q h t) t
  tup := fun x xs h => b.tup x xs (a.tup x xs h)
  frz := fun x o u h => b.frz x o u (a.frz x o u h)
  grow := fun x h => a.grow x (b.grow x h)
theorem SqT.ext {K : PySem.W.Frag} {a : Addr} {xs : List V} (e : Ext H B ρ H' B' ρ') (h : SqT K H a xs) : SqT K H' a xs := by
  rcases h with (h | ⟨o, h⟩) | h
  · exact .inl (.inl (e.tup a xs h))
  · exact .inl (.inr ⟨o, e.frz a o _ h⟩)
  · exact .inr h
theorem SqL.ext {K : PySem.W.Frag} {a : Addr} {xs : List V} (e : Ext H B ρ H' B' ρ') (n : a ∉ ρ) (h : SqL K H a xs) : SqL K H' a xs := by
  rcases h with (h | ⟨o, h⟩) | h
  · exact .inl (.inl (e.keep a _ h n (fun _ z => nomatch z)))
  · exact .inl (.inr ⟨o, e.frz a o _ h⟩)
  · exact .inr h
theorem Ext.notin (e : Ext H B ρ H' B' ρ') {a : Addr} {o : HO} (h : H a = some o) (t : ∀ ps, o ≠ .tbl ps) (n : a ∉ B) : a ∉ B' := fun z => (e.new a z).elim n fun q => gone_not q h t
mutual
theorem RV.ext (e : Ext H B ρ H' B' ρ') (hs : ∀ a ∈ ρ, a ∈ B) : ∀ {x : V} {p : PV}, RV G H B ρ x p → RV G H' B' ρ' x p
  | _, _, .non => .non
  | _, _, .bl b => .bl b
  | _, _, .int i => .int i
  | _, _, .str h hl => .str h hl
  | _, _, .tup h r => .tup (e.tup _ _ h) (RVs.ext e hs r)
  | _, _, .ktup h hm r => .ktup h hm (RVs.ext e hs r)
  | _, _, .lst h n r => .lst (e.keep _ _ h (fun z => n (hs _ z)) (fun _ z => nomatch z)) (e.notin h (fun _ z => nomatch z) n) (RVs.ext e hs r)
  | _, _, .ref h => .ref (e.get h)
  | _, _, .fn h => .fn h
  | _, _, .scr h => .scr (h.elim (fun ⟨o, z⟩ => .inl ⟨o, e.frz _ o _ z⟩) .inr)
theorem RVs.ext (e : Ext H B ρ H' B' ρ') (hs : ∀ a ∈ ρ, a ∈ B) : ∀ {xs : List V} {ps : List PV}, RVs G H B ρ xs ps → RVs G H' B' ρ' xs ps
  | _, _, .nil => .nil
  | _, _, .cons h r => .cons (RV.ext e hs h) (RVs.ext e hs r)
end
end

theorem Still.sq {K : PySem.W.Frag} {H : Hp} {a : Addr} {xs : List V} (h : Still K H a xs) : SqL K H a xs := h.elim (fun ⟨o, z⟩ => .inl (.inr ⟨o, z⟩)) fun z => z H
section
variable {G : Gs} {H H' H1 H2 : Hp} {B ρ B' ρ' B1 ρ1 B2 ρ2 : List Addr} {st : Sto} {x : V} {v : PV} {xs : List V} {ps : List PV}
theorem RVs.length : ∀ {xs : List V} {ps : List PV}, RVs G H B ρ xs ps → xs.length = ps.length
  | _, _, .nil => rfl
  | _, _, .cons _ r => congrArg (· + 1) r.length
theorem RVs.get : ∀ {xs : List V} {ps : List PV} {i : Nat} {p : PV}, RVs G H B ρ xs ps → ps[i]? = some p → ∃ x, xs[i]? = some x ∧ RV G H B ρ x p
  | _, _, _, _, .nil, e => by simp at e
  | _, _, 0, _, .cons h _, e => by simp at e; subst e; exact ⟨_, rfl, h⟩
  | _, _, i + 1, p, .cons _ r, e => by
    obtain ⟨x, h1, h2⟩ := RVs.get (i := i) (p := p) r (by simpa using e)
    exact ⟨x, by simpa using h1, h2⟩
theorem RVs.getV : ∀ {xs : List V} {ps : List PV} {i : Nat} {x : V}, RVs G H B ρ xs ps → xs[i]? = some x → ∃ p, ps[i]? = some p ∧ RV G H B ρ x p
  | _, _, _, _, .nil, e => by simp at e
  | _, _, 0, _, .cons h _, e => by simp at e; subst e; exact ⟨_, rfl, h⟩
  | _, _, i + 1, p, .cons _ r, e => by
    obtain ⟨x, h1, h2⟩ := RVs.getV (i := i) (x := p) r (by simpa using e)
    exact ⟨x, by simpa using h1, h2⟩
theorem RVs.append : ∀ {xs ys : List V} {ps qs : List PV}, RVs G H B ρ xs ps → RVs G H B ρ ys qs → RVs G H B ρ (xs ++ ys) (ps ++ qs)
  | _, _, _, _, .nil, s => s
  | _, _, _, _, .cons h r, s => .cons h (RVs.append r s)
theorem RVs.take : ∀ {xs : List V} {ps : List PV} (n : Nat), RVs G H B ρ xs ps → RVs G H B ρ (xs.take n) (ps.take n)
  | _, _, 0, _ => by simpa using RVs.nil
  | _, _, _ + 1, .nil => .nil
  | _, _, n + 1, .cons h r => .cons h (RVs.take n r)
theorem RVs.drop : ∀ {xs : List V} {ps : List PV} (n : Nat), RVs G H B ρ xs ps → RVs G H B ρ (xs.drop n) (ps.drop n)
  | _, _, 0, r => by simpa using r
  | _, _, _ + 1, .nil => .nil
  | _, _, n + 1, .cons _ r => RVs.drop n r
theorem RVs.set (h : RV G H B ρ x v) : ∀ {xs : List V} {ps : List PV} (i : Nat), RVs G H B ρ xs ps → RVs G H B ρ (xs.set i x) (ps.set i v)
  | _, _, _, .nil => .nil
  | _, _, 0, .cons _ r => .cons h r
  | _, _, i + 1, .cons q r => .cons q (RVs.set h i r)
theorem RVs.rep (r : RVs G H B ρ xs ps) : ∀ k : Nat, RVs G H B ρ (List.replicate k xs).flatten (List.replicate k ps).flatten
  | 0 => .nil
  | k + 1 => by
    rw [List.replicate_succ, List.replicate_succ, List.flatten_cons, List.flatten_cons]
    exact r.append (RVs.rep r k)
theorem RVs.isEmpty (r : RVs G H B ρ xs ps) : xs.isEmpty = ps.isEmpty := by cases r <;> rfl
theorem RVs.dropLast : ∀ {xs : List V} {ps : List PV}, RVs G H B ρ xs ps → RVs G H B ρ xs.dropLast ps.dropLast
  | _, _, .nil => .nil
  | _, _, .cons _ .nil => .nil
  | _, _, .cons h (.cons h2 r) => .cons h (RVs.dropLast (.cons h2 r))
theorem RVs.erase : ∀ {xs : List V} {ps : List PV} (i : Nat), RVs G H B ρ xs ps → RVs G H B ρ (xs.eraseIdx i) (ps.eraseIdx i)
  | _, _, _, .nil => .nil
  | _, _, 0, .cons _ r => r
  | _, _, i + 1, .cons h r => .cons h (RVs.erase i r)
theorem RVs.toInts : ∀ {xs : List V} {ps : List PV} {ns : List Int}, RVs G H B ρ xs ps → intsOf ps = some ns → xs = ns.map V.int
  | _, _, _, .nil, e => by cases e; rfl
  | _, _, ns, .cons (ps := ps) h r, e => by
    cases h with
    | int i =>
      have e' : (intsOf ps).map (i :: ·) = some ns := e
      cases q : intsOf ps with
      | none => rw [q] at e'; cases e'
      | some ms =>
        rw [q] at e'
        cases e'
        rw [RVs.toInts r q]
        rfl
    | _ => cases e
theorem RVs.toBools : ∀ {xs : List V} {ps : List PV} {ns : List Bool}, RVs G H B ρ xs ps → boolsOf ps = some ns → xs = ns.map V.bl
  | _, _, _, .nil, e => by cases e; rfl
  | _, _, ns, .cons (ps := ps) h r, e => by
    cases h with
    | bl i =>
      have e' : (boolsOf ps).map (i :: ·) = some ns := e
      cases q : boolsOf ps with
      | none => rw [q] at e'; cases e'
      | some ms =>
        rw [q] at e'
        cases e'
        rw [RVs.toBools r q]
        rfl
    | _ => cases e
theorem rvs_ints : ∀ ns : List Int, RVs G H B ρ (ns.map V.int) (ns.map PV.int)
  | [] => .nil
  | _ :: r => .cons (.int _) (rvs_ints r)
/-- a list, read -/
theorem rd_lst (r : RV G H B ρ x v) (s : RSto G H B ρ st) (e : rd st v = .lst ps) : ∃ a xs, x = .ref a ∧ H a = some (.lst xs) ∧ RVs G H B ρ xs ps := by
  cases r with
  | lst h n r => cases e; exact ⟨_, _, rfl, h, r⟩
  | @ref a n h =>
    have e' : (match st[n]? with
      | some (.lst xs) => PV.lst xs
      | _ => .ref n) = .lst ps := e
    cases q : st[n]? with
    | none => rw [q] at e'; cases e'
    | some o =>
      rw [q] at e'
      cases o with
      | lst qs =>
        cases e'
        cases s.obj n a _ h q with
        | lst h1 r1 => exact ⟨_, _, rfl, h1, r1⟩
      | _ => cases e'
  | _ => cases e
theorem rd_tup (e : rd st v = .tup ps) : v = .tup ps := by
  cases v with
  | ref n =>
    have e' : (match st[n]? with
      | some (.lst xs) => PV.lst xs
      | _ => .ref n) = .tup ps := e
    split at e' <;> cases e'
  | _ => exact e
theorem rd_int {i : Int} (e : rd st v = .int i) : v = .int i := by
  cases v with
  | ref n =>
    have e' : (match st[n]? with
      | some (.lst xs) => PV.lst xs
      | _ => .ref n) = .int i := e
    split at e' <;> cases e'
  | _ => exact e
theorem rd_str {i : List Nat} (e : rd st v = .str i) : v = .str i := by
  cases v with
  | ref n =>
    have e' : (match st[n]? with
      | some (.lst xs) => PV.lst xs
      | _ => .ref n) = .str i := e
    split at e' <;> cases e'
  | _ => exact e
theorem rd_ref {m : Nat} (e : rd st v = .ref m) : v = .ref m := by
  cases v with
  | ref n =>
    have e' : (match st[n]? with
      | some (.lst xs) => PV.lst xs
      | _ => .ref n) = .ref m := e
    split at e'
    · cases e'
    · exact e'
  | _ => exact e
/-- its sort tells what it is -/
def seen : PV → Bool
  | .ref _ | .fn _ | .scr _ => false
  | _ => true
/-- a value, read: what it is -/
inductive Rdb (G : Gs) (H : Hp) (B ρ : List Addr) : V → PV → Prop
  | non : Rdb G H B ρ .non .non
  | bl (b : Bool) : Rdb G H B ρ (.bl b) (.bl b)
  | int (i : Int) : Rdb G H B ρ (.int i) (.int i)
  | str {x : List Nat} (h : okStr x = true) (hl : x.length ≤ line) : Rdb G H B ρ (.str (toS x)) (.str x)
  | tup {a : Addr} {xs : List V} {ps : List PV} (h : SqT G.K H a xs) (r : RVs G H B ρ xs ps) : Rdb G H B ρ (.ref a) (.tup ps)
  | lst {a : Addr} {xs : List V} {ps : List PV} (h : H a = some (.lst xs)) (r : RVs G H B ρ xs ps) : Rdb G H B ρ (.ref a) (.lst ps)
  | oth {x : V} {p : PV} (h : seen p = false) : Rdb G H B ρ x p
theorem RV.rdb (r : RV G H B ρ x v) (s : RSto G H B ρ st) : Rdb G H B ρ x (rd st v) := by
  cases q : rd st v with
  | lst ps =>
    obtain ⟨a, xs, e, h, r'⟩ := rd_lst r s q
    rw [e]
    exact .lst h r'
  | tup ps =>
    rw [rd_tup q] at r
    cases r with
    | tup h r => exact .tup (.inl (.inl h)) r
    | ktup h hm r => exact .tup (h.1 H) r
  | ref n => exact .oth rfl
  | fn n => exact .oth rfl
  | scr ns => exact .oth rfl
  | int i =>
    rw [rd_int q] at r
    cases r
    exact .int i
  | str i =>
    rw [rd_str q] at r
    cases r with
    | str h hl => exact .str h hl
  | non => cases r <;> first | (cases q; done) | skip
           · exact .non
           · exfalso
             rename_i n h
             have e' : (match st[n]? with
               | some (.lst xs) => PV.lst xs
               | _ => .ref n) = .non := q
             split at e' <;> cases e'
  | bl b => cases r <;> first | (cases q; done) | skip
            · cases q; exact .bl _
            · exfalso
              rename_i n h
              have e' : (match st[n]? with
                | some (.lst xs) => PV.lst xs
                | _ => .ref n) = .bl b := q
              split at e' <;> cases e'
/-! ### data -/
mutual
def toD : PV → PyData
  | .non => .none
  | .bl b => .bool b
  | .int i => .int i
  | .str x => .str (toS x)
  | .tup xs => .tuple (toDs xs)
  | .lst xs => .list (toDs xs)
  | _ => .none
def toDs : List PV → List PyData
  | [] => []
  | x :: xs => toD x :: toDs xs
end
mutual
theorem RV.dp : ∀ {x : V} {v : PV}, RV G H B ρ x v → data v = true → Dp G.K H x (toD v)
  | _, _, .non, _ => by simp only [toD]; exact .non
  | _, _, .bl b, _ => by simp only [toD]; exact .bl b
  | _, _, .int i, _ => by simp only [toD]; exact .int i
  | _, _, .str h hl, _ => by simp only [toD]; exact .str _
  | _, _, .tup h r, d => by simp only [toD]; exact .tup (.inl (.inl h)) (RVs.dp r (by simpa only [data] using d))
  | _, _, .ktup h hm r, d => by simp only [toD]; exact .tup (h.1 H) (RVs.dp r (by simpa only [data] using d))
  | _, _, .lst h n r, d => by simp only [toD]; exact .lst (.inl (.inl h)) (RVs.dp r (by simpa only [data] using d))
  | _, _, .ref h, d => by simp [data] at d
  | _, _, .fn h, d => by simp [data] at d
  | _, _, .scr h, d => by simp [data] at d
theorem RVs.dp : ∀ {xs : List V} {vs : List PV}, RVs G H B ρ xs vs → datas vs = true → DpAll G.K H xs (toDs vs)
  | _, _, .nil, _ => by simp only [toDs]; exact .nil
  | _, _, .cons h r, d => by
    simp only [datas, Bool.and_eq_true] at d
    simp only [toDs]
    exact .cons (RV.dp h d.1) (RVs.dp r d.2)
end
theorem Rdb.dp {v : PV} (r : Rdb G H B ρ x v) (d : data v = true) : Dp G.K H x (toD v) := by
  cases r with
  | non => simp only [toD]; exact .non
  | bl b => simp only [toD]; exact .bl b
  | int i => simp only [toD]; exact .int i
  | str h hl => simp only [toD]; exact .str _
  | tup h r => simp only [toD]; exact .tup h (r.dp (by simpa only [data] using d))
  | lst h r => simp only [toD]; exact .lst (.inl (.inl h)) (r.dp (by simpa only [data] using d))
  | oth h => cases v <;> first | (cases h; done) | (simp [data] at d; done)
theorem strOk_of {y : List Nat} (h : okStr y = true) : PyData.strOk (toS y) = true := by
  unfold PyData.strOk
  unfold okStr at h
  simpa using h
mutual
theorem RV.lay : ∀ {x : V} {v : PV}, RV G H B ρ x v → (toD v).canLay0 = true
  | _, _, .non => by simp only [toD, PyData.canLay0]
  | _, _, .bl b => by simp only [toD, PyData.canLay0]
  | _, _, .int i => by simp only [toD, PyData.canLay0]
  | _, _, .str h hl => by simp only [toD, PyData.canLay0]; exact strOk_of h
  | _, _, .tup h r => by simp only [toD, PyData.canLay0]; exact RVs.lay r
  | _, _, .ktup h hm r => by simp only [toD, PyData.canLay0]; exact RVs.lay r
  | _, _, .lst h n r => by simp only [toD, PyData.canLay0]; exact RVs.lay r
  | _, _, .ref h => by simp only [toD, PyData.canLay0]
  | _, _, .fn h => by simp only [toD, PyData.canLay0]
  | _, _, .scr h => by simp only [toD, PyData.canLay0]
theorem RVs.lay : ∀ {xs : List V} {vs : List PV}, RVs G H B ρ xs vs → PyData.canLayAll0 (toDs vs) = true
  | _, _, .nil => by simp only [toDs, PyData.canLayAll0]
  | _, _, .cons h r => by simp only [toDs, PyData.canLayAll0, RV.lay h, RVs.lay r, Bool.and_self]
end
theorem Rdb.lay {v : PV} (r : Rdb G H B ρ x v) (d : data v = true) : (toD v).canLay0 = true := by
  cases r with
  | non => simp only [toD, PyData.canLay0]
  | bl b => simp only [toD, PyData.canLay0]
  | int i => simp only [toD, PyData.canLay0]
  | str h hl => simp only [toD, PyData.canLay0]; exact strOk_of h
  | tup h r => simp only [toD, PyData.canLay0]; exact r.lay
  | lst h r => simp only [toD, PyData.canLay0]; exact r.lay
  | oth h => cases v <;> first | (cases h; done) | (simp [data] at d; done)
mutual
theorem dataN_dp : ∀ (n : Nat) (v : PV), dataN n v = true → data v = true ∧ (toD v).depth ≤ n
  | _, .non, _ => by simp [data, toD, PyData.depth]
  | _, .bl _, _ => by simp [data, toD, PyData.depth]
  | _, .int _, _ => by simp [data, toD, PyData.depth]
  | _, .str _, _ => by simp [data, toD, PyData.depth]
  | n + 1, .tup xs, h => by
    have := datasN_dp n xs (by simpa only [dataN] using h)
    simp only [data, toD, PyData.depth]
    exact ⟨this.1, Nat.succ_le_succ this.2⟩
  | n + 1, .lst xs, h => by
    have := datasN_dp n xs (by simpa only [dataN] using h)
    simp only [data, toD, PyData.depth]
    exact ⟨this.1, Nat.succ_le_succ this.2⟩
  | 0, .tup xs, h => by simp [dataN] at h
  | 0, .lst xs, h => by simp [dataN] at h
  | n, .ref m, h => by cases n <;> simp [dataN] at h
  | n, .fn m, h => by cases n <;> simp [dataN] at h
  | n, .scr m, h => by cases n <;> simp [dataN] at h
theorem datasN_dp : ∀ (n : Nat) (vs : List PV), datasN n vs = true → datas vs = true ∧ PyData.depthAll (toDs vs) ≤ n
  | _, [], _ => by simp [datas, toDs, PyData.depthAll]
  | n, x :: xs, h => by
    simp only [datasN, Bool.and_eq_true] at h
    have h1 := dataN_dp n x h.1
    have h2 := datasN_dp n xs h.2
    simp only [datas, toDs, PyData.depthAll, h1.1, h2.1, Bool.and_self, true_and]
    exact Nat.max_le.mpr ⟨h1.2, h2.2⟩
end
theorem toS_inj {a b : List Nat} : (toS a == toS b) = (a == b) := by
  rw [Bool.eq_iff_iff]
  simp
mutual
theorem eqv_toD : ∀ (v w : PV), data v = true → data w = true → eqv v w = PyData.eqv (toD v) (toD w)
  | .non, w, _, dw => by cases w <;> first | (simp [data] at dw; done) | simp [eqv, toD, PyData.eqv]
  | .bl a, w, _, dw => by cases w <;> first | (simp [data] at dw; done) | simp [eqv, toD, PyData.eqv]
  | .int i, w, _, dw => by cases w <;> first | (simp [data] at dw; done) | simp [eqv, toD, PyData.eqv]
  | .str y, w, _, dw => by cases w <;> first | (simp [data] at dw; done) | simp only [eqv, toD, PyData.eqv, toS_inj]
  | .tup xs, .tup ys, dv, dw => by
    simp only [eqv, toD, PyData.eqv]
    exact eqvs_toD xs ys (by simpa only [data] using dv) (by simpa only [data] using dw)
  | .lst xs, .lst ys, dv, dw => by
    simp only [eqv, toD, PyData.eqv]
    exact eqvs_toD xs ys (by simpa only [data] using dv) (by simpa only [data] using dw)
  | .tup xs, .non, _, _ | .tup xs, .bl _, _, _ | .tup xs, .int _, _, _ | .tup xs, .str _, _, _ | .tup xs, .lst _, _, _ => by simp [eqv, toD, PyData.eqv]
  | .lst xs, .non, _, _ | .lst xs, .bl _, _, _ | .lst xs, .int _, _, _ | .lst xs, .str _, _, _ | .lst xs, .tup _, _, _ => by simp [eqv, toD, PyData.eqv]
  | .tup xs, .ref _, _, d | .tup xs, .fn _, _, d | .tup xs, .scr _, _, d | .lst xs, .ref _, _, d | .lst xs, .fn _, _, d | .lst xs, .scr _, _, d => by simp [data] at d
  | .ref _, _, d, _ | .fn _, _, d, _ | .scr _, _, d, _ => by simp [data] at d
theorem eqvs_toD : ∀ (vs ws : List PV), datas vs = true → datas ws = true → eqvs vs ws = PyData.eqvAll (toDs vs) (toDs ws)
  | [], [], _, _ => by simp [eqvs, toDs, PyData.eqvAll]
  | [], _ :: _, _, _ => by simp [eqvs, toDs, PyData.eqvAll]
  | _ :: _, [], _, _ => by simp [eqvs, toDs, PyData.eqvAll]
  | v :: vs, w :: ws, dv, dw => by
    simp only [datas, Bool.and_eq_true] at dv dw
    simp only [eqvs, toDs, PyData.eqvAll, eqv_toD v w dv.1 dw.1, eqvs_toD vs ws dv.2 dw.2]
end
theorem eqOk_of {v w : PV} (h : eqOk v w = true) : data v = true ∧ data w = true ∧ min (toD v).depth (toD w).depth ≤ deep := by
  unfold eqOk at h
  simp only [Bool.or_eq_true, Bool.and_eq_true] at h
  rcases h with ⟨h1, h2⟩ | ⟨h1, h2⟩
  · have q := dataN_dp deep w h1
    exact ⟨h2, q.1, Nat.le_trans (Nat.min_le_right _ _) q.2⟩
  · have q := dataN_dp deep v h1
    exact ⟨q.1, h2, Nat.le_trans (Nat.min_le_left _ _) q.2⟩
end

section
variable {G : Gs} {H H' : Hp} {B ρ B' ρ' : List Addr} {κ : Type} {f : κ → PV}
theorem RV.sqt {a : Addr} {ps : List PV} (r : RV G H B ρ (.ref a) (.tup ps)) : ∃ xs, SqT G.K H a xs ∧ RVs G H B ρ xs ps := by
  cases r with
  | tup h r => exact ⟨_, .inl (.inl h), r⟩
  | ktup h hm r => exact ⟨_, h.1 H, r⟩
theorem RKs.ext (e : Ext H B ρ H' B' ρ') (hs : ∀ a ∈ ρ, a ∈ B) : ∀ {ks : List (κ × V)} {vs : List (PV × PV)}, RKs G H B ρ f ks vs → RKs G H' B' ρ' f ks vs
  | _, _, .nil => .nil
  | _, _, .cons h r => .cons (h.ext e hs) (RKs.ext e hs r)
theorem RKs.length : ∀ {ks : List (κ × V)} {vs : List (PV × PV)}, RKs G H B ρ f ks vs → ks.length = vs.length
  | _, _, .nil => rfl
  | _, _, .cons _ r => congrArg (· + 1) r.length
theorem eqv_kP (a b : Key) : eqv (kP a) (kP b) = decide (a = b) := by
  cases a with
  | inl i =>
    cases b with
    | inl j => simp only [kP, eqv]; rw [Bool.eq_iff_iff]; simp
    | inr y => simp [kP, eqv]
  | inr x =>
    cases b with
    | inl j => simp [kP, eqv]
    | inr y =>
      simp only [kP, eqv]
      rw [Bool.eq_iff_iff]
      simp only [beq_iff_eq, decide_eq_true_eq]
      constructor
      · intro h
        obtain ⟨⟨cx⟩⟩ := x
        obtain ⟨⟨cy⟩⟩ := y
        simp at h
        rw [h]
      · intro h
        cases h
        rfl
theorem eqvs_kP : ∀ a b : List Key, eqvs (a.map kP) (b.map kP) = decide (a = b)
  | [], [] => by simp [eqvs]
  | [], _ :: _ => by simp [eqvs]
  | _ :: _, [] => by simp [eqvs]
  | x :: a, y :: b => by
    simp only [List.map_cons, eqvs, eqv_kP, eqvs_kP a b]
    rw [Bool.eq_iff_iff]
    simp
theorem eqv_ktP (a b : List Key) : eqv (ktP a) (ktP b) = decide (a = b) := by
  simp only [ktP, eqv, eqvs_kP]
theorem RKs.look [DecidableEq κ] (hf : ∀ a b, eqv (f a) (f b) = decide (a = b)) {k : κ} : ∀ {ks : List (κ × V)} {vs : List (PV × PV)}, RKs G H B ρ f ks vs →
    (∀ v, MP.look (f k) vs = some v → ∃ x, valV ks k = some x ∧ RV G H B ρ x v) ∧ (MP.look (f k) vs = none → valV ks k = none)
  | _, _, .nil => ⟨fun _ e => by simp [MP.look] at e, fun _ => rfl⟩
  | _, _, .cons (k := j) (x := x) (v := u) (ks := ks) (vs := vs) h r => by
    have ih := RKs.look hf (k := k) r
    by_cases e : j = k
    · subst e
      refine ⟨fun v ev => ?_, fun en => ?_⟩
      · simp only [MP.look, hf, decide_true, if_true] at ev
        cases ev
        exact ⟨x, valV_pos rfl, h⟩
      · simp only [MP.look, hf, decide_true, if_true] at en
        cases en
    · have hd : eqv (f j) (f k) = false := by rw [hf]; exact decide_eq_false e
      refine ⟨fun v ev => ?_, fun en => ?_⟩
      · simp only [MP.look, hd] at ev
        obtain ⟨y, h1, h2⟩ := ih.1 v (by simpa using ev)
        exact ⟨y, by rw [valV_neg (p := (j, x)) e]; exact h1, h2⟩
      · simp only [MP.look, hd] at en
        rw [valV_neg (p := (j, x)) e]
        exact ih.2 (by simpa using en)
theorem RKs.any [DecidableEq κ] (hf : ∀ a b, eqv (f a) (f b) = decide (a = b)) {k : κ} : ∀ {ks : List (κ × V)} {vs : List (PV × PV)}, RKs G H B ρ f ks vs → (ks.any fun kv => decide (kv.1 = k)) = (vs.any fun p => eqv p.1 (f k))
  | _, _, .nil => rfl
  | _, _, .cons h r => by
    simp only [List.any_cons, hf, RKs.any hf r]
theorem RKs.map [DecidableEq κ] (hf : ∀ a b, eqv (f a) (f b) = decide (a = b)) {k : κ} {y : V} {w : PV} (hw : RV G H B ρ y w) : ∀ {ks : List (κ × V)} {vs : List (PV × PV)}, RKs G H B ρ f ks vs → RKs G H B ρ f (ks.map fun kv => if kv.1 = k then (kv.1, y) else kv) (vs.map fun p => if eqv p.1 (f k) then (p.1, w) else p)
  | _, _, .nil => .nil
  | _, _, .cons (k := j) h r => by
    simp only [List.map_cons, hf]
    by_cases e : j = k
    · rw [if_pos e, if_pos (decide_eq_true e)]
      exact .cons hw (RKs.map hf hw r)
    · rw [if_neg e, if_neg (by simp [e])]
      exact .cons h (RKs.map hf hw r)
theorem RKs.append : ∀ {ks js : List (κ × V)} {vs us : List (PV × PV)}, RKs G H B ρ f ks vs → RKs G H B ρ f js us → RKs G H B ρ f (ks ++ js) (vs ++ us)
  | _, _, _, _, .nil, s => s
  | _, _, _, _, .cons h r, s => .cons h (RKs.append r s)
theorem RKs.put [DecidableEq κ] (hf : ∀ a b, eqv (f a) (f b) = decide (a = b)) {k : κ} {y : V} {w : PV} (hw : RV G H B ρ y w) {ks : List (κ × V)} {vs : List (PV × PV)} (r : RKs G H B ρ f ks vs) : RKs G H B ρ f (putK ks k y) (MP.put (f k) w vs) := by
  unfold putK MP.put
  rw [RKs.any hf r]
  split
  · exact RKs.map hf hw r
  · exact r.append (.cons hw .nil)
end
end MP

set_option Elab.async false
set_option linter.all false
set_option maxRecDepth 100000
set_option maxHeartbeats 4000000
/-! MPost: outcomes over heaps; how heaps go on. -/
namespace MP
open PySem PySem.Spec PyProof.Rows L2

/-- an error in the air -/
inductive RX (G : Gs) (H : Hp) (B ρ : List Addr) : Value → Option Addr → Exn → Prop
  | plain {c : Nat} {a : Addr} (h : G.C c = some a) : RX G H B ρ (.ref a) none ⟨c, none⟩
  | lim {c : Nat} {a d : Addr} {i : Int} (h : G.C c = some a) (xf : XfC G.K a) (no : PySem.W.findIn G.K (.ref a) "limit" = some none) (hd : H d = some (.xd [("limit", .int i)])) (ok : limOk i = true) : RX G H B ρ (.ref a) (some d) ⟨c, some (.int i)⟩

abbrev QK (α : Type) := α → Hp → List Addr → List Addr → Sto → Prop
def Post {α : Type} (G : Gs) (H : Hp) (B ρ : List Addr) (o : Out α) (Q : QK α) (E : XK) : Prop := match o with
  | .ok v st => ∀ H' B' ρ', Ext H B ρ H' B' ρ' → RSto G H' B' ρ' st → Q v H' B' ρ' st
  | .exc e st => ∀ H' B' ρ' c d, Ext H B ρ H' B' ρ' → RSto G H' B' ρ' st → RX G H' B' ρ' c d e → E c d H'
  | .stuck => False
section
variable {α β : Type} {G : Gs} {H H' H1 H2 : Hp} {B ρ B' ρ' B1 ρ1 B2 ρ2 : List Addr} {st st' : Sto} {o : Out α} {Q Q' : QK α} {E : XK}
theorem Post.ext (p : Post G H B ρ o Q E) (e : Ext H B ρ H1 B1 ρ1) : Post G H1 B1 ρ1 o Q E := by
  cases o with
  | ok v st => exact fun H' B' ρ' e' r => p H' B' ρ' (e.trans e') r
  | exc x st => exact fun H' B' ρ' c d e' r z => p H' B' ρ' c d (e.trans e') r z
  | stuck => exact p
theorem Post.imp (p : Post G H B ρ o Q E) (h : ∀ v H' B' ρ' st', Ext H B ρ H' B' ρ' → RSto G H' B' ρ' st' → Q v H' B' ρ' st' → Q' v H' B' ρ' st') : Post G H B ρ o Q' E := by
  cases o with
  | ok v st => exact fun H' B' ρ' e' r => h v H' B' ρ' st e' r (p H' B' ρ' e' r)
  | exc x st => exact p
  | stuck => exact p
theorem Post.bind {f : α → Sto → Out β} {Q : QK β} (p : Post G H B ρ (o.bind f) Q E) : Post G H B ρ o (fun v H1 B1 ρ1 st1 => Post G H1 B1 ρ1 (f v st1) Q E) E := by
  cases o with
  | ok v st => exact fun H' B' ρ' e' r => Post.ext (o := f v st) p e'
  | exc x st => exact p
  | stuck => exact p
theorem Post.here {v : α} (p : Post G H B ρ (.ok v st) Q E) (r : RSto G H B ρ st) : Q v H B ρ st := p H B ρ Ext.refl r
end

/-! ### readings -/
section
variable (G : Gs) (W : XK)
def tE (m : MP.M PV) : TE := fun σ H Q => ∃ B ρ env st, REnv G H B ρ σ env ∧ RSto G H B ρ st ∧ Post G H B ρ (m env st) (fun v H' B' ρ' _ => ∀ x, RV G H' B' ρ' x v → Q x H') W
def tT (m : MP.M Bool) : TT := fun σ H Q => ∃ B ρ env st, REnv G H B ρ σ env ∧ RSto G H B ρ st ∧ Post G H B ρ (m env st) (fun b H' _ _ _ => Q b H') W
def tAs (m : MP.M (List PV)) : TA := fun σ H Q => ∃ B ρ env st, REnv G H B ρ σ env ∧ RSto G H B ρ st ∧ Post G H B ρ (m env st) (fun v H' B' ρ' _ => ∀ xs, RVs G H' B' ρ' xs v → Q xs H') W
def flQ (D : Ends) : QK Fl := fun fl H' B' ρ' _ => match fl with
  | .nx σ' => ∀ σ, REnv G H' B' ρ' σ σ' → D.nx σ H'
  | .rt v => ∀ x, RV G H' B' ρ' x v → D.rt x H'
def tS (m : MP.M Fl) : TS := fun D σ H => ∃ B ρ env st, REnv G H B ρ σ env ∧ RSto G H B ρ st ∧ Post G H B ρ (m env st) (flQ G D) W
/-- two values in, one out, nothing raised -/
def r2 (f : PV → PV → Sto → Out PV) : R2 := fun x y H Q => ∃ B ρ st p q, RV G H B ρ x p ∧ RV G H B ρ y q ∧ RSto G H B ρ st ∧ Post G H B ρ (f p q st) (fun v H' B' ρ' _ => ∀ x, RV G H' B' ρ' x v → Q x H') W
/-- values in, one out -/
def rL (f : List PV → Sto → Out PV) : List V → Hp → VK → Prop := fun xs H Q => ∃ B ρ st ps, RVs G H B ρ xs ps ∧ RSto G H B ρ st ∧ Post G H B ρ (f ps st) (fun v H' B' ρ' _ => ∀ x, RV G H' B' ρ' x v → Q x H') W
end
section
variable {X : Cx} {e : Expr} {s : Stmt} {ss : List Stmt} {es : List Expr}
theorem PE.mono {t t' : TE} (h : PE X e t) (i : ∀ σ H Q, t' σ H Q → t σ H Q) : PE X e t' := ⟨fun pins s σ H Q I q => h.run pins s σ H Q I (i σ H Q q)⟩
theorem PT.mono {t t' : TT} (h : PT X e t) (i : ∀ σ H Q, t' σ H Q → t σ H Q) : PT X e t' := ⟨fun pins s σ H Q I q => h.run pins s σ H Q I (i σ H Q q)⟩
theorem PW.mono {t t' : TT} (h : PW X e t) (i : ∀ σ H Q, t' σ H Q → t σ H Q) : PW X e t' := ⟨fun w pins s σ H Q I q => h.run w pins s σ H Q I (i σ H Q q)⟩
theorem PA.mono {t t' : TA} (h : PA X es t) (i : ∀ σ H Q, t' σ H Q → t σ H Q) : PA X es t' := ⟨fun p pins s σ H Q I q => h.run p pins s σ H Q I (i σ H Q q)⟩
theorem PS.mono {t t' : TS} (h : PS X s t) (i : ∀ D σ H, t' D σ H → t D σ H) : PS X s t' := ⟨fun pins s σ H D I q => h.run pins s σ H D I (i D σ H q)⟩
theorem PSs.mono {t t' : TS} (h : PSs X ss t) (i : ∀ D σ H, t' D σ H → t D σ H) : PSs X ss t' := ⟨fun pins s σ H D I q => h.run pins s σ H D I (i D σ H q)⟩
theorem OpR.mono {f : Value → Value → Sem Value} {r r' : R2} (h : OpR X f r) (i : ∀ x y H Q, r' x y H Q → r x y H Q) : OpR X f r' := fun pins s σ H x y v u Q I rx ry q => h pins s σ H x y v u Q I rx ry (i x y H Q q)
end

/-! ### heaps go on -/
section
variable {G : Gs} {H H' : Hp} {B ρ : List Addr} {st : Sto} {p a : Addr} {o : HO} {x : V} {v : PV} {xs : List V} {ps : List PV} {n : Nat}
theorem REnv.ext {σ : L2.St} {env : Env} {B' ρ' : List Addr} (r : REnv G H B ρ σ env) (e : Ext H B ρ H' B' ρ') (hs : ∀ a ∈ ρ, a ∈ B) : REnv G H' B' ρ' σ env :=
  ⟨r.len, fun i v h => let ⟨x, h1, h2⟩ := r.at_ i v h; ⟨x, h1, h2.ext e hs⟩⟩
theorem RSto.nin (r : RSto G H B ρ st) (h : H p = none) : p ∉ B := fun z => by
  obtain ⟨o, e, _⟩ := r.has p z
  rw [h] at e; cases e
theorem RSto.ninr (r : RSto G H B ρ st) (h : H p = none) : p ∉ ρ := fun z => r.nin h (r.sub p z)
/-- a new thing that nobody changes -/
theorem ext_new (r : RSto G H B ρ st) (h : H p = none) : Ext H B ρ (upd H p o) B ρ where
  pre := ⟨[], by simp⟩
  sub := fun _ z => z
  new := fun _ z => .inl z
  newr := fun _ z => .inl z
  keep := fun b u e _ _ => by rw [upd_ne (ne_of_none e h)]; exact e
  tup := fun b u e => by rw [upd_ne (ne_of_none e h)]; exact e
  frz := fun b u w e => by rw [upd_ne (ne_of_none e h)]; exact e
  grow := fun b e => by
    by_cases hb : b = p
    · rw [hb]; exact gone_none h
    · exact fun u z => e u (by rw [upd_ne hb]; exact z)
theorem RO.ext {B' ρ' : List Addr} {m : MO} (e : Ext H B ρ H' B' ρ') (hs : ∀ a ∈ ρ, a ∈ B) (ha : H' a = H a) (r : RO G H B ρ a m) : RO G H' B' ρ' a m := by
  cases r with
  | lst h r => exact .lst (ha.trans h) (r.ext e hs)
  | dK h r => exact .dK (ha.trans h) (r.ext e hs)
  | dT h r => exact .dT (ha.trans h) (r.ext e hs)
theorem sto_new (r : RSto G H B ρ st) (h : H p = none) : RSto G (upd H p o) B ρ st where
  nd := r.nd
  sub := r.sub
  len := r.len
  obj := fun n a m h1 h2 => (r.obj n a m h1 h2).ext (ext_new r h) r.sub (upd_ne fun z => r.ninr h (by rw [← z]; exact List.mem_of_getElem? h1))
  has := fun a ha => by
    obtain ⟨ob, e, q⟩ := r.has a ha
    exact ⟨ob, by rw [upd_ne (ne_of_none e h)]; exact e, q⟩
  tabs := tabs_new r.tabs h
/-- a new thing of the store -/
theorem ext_newM (r : RSto G H B ρ st) (h : H p = none) : Ext H B ρ (upd H p o) (p :: B) (ρ ++ [p]) where
  pre := ⟨[p], rfl⟩
  sub := fun _ z => List.mem_cons_of_mem _ z
  new := fun a z => (List.mem_cons.mp z).elim (fun e => .inr (by rw [e]; exact gone_none h)) .inl
  newr := fun a z => (List.mem_append.mp z).elim .inl fun e => .inr (by rw [List.mem_singleton.mp e]; exact gone_none h)
  keep := (ext_new r h).keep
  tup := (ext_new r h).tup
  frz := (ext_new r h).frz
  grow := (ext_new (o := o) r h).grow
theorem sto_newM {m : MO} (r : RSto G H B ρ st) (h : H p = none) (hm : isMut o) (q : RO G (upd H p o) (p :: B) (ρ ++ [p]) p m) : RSto G (upd H p o) (p :: B) (ρ ++ [p]) (st ++ [m]) where
  nd := by
    rw [List.nodup_append]
    exact ⟨r.nd, by simp, fun a ha b hb => by rw [List.mem_singleton.mp hb]; rintro rfl; exact r.ninr h ha⟩
  sub := fun a z => (List.mem_append.mp z).elim (fun e => List.mem_cons_of_mem _ (r.sub a e)) fun e => by rw [List.mem_singleton.mp e]; exact List.mem_cons_self
  len := by simp [r.len]
  obj := fun n a mo h1 h2 => by
    by_cases hn : n < ρ.length
    · rw [List.getElem?_append_left hn] at h1
      rw [List.getElem?_append_left (by rw [← r.len]; exact hn)] at h2
      exact (r.obj n a mo h1 h2).ext (ext_newM r h) r.sub (upd_ne fun z => r.ninr h (by rw [← z]; exact List.mem_of_getElem? h1))
    · have e : n = ρ.length := by
        have := (List.getElem?_eq_some_iff.mp h1).1
        simp at this
        omega
      subst e
      rw [List.getElem?_append_right (Nat.le_refl _)] at h1
      rw [r.len, List.getElem?_append_right (Nat.le_refl _)] at h2
      simp at h1 h2
      rw [← h1, ← h2]
      exact q
  has := fun a ha => by
    rcases List.mem_cons.mp ha with e | e
    · rw [e]
      exact ⟨o, upd_same, hm⟩
    · obtain ⟨ob, e', q'⟩ := r.has a e
      exact ⟨ob, by rw [upd_ne (ne_of_none e' h)]; exact e', q'⟩
  tabs := tabs_new r.tabs h
/-- a thing of the store is changed -/
theorem ext_set (r : RSto G H B ρ st) (h : ρ[n]? = some a) (hm : isMut o := by trivial) : Ext H B ρ (upd H a o) B ρ where
  pre := ⟨[], by simp⟩
  sub := fun _ z => z
  new := fun _ z => .inl z
  newr := fun _ z => .inl z
  keep := fun b u e hn _ => by rw [upd_ne (fun z => hn (by rw [z]; exact List.mem_of_getElem? h))]; exact e
  tup := fun b u e => by
    rw [upd_ne (fun z => ?_)]
    · exact e
    · obtain ⟨ob, e', q⟩ := r.has a (r.sub a (List.mem_of_getElem? h))
      rw [← z, e] at e'
      exact q.parts.1 u (Option.some.inj e').symm
  frz := fun b u w e => by
    rw [upd_ne (fun z => ?_)]
    · exact e
    · obtain ⟨ob, e', q⟩ := r.has a (r.sub a (List.mem_of_getElem? h))
      rw [← z, e] at e'
      exact q.parts.2.1 u w (Option.some.inj e').symm
  grow := fun b e => by
    by_cases hb : b = a
    · exact (gone_mut e (by rw [hb]; exact upd_same) hm).elim
    · exact fun u z => e u (by rw [upd_ne hb]; exact z)
theorem sto_set {m : MO} (r : RSto G H B ρ st) (h : ρ[n]? = some a) (hm : isMut o) (q : RO G (upd H a o) B ρ a m) : RSto G (upd H a o) B ρ (st.set n m) where
  nd := r.nd
  sub := r.sub
  len := by simp [r.len]
  obj := fun k b mo h1 h2 => by
    by_cases hk : k = n
    · subst hk
      rw [h] at h1
      cases h1
      have hl : k < st.length := by
        rw [← r.len]
        exact (List.getElem?_eq_some_iff.mp h).1
      rw [List.getElem?_set_self hl] at h2
      cases h2
      exact q
    · rw [List.getElem?_set_ne (Ne.symm hk)] at h2
      refine (r.obj k b mo h1 h2).ext (ext_set r h hm) r.sub (upd_ne fun z => hk ?_)
      rw [z] at h1
      obtain ⟨l1, e1⟩ := List.getElem?_eq_some_iff.mp h1
      obtain ⟨l2, e2⟩ := List.getElem?_eq_some_iff.mp h
      exact (List.getElem_inj r.nd).mp (e1.trans e2.symm)
  has := fun b hb => by
    by_cases e : b = a
    · rw [e]
      exact ⟨o, upd_same, hm⟩
    · obtain ⟨ob, e', q'⟩ := r.has b hb
      exact ⟨ob, by rw [upd_ne e]; exact e', q'⟩
  tabs := by
    obtain ⟨ob, e', q⟩ := r.has a (r.sub a (List.mem_of_getElem? h))
    exact tabs_set r.tabs e' q
end
end MP

set_option Elab.async false
set_option linter.all false
set_option maxRecDepth 100000
set_option maxHeartbeats 4000000
/-! MLim: an error class of the text with a limit: its __init__ says super().__init__(a text + str(limit)) and keeps the limit. -/
namespace MP
open PySem PySem.Spec PyProof.Rows L2
theorem lim_all : ∀ q ∈ limTab, (toString q.1 : Str) = toS q.2 ∧ q.1.natAbs.log2 < 1920 ∧ q.2.length ≤ 10 ∧ limText q.1 = q.2 ∧ okStr q.2 = true := by
  intro q hq
  simp only [limTab, List.mem_cons, List.not_mem_nil, or_false] at hq
  rcases hq with rfl | rfl | rfl | rfl | rfl | rfl | rfl | rfl | rfl | rfl <;> exact ⟨by decide, by decide, by decide, by decide, by decide⟩
/-- what the module's part of the heap says of such a class (at C) and its __init__ (at f) -/
structure LimOk (K : PySem.W.Frag) (C f : Addr) : Prop where
  ox : OexC K C
  no : PySem.W.findIn K (.ref C) "limit" = some none
  at_ : PySem.W.findIn K (.ref C) "__init__" = some (some (.ref f))
  ty : PySem.W.typeIn K (.ref f) = some (.type "function")
  up : PySem.W.ks_superIn K C C "__init__" = some (some (.builtin "ValueError.__init__"))
  ve : PySem.W.subIn K (.ref C) (.type "ValueError") = some true
  self : PySem.W.mroIn K C (.ref C) = some true
  stub : PySem.W.nsIn K cStatics "thirdparty.any" = some none
/-- the __init__'s text -/
structure LimTx (scope : Scope) (params : Arguments) (z : Str) (body : List Stmt) : Prop where
  kind : scope.kind = .function
  co : scope.isCoroutine = false
  gen : scope.isGenerator = false
  nocell : ∀ x ∈ scope.names, x.2 ≠ .cell
  free : ∀ x ∈ scope.names, x.2 = .free → x.1 = ("__class__" : Str)
  kSelf : scope.names.lookup ("self" : Str) = some .local
  kLim : scope.names.lookup ("limit" : Str) = some .local
  kSup : scope.names.lookup ("super" : Str) = some .globalImplicit
  kStr : scope.names.lookup ("str" : Str) = some .globalImplicit
  kCls : scope.names.lookup ("__class__" : Str) = some .free
  first : ∃ ar, (params.posonlyargs ++ params.args).head? = some ar ∧ ar.arg = ("self" : Str)
  body : ∃ p0 p1 p2 p3 p4 p5 p6 p7 p8 p9 q0 q1 q2 q3 j, (Pos.endLine p2 == Pos.line p8) = true ∧ body = [.Expr (.Call (.Attribute (.Call (.Name "super" p0) [] [] p1) "__init__" p2) [.BinOp (.Constant (.str z) j p3) .Add (.Call (.Name "str" p4) [.Name "limit" p5] [] p6) p7] [] p8) p9, .Assign [.Attribute (.Name "self" q0) "limit" q1] (.Name "limit" q2) q3]
  zlen : z.length ≤ 1000
section
variable {P : Program} {w : World} {K : PySem.W.Frag} {mg : Str → Option Value} {base : Heap}
def cxSup (P : Program) (w : World) (K : PySem.W.Frag) (mg : Str → Option Value) (base : Heap) (fd : FuncData) (f : Addr) (A : Around) (outer : List PySem.Env) (s : Shared) (H : Hp) : Cx where
  prog := P
  w := w
  K := K
  mg := mg
  base := base
  A := A.deeper (callEnv fd s.heap.objs.size f)
  N := ["self", "limit"]
  s_0 := s
  H_0 := H
  env := callEnv fd s.heap.objs.size f
  outer := outer
  stack := callEnv fd s.heap.objs.size f :: outer
  ex := []
  calm := true
  fn := fun _ => false
  pn := []
  xe := fun e s' => wpAny (model P w) (A.deeper (callEnv fd s.heap.objs.size f)) (leaving (callEnv fd s.heap.objs.size f) e) (fun _ _ => False) (fun _ _ => False) s'
theorem inv_sup {name qual : Str} {params : Arguments} {body : List Stmt} {scope : Scope} {dV kV doc pm cdv ct : Value} {an : Option Addr} {cc f D : Addr} {z : Str} (S : LimTx scope params z body) {A : Around} {outer : List PySem.Env} {s : Shared} {H : Hp} {h₀ : Heap} {t : Nat} {x y : V} {u v : Value}
    (hd : A.handled = none) (e0 : Env0 P w K mg base A outer s H) (hcc : ∃ cl cld csl, K.lookup cc = some ⟨cl, cld, .cell (some (.ref D)), csl⟩) (r : Vals [x, y] [u, v])
    (hns : h₀.Ns s.heap.objs.size (fun n => ((["self", "limit"] : List Str).zip [u, v]).reverse.lookup n)) (hk : ∀ b o, s.heap.get? b = some o → h₀.get? b = some o) :
    Inv (cxSup P w K mg base (PySem.W.ksFn name qual params body scope dV kV doc pm an cdv ct cc) f A outer s H) [] [some x, some y] H { s with heap := h₀, toks := t } := by
  generalize hfd : PySem.W.ksFn name qual params body scope dV kV doc pm an cdv ct cc = fd
  have ecells : (cxSup P w K mg base fd f A outer s H).env.cells = [(("__class__" : Str), cc)] := by subst hfd; rfl
  have escope : (cxSup P w K mg base fd f A outer s H).env.scope = scope := by subst hfd; rfl
  have hcell : ∀ (y : Str) (c : Addr), (cxSup P w K mg base fd f A outer s H).env.cells.lookup y = some c → y = ("__class__" : Str) ∧ c = cc := fun y c h => by
    rw [ecells] at h
    by_cases e : y = ("__class__" : Str)
    · subst e
      have h' : some cc = some c := h
      exact ⟨rfl, (Option.some.inj h').symm⟩
    · have e' : (y == ("__class__" : Str)) = false := beq_eq_false_iff_ne.mpr e
      rw [List.lookup_cons, e'] at h
      cases h
  obtain ⟨cl, cld, csl, hcc⟩ := hcc
  have hbase : base.get? cc = some ⟨cl, cld, .cell (some (.ref D)), csl⟩ := e0.mod.kin _ _ hcc
  have noA : ∀ b : Addr, b ∉ (cxSup P w K mg base fd f A outer s H).ex := fun b z => absurd (show b ∈ ([] : List Addr) from z) (by simp)
  refine ⟨⟨e0.mod, by rw [escope]; exact S.kind, by subst hfd; rfl, by subst hfd; rfl, by subst hfd; exact Nat.le_refl _, fun y z c h1 h2 => ?_, fun y hy => ?_, fun y c hf _ => (nomatch hf), fun _ => hd, Around.frames_deeper e0.frames, .inr ⟨rfl, by subst hfd; rfl⟩, fun b z => absurd z (noA b), e0.bs, e0.bsz, fun b _ _ => noA b, fun b z => absurd z (noA b), e0.funs, e0.frf⟩,
    rfl, e0.bare, Un.kept hk, ⟨_, by subst hfd; exact hns, fun i y v h1 h2 h3 => ?_⟩, fun y c h => ?_, by subst hfd; exact e0.hok.fresh (Nat.le_refl _), fun y c h => ?_, fun p hp => absurd (show p ∈ ([] : List (Addr × Obj)) from hp) (by simp), e0.hok.kept hk, rfl⟩
  · rw [(hcell y c h1).1, (hcell z c h2).1]
  · have hy : scope.names.lookup y = some .cell ∨ scope.names.lookup y = some .free := by
      rw [← escope]; exact hy
    rcases hy with hy | hy
    · exact absurd rfl (S.nocell _ (PySem.mem_of_lookup hy))
    · have := S.free _ (PySem.mem_of_lookup hy) rfl
      have e : y = ("__class__" : Str) := this
      subst e
      exact ⟨cc, by rw [ecells]; rfl⟩
  · cases r with
    | cons rx r1 =>
      cases r1 with
      | cons ry r2 =>
        match i, h1, h2 with
        | 0, h1, h2 =>
          cases h1; cases h2
          exact ⟨_, rx, .inl ⟨by show (cxSup P w K mg base fd f A outer s H).env.scope.names.lookup _ = _; rw [escope]; exact S.kSelf, rfl⟩⟩
        | 1, h1, h2 =>
          cases h1; cases h2
          exact ⟨_, ry, .inl ⟨by show (cxSup P w K mg base fd f A outer s H).env.scope.names.lookup _ = _; rw [escope]; exact S.kLim, rfl⟩⟩
        | i + 2, h1, h2 => cases h1
  · obtain ⟨_, rfl⟩ := hcell y c h
    exact ⟨_, _, hk _ _ (e0.bs _ _ hbase).1, rfl⟩
  · obtain ⟨_, rfl⟩ := hcell y c h
    exact (e0.bs _ _ hbase).2

/-- what the __init__ does: an int i is kept -/
def spLim (C : Addr) : Sp := fun vs H Q _ => ∃ (a : Addr) (i : Int), vs = [.ref a, .int i] ∧ limOk i = true ∧ H a = some (exo a C none) ∧ ∀ dx, H dx = none → dx ≠ a → Q .non (upd (upd H dx (exd dx [("limit", .int i)])) a (exo a C (some dx)))
theorem lim_of {i : Int} (h : limOk i = true) : (toString i : Str) = toS (limText i) ∧ i.natAbs.log2 < 1920 ∧ (limText i).length ≤ 10 ∧ okStr (limText i) = true := by
  unfold limOk at h
  rw [List.any_eq_true] at h
  obtain ⟨q, hq, e⟩ := h
  obtain rfl : q.1 = i := of_decide_eq_true e
  obtain ⟨h1, h2, h3, h4, h5⟩ := lim_all q hq
  rw [h4]
  exact ⟨h1, h2, h3, h5⟩
theorem toS_len {x : List Nat} : (toS x).length = x.length := by
  show (toS x).cps.size = _
  simp [toS]
theorem lim_args {X : Cx} {z : Str} {j : Nat} {p3 p4 p5 p6 p7 : Pos} (hN : X.N[1]? = some ("limit" : Str)) (hv : Vis X.env.scope "limit") (hg : Gl X "str") (hm : X.mg "str" = none) :
    PA X [.BinOp (.Constant (.str z) j p3) .Add (.Call (.Name "str" p4) [.Name "limit" p5] [] p6) p7] (fun σ H Q => ∃ i : Int, σ[1]? = some (some (.int i)) ∧ limOk i = true ∧ z.length ≤ 1000 ∧ Q [.str (z ++ toS (limText i))] H) := by
  refine PA.mono (pa_cons (pe_op op_add_str pe_str (pe_callTy call_str_int hg hm boot_str (pa_cons (pe_var hN hv) pa_nil))) pa_nil) fun σ H Q ⟨i, h1, h2, h3, h4⟩ => ?_
  obtain ⟨e1, e2, e3, _⟩ := lim_of h2
  have e4 : (toS (limText i)).length ≤ 10 := by rw [toS_len]; exact e3
  refine ⟨_, h1, i, rfl, e2, z, toString i, rfl, rfl, ?_, ?_⟩
  · rw [e1, sizeLine_eq]
    omega
  · rw [e1]
    exact h4
theorem lim_fn {k : Nat} {name qual z file : Str} {params : Arguments} {body : List Stmt} {scope : Scope} {dV kV doc pm ct oc ccl cl : Value} {an od cdd cld : Option Addr} {osl ccs csl : Array (Option Value)} {cda cc f C : Addr} {vs : Array Value} {tf : Tok} {cd : ClassData} (S : LimTx scope params z body)
    (lk : K.lookup f = some ⟨oc, od, .func (PySem.W.ksFn name qual params body scope dV kV doc pm an (.ref cda) ct cc), osl⟩) (hcd : PySem.W.codeIn K (.ref cda) qual = true) (hcode : K.lookup cda = some ⟨ccl, cdd, .fields vs, ccs⟩) (hvs : vs[2]? = some (.str file tf)) (hfile : ((P.main.file : Str) == file) = true)
    (hcc : K.lookup cc = some ⟨cl, cld, .cell (some (.ref C)), csl⟩) (hC : PySem.W.clsIn K C = some cd) (htop : (P.main.scope.names.lookup ("super" : Str)).isSome = false) (hsup : mg "super" = none) (hstr : mg "str" = none) (L : LimOk K C f) :
    FnOk P w K mg base CX0 (k + 1) f (PySem.W.ksFn name qual params body scope dV kV doc pm an (.ref cda) ct cc) ["self", "limit"] (spLim C) := by
  refine ⟨fun vs H Q E ⟨a, i, e, _⟩ => by rw [e]; rfl, fun A outer s H args us xs Q E hr e0 hb r hsp => ?_⟩
  obtain ⟨a, i, rfl, hi, ea, hq⟩ := hsp
  have KX : K.In s.heap := e0.mod.kin.keeps fun b o e => (e0.bs b o e).1
  have lim : s.heap.NoLimit := e0.mod.nolimit.keeps fun b o e => (e0.bs b o e).1
  obtain ⟨u, v, rfl⟩ : ∃ u v, us = [u, v] := by
    cases r with
    | cons _ r1 => cases r1 with
      | cons _ r2 => cases r2; exact ⟨_, _, rfl⟩
  have r0 := r
  obtain rfl : u = .ref a := by cases r with | cons ra _ => exact ra
  obtain ⟨p0, p1, p2, p3, p4, p5, p6, p7, p8, p9, q0, q1, q2, q3, j, hline, hbody⟩ := S.body
  obtain ⟨ar, har, harg⟩ := S.first
  refine ks_codeAny_call_defAt (body := _) hr.depth (KX _ _ lk) rfl lim (PySem.W.codeRec_of KX hcd) rfl hb S.nocell (fun x hx => ?_) (fun h₀ hns hk => ?_) S.co S.gen S.kind
  · have hx' : x = (("self" : Str), Value.ref a) ∨ x = (("limit" : Str), v) := by simpa using hx
    rcases hx' with rfl | rfl
    · exact S.kSelf
    · exact S.kLim
  have I := inv_sup (P := P) (w := w) (name := name) (qual := qual) (dV := dV) (kV := kV) (doc := doc) (pm := pm) (cdv := .ref cda) (ct := ct) (an := an) (f := f) S (t := s.toks + ((["self", "limit"] : List Str).zip [Value.ref a, v]).length) hr.hd e0 ⟨_, _, _, hcc⟩ r0 hns hk
  have hC' := hC
  obtain ⟨oD, hD1, hD2⟩ : ∃ oD, K.lookup C = some oD ∧ oD.data = .cls cd := by
    unfold PySem.W.clsIn at hC'
    split at hC'
    · rename_i c d cd' sl ho
      cases hC'
      exact ⟨_, ho, rfl⟩
    · cases hC'
  obtain ⟨m, hm, hloc⟩ := I.loc
  obtain ⟨us1, hu1, hl1⟩ := hloc 0 "self" (.ref a) rfl rfl (.inl S.kSelf)
  obtain rfl : us1 = .ref a := hu1
  have hself : m "self" = some (.ref a) := by
    rcases hl1 with ⟨_, h⟩ | ⟨h, _⟩
    · exact h
    · have h' : scope.names.lookup ("self" : Str) = some .cell ∨ scope.names.lookup ("self" : Str) = some .free := h
      rw [S.kSelf] at h'
      rcases h' with h' | h' <;> cases h'
  have KX1 : K.In h₀ := I.kIn
  obtain ⟨t1, hoa⟩ := exo_at I.hok ea
  have hqt := I.quiet
  refine (congrArg (fun b => _root_.PySem.wpAt _ _ _ (execs b _) _ _ _) hbody).mpr ?_
  refine ks_wpAt_execs_cons (ks_wpAt_Expr_any (hi := hqt) (ks_wpAt_MethodCall (pl := plainOf (.Call (.Name "super" p0) [] [] p1) (callEnv (PySem.W.ksFn name qual params body scope dV kV doc pm an (.ref cda) ct cc) s.heap.objs.size f)) ?_ ?he))
  case he =>
    have e : ∀ ov : Value, _ = _ := fun ov => mcall_line (o := .Call (.Name "super" p0) [] [] p1) (m := "__init__") (apos := p2) (pos := p8) (env := callEnv (PySem.W.ksFn name qual params body scope dV kV doc pm an (.ref cda) ct cc) s.heap.objs.size f) (ov := ov) (n := 1)
      (args := backTo p8 (starEach [.BinOp (.Constant (.str z) j p3) .Add (.Call (.Name "str" p4) [.Name "limit" p5] [] p6) p7] (callEnv (PySem.W.ksFn name qual params body scope dV kV doc pm an (.ref cda) ct cc) s.heap.objs.size f))) (kws := []) rfl hline
    show (do
      let ov ← attributeBase _ _ _ _
      standAt p2.atName
      methodCall (.Call (.Name "super" p0) [] [] p1) "__init__" p2 p8 _ ov 1 _ []) = _
    simp only [e]
  refine ks_wpAt_super_base (f := f) (cc := cda) S.kSup S.kCls (by decide) rfl (KX1 _ _ lk) rfl har rfl (KX1 _ _ hcode) rfl hvs hfile htop ?_
  obtain ⟨mb, hb1, hb2⟩ := e0.mod.blt
  refine PySem.W.ks_loadName_global S.kind S.kSup (Calls.loadGlobal_builtin (I.mod.glob.keeps I.bk) hsup (hb1.keeps I.bk) ((hb2 _ (by decide)).trans (by rfl)) ⟨rfl, ?_⟩)
  refine wpAny_loadName_free S.kind S.kCls rfl ⟨_, KX1 _ _ hcc, rfl⟩ ?_
  refine wpAny_loadName_local S.kind (by rw [harg]; exact S.kSelf) hm (by rw [harg]; exact hself) ?_
  refine ks_wpAny_isType_cls (KX1 _ _ hD1) hD2 ⟨rfl, ?_⟩
  refine ks_wpAny_call_super (C := C) (KX1 _ _ hD1) hD2 hoa rfl (fun c e => by cases e) (PySem.W.looks_mroIn KX1 L.self) (fun h1 hso k1 => ?_)
  have I1 := I.kept (h' := h1) (t' := s.toks + ((["self", "limit"] : List Str).zip [Value.ref a, v]).length) k1
  have KX2 : K.In h1 := I1.kIn
  have hia : PySem.W.InstAt h1 a { cls := .ref C, dict := none, data := .fields #[.ref t1, .none, .none, .none, .bool false, .none] } C none := ⟨k1 _ _ hoa, rfl, rfl, trivial⟩
  have hal := L.up
  unfold PySem.W.ks_superIn at hal
  rw [hC] at hal
  refine PySem.W.kxs_getMethod PySem.W.kxs_ValueError hso (PySem.W.looks_opaque KX2 L.stub) (l₀ := cd.mro) (fun A Q E s k q => wpAny_bind ((PySem.W.looks_clsIn KX2 hC) A _ E s k (wpAny_pure q))) rfl KX2 hal (hia.type.andThen (PySem.W.looks_subIn KX2 L.ve)) (PySem.W.ks_ne KX2 hia hC) (by decide) ?_
  have kp : ∀ b o, h1.get? b = some o → (h1.push (PySem.W.kxs_mw "ValueError.__init__" a)).get? b = some o := fun b o e => Heap.get?_push_of_some _ e
  have I2 := (I1.kept (h' := h1.push (PySem.W.kxs_mw "ValueError.__init__" a)) (t' := s.toks + ((["self", "limit"] : List Str).zip [Value.ref a, v]).length + 1) kp).pins_of (pins' := [(h1.objs.size, PySem.W.kxs_mw "ValueError.__init__" a)]) (fun p hp => by
    have hp' : p = (h1.objs.size, PySem.W.kxs_mw "ValueError.__init__" a) := by
      have : p ∈ ([] : List (Addr × Obj)) ++ [(h1.objs.size, PySem.W.kxs_mw "ValueError.__init__" a)] := hp
      simpa using this
    subst hp'
    exact ⟨Heap.get?_push_size _ rfl, I1.hok.fresh (Nat.le_refl _), Nat.ne_of_gt I1.lt, I1.nofs (Nat.le_refl _), fun _ z => by cases z⟩)
  refine PySem.W.kxs_callWith (i := "ValueError.__init__") (x := a) rfl (Calls.evalArgs_plain ?_)
  refine thn ((lim_args (X := cxSup P w K mg base (PySem.W.ksFn name qual params body scope dV kV doc pm an (.ref cda) ct cc) f A outer s H) (z := z) (j := j) (p3 := p3) (p4 := p4) (p5 := p5) (p6 := p6) (p7 := p7) rfl (.inl S.kLim) S.kStr hstr).run p8 _ _ _ H (fun vs H1 => H1 = H ∧ vs.length = 1) I2 ⟨i, rfl, hi, S.zlen, rfl, rfl⟩) (fun us1 s1 ⟨vs1, H1, I3, r1, e1, l1⟩ => ?_)
  subst e1
  have hpin := (I3.pin (h1.objs.size, PySem.W.kxs_mw "ValueError.__init__" a) (by show _ ∈ ([] : List (Addr × Obj)) ++ _; simp)).1
  refine ⟨hpin, ?_⟩
  obtain ⟨nm, q, N, bs, bm, sn, sub, ab, col, dd, k0, k1', k2, k3, k5, hCo, hbm⟩ := L.ox.cls
  obtain ⟨t2, hoa2⟩ := exo_at I3.hok ea
  have KX3 : K.In s1.heap := I3.kIn
  obtain ⟨hp, g, dr, tk, os⟩ := s1
  refine wpAny_call (codeAny_of_tree ?_)
  show wpAny _ (Around.in1 _) (callAny (.ref h1.objs.size) ⟨us1, []⟩) _ _ _
  simp only [callAny]
  refine wpAny_bind (wpAny_load hpin ?_)
  simp only [PySem.W.kxs_mw, show (Value.type "method-wrapper" == Value.type "method" || Value.type "method-wrapper" == Value.type "builtin_function_or_method" || Value.type "method-wrapper" == Value.type "method-wrapper") = true by decide, if_true]
  refine PySem.W.KFB.if_so (by decide) ?_
  refine wpAny_bind (PySem.W.check_bound_init PySem.F.excBase_ValueError.toExcCallFacts (KX3 _ _ hCo) hoa2 rfl ?_)
  refine wpAny_bind (wpAny_pure (wpAny_pure ?_))
  refine ⟨plainId_quiet PySem.F.excBase_ValueError.init.plain _, codeAny_builtin PySem.F.excBase_ValueError.initEntry ?_⟩
  refine PySem.W.exc_init_tree (cls := .ref C) (t0 := t2) (dv := none) (c2 := .none) (c3 := .none) (b4 := .bool false) hoa2 (by rw [← Paired.length r1, l1]; decide) (fun h' k' hx _ => ?_)
  have J0 := I3.write (t' := tk) (x := a) (e := a) (o := exo a C none) (by rw [ea]; exact True.intro) (.inl rfl) k' ⟨_, hx⟩ (exo_ok hx)
  have eu : upd H1 a (exo a C none) = H1 := by
    funext b
    by_cases hb : b = a
    · rw [hb, upd_same, ea]
    · rw [upd_ne hb]
  rw [eu] at J0
  have J : L2.Inv (cxSup P w K mg base (PySem.W.ksFn name qual params body scope dV kV doc pm an (.ref cda) ct cc) f A outer s H1) [] [some (.ref a), some (.int i)] H1 ⟨h', g, dr, tk, os⟩ := J0.pins_of fun p hp => absurd (show p ∈ ([] : List (Addr × Obj)) ++ [] from hp) (by simp)
  have body2 := (pss_one (ps_ost (X := cxSup P w K mg base (PySem.W.ksFn name qual params body scope dV kV doc pm an (.ref cda) ct cc) f A outer s H1) (f := "limit") (p' := q1) (pos := q3) (pe_var (i := 0) (x := "self") (pos := q0) rfl (.inl S.kSelf)) (pe_var (i := 1) (x := "limit") (pos := q2) rfl (.inl S.kLim)))).run [] _ _ _ { nx := fun _ H' => Q .non H', rt := Q } J ⟨_, rfl, _, rfl, a, C, rfl, L.ox, L.no, .inl ⟨ea, hq⟩⟩
  refine wpAt_of_wpAny (wpAny_mono body2 (fun fl s' hs => ?_) fun e s' hs => hs)
  have fin : ∀ {σ' : L2.St} {H' : Hp} {v' : V} {u' : Value}, L2.Inv (cxSup P w K mg base (PySem.W.ksFn name qual params body scope dV kV doc pm an (.ref cda) ct cc) f A outer s H1) [] σ' H' s' → RelV v' u' → Q v' H' → CE outer P w H1 s Q u' s' :=
    fun {σ' H' v' u'} J2 rv2 q2 => ⟨v', H', J2.os, J2.bare, J2.base, J2.hok, rv2, q2⟩
  cases fl with
  | ret u =>
    obtain ⟨v', σ', H', J2, rv2, q2⟩ := hs
    exact fin J2 rv2 q2
  | next =>
    obtain ⟨σ', H', J2, q2⟩ := hs
    exact fin (v' := V.non) (u' := Value.none) J2 rfl q2
  | brk =>
    obtain ⟨_, _, _, q2⟩ := hs
    exact False.elim q2
  | cont =>
    obtain ⟨_, _, _, q2⟩ := hs
    exact False.elim q2
end
end MP

set_option Elab.async false
set_option linter.all false
set_option maxRecDepth 100000
set_option maxHeartbeats 4000000
/-! MOps: operators, subscripts, slices, built-ins, methods, by values. -/
namespace MP
open PySem PySem.Spec PyProof.Rows L2
theorem line_eq : line = sizeLine := by rw [sizeLine_eq]; rfl
section
variable {X : Cx} {G : Gs} {W : XK} {H : Hp} {B ρ : List Addr} {st : Sto} {x y : V} {p q : PV} {E : XK}
theorem post_newT {xs : List V} {ps : List PV} {Q : VK} (rs : RSto G H B ρ st) (r : RVs G H B ρ xs ps) (h : Post G H B ρ (newT ps st) (fun v H' B' ρ' _ => ∀ x, RV G H' B' ρ' x v → Q x H') E) :
    xs.length ≤ sizeLine ∧ ∀ a, H a = none → Q (.ref a) (upd H a (.tup xs)) := by
  unfold newT at h
  by_cases hl : ps.length ≤ line
  · rw [if_pos hl] at h
    refine ⟨by rw [r.length, ← line_eq]; exact hl, fun a ha => ?_⟩
    refine h _ B ρ (ext_new rs ha) (sto_new rs ha) _ (.tup upd_same (r.ext (ext_new rs ha) rs.sub))
  · rw [if_neg hl] at h
    exact h.elim
theorem post_newL {m : Bool} {xs : List V} {ps : List PV} {Q : VK} (rs : RSto G H B ρ st) (r : RVs G H B ρ xs ps) (h : Post G H B ρ (newL m ps st) (fun v H' B' ρ' _ => ∀ x, RV G H' B' ρ' x v → Q x H') E) :
    xs.length ≤ sizeLine ∧ ∀ a, H a = none → Q (.ref a) (upd H a (.lst xs)) := by
  unfold newL at h
  by_cases hl : ps.length ≤ line
  · rw [if_pos hl] at h
    refine ⟨by rw [r.length, ← line_eq]; exact hl, fun a ha => ?_⟩
    cases m with
    | true =>
      refine h _ (a :: B) (ρ ++ [a]) (ext_newM rs ha) (sto_newM rs ha (show isMut (.lst xs) from True.intro) (.lst upd_same (r.ext (ext_newM rs ha) rs.sub))) _ (.ref ?_)
      rw [← rs.len]
      simp
    | false => exact h _ B ρ (ext_new rs ha) (sto_new rs ha) _ (.lst upd_same (rs.nin ha) (r.ext (ext_new rs ha) rs.sub))
  · rw [if_neg hl] at h
    exact h.elim
theorem small_of {i : Int} (h : small i = true) : -(2 ^ 64) < i ∧ i < 2 ^ 64 := by
  have h2 : i.natAbs ≤ 18446744073709551615 := Nat.le_of_ble_eq_true h
  have e1 : ((2 : Int) ^ 64) = 18446744073709551616 := by decide
  rw [e1]
  omega
theorem okStr_append {a b : List Nat} (ha : okStr a = true) (hb : okStr b = true) : okStr (a ++ b) = true := by
  unfold okStr at *
  rw [List.all_append, ha, hb] <;> rfl
theorem toS_append (a b : List Nat) : (toS a) ++ (toS b) = toS (a ++ b) := by
  show Str.append (toS a) (toS b) = toS (a ++ b)
  unfold Str.append toS
  simp
theorem toS_length (a : List Nat) : (toS a).length = a.length := by
  show (a.toArray).size = a.length
  simp
theorem op_subBB : OpR X (binaryOp .Sub) (fun x y H Q => ∃ a b : Bool, x = .bl a ∧ y = .bl b ∧ Q (.int ((if a = true then 1 else 0) - (if b = true then 1 else 0))) H) := by
  intro pins s σ H x y v u Q I rx ry h
  obtain ⟨a, b, rfl, rfl, q⟩ := h
  cases rx
  cases ry
  exact PyProof.Rows.sub_bool ⟨.int _, H, I.tok _, ⟨_, rfl⟩, q⟩
theorem op_mulIB : OpR X (binaryOp .Mult) (fun x y H Q => ∃ (i : Int) (b : Bool), x = .int i ∧ y = .bl b ∧ Q (.int (i * (if b = true then 1 else 0))) H) := by
  intro pins s σ H x y v u Q I rx ry h
  obtain ⟨i, b, rfl, rfl, q⟩ := h
  obtain ⟨t, rfl⟩ := rx
  cases ry
  exact PySem.IntBool.mul_int_bool ⟨.int _, H, I.tok _, ⟨_, rfl⟩, q⟩
theorem op_bin (hK : X.K = G.K) (m : Bool) (op : Operator) : OpR X (binaryOp op) (r2 G W (binop m op)) := by
  intro pins s σ H x y v u Q I rx ry hh
  obtain ⟨B, ρ, st, p, q, hp, hq, rs, h⟩ := hh
  have dp := hp.rdb rs
  have dq := hq.rdb rs
  unfold binop at h
  generalize ep : rd st p = p' at h dp
  generalize eq' : rd st q = q' at h dq
  cases op with
  | Add =>
    cases dp with
    | int i =>
      cases dq with
      | int j => exact op_add pins s σ H _ _ v u Q I rx ry ⟨i, j, rfl, rfl, h.here rs _ (.int _)⟩
      | oth hd => cases q' <;> first | (cases hd; done) | exact (show False from h).elim
      | _ => exact (show False from h).elim
    | tup h1 r1 =>
      cases dq with
      | tup h2 r2 =>
        rename_i a xs ps b ys qs
        obtain ⟨hl, hn⟩ := post_newT rs (r1.append r2) h
        have hz : xs.length + ys.length ≤ sizeLine := by rw [← List.length_append]; exact hl
        have hl2 : (ps ++ qs).length ≤ line := by rw [← (r1.append r2).length, line_eq]; exact hl
        have h' : Post G H B ρ (newT (ps ++ qs) st) (fun v H' B' ρ' _ => ∀ x, RV G H' B' ρ' x v → Q x H') W := h
        unfold newT at h'
        rw [if_pos hl2] at h'
        refine op_catA pins s σ H _ _ v u Q I rx ry ⟨a, b, xs, ys, rfl, rfl, by rw [hK]; exact h1, by rw [hK]; exact h2, hz, fun e => ?_, fun _ e => ?_, fun _ _ => hn⟩
        · subst e
          cases r1
          have hq2 := hq
          rw [rd_tup eq'] at hq2
          exact h'.here rs _ hq2
        · subst e
          cases r2
          rw [List.append_nil] at h'
          have hp2 := hp
          rw [rd_tup ep] at hp2
          exact h'.here rs _ hp2
      | oth hd => cases q' <;> first | (cases hd; done) | exact (show False from h).elim
      | _ => exact (show False from h).elim
    | lst h1 r1 =>
      cases dq with
      | lst h2 r2 =>
        obtain ⟨hl, hn⟩ := post_newL rs (r1.append r2) h
        exact op_cat pins s σ H _ _ v u Q I rx ry ⟨_, _, _, _, rfl, rfl, h1, h2, by rw [← List.length_append]; exact hl, hn⟩
      | oth hd => cases q' <;> first | (cases hd; done) | exact (show False from h).elim
      | _ => exact (show False from h).elim
    | str h1 l1 =>
      cases dq with
      | str h2 l2 =>
        rename_i a b
        have h' : Post G H B ρ (if a.length + b.length ≤ line then Out.ok (PV.str (a ++ b)) st else .stuck) (fun v H' B' ρ' _ => ∀ x, RV G H' B' ρ' x v → Q x H') W := h
        by_cases hl : a.length + b.length ≤ line
        · rw [if_pos hl] at h'
          refine op_add_str pins s σ H _ _ v u Q I rx ry ⟨_, _, rfl, rfl, by rw [toS_length, toS_length, ← line_eq]; exact hl, ?_⟩
          rw [toS_append]
          exact h'.here rs _ (.str (okStr_append h1 h2) (by rw [List.length_append]; exact hl))
        · rw [if_neg hl] at h'
          exact h'.elim
      | oth hd => cases q' <;> first | (cases hd; done) | exact (show False from h).elim
      | _ => exact (show False from h).elim
    | oth hd => cases p' <;> first | (cases hd; done) | exact (show False from h).elim
    | _ => exact (show False from h).elim
  | Sub =>
    cases dp with
    | int i =>
      cases dq with
      | int j => exact op_sub pins s σ H _ _ v u Q I rx ry ⟨i, j, rfl, rfl, h.here rs _ (.int _)⟩
      | oth hd => cases q' <;> first | (cases hd; done) | exact (show False from h).elim
      | _ => exact (show False from h).elim
    | bl a =>
      cases dq with
      | bl b => exact op_subBB pins s σ H _ _ v u Q I rx ry ⟨a, b, rfl, rfl, h.here rs _ (.int _)⟩
      | oth hd => cases q' <;> first | (cases hd; done) | exact (show False from h).elim
      | _ => exact (show False from h).elim
    | oth hd => cases p' <;> first | (cases hd; done) | exact (show False from h).elim
    | _ => exact (show False from h).elim
  | Mult =>
    cases dp with
    | int i =>
      cases dq with
      | int j =>
        have h' : Post G H B ρ (if (small i || small j) = true then Out.ok (PV.int (i * j)) st else .stuck) (fun v H' B' ρ' _ => ∀ x, RV G H' B' ρ' x v → Q x H') W := h
        by_cases hs : (small i || small j) = true
        · rw [if_pos hs] at h'
          refine op_mul pins s σ H _ _ v u Q I rx ry ⟨i, j, rfl, rfl, ?_, h'.here rs _ (.int _)⟩
          rcases Bool.or_eq_true_iff.mp hs with z | z
          · exact .inl (small_of z)
          · exact .inr (small_of z)
        · rw [if_neg hs] at h'
          exact h'.elim
      | bl b => exact op_mulIB pins s σ H _ _ v u Q I rx ry ⟨i, b, rfl, rfl, h.here rs _ (.int _)⟩
      | oth hd => cases q' <;> first | (cases hd; done) | exact (show False from h).elim
      | _ => exact (show False from h).elim
    | tup h1 r1 =>
      cases dq with
      | int k =>
        rename_i a xs ps
        have h' : Post G H B ρ (if ps ≠ [] ∧ 2 ≤ k ∧ k ≤ 1000 ∧ ps.length ≤ 1000 then newT (List.replicate k.toNat ps).flatten st else .stuck) (fun v H' B' ρ' _ => ∀ x, RV G H' B' ρ' x v → Q x H') W := h
        by_cases hs : ps ≠ [] ∧ 2 ≤ k ∧ k ≤ 1000 ∧ ps.length ≤ 1000
        · rw [if_pos hs] at h'
          obtain ⟨hl, hn⟩ := post_newT rs (r1.rep k.toNat) h'
          refine op_repT pins s σ H _ _ v u Q I rx ry ⟨a, k, xs, rfl, rfl, by rw [hK]; exact h1, fun e => hs.1 ?_, hs.2.1, hs.2.2.1, by rw [r1.length]; exact hs.2.2.2, hn⟩
          subst e
          cases r1
          rfl
        · rw [if_neg hs] at h'
          exact h'.elim
      | oth hd => cases q' <;> first | (cases hd; done) | exact (show False from h).elim
      | _ => exact (show False from h).elim
    | lst h1 r1 =>
      cases dq with
      | int k =>
        rename_i a xs ps
        have h' : Post G H B ρ (if -1000000 ≤ k ∧ k ≤ 1000000 ∧ ps.length * k.toNat ≤ line then newL m (List.replicate k.toNat ps).flatten st else .stuck) (fun v H' B' ρ' _ => ∀ x, RV G H' B' ρ' x v → Q x H') W := h
        by_cases hs : -1000000 ≤ k ∧ k ≤ 1000000 ∧ ps.length * k.toNat ≤ line
        · rw [if_pos hs] at h'
          obtain ⟨hl, hn⟩ := post_newL rs (r1.rep k.toNat) h'
          exact op_rep pins s σ H _ _ v u Q I rx ry ⟨a, k, xs, rfl, rfl, h1, by omega, by omega, by rw [r1.length, ← line_eq]; exact hs.2.2, hn⟩
        · rw [if_neg hs] at h'
          exact h'.elim
      | oth hd => cases q' <;> first | (cases hd; done) | exact (show False from h).elim
      | _ => exact (show False from h).elim
    | oth hd => cases p' <;> first | (cases hd; done) | exact (show False from h).elim
    | _ => exact (show False from h).elim
  | FloorDiv =>
    cases dp with
    | int i =>
      cases dq with
      | int j =>
        have h' : Post G H B ρ (if 0 < j ∧ j < 1073741824 then Out.ok (PV.int (i / j)) st else .stuck) (fun v H' B' ρ' _ => ∀ x, RV G H' B' ρ' x v → Q x H') W := h
        by_cases hs : 0 < j ∧ j < 1073741824
        · rw [if_pos hs] at h'
          exact op_fdiv pins s σ H _ _ v u Q I rx ry ⟨i, j, rfl, rfl, hs, h'.here rs _ (.int _)⟩
        · rw [if_neg hs] at h'
          exact h'.elim
      | oth hd => cases q' <;> first | (cases hd; done) | exact (show False from h).elim
      | _ => exact (show False from h).elim
    | oth hd => cases p' <;> first | (cases hd; done) | exact (show False from h).elim
    | _ => exact (show False from h).elim
  | Mod =>
    cases dp with
    | int i =>
      cases dq with
      | int j =>
        have h' : Post G H B ρ (if 0 < j then Out.ok (PV.int (i % j)) st else .stuck) (fun v H' B' ρ' _ => ∀ x, RV G H' B' ρ' x v → Q x H') W := h
        by_cases hs : 0 < j
        · rw [if_pos hs] at h'
          exact op_mod pins s σ H _ _ v u Q I rx ry ⟨i, j, rfl, rfl, hs, h'.here rs _ (.int _)⟩
        · rw [if_neg hs] at h'
          exact h'.elim
      | oth hd => cases q' <;> first | (cases hd; done) | exact (show False from h).elim
      | _ => exact (show False from h).elim
    | oth hd => cases p' <;> first | (cases hd; done) | exact (show False from h).elim
    | _ => exact (show False from h).elim
  | Pow =>
    cases dp with
    | int i =>
      cases dq with
      | int j =>
        have h' : Post G H B ρ (if 0 ≤ j ∧ j ≤ 1000000 ∧ i.natAbs < 2 ^ 64 then Out.ok (PV.int (i ^ j.toNat)) st else .stuck) (fun v H' B' ρ' _ => ∀ x, RV G H' B' ρ' x v → Q x H') W := h
        by_cases hs : 0 ≤ j ∧ j ≤ 1000000 ∧ i.natAbs < 2 ^ 64
        · rw [if_pos hs] at h'
          exact op_pow pins s σ H _ _ v u Q I rx ry ⟨i, j, rfl, rfl, hs, h'.here rs _ (.int _)⟩
        · rw [if_neg hs] at h'
          exact h'.elim
      | oth hd => cases q' <;> first | (cases hd; done) | exact (show False from h).elim
      | _ => exact (show False from h).elim
    | oth hd => cases p' <;> first | (cases hd; done) | exact (show False from h).elim
    | _ => exact (show False from h).elim
  | _ => cases p' <;> exact (show False from h).elim

/-! ### comparisons -/
theorem post_bl {o : Option Bool} {Q : VK} (rs : RSto G H B ρ st) (h : Post G H B ρ (blOut o st) (fun v H' B' ρ' _ => ∀ x, RV G H' B' ρ' x v → Q x H') E) : ∃ b, o = some b ∧ Q (.bl b) H := by
  cases o with
  | none => exact (show False from h).elim
  | some b => exact ⟨b, rfl, h.here rs _ (.bl b)⟩
theorem op_eqM (hK : X.K = G.K) (hu : X.A.units + 200 < cLine) : OpR X (compareOp .Eq) (r2 G W (fun p q st => blOut (cmpop .Eq p q st) st)) := by
  intro pins s σ H x y v u Q I rx ry hh
  obtain ⟨B, ρ, st, p, q, hp, hq, rs, h⟩ := hh
  obtain ⟨b, e, hQ⟩ := post_bl rs h
  have e' : (if eqOk (rd st p) (rd st q) = true then some (eqv (rd st p) (rd st q)) else none) = some b := e
  by_cases ok : eqOk (rd st p) (rd st q) = true
  · rw [if_pos ok] at e'
    cases e'
    obtain ⟨d1, d2, hm⟩ := eqOk_of ok
    have dp := hp.rdb rs
    have dq := hq.rdb rs
    obtain ⟨as, r1⟩ := Dp.reads I _ x v (by rw [hK]; exact dp.dp d1) rx
    obtain ⟨bs, r2⟩ := Dp.reads I _ y u (by rw [hK]; exact dq.dp d2) ry
    refine SeqAt.compareEq_reads r1 r2 (dp.lay d1) (dq.lay d2) (by unfold deep at hm; omega) ⟨.bl _, H, I, rfl, ?_⟩
    rw [← eqv_toD _ _ d1 d2]
    exact hQ
  · rw [if_neg ok] at e'
    cases e'
theorem op_neM (hK : X.K = G.K) (hu : X.A.units + 200 < cLine) : OpR X (compareOp .NotEq) (r2 G W (fun p q st => blOut (cmpop .NotEq p q st) st)) := by
  intro pins s σ H x y v u Q I rx ry hh
  obtain ⟨B, ρ, st, p, q, hp, hq, rs, h⟩ := hh
  obtain ⟨b, e, hQ⟩ := post_bl rs h
  have e' : (if eqOk (rd st p) (rd st q) = true then some (!eqv (rd st p) (rd st q)) else none) = some b := e
  by_cases ok : eqOk (rd st p) (rd st q) = true
  · rw [if_pos ok] at e'
    cases e'
    obtain ⟨d1, d2, hm⟩ := eqOk_of ok
    have dp := hp.rdb rs
    have dq := hq.rdb rs
    obtain ⟨as, r1⟩ := Dp.reads I _ x v (by rw [hK]; exact dp.dp d1) rx
    obtain ⟨bs, r2⟩ := Dp.reads I _ y u (by rw [hK]; exact dq.dp d2) ry
    refine SeqAt.compareNe_reads r1 r2 (dp.lay d1) (dq.lay d2) (by unfold deep at hm; omega) ⟨.bl _, H, I, rfl, ?_⟩
    rw [← eqv_toD _ _ d1 d2]
    exact hQ
  · rw [if_neg ok] at e'
    cases e'
theorem any_toD {z : PV} (hz : data z = true) : ∀ {ps : List PV}, datas ps = true → ((toDs ps).any fun w => PyData.eqv w (toD z)) = ps.any fun w => eqv w z
  | [], _ => by simp [toDs]
  | q :: ps, h => by
    simp only [datas, Bool.and_eq_true] at h
    simp only [toDs, List.any_cons, any_toD hz h.2, eqv_toD q z h.1 hz]
theorem mem_sign {c : Nat} {t : List Nat} : decide (c ∈ (toS t).cps.toList) = t.elem c := by
  rw [Bool.eq_iff_iff]
  simp
theorem isIn_seq {neg : Bool} {x y : V} {v u : Value} {Q : VK} {pins : List (Addr × Obj)} {s : Shared} {σ : L2.St} {b : Bool} (hK : X.K = G.K) (hu : X.A.units + 200 < cLine) (I : Inv X pins σ H s) (rx : L2.RelV x v) (ry : L2.RelV y u)
    (hp : RV G H B ρ x p) (hq : RV G H B ρ y q) (rs : RSto G H B ρ st) (hd : ∀ n, q ≠ .ref n ∨ ∃ xs, rd st q = .lst xs) (e : isIn p q st = some b) (hQ : Q (.bl (if neg then !b else b)) H) :
    wpAny (model X.prog X.w) X.A (compareOp (if neg then .NotIn else .In) v u) (EP X pins σ Q) X.xe s := by
  have dq := hq.rdb rs
  unfold isIn at e
  generalize eq' : rd st q = q' at e dq hd
  cases dq with
  | tup h r =>
    rename_i a xs ps
    have e' : (if (dataN deep p && datas ps) = true then some (ps.any fun z => eqv z p) else none) = some b := e
    by_cases ok : (dataN deep p && datas ps) = true
    · rw [if_pos ok] at e'
      cases e'
      obtain ⟨k1, k2⟩ := Bool.and_eq_true_iff.mp ok
      obtain ⟨j1, j2⟩ := dataN_dp _ _ k1
      obtain ⟨as, r1⟩ := Dp.reads I _ x v (by rw [hK]; exact hp.dp j1) rx
      have d2 : data (.tup ps) = true := by simpa only [data] using k2
      have dd : Dp X.K H (.ref a) (.tuple (toDs ps)) := by rw [hK]; exact .tup h (r.dp k2)
      obtain ⟨bs, r2⟩ := Dp.reads I _ _ u dd ry
      have hroom : X.A.units + 1 + min (PyData.depthAll (toDs ps)) (toD p).depth < cLine := by
        have h3 := Nat.min_le_right (PyData.depthAll (toDs ps)) (toD p).depth
        unfold deep at j2
        omega
      cases ry
      cases neg with
      | true => exact SeqAt.notIn_tuple_reads r2 r1 r.lay hp.lay hroom ⟨.bl _, H, I, rfl, by rw [any_toD j1 k2]; exact hQ⟩
      | false => exact SeqAt.in_tuple_reads r2 r1 r.lay hp.lay hroom ⟨.bl _, H, I, rfl, by rw [any_toD j1 k2]; exact hQ⟩
    · rw [if_neg ok] at e'
      cases e'
  | lst h r =>
    rename_i a xs ps
    have e' : (if (dataN deep p && datas ps) = true then some (ps.any fun z => eqv z p) else none) = some b := e
    by_cases ok : (dataN deep p && datas ps) = true
    · rw [if_pos ok] at e'
      cases e'
      obtain ⟨k1, k2⟩ := Bool.and_eq_true_iff.mp ok
      obtain ⟨j1, j2⟩ := dataN_dp _ _ k1
      obtain ⟨as, r1⟩ := Dp.reads I _ x v (by rw [hK]; exact hp.dp j1) rx
      have dd : Dp X.K H (.ref a) (.list (toDs ps)) := by rw [hK]; exact .lst (.inl (.inl h)) (r.dp k2)
      obtain ⟨bs, r2⟩ := Dp.reads I _ _ u dd ry
      have hroom : X.A.units + 1 + min (PyData.depthAll (toDs ps)) (toD p).depth < cLine := by
        have h3 := Nat.min_le_right (PyData.depthAll (toDs ps)) (toD p).depth
        unfold deep at j2
        omega
      cases ry
      cases neg with
      | true => exact SeqAt.notIn_list_reads r2 r1 r.lay hp.lay hroom ⟨.bl _, H, I, rfl, by rw [any_toD j1 k2]; exact hQ⟩
      | false => exact SeqAt.in_list_reads r2 r1 r.lay hp.lay hroom ⟨.bl _, H, I, rfl, by rw [any_toD j1 k2]; exact hQ⟩
    · rw [if_neg ok] at e'
      cases e'
  | str h hl =>
    rename_i t
    cases hp with
    | str h1 l1 =>
      rename_i c
      cases c with
      | nil => cases e
      | cons c0 cr =>
        cases cr with
        | cons c1 c2 => cases e
        | nil =>
          cases e
          cases neg with
          | true =>
            refine op_notIn_sign pins s σ H _ _ v u Q I rx ry ⟨c0, toS t, rfl, rfl, ?_⟩
            rw [mem_sign]
            exact hQ
          | false =>
            refine op_in_sign pins s σ H _ _ v u Q I rx ry ⟨c0, toS t, rfl, rfl, ?_⟩
            rw [mem_sign]
            exact hQ
    | _ => cases e
  | oth hdd =>
    cases q' with
    | ref n =>
      have := rd_ref eq'
      rcases hd n with z | ⟨xs, z⟩
      · exact absurd this z
      · cases z
    | _ => first | (cases hdd; done) | cases e
  | _ => cases e
theorem op_ordI {op : CmpOp} {f : Int → Int → Bool} (hc : ∀ p q st, cmpop op p q st = ordI f p q) (ho : OpR X (compareOp op) (rI0 fun i j => .bl (f i j))) : OpR X (compareOp op) (r2 G W (fun p q st => blOut (cmpop op p q st) st)) := by
  intro pins s σ H x y v u Q I rx ry hh
  obtain ⟨B, ρ, st, p, q, hp, hq, rs, h⟩ := hh
  obtain ⟨b, e, hQ⟩ := post_bl rs h
  rw [hc] at e
  cases hp with
  | int i =>
    cases hq with
    | int j =>
      cases e
      exact ho pins s σ H _ _ v u Q I rx ry ⟨i, j, rfl, rfl, hQ⟩
    | _ => cases e
  | _ => cases e
theorem op_ordS {op : CmpOp} {f : Int → Int → Bool} {g : List Nat → List Nat → Bool} (hc : ∀ p q st, cmpop op p q st = ordS f g p q) (ho : OpR X (compareOp op) (rI0 fun i j => .bl (f i j)))
    (hs : OpR X (compareOp op) (fun x y H Q => ∃ i j, x = .str i ∧ y = .str j ∧ Q (.bl (g i.cps.toList j.cps.toList)) H)) : OpR X (compareOp op) (r2 G W (fun p q st => blOut (cmpop op p q st) st)) := by
  intro pins s σ H x y v u Q I rx ry hh
  obtain ⟨B, ρ, st, p, q, hp, hq, rs, h⟩ := hh
  obtain ⟨b, e, hQ⟩ := post_bl rs h
  rw [hc] at e
  cases hp with
  | int i =>
    cases hq with
    | int j =>
      cases e
      exact ho pins s σ H _ _ v u Q I rx ry ⟨i, j, rfl, rfl, hQ⟩
    | _ => cases e
  | str h1 l1 =>
    cases hq with
    | str h2 l2 =>
      cases e
      exact hs pins s σ H _ _ v u Q I rx ry ⟨_, _, rfl, rfl, by simpa using hQ⟩
    | _ => cases e
  | _ => cases e
theorem op_isM {neg : Bool} : OpR X (compareOp (if neg then .IsNot else .Is)) (r2 G W (fun p q st => blOut (cmpop (if neg then .IsNot else .Is) p q st) st)) := by
  intro pins s σ H x y v u Q I rx ry hh
  obtain ⟨B, ρ, st, p, q, hp, hq, rs, h⟩ := hh
  obtain ⟨b, e, hQ⟩ := post_bl rs h
  have e' : ∃ c, isSame p q = some c ∧ b = (if neg then !c else c) := by
    cases neg with
    | true =>
      have e2 : (isSame p q).map (!·) = some b := e
      cases z : isSame p q with
      | none => rw [z] at e2; cases e2
      | some c => rw [z] at e2; cases e2; exact ⟨c, rfl, rfl⟩
    | false => exact ⟨b, e, rfl⟩
  obtain ⟨c, ec, rfl⟩ := e'
  cases hq with
  | non =>
    have hc : c = decide (x = .non) := by
      cases hp with
      | non => cases ec; simp
      | _ => cases ec; simp
    subst hc
    cases neg with
    | true => exact op_notN pins s σ H _ _ v u Q I rx ry ⟨rfl, hQ⟩
    | false => exact op_isN pins s σ H _ _ v u Q I rx ry ⟨rfl, hQ⟩
  | bl j =>
    cases hp with
    | bl i =>
      have hc : c = decide (i = j) := by
        cases ec
        rw [Bool.beq_eq_decide_eq]
      subst hc
      cases neg with
      | true => exact op_notBl pins s σ H _ _ v u Q I rx ry ⟨i, j, rfl, rfl, hQ⟩
      | false => exact op_isBl pins s σ H _ _ v u Q I rx ry ⟨i, j, rfl, rfl, hQ⟩
    | _ => cases ec
  | _ => cases hp <;> cases ec
end
end MP

set_option Elab.async false
set_option linter.all false
set_option maxRecDepth 100000
set_option maxHeartbeats 4000000
/-! MOps2: subscripts, slices, built-ins, methods by values. -/
namespace MP
open PySem PySem.Spec PyProof.Rows L2
theorem ixOf_eq (n : Nat) (i : Int) : ixOf n i = ixN n i := rfl
theorem cutIx_eq (n d : Nat) (o : Option Int) (hd : d ≤ n) : cutIx n d o = HT.sIx n d o := by
  cases o with
  | none => rfl
  | some v =>
    by_cases h : v < 0
    · simp only [cutIx, HT.sIx, if_pos h]
      try omega
    · simp only [cutIx, HT.sIx, if_neg h]
      try omega
section
variable {X : Cx} {G : Gs} {W : XK} {H : Hp} {B ρ : List Addr} {st : Sto} {x y : V} {p q : PV} {E : XK}
theorem post_may {o : Option PV} {Q : VK} (rs : RSto G H B ρ st) (h : Post G H B ρ (may o st) (fun v H' B' ρ' _ => ∀ x, RV G H' B' ρ' x v → Q x H') E) : ∃ v, o = some v ∧ ∀ x, RV G H B ρ x v → Q x H := by
  cases o with
  | none => exact (show False from h).elim
  | some b => exact ⟨b, rfl, h.here rs⟩
theorem okStr_one {x : List Nat} (h : okStr x = true) {j c : Nat} (e : x[j]? = some c) : okStr [c] = true := by
  unfold okStr at *
  rw [List.all_eq_true] at h
  simp only [List.all_cons, List.all_nil, Bool.and_true]
  exact h c (List.mem_of_getElem? e)
theorem ix_subs (hK : X.K = G.K) : IxR X (r2 G W subs) := by
  intro value sl pins s σ H x y v u Q I rx ry hh hs
  obtain ⟨B, ρ, st, p, q, hp, hq, rs, h⟩ := hh
  have dp := hp.rdb rs
  unfold subs at h
  generalize rd st p = p' at h dp
  cases hq with
  | int i =>
    cases dp with
    | tup h1 r =>
      rename_i a xs ps
      obtain ⟨v', e, hQ⟩ := post_may rs h
      cases ej : ixOf ps.length i with
      | none => rw [ej] at e; cases e
      | some j =>
        rw [ej] at e
        obtain ⟨z, ez, rz⟩ := r.get (i := j) e
        refine ix_seq value sl pins s σ H _ _ v u Q I rx ry (.inr (.inl ⟨a, xs, i, z, rfl, rfl, by rw [hK]; exact h1, ?_, hQ z rz⟩)) hs
        unfold atI
        rw [r.length, ← ixOf_eq, ej]
        exact ez
    | lst h1 r =>
      rename_i a xs ps
      obtain ⟨v', e, hQ⟩ := post_may rs h
      cases ej : ixOf ps.length i with
      | none => rw [ej] at e; cases e
      | some j =>
        rw [ej] at e
        obtain ⟨z, ez, rz⟩ := r.get (i := j) e
        refine ix_seq value sl pins s σ H _ _ v u Q I rx ry (.inl ⟨a, xs, i, z, rfl, rfl, .inl (.inl h1), ?_, hQ z rz⟩) hs
        unfold atI
        rw [r.length, ← ixOf_eq, ej]
        exact ez
    | str h1 l1 =>
      rename_i t
      obtain ⟨v', e, hQ⟩ := post_may rs h
      cases ej : ixOf t.length i with
      | none => rw [ej] at e; cases e
      | some j =>
        rw [ej] at e
        have e2 : (t[j]?.map fun c => PV.str [c]) = some v' := e
        cases ec : t[j]? with
        | none => rw [ec] at e2; cases e2
        | some c =>
          rw [ec] at e2
          cases e2
          refine ix_seq value sl pins s σ H _ _ v u Q I rx ry (.inr (.inr ⟨toS t, i, c, rfl, rfl, by rw [toS_length, ← line_eq]; exact l1, ?_, hQ _ (.str (okStr_one h1 ec) (by show (1 : Nat) ≤ line; decide))⟩)) hs
          unfold atI
          show ((ixN (t.toArray.toList).length i).bind fun j => (t.toArray.toList)[j]?) = some c
          simp only [← ixOf_eq]
          rw [ej]
          exact ec
    | oth hd => cases p' <;> first | (cases hd; done) | exact (show False from h).elim
    | _ => exact (show False from h).elim
  | _ => cases p' <;> exact (show False from h).elim

/-! ### slices -/
def rSl (G : Gs) (W : XK) (m : Bool) : V → Option Int → Option Int → Hp → VK → Prop := fun x lo hi H Q => ∃ B ρ st p, RV G H B ρ x p ∧ RSto G H B ρ st ∧ Post G H B ρ (slice m p lo hi st) (fun v H' B' ρ' _ => ∀ x, RV G H' B' ρ' x v → Q x H') W
theorem cut_eq {α : Type} (xs : List α) (lo hi : Option Int) : cut xs lo hi = (xs.drop (HT.sIx xs.length 0 lo)).take (HT.sIx xs.length xs.length hi - HT.sIx xs.length 0 lo) := by
  unfold cut
  rw [cutIx_eq _ _ _ (Nat.zero_le _), cutIx_eq _ _ _ (Nat.le_refl _)]
theorem RVs.cut {xs : List V} {ps : List PV} (r : RVs G H B ρ xs ps) (lo hi : Option Int) : RVs G H B ρ (cutV xs lo hi) (MP.cut ps lo hi) := by
  rw [cut_eq]
  unfold cutV
  rw [r.length]
  exact (r.drop _).take _
theorem cut_len {α : Type} (xs : List α) (lo hi : Option Int) : (cut xs lo hi).length ≤ xs.length := by
  unfold cut
  rw [List.length_take, List.length_drop]
  omega
theorem okStr_cut {x : List Nat} (h : okStr x = true) (lo hi : Option Int) : okStr (cut x lo hi) = true := by
  unfold okStr cut at *
  rw [List.all_eq_true] at *
  exact fun c hc => h c (List.mem_of_mem_drop (List.mem_of_mem_take hc))
theorem sl_any (hK : X.K = G.K) (m : Bool) : SlR X (rSl G W m) := by
  intro pins s σ H x v vl vu lo hi sl Q I rx hsl pl pu hh
  obtain ⟨B, ρ, st, p, hp, rs, h⟩ := hh
  have dp := hp.rdb rs
  unfold slice at h
  generalize ep : rd st p = p' at h dp
  cases dp with
  | tup h1 r =>
    rename_i a xs ps
    have h' : Post G H B ρ (Out.ok (PV.tup (cut ps lo hi)) st) (fun v H' B' ρ' _ => ∀ x, RV G H' B' ρ' x v → Q x H') W := h
    refine sl_tupA pins s σ H _ v vl vu lo hi sl Q I rx hsl pl pu ⟨a, xs, rfl, by rw [hK]; exact h1, fun hw => ?_, fun hw a' ha => ?_⟩
    · have e : cut ps lo hi = ps := by
        rw [cut_eq, ← r.length, hw.1, hw.2, r.length]
        simp
      rw [e] at h'
      have hp2 := hp
      rw [rd_tup ep] at hp2
      exact h'.here rs _ hp2
    · exact h' _ B ρ (ext_new rs ha) (sto_new rs ha) _ (.tup upd_same ((r.cut lo hi).ext (ext_new rs ha) rs.sub))
  | lst h1 r =>
    obtain ⟨hl, hn⟩ := post_newL rs (r.cut lo hi) h
    exact sl_list pins s σ H _ v vl vu lo hi sl Q I rx hsl pl pu ⟨_, _, rfl, .inl (.inl h1), hn⟩
  | str h1 l1 =>
    rename_i t
    have h' : Post G H B ρ (Out.ok (PV.str (cut t lo hi)) st) (fun v H' B' ρ' _ => ∀ x, RV G H' B' ρ' x v → Q x H') W := h
    refine sl_str pins s σ H _ v vl vu lo hi sl Q I rx hsl pl pu ⟨toS t, rfl, by rw [toS_length, ← line_eq]; exact l1, ?_⟩
    have e : cutS (toS t) lo hi = toS (cut t lo hi) := by
      rw [cut_eq]
      unfold cutS
      simp [toS_length]
    rw [e]
    exact h'.here rs _ (.str (okStr_cut h1 lo hi) (Nat.le_trans (cut_len t lo hi) l1))
  | oth hd => cases p' <;> first | (cases hd; done) | exact (show False from h).elim
  | _ => exact (show False from h).elim
end
end MP

set_option Elab.async false
set_option linter.all false
set_option maxRecDepth 100000
set_option maxHeartbeats 4000000
/-! MSort: the order of data, sorting. -/
namespace MP
open PySem PySem.Spec PyProof.Rows L2

mutual
theorem eqv_alk : ∀ (v w : PV), data v = true → data w = true → alk v w = true → eqv v w = true → v = w
  | .non, w, _, _, a, _ => by cases w <;> first | rfl | (simp [alk] at a; done)
  | .bl x, w, _, _, a, e => by
    cases w with
    | bl y => simp only [eqv, beq_iff_eq] at e; rw [e]
    | _ => simp [alk] at a
  | .int x, w, _, _, a, e => by
    cases w with
    | int y => simp only [eqv, beq_iff_eq] at e; rw [e]
    | _ => simp [alk] at a
  | .str x, w, _, _, a, e => by
    cases w with
    | str y => simp only [eqv, beq_iff_eq] at e; rw [e]
    | _ => simp [alk] at a
  | .tup xs, w, d1, d2, a, e => by
    cases w with
    | tup ys => rw [eqvs_alks xs ys (by simpa only [data] using d1) (by simpa only [data] using d2) (by simpa only [alk] using a) (by simpa only [eqv] using e)]
    | _ => simp [alk] at a
  | .lst xs, w, d1, d2, a, e => by
    cases w with
    | lst ys => rw [eqvs_alks xs ys (by simpa only [data] using d1) (by simpa only [data] using d2) (by simpa only [alk] using a) (by simpa only [eqv] using e)]
    | _ => simp [alk] at a
  | .ref _, _, d, _, _, _ | .fn _, _, d, _, _, _ | .scr _, _, d, _, _, _ => by simp [data] at d
theorem eqvs_alks : ∀ (v w : List PV), datas v = true → datas w = true → alks v w = true → eqvs v w = true → v = w
  | [], [], _, _, _, _ => rfl
  | [], _ :: _, _, _, _, e => by simp [eqvs] at e
  | _ :: _, [], _, _, _, e => by simp [eqvs] at e
  | x :: xs, y :: ys, d1, d2, a, e => by
    simp only [datas, Bool.and_eq_true] at d1 d2
    simp only [alks, Bool.and_eq_true] at a
    simp only [eqvs, Bool.and_eq_true] at e
    rw [eqv_alk x y d1.1 d2.1 a.1 e.1, eqvs_alks xs ys d1.2 d2.2 a.2 e.2]
end
mutual
theorem alk_toD : ∀ (v w : PV), data v = true → data w = true → PySem.W.alike (toD v) (toD w) = alk v w
  | .non, w, _, d => by cases w <;> first | (simp [data] at d; done) | simp [alk, toD, PySem.W.alike]
  | .bl x, w, _, d => by cases w <;> first | (simp [data] at d; done) | simp [alk, toD, PySem.W.alike]
  | .int x, w, _, d => by cases w <;> first | (simp [data] at d; done) | simp [alk, toD, PySem.W.alike]
  | .str x, w, _, d => by cases w <;> first | (simp [data] at d; done) | simp [alk, toD, PySem.W.alike]
  | .tup xs, w, d1, d => by
    cases w with
    | tup ys => simp only [alk, toD, PySem.W.alike]; exact alks_toD xs ys (by simpa only [data] using d1) (by simpa only [data] using d)
    | _ => first | (simp [data] at d; done) | simp [alk, toD, PySem.W.alike]
  | .lst xs, w, d1, d => by
    cases w with
    | lst ys => simp only [alk, toD, PySem.W.alike]; exact alks_toD xs ys (by simpa only [data] using d1) (by simpa only [data] using d)
    | _ => first | (simp [data] at d; done) | simp [alk, toD, PySem.W.alike]
  | .ref _, _, d, _ | .fn _, _, d, _ | .scr _, _, d, _ => by simp [data] at d
theorem alks_toD : ∀ (v w : List PV), datas v = true → datas w = true → PySem.W.alikeAll (toDs v) (toDs w) = alks v w
  | [], [], _, _ => by simp [alks, toDs, PySem.W.alikeAll]
  | [], _ :: _, _, _ => by simp [alks, toDs, PySem.W.alikeAll]
  | _ :: _, [], _, _ => by simp [alks, toDs, PySem.W.alikeAll]
  | x :: xs, y :: ys, d1, d2 => by
    simp only [datas, Bool.and_eq_true] at d1 d2
    simp only [alks, toDs, PySem.W.alikeAll, alk_toD x y d1.1 d2.1, alks_toD xs ys d1.2 d2.2]
end
mutual
theorem lt2_toD : ∀ (v w : PV), data v = true → data w = true → alk v w = true → lt2 v w = PySem.W.dataLt (toD v) (toD w)
  | .non, w, _, d, a => by
    cases w with
    | non => simp only [toD]; rw [PySem.W.dataLt_self]; simp [lt2]
    | _ => simp [alk] at a
  | .bl x, w, _, d, a => by
    cases w with
    | bl y => simp only [toD, PySem.W.dataLt_bool]; cases x <;> cases y <;> simp [lt2] <;> decide
    | _ => simp [alk] at a
  | .int x, w, _, d, a => by
    cases w with
    | int y => simp only [toD, PySem.W.dataLt_int, lt2]
    | _ => simp [alk] at a
  | .str x, w, _, d, a => by
    cases w with
    | str y => simp only [toD, PySem.W.dataLt_str, lt2]
    | _ => simp [alk] at a
  | .tup xs, w, d1, d, a => by
    cases w with
    | tup ys =>
      simp only [toD, PySem.W.dataLt_tuple, lt2]
      exact lts_toD xs ys (by simpa only [data] using d1) (by simpa only [data] using d) (by simpa only [alk] using a)
    | _ => simp [alk] at a
  | .lst xs, w, d1, d, a => by
    cases w with
    | lst ys =>
      simp only [toD, PySem.W.dataLt_list, lt2]
      exact lts_toD xs ys (by simpa only [data] using d1) (by simpa only [data] using d) (by simpa only [alk] using a)
    | _ => simp [alk] at a
  | .ref _, _, d, _, _ | .fn _, _, d, _, _ | .scr _, _, d, _, _ => by simp [data] at d
theorem lts_toD : ∀ (v w : List PV), datas v = true → datas w = true → alks v w = true → lts v w = PyProof.Rows.lexLt itemOrd (PySem.W.keyToksAll (toDs v)) (PySem.W.keyToksAll (toDs w))
  | [], [], _, _, _ => by
    simp only [lts, toDs]
    rw [PyProof.Rows.lex_irrefl]
  | [], y :: ys, _, _, _ => by
    simp only [lts, toDs, PySem.W.keyToksAll]
    symm
    rw [PyProof.Rows.lex_diff (by intro h; cases h)]
    rfl
  | x :: xs, [], _, _, _ => by
    simp only [lts, toDs, PySem.W.keyToksAll]
    symm
    rw [PyProof.Rows.lex_diff (by intro h; cases h)]
    rfl
  | x :: xs, y :: ys, d1, d2, a => by
    simp only [datas, Bool.and_eq_true] at d1 d2
    simp only [alks, Bool.and_eq_true] at a
    have ha : PySem.W.alike (toD x) (toD y) = true := by rw [alk_toD x y d1.1 d2.1]; exact a.1
    simp only [lts, toDs]
    rw [eqv_toD x y d1.1 d2.1]
    by_cases e : PyData.eqv (toD x) (toD y) = true
    · rw [if_pos e, PySem.W.dataLt_all_yes ha e]
      exact lts_toD xs ys d1.2 d2.2 a.2
    · rw [if_neg e]
      rw [Bool.not_eq_true] at e
      rw [PySem.W.dataLt_all_no ha e]
      exact lt2_toD x y d1.1 d2.1 a.1
end
abbrev leD (a b : PV) : Bool := PySem.W.dataLe false toD a b
theorem leD_eq (a b : PV) : leD a b = !PySem.W.dataLt (toD b) (toD a) := rfl
theorem leD_trans (a b c : PV) (h1 : leD a b = true) (h2 : leD b c = true) : leD a c = true := by
  rw [leD_eq, Bool.not_eq_true'] at h1 h2 ⊢
  unfold PySem.W.dataLt at h1 h2 ⊢
  cases h : PyProof.Rows.lexLt itemOrd (PySem.W.keyToks (toD c)) (PySem.W.keyToks (toD a)) with
  | false => rfl
  | true =>
    rcases PyProof.Rows.lex_negTrans _ (PySem.W.keyToks (toD b)) _ h with q | q
    · rw [h2] at q; cases q
    · rw [h1] at q; cases q
theorem leD_total (a b : PV) : (leD a b || leD b a) = true := by
  rw [leD_eq, leD_eq]
  unfold PySem.W.dataLt
  cases h : PyProof.Rows.lexLt itemOrd (PySem.W.keyToks (toD b)) (PySem.W.keyToks (toD a)) with
  | false => rfl
  | true =>
    cases h2 : PyProof.Rows.lexLt itemOrd (PySem.W.keyToks (toD a)) (PySem.W.keyToks (toD b)) with
    | false => rfl
    | true =>
      have := PyProof.Rows.lex_trans _ _ _ h h2
      rw [PyProof.Rows.lex_irrefl] at this
      cases this
theorem leD_anti {a b : PV} (d1 : data a = true) (d2 : data b = true) (al : alk a b = true) (h1 : leD a b = true) (h2 : leD b a = true) : a = b := by
  rw [leD_eq, Bool.not_eq_true'] at h1 h2
  unfold PySem.W.dataLt at h1 h2
  have ht := PyProof.Rows.lex_total _ _ h1 h2
  have ha : PySem.W.alike (toD a) (toD b) = true := by rw [alk_toD a b d1 d2]; exact al
  refine eqv_alk a b d1 d2 al ?_
  rw [eqv_toD a b d1 d2]
  cases e : PyData.eqv (toD a) (toD b) with
  | true => rfl
  | false =>
    have q := (PySem.W.toks_eqv _ _ ha).2 e [] [.inl 0]
    rw [ht] at q
    rw [PyProof.Rows.lex_irrefl, PySem.W.lex_pre] at q
    cases q
/-- alike, data -/
def Rows (xs : List PV) : Prop := (∀ x ∈ xs, data x = true) ∧ ∀ x ∈ xs, ∀ y ∈ xs, alk x y = true
theorem insP_perm (x : PV) : ∀ ys : List PV, (insP x ys).Perm (x :: ys)
  | [] => .refl _
  | y :: ys => by
    unfold insP
    split
    · exact ((insP_perm x ys).cons y).trans (.swap x y ys)
    · exact .refl _
theorem sortP_perm : ∀ xs : List PV, (sortP xs).Perm xs
  | [] => .refl _
  | x :: xs => by
    unfold sortP
    exact (insP_perm x _).trans ((sortP_perm xs).cons x)
theorem insP_sorted {x : PV} : ∀ {ys : List PV}, Rows (x :: ys) → ys.Pairwise (fun a b => leD a b = true) → (insP x ys).Pairwise (fun a b => leD a b = true)
  | [], _, _ => by unfold insP; exact List.pairwise_singleton _ _
  | y :: ys, r, p => by
    have dx := r.1 x (by simp)
    have dy := r.1 y (by simp)
    have e : lt2 y x = PySem.W.dataLt (toD y) (toD x) := lt2_toD y x dy dx (r.2 y (by simp) x (by simp))
    have r' : Rows (x :: ys) := ⟨fun z hz => r.1 z (by rcases List.mem_cons.mp hz with h | h <;> simp [h]), fun z hz w hw => r.2 z (by rcases List.mem_cons.mp hz with h | h <;> simp [h]) w (by rcases List.mem_cons.mp hw with h | h <;> simp [h])⟩
    rw [List.pairwise_cons] at p
    unfold insP
    split
    · rename_i h
      rw [List.pairwise_cons]
      refine ⟨fun z hz => ?_, insP_sorted r' p.2⟩
      have hz' := (insP_perm x ys).mem_iff.mp hz
      rcases List.mem_cons.mp hz' with rfl | hz'
      · have tot := leD_total y z
        have nb : leD z y = false := by
          rw [leD_eq, ← e, h]
          rfl
        rw [nb, Bool.or_false] at tot
        exact tot
      · exact p.1 z hz'
    · rename_i h
      have hxy : leD x y = true := by
        rw [leD_eq, ← e]
        simpa using h
      rw [List.pairwise_cons]
      refine ⟨fun z hz => ?_, List.pairwise_cons.mpr p⟩
      rcases List.mem_cons.mp hz with rfl | hz
      · exact hxy
      · exact leD_trans _ _ _ hxy (p.1 z hz)
theorem sortP_sorted : ∀ {xs : List PV}, Rows xs → (sortP xs).Pairwise (fun a b => leD a b = true)
  | [], _ => by unfold sortP; exact List.Pairwise.nil
  | x :: xs, r => by
    unfold sortP
    have r' : Rows xs := ⟨fun z hz => r.1 z (by simp [hz]), fun z hz w hw => r.2 z (by simp [hz]) w (by simp [hw])⟩
    refine insP_sorted ?_ (sortP_sorted r')
    have mem : ∀ z, z ∈ x :: sortP xs → z ∈ x :: xs := fun z hz => by
      rcases List.mem_cons.mp hz with h | h
      · simp [h]
      · exact List.mem_cons_of_mem _ ((sortP_perm xs).mem_iff.mp h)
    exact ⟨fun z hz => r.1 z (mem z hz), fun z hz w hw => r.2 z (mem z hz) w (mem w hw)⟩
theorem sortP_eq {xs : List PV} (r : Rows xs) : xs.mergeSort (PySem.W.dataLe false toD) = sortP xs := by
  have p1 : (xs.mergeSort leD).Perm xs := List.mergeSort_perm xs leD
  refine List.Perm.eq_of_pairwise (le := fun a b => leD a b = true) (fun a b ha hb h1 h2 => ?_) (List.pairwise_mergeSort leD_trans leD_total xs) (sortP_sorted r) (p1.trans (sortP_perm xs).symm)
  have ha' := p1.mem_iff.mp ha
  have hb' := (sortP_perm xs).mem_iff.mp hb
  exact leD_anti (r.1 a ha') (r.1 b hb') (r.2 a ha' b hb') h1 h2

section
variable {G : Gs} {H : Hp} {B ρ : List Addr} {st : Sto} {X : Cx}
theorem datas_mem : ∀ {xs : List PV}, datas xs = true → ∀ x ∈ xs, data x = true
  | x :: xs, h, y, hy => by
    simp only [datas, Bool.and_eq_true] at h
    rcases List.mem_cons.mp hy with rfl | hy
    · exact h.1
    · exact datas_mem h.2 y hy
  | [], _, y, hy => absurd hy (by simp)
theorem depth_mem : ∀ {xs : List PV} {n : Nat}, PyData.depthAll (toDs xs) ≤ n → ∀ x ∈ xs, (toD x).depth ≤ n
  | x :: xs, n, h, y, hy => by
    simp only [toDs, PyData.depthAll] at h
    rcases List.mem_cons.mp hy with rfl | hy
    · exact Nat.le_trans (Nat.le_max_left _ _) h
    · exact depth_mem (Nat.le_trans (Nat.le_max_right _ _) h) y hy
  | [], _, _, y, hy => absurd hy (by simp)
/-- what stands for what -/
def Stands (G : Gs) (H : Hp) (B ρ : List Addr) (u : Value) (p : PV) : Prop := ∃ x, RelV x u ∧ RV G H B ρ x p
theorem stands_of : ∀ {xs : List V} {ps : List PV} {us : List Value}, RVs G H B ρ xs ps → Vals xs us → PySem.W.EachIs (Stands G H B ρ) us ps
  | _, _, _, .nil, r => by cases r; exact .nil
  | _, _, _, .cons h r, v => by
    cases v with
    | cons a b => exact .cons ⟨_, a, h⟩ (stands_of r b)
theorem of_stands : ∀ {ps : List PV} {us : List Value}, PySem.W.EachIs (Stands G H B ρ) us ps → ∃ xs, RVs G H B ρ xs ps ∧ Vals xs us
  | _, _, .nil => ⟨[], .nil, .nil⟩
  | _, _, .cons ⟨x, a, h⟩ t => by
    obtain ⟨xs, r, v⟩ := of_stands t
    exact ⟨x :: xs, .cons h r, .cons a v⟩
theorem stands_reads {pins : List (Addr × Obj)} {σ : L2.St} {s : Shared} (hK : X.K = G.K) (I : Inv X pins σ H s) : ∀ {ps : List PV} {us : List Value}, datas ps = true → PySem.W.EachIs (Stands G H B ρ) us ps → PySem.W.EachIs (fun v b => ∃ as, Reads s.heap v (toD b) as) us ps
  | _, _, _, .nil => .nil
  | _, _, d, .cons ⟨x, a, h⟩ t => by
    simp only [datas, Bool.and_eq_true] at d
    exact .cons (Dp.reads I _ x _ (by rw [hK]; exact h.dp d.1) a) (stands_reads hK I d.2 t)
theorem sortOk_ok {xs : List PV} (h : sortOk xs = true) : Rows xs ∧ PySem.W.AllAlike (xs.map toD) ∧ PySem.W.Sortable (xs.map toD) ∧ datas xs = true ∧ PyData.depthAll (toDs xs) ≤ deep := by
  unfold sortOk at h
  simp only [Bool.and_eq_true, Bool.or_eq_true, List.all_eq_true] at h
  obtain ⟨⟨h1, h2⟩, h3⟩ := h
  obtain ⟨d1, d2⟩ := datasN_dp deep xs h3
  have dm := datas_mem d1
  refine ⟨⟨dm, h1⟩, ?_, ?_, d1, d2⟩
  · intro a ha b hb
    obtain ⟨x, hx, rfl⟩ := List.mem_map.mp ha
    obtain ⟨y, hy, rfl⟩ := List.mem_map.mp hb
    rw [alk_toD x y (dm x hx) (dm y hy)]
    exact h1 x hx y hy
  · rcases h2 with h2 | h2
    · refine .inl fun a ha => ?_
      obtain ⟨x, hx, rfl⟩ := List.mem_map.mp ha
      have := h2 x hx
      cases x with
      | tup zs =>
        cases zs with
        | nil => cases this
        | cons z zs => exact ⟨toD z, toDs zs, by simp only [toD, toDs]⟩
      | _ => cases this
    · refine .inr fun a ha => ?_
      obtain ⟨x, hx, rfl⟩ := List.mem_map.mp ha
      have := h2 x hx
      have d := dm x hx
      cases x with
      | tup zs => cases this
      | non => cases this
      | bl b => simp [toD]
      | int b => simp [toD]
      | str b => simp [toD]
      | lst b => simp [toD]
      | _ => simp [data] at d
/-- sorted(a list of data) -/
def rSortL (G : Gs) (K : PySem.W.Frag) : List V → Hp → VK → Prop := fun vs H Q => ∃ (a : Addr) (B ρ : List Addr) (xs : List V) (ps : List PV), vs = [.ref a] ∧ SqL K H a xs ∧ RVs G H B ρ xs ps ∧ sortOk ps = true ∧
  ∀ (ys : List V) (p : Addr), RVs G H B ρ ys (sortP ps) → H p = none → Q (.ref p) (upd H p (.lst ys))
theorem cr_sortL (hK : X.K = G.K) (hu : X.A.units + 200 < cLine) : CallR X (.builtin "sorted") (rSortL G X.K) := by
  intro pins s σ H vs us Q I r h
  obtain ⟨a, B, ρ, xs, ps, rfl, hs, rv, hok, q⟩ := h
  obtain ⟨its, ri, hl, hz⟩ := I.list hs
  rw [Vals.ref1 r]
  obtain ⟨h1, h2, h3, h4, h5⟩ := sortOk_ok hok
  have st := stands_of rv ri
  have hlen : ps.length ≤ sizeLine := by rw [← rv.length]; exact hz
  refine PySem.W.sorted_data (bs := ps) (enc := toD) (R := Stands G H B ρ) hl.isList st (stands_reads hK I h4 st) h2 h3 hlen (fun b hb => ?_) fun out ho eo => ?_
  · have := depth_mem h5 b hb
    have hd : deep = 150 := rfl
    show X.A.units + 2 + (toD b).depth < cLine
    omega
  · rw [sortP_eq h1] at eo
    obtain ⟨ys, ry, rvy⟩ := of_stands eo
    obtain ⟨ep, he'⟩ := PyProof.Rows.sortedAll_at s.heap its out.toArray
    have hl2 : ys.length ≤ sizeLine := by
      rw [ry.length, (sortP_perm ps).length_eq]
      exact hlen
    exact ⟨.ref _, upd H (s.heap.objs.size + 1) (.lst ys), I.laid (t' := s.toks) (fun _ _ => PyProof.Rows.sortedAll_old) (Nat.le_succ _) ⟨hl2, out, ep, rvy, he'⟩, rfl, q ys _ ry (I.hok.fresh (Nat.le_succ _))⟩

/-! ### sorted(a dict) -/
theorem toS_back (x : Str) : toS x.cps.toList = x := by
  obtain ⟨⟨l⟩⟩ := x
  rfl
theorem key_rv {k : Key} (h : okKey (kP k) = true) : RV G H B ρ (kV k) (kP k) := by
  cases k with
  | inl i => exact .int i
  | inr x =>
    have h' : (okStr x.cps.toList && decide (x.cps.toList.length ≤ line)) = true := h
    have h2 := Bool.and_eq_true_iff.mp h'
    have q : RV G H B ρ (.str (toS x.cps.toList)) (.str x.cps.toList) := .str h2.1 (of_decide_eq_true h2.2)
    rw [toS_back] at q
    exact q
theorem keys_rv : ∀ {ks : List Key}, okKey (ktP ks) = true → RVs G H B ρ (ks.map kV) (ks.map kP)
  | [], _ => .nil
  | k :: ks, h => by
    simp only [ktP, okKey, List.map_cons, List.all_cons, Bool.and_eq_true] at h
    refine .cons (key_rv ?_) (keys_rv (by simp only [ktP, okKey]; exact h.2))
    have h1 := h.1
    cases k with
    | inl i => rfl
    | inr x => exact h1
theorem each_of {R : Value → PV → Prop} : ∀ {vs : List Value} {ps : List PV}, vs.length = ps.length → (∀ (i : Nat) (v : Value) (p : PV), vs[i]? = some v → ps[i]? = some p → R v p) → PySem.W.EachIs R vs ps
  | [], [], _, _ => .nil
  | [], _ :: _, h, _ => by simp at h
  | _ :: _, [], h, _ => by simp at h
  | v :: vs, p :: ps, h, q => .cons (q 0 v p rfl rfl) (each_of (by simpa using h) fun i v p h1 h2 => q (i + 1) v p (by simpa using h1) (by simpa using h2))
def rSortD (G : Gs) : List V → Hp → VK → Prop := fun vs H Q => ∃ (a : Addr) (B ρ : List Addr) (ps : List PV), vs = [.ref a] ∧ ((∃ kvs : List (Key × V), H a = some (.dK kvs) ∧ ps = kvs.map fun q => kP q.1) ∨ ∃ kvs : List (List Key × V), H a = some (.dT kvs) ∧ ps = kvs.map fun q => ktP q.1) ∧
  ps.all okKey = true ∧ sortOk ps = true ∧ ∀ (ys : List V) (p : Addr), RVs G H B ρ ys (sortP ps) → H p = none → Q (.ref p) (upd H p (.lst ys))
mutual
theorem reads_lt {h : Heap} : ∀ {p : PV} {v : Value} {as : List Addr}, Reads h v (toD p) as → ∀ a ∈ as, a < h.objs.size
  | .non, _, _, r, a, ha => by simp only [toD] at r; cases r; simp at ha
  | .bl _, _, _, r, a, ha => by simp only [toD] at r; cases r; simp at ha
  | .int _, _, _, r, a, ha => by simp only [toD] at r; cases r; simp at ha
  | .str _, _, _, r, a, ha => by simp only [toD] at r; cases r; simp at ha
  | .tup xs, _, _, r, a, ha => by
    simp only [toD] at r
    cases r with
    | tuple h1 h2 h3 h4 => exact readsAll_lt h4 a ha
  | .lst xs, _, _, r, a, ha => by
    simp only [toD] at r
    cases r with
    | list h1 h2 h3 h4 =>
      rcases List.mem_cons.mp ha with rfl | ha
      · exact Heap.lt_size h1
      · exact readsAll_lt h4 a ha
  | .ref _, _, _, r, a, ha => by simp only [toD] at r; cases r; simp at ha
  | .fn _, _, _, r, a, ha => by simp only [toD] at r; cases r; simp at ha
  | .scr _, _, _, r, a, ha => by simp only [toD] at r; cases r; simp at ha
theorem readsAll_lt {h : Heap} : ∀ {ps : List PV} {vs : List Value} {as : List Addr}, ReadsAll h vs (toDs ps) as → ∀ a ∈ as, a < h.objs.size
  | [], _, _, r, a, ha => by simp only [toDs] at r; cases r; simp at ha
  | p :: ps, _, _, r, a, ha => by
    simp only [toDs] at r
    cases r with
    | cons h1 h2 =>
      rcases List.mem_append.mp ha with ha | ha
      · exact reads_lt h1 a ha
      · exact readsAll_lt h2 a ha
end
/-- the collected keys, sorted -/
theorem sort_tail {pins : List (Addr × Obj)} {σ : L2.St} {s : Shared} {h' : Heap} {tk : Nat} {ps : List PV} {acc : List Value} {Q : VK} (hK : X.K = G.K) (hu : X.A.units + 200 < cLine) (I1 : Inv X pins σ H { s with heap := h', toks := tk }) (st : PySem.W.EachIs (Stands G H B ρ) acc ps) (hok : sortOk ps = true) (hz : ps.length ≤ sizeLine)
    (q : ∀ (ys : List V) (p : Addr), RVs G H B ρ ys (sortP ps) → H p = none → Q (.ref p) (upd H p (.lst ys))) :
    wpAny (model X.prog X.w) X.A.in1 (call (.builtin "list.sort") [.ref h'.objs.size]) (fun _ s' => EP X pins σ Q (.ref h'.objs.size) s') X.xe { s with heap := h'.push (seqObj "list" acc.toArray 0), toks := tk } := by
  obtain ⟨h1, h2, h3, h4, h5⟩ := sortOk_ok hok
  have hoL : (h'.push (seqObj "list" acc.toArray 0)).get? h'.objs.size = some (seqObj "list" acc.toArray 0) := Heap.get?_push_size _ rfl
  have er : PySem.W.EachIs (fun v b => ∃ as, Reads h' v (toD b) as) acc ps := stands_reads hK I1 h4 st
  have lists : ∀ {ps : List PV} {us : List Value}, PySem.W.EachIs (fun v b => ∃ as, Reads h' v (toD b) as) us ps → PySem.W.EachIs (fun v b => ∃ as, Reads (h'.push (seqObj "list" acc.toArray 0)) v (toD b) as ∧ h'.objs.size ∉ as) us ps := by
    intro ps us e
    induction e with
    | nil => exact .nil
    | cons a _ ih =>
      obtain ⟨as, r⟩ := a
      refine .cons ⟨as, PyProof.Rows.Reads.keeps (fun b o q => Heap.get?_push_of_some _ q) r, fun hm => ?_⟩ ih
      exact absurd (reads_lt r _ hm) (Nat.lt_irrefl _)
  refine PySem.W.list_sort_data (s := { s with heap := h'.push (seqObj "list" acc.toArray 0), toks := tk }) (bs := ps) (enc := toD) (R := Stands G H B ρ) hoL st (lists er) h2 h3 hz (fun b hb => ?_) fun out ho eo => ?_
  · have := depth_mem h5 b hb
    have hd : deep = 150 := rfl
    show X.A.units + 1 + 1 + (toD b).depth < cLine
    omega
  · rw [sortP_eq h1] at eo
    obtain ⟨ys, ry, rvy⟩ := of_stands eo
    obtain ⟨e', he'⟩ := PyProof.Rows.sortedHeap_at (vs := acc) (out := out.toArray) hoL
    have hl2 : ys.length ≤ sizeLine := by
      rw [ry.length, (sortP_perm ps).length_eq]
      exact hz
    refine ⟨.ref h'.objs.size, upd H h'.objs.size (.lst ys), I1.laid (t' := tk) (fun b u e => ?_) (Nat.le_refl _) (show ObjOk X.prog X.w _ _ _ (.lst ys) from ⟨hl2, out, e', rvy, he'⟩), rfl, q ys _ ry (I1.hok.fresh (Nat.le_refl _))⟩
    have hb : b < h'.objs.size := Heap.lt_size e
    rw [PyProof.Rows.sortedHeap_old (Nat.ne_of_lt hb) (by rw [size_push']; exact Nat.lt_succ_of_lt hb)]
    exact Heap.get?_push_of_some _ e
theorem cr_sortD (hK : X.K = G.K) (hc : X.calm = true) (hu : X.A.units + 200 < cLine) : CallR X (.builtin "sorted") (rSortD G) := by
  intro pins s σ H vs us Q I r h
  obtain ⟨a, B, ρ, ps, rfl, hd, hkey, hok, q⟩ := h
  rw [Vals.ref1 r]
  refine Calls.call_function_entry PyProof.Rows.kind_sorted PyProof.Rows.plain_sorted PyProof.Rows.entry_sorted (PyProof.Rows.args_sorted1 _) ?_
  unfold Builtin.«sorted»
  refine wpAny_bind (m := checkCount "sorted" 1 1 _) (wpAny_pure ?_)
  have key : ∃ (es : Array DictEntry) (ep : Nat), (a == sysModules) = false ∧ s.heap.DictRaw a es ep ∧ es.size = ps.length ∧ es.size ≤ sizeLine ∧ ∀ i (hi : i < es.size) p, ps[i]? = some p → Stands G H B ρ es[i].key p := by
    rw [List.all_eq_true] at hkey
    rcases hd with ⟨kvs, ha, rfl⟩ | ⟨kvs, ha, rfl⟩
    · obtain ⟨z, lo, vs, rel, dd⟩ := dk_of I.hok ha
      obtain ⟨ep, hat⟩ := dd.dictAt
      obtain ⟨es, hr, hsz, hall⟩ := hat.raw
      have hkeys : kvs.map (·.1) = vs.map (·.1) := rel.keys
      have hl : kvs.length = vs.length := by simpa using congrArg List.length hkeys
      refine ⟨es, ep, lo, hr, by rw [hsz, List.length_map, hl], by rw [hsz, ← hl]; exact z, fun i hi p hp => ?_⟩
      rw [List.getElem?_map] at hp
      cases hkv : kvs[i]? with
      | none => rw [hkv] at hp; cases hp
      | some kv =>
        rw [hkv] at hp
        cases hp
        have e3 : (vs.map (·.1))[i]? = some kv.1 := by rw [← hkeys, List.getElem?_map, hkv]; rfl
        rw [List.getElem?_map] at e3
        cases hvs : vs[i]? with
        | none => rw [hvs] at e3; cases e3
        | some kv2 =>
          rw [hvs] at e3
          have e4 : kv2.1 = kv.1 := Option.some.inj e3
          obtain ⟨hk1, _⟩ := hall i hi kv2.1 kv2.2 hvs
          rw [e4] at hk1
          refine ⟨kV kv.1, ?_, key_rv (hkey _ (List.mem_map.mpr ⟨kv, List.mem_of_getElem? hkv, rfl⟩))⟩
          rcases keyIs_shape (show keyIs kv.1 es[i].key = true from hk1) with ⟨j, t, ek, ev⟩ | ⟨z, t, ek, ev⟩
          · rw [ek, ev]; exact ⟨t, rfl⟩
          · rw [ek, ev]; exact ⟨t, rfl⟩
    · obtain ⟨z, lo, xs, rel, o, es, ep, ho, hx, hdat, hes, his, hn⟩ := dt_of I.hok ha
      have hl : kvs.length = xs.length := Paired.length rel
      refine ⟨es, ep, lo, ⟨o, ho, hx, hdat⟩, by rw [size_of_entries hes, List.length_map, hl], by rw [size_of_entries hes, ← hl]; exact z, fun i hi p hp => ?_⟩
      rw [List.getElem?_map] at hp
      cases hkv : kvs[i]? with
      | none => rw [hkv] at hp; cases hp
      | some kv =>
        rw [hkv] at hp
        cases hp
        have hxl : i < xs.length := by rw [← size_of_entries hes]; exact hi
        obtain ⟨y, hy, hf⟩ := L2.DX.pget rel (List.getElem?_eq_getElem hxl)
        rw [hkv] at hy
        cases hy
        have he := entry_at hes i
        rw [Array.getElem?_eq_getElem hi, List.getElem?_eq_getElem hxl] at he
        have he2 : es[i] = entryOfKey _ xs[i] := Option.some.inj he
        refine ⟨.ref xs[i].2.1, ?_, .tup hf.2.1 (keys_rv (hkey _ (List.mem_map.mpr ⟨kv, List.mem_of_getElem? hkv, rfl⟩)))⟩
        rw [he2]
        rfl
  obtain ⟨es, ep, lo, hr, hsz, hz, hst⟩ := key
  refine wpAny_bind (PySem.W.kdu_collect (A := X.A.in1) (KdlSrc.rawDict (ep := ep) (es := es) lo) (I.ok.hd hc) hr hz fun h' tk acc hk hacc => ?_)
  have I1 : Inv X pins σ H { s with heap := h', toks := tk } := I.kept hk
  have hlen : acc.toList.length = ps.length := by rw [Array.length_toList, hacc.1, hsz]
  have st : PySem.W.EachIs (Stands G H B ρ) acc.toList ps := each_of hlen fun i v p h1 h2 => by
    obtain ⟨hi, rfl⟩ := hacc.2 i v (by rw [← Array.getElem?_toList]; exact h1)
    exact hst i hi p h2
  refine wpAny_bind (wpAny_newList ?_ (by rw [hlen, ← hsz]; exact hz))
  refine wpAny_bind (wpAny_holding (wpAny_mono (sort_tail hK hu I1 st hok (by rw [← hsz]; exact hz) q) (fun _ s' hq => ?_) (fun _ _ z => z)))
  exact wpAny_pure ⟨_, rfl, hq⟩
end
end MP

set_option Elab.async false
set_option linter.all false
set_option maxRecDepth 100000
set_option maxHeartbeats 4000000
/-! MOps3: built-ins and methods by values. -/
namespace MP
open PySem PySem.Spec PyProof.Rows L2
theorem not_long {n : Nat} (h : n ≤ sizeLine) : Builtin.List.listTooLong n = false := notLongL h
section
variable {X : Cx} {G : Gs} {W : XK} {H : Hp} {B ρ : List Addr} {st : Sto} {x y : V} {p q : PV} {E : XK}
def bname : Bt → Str
  | .len => "len" | .abs => "abs" | .max2 => "max" | .min2 => "min" | .int => "int" | .str => "str" | .list _ => "list" | .tuple => "tuple" | .sum => "sum" | .all => "all" | .any => "any" | .sorted _ => "sorted"
def bval : Bt → Value
  | .len => .builtin "len" | .abs => .builtin "abs" | .max2 => .builtin "max" | .min2 => .builtin "min" | .int => .type "int" | .str => .type "str" | .list _ => .type "list" | .tuple => .type "tuple" | .sum => .builtin "sum" | .all => .builtin "all" | .any => .builtin "any" | .sorted _ => .builtin "sorted"
theorem cr_blt (hK : X.K = G.K) (hc : X.calm = true) (hu : X.A.units + 200 < cLine) (b : Bt) : CallR X (bval b) (rL G W (builtin b)) := by
  intro pins s σ H xs us Q I rv hh
  obtain ⟨B, ρ, st, ps, hp, rs, h⟩ := hh
  cases hp with
  | nil => cases b <;> exact (show False from h).elim
  | @cons x1 xr p1 pr h1 r1 =>
    cases r1 with
    | nil =>
      cases b with
      | len =>
        have d1 := h1.rdb rs
        have h' : Post G H B ρ (bLen st (rd st p1)) (fun v H' B' ρ' _ => ∀ x, RV G H' B' ρ' x v → Q x H') W := h
        generalize eq' : rd st p1 = p' at h' d1
        cases d1 with
        | @tup a xs qs z r => exact call_len pins s σ H _ us Q I rv ⟨_, xs.length, rfl, (show LenV X.K (.ref a) H xs.length from Or.inr ⟨_, by rw [hK]; exact z, rfl⟩), by rw [r.length]; exact h'.here rs _ (.int _)⟩
        | @lst a xs qs z r => exact call_len pins s σ H _ us Q I rv ⟨_, xs.length, rfl, (show LenV X.K (.ref a) H xs.length from Or.inl ⟨_, .inl (.inl z), rfl⟩), by rw [r.length]; exact h'.here rs _ (.int _)⟩
        | @str t z hl =>
          have h2 : Post G H B ρ (if t.length ≤ line then Out.ok (PV.int t.length) st else .stuck) (fun v H' B' ρ' _ => ∀ x, RV G H' B' ρ' x v → Q x H') W := h'
          rw [if_pos hl] at h2
          exact call_len pins s σ H _ us Q I rv ⟨_, (toS t).length, rfl, (show LenV X.K (.str (toS t)) H (toS t).length from ⟨by rw [toS_length, ← line_eq]; exact hl, rfl⟩), by rw [toS_length]; exact h2.here rs _ (.int _)⟩
        | oth hd =>
          cases p' with
          | ref n =>
            have hr := rd_ref eq'
            subst hr
            cases h1 with
            | ref ha =>
              have h3 : Post G H B ρ (match st[n]? with
                | some (.dK kvs) => Out.ok (PV.int kvs.length) st
                | some (.dT kvs) => Out.ok (PV.int kvs.length) st
                | _ => .stuck) (fun v H' B' ρ' _ => ∀ x, RV G H' B' ρ' x v → Q x H') W := h'
              cases hn : st[n]? with
              | none => rw [hn] at h3; exact h3.elim
              | some o =>
                cases o with
                | lst ps =>
                  rw [hn] at h3
                  exact h3.elim
                | dK kvs =>
                  rw [hn] at h3
                  cases rs.obj n _ _ ha hn with
                  | dK hd r => exact call_lenD pins s σ H _ us Q I rv ⟨_, _, rfl, hd, by rw [r.length]; exact h3.here rs _ (.int _)⟩
                | dT kvs =>
                  rw [hn] at h3
                  cases rs.obj n _ _ ha hn with
                  | dT hd r => exact call_len_dT pins s σ H _ us Q I rv ⟨_, _, rfl, hd, by rw [r.length]; exact h3.here rs _ (.int _)⟩
                | ins c fs => rw [hn] at h3; exact h3.elim
          | _ => first | (cases hd; done) | exact (show False from h').elim
        | _ => exact (show False from h').elim
      | abs =>
        cases h1 with
        | int i => exact call_abs pins s σ H _ us Q I rv ⟨i, rfl, h.here rs _ (.int _)⟩
        | _ => exact (show False from h).elim
      | int =>
        cases h1 with
        | int i => exact call_int1 pins s σ H _ us Q I rv (.inl ⟨i, rfl, h.here rs _ (.int _)⟩)
        | _ => exact (show False from h).elim
      | list m =>
        have d1 := h1.rdb rs
        have h' : Post G H B ρ (bList m st (rd st p1)) (fun v H' B' ρ' _ => ∀ x, RV G H' B' ρ' x v → Q x H') W := h
        generalize eq' : rd st p1 = p' at h' d1
        cases d1 with
        | tup z r =>
          obtain ⟨hl, hn⟩ := post_newL rs r h'
          exact call_list_of pins s σ H _ us Q I rv ⟨_, _, rfl, .inr (by rw [hK]; exact z), hn⟩
        | lst z r =>
          obtain ⟨hl, hn⟩ := post_newL rs r h'
          exact call_list_of pins s σ H _ us Q I rv ⟨_, _, rfl, .inl (.inl (.inl z)), hn⟩
        | oth hd =>
          cases p' with
          | scr ns =>
            have hr : p1 = .scr ns := by
              cases p1 with
              | ref n =>
                have e' : (match st[n]? with
                  | some (.lst xs) => PV.lst xs
                  | _ => .ref n) = .scr ns := eq'
                split at e' <;> cases e'
              | _ => exact eq'
            subst hr
            cases h1 with
            | scr z =>
              obtain ⟨hl, hn⟩ := post_newL rs (rvs_ints ns) h'
              exact call_list_of pins s σ H _ us Q I rv ⟨_, _, rfl, .inl (by rw [hK]; exact z.sq), hn⟩
          | _ => first | (cases hd; done) | exact (show False from h').elim
        | _ => exact (show False from h').elim
      | tuple =>
        have d1 := h1.rdb rs
        have h' : Post G H B ρ (bTuple st (rd st p1)) (fun v H' B' ρ' _ => ∀ x, RV G H' B' ρ' x v → Q x H') W := h
        generalize eq' : rd st p1 = p' at h' d1
        cases d1 with
        | tup z r =>
          have hp2 := h1
          rw [rd_tup eq'] at hp2
          exact call_tuple_of pins s σ H _ us Q I rv ⟨_, _, rfl, .inr ⟨by rw [hK]; exact z, h'.here rs _ hp2⟩⟩
        | lst z r =>
          obtain ⟨hl, hn⟩ := post_newT rs r h'
          exact call_tuple_of pins s σ H _ us Q I rv ⟨_, _, rfl, .inl ⟨.inl (.inl z), hn⟩⟩
        | oth hd => cases p' <;> first | (cases hd; done) | exact (show False from h').elim
        | _ => exact (show False from h').elim
      | sum =>
        have d1 := h1.rdb rs
        have h' : Post G H B ρ (bSum st (rd st p1)) (fun v H' B' ρ' _ => ∀ x, RV G H' B' ρ' x v → Q x H') W := h
        generalize eq' : rd st p1 = p' at h' d1
        cases d1 with
        | @lst a xs qs z r =>
          have h2 : Post G H B ρ (match intsOf qs with
            | some ns => Out.ok (PV.int ns.sum) st
            | none => .stuck) (fun v H' B' ρ' _ => ∀ x, RV G H' B' ρ' x v → Q x H') W := h'
          cases en : intsOf qs with
          | none => rw [en] at h2; exact h2.elim
          | some ns =>
            rw [en] at h2
            have ex := r.toInts en
            exact cr_sum hc pins s σ H _ us Q I rv ⟨_, ns, rfl, .inl (.inl (by rw [← ex]; exact z)), h2.here rs _ (.int _)⟩
        | oth hd => cases p' <;> first | (cases hd; done) | exact (show False from h').elim
        | _ => exact (show False from h').elim
      | all =>
        have d1 := h1.rdb rs
        have h' : Post G H B ρ (bAll st (rd st p1)) (fun v H' B' ρ' _ => ∀ x, RV G H' B' ρ' x v → Q x H') W := h
        generalize eq' : rd st p1 = p' at h' d1
        cases d1 with
        | @lst a xs qs z r =>
          have h2 : Post G H B ρ (match boolsOf qs with
            | some bs => Out.ok (PV.bl (bs.all id)) st
            | none => .stuck) (fun v H' B' ρ' _ => ∀ x, RV G H' B' ρ' x v → Q x H') W := h'
          cases en : boolsOf qs with
          | none => rw [en] at h2; exact h2.elim
          | some ns =>
            rw [en] at h2
            have ex := r.toBools en
            exact cr_all hc pins s σ H _ us Q I rv ⟨_, ns, rfl, .inl (.inl (by rw [← ex]; exact z)), h2.here rs _ (.bl _)⟩
        | oth hd => cases p' <;> first | (cases hd; done) | exact (show False from h').elim
        | _ => exact (show False from h').elim
      | any =>
        have d1 := h1.rdb rs
        have h' : Post G H B ρ (bAny st (rd st p1)) (fun v H' B' ρ' _ => ∀ x, RV G H' B' ρ' x v → Q x H') W := h
        generalize eq' : rd st p1 = p' at h' d1
        cases d1 with
        | @lst a xs qs z r =>
          have h2 : Post G H B ρ (match boolsOf qs with
            | some bs => Out.ok (PV.bl (bs.any id)) st
            | none => .stuck) (fun v H' B' ρ' _ => ∀ x, RV G H' B' ρ' x v → Q x H') W := h'
          cases en : boolsOf qs with
          | none => rw [en] at h2; exact h2.elim
          | some ns =>
            rw [en] at h2
            have ex := r.toBools en
            exact cr_any hc pins s σ H _ us Q I rv ⟨_, ns, rfl, .inl (.inl (by rw [← ex]; exact z)), h2.here rs _ (.bl _)⟩
        | oth hd => cases p' <;> first | (cases hd; done) | exact (show False from h').elim
        | _ => exact (show False from h').elim
      | sorted m =>
        have d1 := h1.rdb rs
        have h' : Post G H B ρ (bSorted m st (rd st p1)) (fun v H' B' ρ' _ => ∀ x, RV G H' B' ρ' x v → Q x H') W := h
        generalize eq' : rd st p1 = p' at h' d1
        cases d1 with
        | @lst a xs qs z r =>
          have h2 : Post G H B ρ (if sortOk qs = true then newL m (sortP qs) st else .stuck) (fun v H' B' ρ' _ => ∀ x, RV G H' B' ρ' x v → Q x H') W := h'
          by_cases hok : sortOk qs = true
          · rw [if_pos hok] at h2
            exact cr_sortL hK hu pins s σ H _ us Q I rv ⟨a, B, ρ, xs, qs, rfl, .inl (.inl z), r, hok, fun ys p ry hp => (post_newL rs ry h2).2 p hp⟩
          · rw [if_neg hok] at h2
            exact h2.elim
        | oth hd =>
          cases p' with
          | ref n =>
            have hr := rd_ref eq'
            subst hr
            cases h1 with
            | @ref a _ ha =>
              have h3 : Post G H B ρ (match st[n]? with
                | some (.dK kvs) => if (kvs.map (·.1)).all okKey then sortedL m (kvs.map (·.1)) st else .stuck
                | some (.dT kvs) => if (kvs.map (·.1)).all okKey then sortedL m (kvs.map (·.1)) st else .stuck
                | _ => .stuck) (fun v H' B' ρ' _ => ∀ x, RV G H' B' ρ' x v → Q x H') W := h'
              have fin : ∀ (kvs : List (PV × PV)), ((∃ ks : List (Key × V), H a = some (.dK ks) ∧ kvs.map (·.1) = ks.map fun q => kP q.1) ∨ ∃ ks : List (List Key × V), H a = some (.dT ks) ∧ kvs.map (·.1) = ks.map fun q => ktP q.1) →
                  Post G H B ρ (if (kvs.map (·.1)).all okKey then sortedL m (kvs.map (·.1)) st else .stuck) (fun v H' B' ρ' _ => ∀ x, RV G H' B' ρ' x v → Q x H') W → wpAny (model X.prog X.w) X.A (call (bval (.sorted m)) us) (EP X pins σ Q) X.xe s := fun kvs hd h4 => by
                by_cases hk : (kvs.map (·.1)).all okKey = true
                · rw [if_pos hk] at h4
                  unfold sortedL at h4
                  by_cases hok : sortOk (kvs.map (·.1)) = true
                  · rw [if_pos hok] at h4
                    exact cr_sortD (G := G) hK hc hu pins s σ H _ us Q I rv ⟨a, B, ρ, kvs.map (·.1), rfl, hd, hk, hok, fun ys p ry hp => (post_newL rs ry h4).2 p hp⟩
                  · rw [if_neg hok] at h4
                    exact h4.elim
                · rw [if_neg hk] at h4
                  exact h4.elim
              have keysK : ∀ {κ : Type} {f : κ → PV} {ks : List (κ × V)} {vs : List (PV × PV)}, RKs G H B ρ f ks vs → vs.map (·.1) = ks.map fun q => f q.1 := by
                intro κ f ks vs r
                induction r with
                | nil => rfl
                | cons _ _ ih => simp [ih]
              cases hn : st[n]? with
              | none => rw [hn] at h3; exact h3.elim
              | some o =>
                rw [hn] at h3
                cases rs.obj n a o ha hn with
                | lst => exact h3.elim
                | @dK ks kvs hd r => exact fin kvs (.inl ⟨ks, hd, keysK r⟩) h3
                | @dT ks kvs hd r => exact fin kvs (.inr ⟨ks, hd, keysK r⟩) h3
          | _ => first | (cases hd; done) | exact (show False from h').elim
        | _ => exact (show False from h').elim
      | _ => cases h1 <;> exact (show False from h).elim
    | @cons x2 xr2 p2 pr2 h2 r2 =>
      cases r2 with
      | nil =>
        cases b with
        | max2 =>
          cases h1 with
          | int i =>
            cases h2 with
            | int j => exact call_max2 hc pins s σ H _ us Q I rv ⟨i, j, rfl, h.here rs _ (.int _)⟩
            | _ => exact (show False from h).elim
          | _ => exact (show False from h).elim
        | min2 =>
          cases h1 with
          | int i =>
            cases h2 with
            | int j => exact call_min2 hc pins s σ H _ us Q I rv ⟨i, j, rfl, h.here rs _ (.int _)⟩
            | _ => exact (show False from h).elim
          | _ => exact (show False from h).elim
        | _ => first | exact (show False from h).elim | (cases h1 <;> exact (show False from h).elim)
      | cons => cases b <;> first | exact (show False from h).elim | (cases h1 <;> exact (show False from h).elim) | (cases h1 <;> cases h2 <;> exact (show False from h).elim)

/-! ### methods -/
theorem extendT (l : Addr) (items : Array Value) (n : Nat) (b : Addr) (items2 : Array Value) (n2 : Nat) (dd : Option Addr) (sl : Array (Option Value)) (hs0 : ¬(!items.isEmpty && Builtin.List.listTooLong (items.size + items2.size)) = true) (hs1 : items.size ≤ sizeLine) (hs2 : items.size + items2.size ≤ sizeLine + 1) :
    Meets (Builtin.«list.extend» ⟨[.ref l, .ref b], []⟩) (fun _ R s => s.heap.get? l = some { cls := .type "list", dict := none, data := .seq items n, slots := #[] } ∧ s.heap.get? b = some { cls := .type "tuple", dict := dd, data := .seq items2 n2, slots := sl } ∧
      R (.ok (.ret Value.none)) { s with heap := s.heap.update l (Obj.mapSeq fun x => x ++ items2), toks := s.toks }) :=
  .of_wp fun prog w A R s h => by
    obtain ⟨hp, g, d, tk, os⟩ := s
    obtain ⟨hl, hb, h⟩ := h
    have f4 := sub_tuple_list
    have f2 := sub_tuple_tuple
    have hz' : (items ++ items2).size ≤ sizeLine + 1 := by
      rw [Array.size_append]
      exact hs2
    wp_walk using (wpAny_updateSeq hl rfl (hz := hs1) (_hz' := hz')), wpAny_loadPart' hl, wpAny_loadPart' hb
    exact ⟨_, rfl, h⟩

def mname : Mt → Str
  | .append => "append" | .extend => "extend" | .pop => "pop" | .popAt => "pop" | .index => "index" | .get2 => "get"
def mid : Mt → String
  | .append => "list.append" | .extend => "list.extend" | .pop => "list.pop" | .popAt => "list.pop" | .index => "list.index" | .get2 => "dict.get"
def rM (G : Gs) (W : XK) (m : Mt) : V → List V → Hp → VK → Prop := fun x xs H Q => ∃ B ρ st p ps, RV G H B ρ x p ∧ RVs G H B ρ xs ps ∧ RSto G H B ρ st ∧ Post G H B ρ (method m p ps st) (fun v H' B' ρ' _ => ∀ x, RV G H' B' ρ' x v → Q x H') W
theorem sto_lst {n : Nat} {a : Addr} {ps : List PV} (rs : RSto G H B ρ st) (ha : ρ[n]? = some a) (hn : st[n]? = some (.lst ps)) : ∃ xs, H a = some (.lst xs) ∧ RVs G H B ρ xs ps := by
  cases rs.obj n a _ ha hn with
  | lst h r => exact ⟨_, h, r⟩
theorem last_get {α : Type} {xs : List α} {v : α} (h : xs.getLast? = some v) : xs[xs.length - 1]? = some v := by
  rw [← List.getLast?_eq_getElem?]
  exact h
/-- l.extend(t), t a tuple -/
theorem mt_extendT : MtM X "list.extend" (fun x vs H Q => ∃ l b xs zs, x = .ref l ∧ vs = [.ref b] ∧ H l = some (.lst xs) ∧ SqT X.K H b zs ∧ xs.length + zs.length ≤ sizeLine ∧ Q .non (upd H l (.lst (xs ++ zs)))) := by
  intro pins s σ H x vs v us Q I rx rv h
  obtain ⟨l, b, xs, zs, rfl, rfl, hH, hB, hz, q⟩ := h
  cases rx
  obtain ⟨u, rfl, ru⟩ := rv.one
  cases ru
  obtain ⟨z, ia, n, ra, hl, e⟩ := I.lstM hH
  obtain ⟨ib, rb, tb, hzb⟩ := I.tuple hB
  obtain ⟨⟨oc, dd, dt, sl⟩, eo, ec, n2, ed⟩ := tb
  simp only at ec ed
  subst ec ed
  have hlb := rb.length
  have hsz : ia.toArray.size + ib.toArray.size ≤ sizeLine := by
    simp only [List.size_toArray]
    omega
  refine call_meets F.slot_list_extend ⟨_, e, rfl⟩ F.entry_list_extend (F.args_list_extend_2 _ _)
    (extendT l ia.toArray n b ib.toArray n2 dd sl (by rw [not_long hsz, Bool.and_false]; exact Bool.false_ne_true) (by simp only [List.size_toArray]; omega) (by omega)) ⟨e, eo, ?_⟩
  refine ⟨.non, _, I.lset (its' := ia ++ ib) hH e (by simp) (ra.append rb) ?_, rfl, q⟩
  rw [List.length_append]
  omega
theorem mt_met (hK : X.K = G.K) (m : Mt) : MtM X (mid m) (rM G W m) := by
  intro pins s σ H x xs v us Q I rx rv hh
  obtain ⟨B, ρ, st, p, ps, hp, hps, rs, h⟩ := hh
  cases hp with
  | @ref a n ha =>
    have hmem : a ∈ ρ := List.mem_of_getElem? ha
    cases hn : st[n]? with
    | none =>
      exfalso
      have h : Post G H B ρ (methodAt m n st[n]? ps st) (fun v H' B' ρ' _ => ∀ x, RV G H' B' ρ' x v → Q x H') W := h
      rw [hn] at h
      cases m <;> exact h
    | some o =>
      have h : Post G H B ρ (methodAt m n st[n]? ps st) (fun v H' B' ρ' _ => ∀ x, RV G H' B' ρ' x v → Q x H') W := h
      rw [hn] at h
      have ro := rs.obj n a o ha hn
      cases ro with
      | @lst ys qs hy ry =>
        cases m with
        | append =>
          cases hps with
          | @cons x1 xr p1 pr h1 r1 =>
            cases r1 with
            | nil =>
              by_cases hl : qs.length < line
              · have h2 : Post G H B ρ (if qs.length < line then Out.ok PV.non (st.set n (.lst (qs ++ [p1]))) else .stuck) (fun v H' B' ρ' _ => ∀ x, RV G H' B' ρ' x v → Q x H') W := h
                rw [if_pos hl] at h2
                refine mt_append pins s σ H _ _ v us Q I rx rv ⟨a, ys, x1, rfl, rfl, hy, by rw [ry.length, ← line_eq]; exact hl, ?_⟩
                exact h2 _ B ρ (ext_set rs ha) (sto_set rs ha (show isMut (.lst _) from True.intro) (.lst upd_same ((ry.append (.cons h1 .nil)).ext (ext_set rs ha) rs.sub))) _ .non
              · have h2 : Post G H B ρ (if qs.length < line then Out.ok PV.non (st.set n (.lst (qs ++ [p1]))) else .stuck) (fun v H' B' ρ' _ => ∀ x, RV G H' B' ρ' x v → Q x H') W := h
                rw [if_neg hl] at h2
                exact h2.elim
            | cons => exact (show False from h).elim
          | nil => exact (show False from h).elim
        | extend =>
          cases hps with
          | @cons x1 xr p1 pr h1 r1 =>
            cases r1 with
            | nil =>
              cases h1 with
              | @ktup b zs rs2 hb hm rb =>
                have h' : Post G H B ρ (if qs.length + rs2.length ≤ line then Out.ok PV.non (st.set n (.lst (qs ++ rs2))) else .stuck) (fun v H' B' ρ' _ => ∀ x, RV G H' B' ρ' x v → Q x H') W := h
                by_cases hl : qs.length + rs2.length ≤ line
                · rw [if_pos hl] at h'
                  refine mt_extendT pins s σ H _ _ v us Q I rx rv ⟨a, b, ys, zs, rfl, rfl, hy, by rw [hK]; exact hb.1 H, by rw [ry.length, rb.length, ← line_eq]; exact hl, ?_⟩
                  exact h' _ B ρ (ext_set rs ha) (sto_set rs ha (show isMut (.lst _) from True.intro) (.lst upd_same ((ry.append rb).ext (ext_set rs ha) rs.sub))) _ .non
                · rw [if_neg hl] at h'
                  exact h'.elim
              | @tup b zs rs2 hb rb =>
                have h' : Post G H B ρ (if qs.length + rs2.length ≤ line then Out.ok PV.non (st.set n (.lst (qs ++ rs2))) else .stuck) (fun v H' B' ρ' _ => ∀ x, RV G H' B' ρ' x v → Q x H') W := h
                by_cases hl : qs.length + rs2.length ≤ line
                · rw [if_pos hl] at h'
                  refine mt_extendT pins s σ H _ _ v us Q I rx rv ⟨a, b, ys, zs, rfl, rfl, hy, .inl (.inl hb), by rw [ry.length, rb.length, ← line_eq]; exact hl, ?_⟩
                  exact h' _ B ρ (ext_set rs ha) (sto_set rs ha (show isMut (.lst _) from True.intro) (.lst upd_same ((ry.append rb).ext (ext_set rs ha) rs.sub))) _ .non
                · rw [if_neg hl] at h'
                  exact h'.elim
              | @lst b zs rs2 hb hnb rb =>
                have h' : Post G H B ρ (if qs.length + rs2.length ≤ line then Out.ok PV.non (st.set n (.lst (qs ++ rs2))) else .stuck) (fun v H' B' ρ' _ => ∀ x, RV G H' B' ρ' x v → Q x H') W := h
                by_cases hl : qs.length + rs2.length ≤ line
                · rw [if_pos hl] at h'
                  refine mt_extend pins s σ H _ _ v us Q I rx rv ⟨a, b, ys, zs, rfl, rfl, hy, hb, by rw [ry.length, rb.length, ← line_eq]; exact hl, ?_⟩
                  exact h' _ B ρ (ext_set rs ha) (sto_set rs ha (show isMut (.lst _) from True.intro) (.lst upd_same ((ry.append rb).ext (ext_set rs ha) rs.sub))) _ .non
                · rw [if_neg hl] at h'
                  exact h'.elim
              | _ => exact (show False from h).elim
            | cons => cases h1 <;> exact (show False from h).elim
          | nil => exact (show False from h).elim
        | pop =>
          cases hps with
          | nil =>
            have h' : Post G H B ρ (match qs.getLast? with
              | some v => Out.ok v (st.set n (.lst qs.dropLast))
              | none => .stuck) (fun v H' B' ρ' _ => ∀ x, RV G H' B' ρ' x v → Q x H') W := h
            cases el : qs.getLast? with
            | none => rw [el] at h'; exact h'.elim
            | some w =>
              rw [el] at h'
              obtain ⟨z, ez, rz⟩ := ry.get (last_get el)
              refine mt_pop pins s σ H _ _ v us Q I rx rv ⟨a, ys, z, rfl, rfl, hy, by rw [ry.length]; exact ez, ?_⟩
              exact h' _ B ρ (ext_set rs ha) (sto_set rs ha (show isMut (.lst _) from True.intro) (.lst upd_same (ry.dropLast.ext (ext_set rs ha) rs.sub))) _ (rz.ext (ext_set rs ha) rs.sub)
          | cons => exact (show False from h).elim
        | popAt =>
          cases hps with
          | @cons x1 xr p1 pr h1 r1 =>
            cases r1 with
            | nil =>
              cases h1 with
              | int i =>
                have h' : Post G H B ρ (match ixOf qs.length i with
                  | some j => (match qs[j]? with
                    | some v => Out.ok v (st.set n (.lst (qs.eraseIdx j)))
                    | none => .stuck)
                  | none => .stuck) (fun v H' B' ρ' _ => ∀ x, RV G H' B' ρ' x v → Q x H') W := h
                cases ej : ixOf qs.length i with
                | none => rw [ej] at h'; exact h'.elim
                | some j =>
                  rw [ej] at h'
                  have h2 : Post G H B ρ (match qs[j]? with
                    | some v => Out.ok v (st.set n (.lst (qs.eraseIdx j)))
                    | none => .stuck) (fun v H' B' ρ' _ => ∀ x, RV G H' B' ρ' x v → Q x H') W := h'
                  cases el : qs[j]? with
                  | none => rw [el] at h2; exact h2.elim
                  | some w =>
                    rw [el] at h2
                    obtain ⟨z, ez, rz⟩ := ry.get el
                    obtain ⟨k1, k2, k3, k4⟩ := ixN_seq (show ixN ys.length i = some j by rw [ry.length]; exact ej)
                    have hzz : ys.length ≤ sizeLine := (I.lstM hy).1
                    have h63 := line63
                    refine mt_popAt pins s σ H _ _ v us Q I rx rv ⟨a, ys, i, j, z, rfl, rfl, hy, by omega, by omega, k1, ez, ?_⟩
                    exact h2 _ B ρ (ext_set rs ha) (sto_set rs ha (show isMut (.lst _) from True.intro) (.lst upd_same ((ry.erase j).ext (ext_set rs ha) rs.sub))) _ (rz.ext (ext_set rs ha) rs.sub)
              | _ => exact (show False from h).elim
            | cons => cases h1 <;> exact (show False from h).elim
          | nil => exact (show False from h).elim
        | _ => exact (show False from h).elim
      | _ => cases m <;> exact (show False from h).elim
  | _ => exact (show False from h).elim
end
end MP

set_option Elab.async false
set_option linter.all false
set_option maxRecDepth 100000
set_option maxHeartbeats 4000000
/-! MTry: a def that calls what it got, and tells its error by a word. -/
namespace MP
open PySem PySem.Spec PyProof.Rows L2

/-- an error with a limit is there -/
def LimAt (K : PySem.W.Frag) (cls : Value) (d : Option Addr) (H : Hp) (Q : Int → Prop) : Prop := ∃ (C dd : Addr) (i : Int), cls = .ref C ∧ XfC K C ∧ PySem.W.findIn K (.ref C) "limit" = some none ∧ d = some dd ∧ H dd = some (.xd [("limit", .int i)]) ∧ limOk i = true ∧ Q i
/-- what the clauses make of an exception: a word, or they must not be the ones -/
def tellW (K : PySem.W.Frag) (Ds : Ends) : List (Value × Option Str) → WX
  | [] => fun _ _ _ _ => False
  | (c, some m) :: r => fun cls d σ H => ∃ b, PySem.W.exmOne K cls c = some b ∧ (b = true → Ds.rt (.str m) H) ∧ (b = false → tellW K Ds r cls d σ H)
  | (c, none) :: r => fun cls d σ H => ∃ b, PySem.W.exmOne K cls c = some b ∧ (b = true → LimAt K cls d H fun i => Ds.rt (.str (toS manyT ++ toS (limText i))) H) ∧ (b = false → tellW K Ds r cls d σ H)
inductive TellOk (X : Cx) : List ExceptHandler → List (Value × Option Str) → Prop
  | nil : TellOk X [] []
  | word {x m : Str} {c : Value} {j : Nat} {p1 p2 p3 p4 : Pos} {hs : List ExceptHandler} {l : List (Value × Option Str)} (hc : Names X x c) (r : TellOk X hs l) :
      TellOk X (.ExceptHandler (some (.Name x p1)) none [.Return (some (.Constant (.str m) j p2)) p3] p4 :: hs) ((c, some m) :: l)
  | lim {x n : Str} {c : Value} {i j : Nat} {p1 p2 p3 p4 p5 p6 p7 p8 p9 : Pos} {hs : List ExceptHandler} {l : List (Value × Option Str)} (hc : Names X x c) (nd : X.N.Nodup) (hi : X.N[i]? = some n) (hn : X.env.kindOf n = some .local) (hd : (n == ("__debug__" : Str)) = false) (hcd : (n == ("__classdict__" : Str)) = false)
      (hg : Gl X "str") (hm : X.mg "str" = none) (r : TellOk X hs l) :
      TellOk X (.ExceptHandler (some (.Name x p1)) (some n) [.Return (some (.BinOp (.Constant (.str (toS manyT)) j p2) .Add (.Call (.Name "str" p3) [.Attribute (.Name n p5) "limit" p6] [] p7) p8)) p9] p4 :: hs) ((c, none) :: l)
section
variable {X : Cx} {body : List Stmt} {h0 : ExceptHandler} {hs : List ExceptHandler} {l : List (Value × Option Str)} {pos : Pos} {tb : WX → TS}
theorem ps_tell (hst : X.stack = X.env :: X.outer) (hf : X.env.frame = some X.env.locals)
    (hb : ∀ (W : WX) (pn : List (Addr × Obj)) (xe : Value → Shared → Prop), Takes (X.tr pn xe) W → PassesOwn (model X.prog X.w) X.A X.env xe → PSs (X.tr pn xe) body (tb W))
    (hh : TellOk X (h0 :: hs) l) : PS X (.Try body (h0 :: hs) [] [] pos) (fun Ds σ H => tb (tellW X.K Ds l) Ds σ H) := by
  refine ⟨fun pins s σ H Ds I h => ?_⟩
  have ok := I.ok
  have hfr : X.A.frames = some (X.env :: X.outer) := by rw [ok.frames, hst]
  have after : ∀ (f : Flow) (s1 : Shared), SP (X.tr (X.pn ++ pins) (fun e s₁ => wpAny (model X.prog X.w) X.A (noteFrame e X.env) (fun _ s₂ => wpAny (model X.prog X.w) X.A (setFlight e none) (fun _ s₃ => wpAny (model X.prog X.w) X.A (handleBy e X.env (h0 :: hs)) (SP X pins Ds) X.xe s₃) X.xe s₂) X.xe s₁)) [] Ds f s1 → SP X pins Ds f s1 := fun f s1 hsp => by
    cases f with
    | next => exact let ⟨σ1, H1, J, q⟩ := hsp; ⟨σ1, H1, J.ofTry ok, q⟩
    | brk => exact let ⟨σ1, H1, J, q⟩ := hsp; ⟨σ1, H1, J.ofTry ok, q⟩
    | cont => exact let ⟨σ1, H1, J, q⟩ := hsp; ⟨σ1, H1, J.ofTry ok, q⟩
    | ret u => exact let ⟨v, σ1, H1, J, r, q⟩ := hsp; ⟨v, σ1, H1, J.ofTry ok, r, q⟩
  refine wpAny_Try_except (wpAny_mono ((hb (tellW X.K Ds l) (X.pn ++ pins) _ (fun u s1 xx => ?_) PassesOwn.looking).run [] s σ H Ds (I.toTry _) h) (fun f s1 hsp => ?_) (fun e s1 he => he))
  · obtain ⟨a, Bx, sI, pins1, σ1, H1, cls, d, rfl, J1, nb, up, sky, na, os, ag, w⟩ := xx
    have J : Inv X pins σ1 H1 sI := J1.ofTry ok
    have sky1 : Sky Bx (X.env :: X.outer) a (Zc cls d) X.env.locals s1.heap := by rw [← hst]; exact sky
    show wpAny (model X.prog X.w) X.A (noteFrame (.ref a) X.env) _ _ _
    refine Sky.land Zc.steady hfr hf sky1 fun h3 fl up3 => ?_
    have J3 : Inv X pins σ1 H1 { s1 with heap := h3 } := J.landed nb fl.1 (up.trans up3) os ag
    obtain ⟨oe, vs, he, hz, hd⟩ := fl.there
    have nfr : a ∉ frs (X.env :: X.outer) := fun hm => by
      obtain ⟨_, o2, e2, hnf⟩ := fl.2.2.1.mem hm
      rw [he] at e2
      cases e2
      exact hnf _ hd
    have nL : a ≠ X.env.locals := fun z => nfr (List.mem_filterMap.mpr ⟨X.env, List.mem_cons_self, by rw [hf, z]⟩)
    have nF : a ∉ X.fs := fun hm => by
      obtain ⟨e, hm1, q⟩ := List.mem_filterMap.mp hm
      exact nfr (List.mem_filterMap.mpr ⟨e, List.mem_cons_of_mem _ hm1, q⟩)
    have S3 := J3.suite he hd na nL nF
    have LT : PySem.W.Looks (model X.prog X.w) h3 (typeOf (.ref a)) cls := fun A Q E s k q => wpAny_typeOf_ref (k _ _ he) (by rw [hz.1]; exact q)
    have test : ∀ {x : Str} {c : Value} {np : Pos} {Q : Value → Shared → Prop} {E : Value → Shared → Prop}, Names X x c → Q c { s1 with heap := h3 } → wpAny (model X.prog X.w) (X.A.mark (some (.ref a))) (eval (.Name x np) X.env) Q E { s1 with heap := h3 } := fun {x c np Q E} hc q => by
      rcases hc with ⟨hg, hdbg, hm | ⟨hm, hv, hnn⟩⟩
      · exact ld_glob (X := X.suite a ((a, oe) :: (X.pn ++ pins))) S3 hg hm q hdbg
      · exact ld_blt (X := X.suite a ((a, oe) :: (X.pn ++ pins))) S3 hg hm hv q hnn hdbg
    have go : ∀ {hs1 : List ExceptHandler} {l1 : List (Value × Option Str)}, TellOk X hs1 l1 → tellW X.K Ds l1 cls d σ1 H1 → wpAny (model X.prog X.w) X.A (handleBy (.ref a) X.env hs1) (SP X pins Ds) X.xe { s1 with heap := h3 } := by
      intro hs1 l1 hk
      induction hk with
      | nil => exact fun w => w.elim
      | @word x m c j p1 p2 p3 p4 hs2 l2 hc r ih =>
        rintro ⟨b, hb1, hyes, hno⟩
        refine wpAny_handleBy_cons (codeAny_handlers_test (test hc ((PySem.W.exm_one (M := model X.prog X.w) J3.kIn LT hb1).here ?_))) (by intro q; cases q)
        cases b with
        | false => exact ih (hno rfl)
        | true =>
          refine codeAny_handlers_suite (HandSPX.lands_againZ fl fun h4 fl4 up4 => ?_)
          have J4 : Inv X pins σ1 H1 { s1 with heap := h4 } := J.landed nb fl4.1 ((up.trans up3).trans up4) os ag
          obtain ⟨oe4, vs4, he4, hz4, hd4⟩ := fl4.there
          have ps : PSs (X.suite a ((a, oe4) :: (X.pn ++ pins))) [.Return (some (.Constant (.str m) j p2)) p3] (tRet (tC (.str m))) := pss_one (ps_ret pe_str)
          refine wpAny_mono (ps.run [] _ σ1 H1 Ds (J4.suite he4 hd4 na nL nF) (hyes rfl)) (fun f s6 hsp => ?_) (fun _ _ z => False.elim z)
          cases f with
          | next => exact let ⟨σ6, H6, S6, q6⟩ := hsp; ⟨σ6, H6, S6.unsuite ok, q6⟩
          | brk => exact let ⟨σ6, H6, S6, q6⟩ := hsp; ⟨σ6, H6, S6.unsuite ok, q6⟩
          | cont => exact let ⟨σ6, H6, S6, q6⟩ := hsp; ⟨σ6, H6, S6.unsuite ok, q6⟩
          | ret u => exact let ⟨v6, σ6, H6, S6, r6, q6⟩ := hsp; ⟨v6, σ6, H6, S6.unsuite ok, r6, q6⟩
      | @lim x n c i j p1 p2 p3 p4 p5 p6 p7 p8 p9 hs2 l2 hc nd hi hn hdn hcn hg hm r ih =>
        rintro ⟨b, hb1, hyes, hno⟩
        refine wpAny_handleBy_cons (codeAny_handlers_test (test hc ((PySem.W.exm_one (M := model X.prog X.w) J3.kIn LT hb1).here ?_))) (by intro q; cases q)
        cases b with
        | false => exact ih (hno rfl)
        | true =>
          obtain ⟨C, dd, lv, ec, xf, hno2, ed, hdd, hlv, hq⟩ := hyes rfl
          refine codeAny_handlers_suite_as (HandSPX.lands_againZ fl fun h4 fl4 up4 => ?_)
          have J4 : Inv X pins σ1 H1 { s1 with heap := h4 } := J.landed nb fl4.1 ((up.trans up3).trans up4) os ag
          obtain ⟨oe4, vs4, he4, hz4, hd4⟩ := fl4.there
          refine store_ok (X := X.suite a ((a, oe4) :: (X.pn ++ pins))) (v := .ref a) (J4.suite he4 hd4 na nL nF) nd hi (.inl hn) rfl (fun s5 S5 => ?_) (.inr hn)
          have ps := pss_one (ps_ret (pos := p9) (pe_op (pos := p8) op_add_str (pe_str (X := X.suite a ((a, oe4) :: (X.pn ++ pins))) (x := toS manyT) (j := j) (pos := p2)) (pe_callTy (p := p3) (pos := p7) call_str_int hg hm boot_str (pa_cons (pe_xf (pos := p6) xf hno2 hz4 ⟨_, hd4⟩ (pe_var (pos := p5) hi (.inl hn) hdn hcn)) pa_nil))))
          obtain ⟨e1, e2, e3, _⟩ := lim_of hlv
          have e4 : (toS (limText lv)).length ≤ 10 := by rw [toS_len]; exact e3
          refine wpAny_mono (ps.run [] s5 _ H1 { nx := fun τ H' => Ds.nx (τ.set i none) H', rt := Ds.rt, bk := fun τ H' => Ds.bk (τ.set i none) H', ct := fun τ H' => Ds.ct (τ.set i none) H' } S5 ⟨.ref a, ?_, rfl, ec, dd, _, .int lv, ed, hdd, rfl, lv, rfl, e2, _, _, rfl, rfl, ?_, ?_⟩) (fun f s6 hsp => ?_) (fun _ _ z => False.elim z)
          · rw [List.getElem?_set_self (by rw [J.len]; exact (List.getElem?_eq_some_iff.mp hi).1)]
          · rw [e1, sizeLine_eq, toS_len]
            simp only [manyT, List.length_cons, List.length_nil]
            omega
          · rw [e1]
            exact hq
          cases f with
          | next => exact let ⟨σ6, H6, S6, q6⟩ := hsp; gone_ok (S6.unsuite ok) nd hi hn fun s7 J7 => ⟨_, _, J7, q6⟩
          | brk => exact let ⟨σ6, H6, S6, q6⟩ := hsp; gone_ok (S6.unsuite ok) nd hi hn fun s7 J7 => ⟨_, _, J7, q6⟩
          | cont => exact let ⟨σ6, H6, S6, q6⟩ := hsp; gone_ok (S6.unsuite ok) nd hi hn fun s7 J7 => ⟨_, _, J7, q6⟩
          | ret u => exact let ⟨v6, σ6, H6, S6, r6, q6⟩ := hsp; gone_ok (S6.unsuite ok) nd hi hn fun s7 J7 => ⟨_, _, _, J7, r6, q6⟩
    exact go hh w
  · have q := after f s1 hsp
    cases f with
    | next => exact let ⟨σ1, H1, J, q1⟩ := q; wpAny_execs_nil ⟨σ1, H1, J, q1⟩
    | brk => exact q
    | cont => exact q
    | ret u => exact q

/-- what a def that tells errors makes of its lambda -/
def tellK (K : PySem.W.Frag) (cls : Value) (d : Option Addr) (H : Hp) (Q : VK) : List (Value × Option Str) → Prop
  | [] => False
  | (c, some m) :: r => ∃ b, PySem.W.exmOne K cls c = some b ∧ (b = true → Q (.str m) H) ∧ (b = false → tellK K cls d H Q r)
  | (c, none) :: r => ∃ b, PySem.W.exmOne K cls c = some b ∧ (b = true → LimAt K cls d H fun i => Q (.str (toS manyT ++ toS (limText i))) H) ∧ (b = false → tellK K cls d H Q r)
theorem tellK_W {K : PySem.W.Frag} {cls : Value} {H : Hp} {Ds : Ends} {d : Option Addr} {σ : L2.St} : ∀ {l : List (Value × Option Str)}, tellK K cls d H Ds.rt l → tellW K Ds l cls d σ H
  | [], h => h
  | (c, some m) :: r, ⟨b, h1, h2, h3⟩ => ⟨b, h1, h2, fun e => tellK_W (h3 e)⟩
  | (c, none) :: r, ⟨b, h1, h2, h3⟩ => ⟨b, h1, h2, fun e => tellK_W (h3 e)⟩
def TErr (K : PySem.W.Frag) (l : List (Value × Option Str)) : (XK → Hp → VK → Prop) → Hp → VK → Prop := fun tl H Q => tl (fun cls d H1 => tellK K cls d H1 Q l) H (fun _ H1 => Q (.str "") H1)
theorem err_gives {Ng : List Str} {x a q : Str} {sg : Scope} {g : Addr} {cdg : Value} {j : Nat} {p1 p2 p3 p4 p5 p6 : Pos}
    (h0' : ∀ f : Addr, (L2.start Ng [V.ref f])[0]? = some (some (V.ref f)))
    (hh : ∀ Y : Cx, Y.mg = X.mg → Y.env.scope = sg → Y.N = Ng → TellOk Y (h0 :: hs) l) :
    LamX.GivesTo X Ng x sg g cdg [.Try [.Expr (.Call (.Name a p1) [] [] p2) p3] (h0 :: hs) [] [] p4, .Return (some (.Constant (.str "") j p5)) p6] a q (TErr X.K l) := by
  intro f c' s H Q tl act hc h
  refine ⟨_, pss_cons (ps_tell (X := (cxOf C8.CX0 X.prog X.w X.K X.mg X.base Ng x sg g cdg X.A X.stack s H C8.E0).nox)
      (tb := fun W Ds σ H => ∃ Ech : XK, (∀ cls d σ' H', Ech cls d H' → W cls d σ' H') ∧ σ[0]? = some (some (.ref f)) ∧ H c' = some (LamX.CodeO c' q) ∧ tl Ech H fun _ H1 => Ds.nx σ H1)
      rfl rfl (fun W pn xe tk _ => ⟨fun pins s' σ H' Ds I h' => ?_⟩) (hh _ rfl rfl rfl)) (pss_one (ps_ret pe_str)), ?_⟩
  · obtain ⟨Ech, hW, h1, h2, h3⟩ := h'
    exact (pss_one (ps_expr (pos := p3) (act W pn xe Ech p1 p2 tk hW))).run pins s' σ H' Ds I ⟨h1, h2, h3⟩
  · exact ⟨fun cls d H1 => tellK X.K cls d H1 Q l, fun cls d σ' H' z => tellK_W z, h0' f, hc, h⟩
end
end MP

set_option Elab.async false
set_option linter.all false
set_option maxRecDepth 100000
set_option maxHeartbeats 4000000
/-! MChk: the terms against the row's own trees; what is asked of a context. -/
namespace MP
open PySem PySem.Spec PyProof.Rows L2

/-- the names of the text -/
structure Syn where
  fname : Nat → Option Str
  cname : Nat → Option Str
  xname : Nat → Option Str
  ename : Nat → Option Str
  free : Str → Bool
  rz : Nat → Bool
  lz : Nat → Bool

/-- which cells may be stored, whether a lambda may be made -/
structure Fb where
  f : Str → Bool
  ll : Bool
def kindB (sc : Scope) (x : Str) (k : NameKind) : Bool := decide (sc.names.lookup x = some k)
def visB (sc : Scope) (x : Str) : Bool := kindB sc x .local || kindB sc x .cell || kindB sc x .free
def dbgB (x : Str) : Bool := !(x == ("__debug__" : Str)) && !(x == ("__classdict__" : Str))
def glB (sc : Scope) (x : Str) : Bool := kindB sc x .globalImplicit && dbgB x && !decide (x = ("__name__" : Str))
/-- the i-th slot's name may be stored -/
def stB (N : List Str) (sc : Scope) (fb : Fb) (i : Nat) (x : Str) : Bool := decide (N[i]? = some x) && (kindB sc x .local || (kindB sc x .cell && fb.f x))
def conB : PV → Const → Bool
  | .non, .none => true
  | .bl a, .bool b => a == b
  | .int i, .int j => decide (i = j)
  | .str x, .str y => decide (y = toS x) && okStr x && decide (x.length ≤ line)
  | _, _ => false
def plainT : Expr → Bool
  | .UnaryOp .Not _ _ => false
  | .BoolOp .. => false
  | .IfExp .. => false
  | .Compare .. => false
  | _ => true
def noStar : Expr → Bool
  | .Starred .. => false
  | _ => true
def noSet : Expr → Bool
  | .Set .. => false
  | _ => true
def noSlice : Expr → Bool
  | .Slice .. => false
  | _ => true
/-- a receiver that is no call -/
def noCall : Expr → Bool
  | .Call .. => false
  | _ => true
def noPar : Arguments → Bool
  | ⟨[], [], none, [], [], none, []⟩ => true
  | _ => false
def tyName : Ty → String
  | .int => "int" | .bool => "bool" | .str => "str" | .tuple => "tuple" | .list => "list"
def bopOf : Bool → BoolOp
  | true => .And
  | false => .Or
def ownL (N : List Str) (own : List Nat) : List (Str × Nat) := own.filterMap fun i => N[i]?.map fun x => (x, i)
mutual
def tgSlots : Tg → List Nat
  | .name i => [i]
  | .tup ts => tgsSlots ts
def tgsSlots : List Tg → List Nat
  | [] => []
  | t :: ts => tgSlots t ++ tgsSlots ts
end
mutual
def chkT (N : List Str) (sc : Scope) (fb : Fb) : Tg → Expr → Bool
  | .name i, .Name x _ => stB N sc fb i x
  | .tup ts, .Tuple es _ _ => chkTs N sc fb ts es
  | _, _ => false
def chkTs (N : List Str) (sc : Scope) (fb : Fb) : List Tg → List Expr → Bool
  | [], [] => true
  | t :: ts, e :: es => chkT N sc fb t e && chkTs N sc fb ts es
  | _, _ => false
end
section
variable (S : Syn)
def isNop : IE → Bool
  | .nop => true
  | _ => false
mutual
/-- t: as a test -/
def chkM (t : Bool) (N : List Str) (sc : Scope) (fb : Fb) : IE → Expr → Bool
  | .var i, .Name x _ => decide (N[i]? = some x) && visB sc x && dbgB x
  | .con v, .Constant c _ _ => conB v c
  | .glo c, .Name x _ => decide (S.cname c = some x) && glB sc x
  | .fnv f, .Name x _ => decide (S.fname f = some x) && glB sc x
  | .tup es, .Tuple xs _ _ => chkMs false N sc fb es xs
  | .lst _ es, .List xs _ => chkMs false N sc fb es xs
  | .dct _, .Dict [] [] _ => true
  | .bin _ op a b, .BinOp x o y _ => decide (o = op) && chkM false N sc fb a x && chkM false N sc fb b y
  | .cmp op a b, .Compare x [o] [y] _ => decide (o = op) && noSet y && chkM false N sc fb a x && chkM false N sc fb b y
  | .din neg a b, .Compare x [o] [y] _ => decide (o = if neg then .NotIn else .In) && noSet y && chkM false N sc fb a x && chkM false N sc fb b y
  | .chn p q a b c, .Compare x [o, r] [y, z] _ => decide (o = p) && decide (r = q) && noSet z && noSet y && chkM false N sc fb a x && chkM false N sc fb b y && chkM false N sc fb c z
  | .bop k a es, .BoolOp o (x :: xs) _ => decide (o = bopOf k) && chkM t N sc fb a x && chkMs t N sc fb es xs
  | .not a, .UnaryOp .Not x _ => chkM t N sc fb a x
  | .neg a, .UnaryOp .USub x _ => chkM false N sc fb a x
  | .ife c a b, .IfExp x y z _ => !t && (chkM true N sc fb c x && chkM false N sc fb a y && chkM false N sc fb b z)
  | .call f _ es, .Call (.Name x _) xs [] _ => decide (S.fname f = some x) && glB sc x && chkMs false N sc fb es xs
  | .blt b es, .Call (.Name x _) (y :: ys) [] _ => decide (x = bname b) && S.free x && glB sc x && chkMs false N sc fb es (y :: ys)
  | .met m o es, .Call (.Attribute x a p) xs [] q => decide (m ≠ .get2 ∧ m ≠ .index) && decide (a = mname m) && noCall x && decide (p.endLine = q.line) && decide (xs.length < 20) && chkM false N sc fb o x && chkMs false N sc fb es xs
  | .idx a b, .Subscript x y _ => noSlice y && chkM false N sc fb a x && chkM false N sc fb b y
  | .ixg c b, .Call (.Attribute (.Name x _) m p) [y] [] q => decide (S.cname c = some x) && glB sc x && decide (m = ("index" : Str)) && decide (p.endLine = q.line) && noStar y && chkM false N sc fb b y
  | .ixo a b, .Call (.Attribute x m p) [y] [] q => decide (m = ("index" : Str)) && noCall x && decide (p.endLine = q.line) && noStar y && chkM false N sc fb a x && chkM false N sc fb b y
  | .dix a b, .Subscript x y _ => noSlice y && chkM false N sc fb a x && chkM false N sc fb b y
  | .slc _ a lo hi, .Subscript x (.Slice l h none _) _ => chkM false N sc fb a x && (match l with
      | none => isNop lo
      | some y => !isNop lo && chkM false N sc fb lo y) && (match h with
      | none => isNop hi
      | some y => !isNop hi && chkM false N sc fb hi y)
  | .lc _ own tg it c elt, .ListComp y [⟨t, i, ifs, as⟩] scope _ => decide (as = 0) && decide ((ownL N own).map (·.2) = own) && (tgSlots tg).all (fun j => decide (j ∈ own)) && blkC N sc scope (ownL N own) && noSet i && chkI N sc fb it i t &&
      chkT N (relS scope sc) ⟨fun x => scope.names.lookup x == some .cell, fb.ll⟩ tg t && (match ifs with
      | [] => isNop c
      | [z] => !isNop c && chkM true N (relS scope sc) ⟨fun x => scope.names.lookup x == some .cell, fb.ll⟩ c z
      | _ => false) && chkM false N (relS scope sc) ⟨fun x => scope.names.lookup x == some .cell, fb.ll⟩ elt y
  | .erl g b, .Call (.Name x _) [.Lambda params body scope _] [] _ => fb.ll && decide (S.ename g = some x) && glB sc x && noPar params && LamX.lamSB sc scope && chkM false N scope ⟨fun _ => false, false⟩ b body
  | .isi a t, .Call (.Name x _) [y, .Name z _] [] _ => decide (x = ("isinstance" : Str)) && S.free x && glB sc x && decide (z = (tyName t : Str)) && S.free z && glB sc z && noStar y && chkM false N sc fb a y
  | _, _ => false
def chkMs (t : Bool) (N : List Str) (sc : Scope) (fb : Fb) : IEs → List Expr → Bool
  | .nil, [] => true
  | .cons e es, x :: xs => noStar x && chkM t N sc fb e x && chkMs t N sc fb es xs
  | _, _ => false
def chkI (N : List Str) (sc : Scope) (fb : Fb) : II → Expr → Expr → Bool
  | .ev e, x, _ => chkM false N sc fb e x
  | .rng1 a, .Call (.Name x _) [y] [] _, _ => decide (x = ("range" : Str)) && S.free x && glB sc x && noStar y && chkM false N sc fb a y
  | .rng2 a b, .Call (.Name x _) [y, z] [] _, _ => decide (x = ("range" : Str)) && S.free x && glB sc x && noStar y && noStar z && chkM false N sc fb a y && chkM false N sc fb b z
  | .enm e, .Call (.Name x _) [y] [] _, .Tuple _ _ _ => decide (x = ("enumerate" : Str)) && S.free x && glB sc x && noStar y && chkM false N sc fb e y
  | .zip a b, .Call (.Name x _) [y, z] [] _, .Tuple _ _ _ => decide (x = ("zip" : Str)) && S.free x && glB sc x && noStar y && noStar z && chkM false N sc fb a y && chkM false N sc fb b z
  | _, _, _ => false
end
end

/-! ### what a context must have -/
def spF (G : Gs) (cf : CallF) (f ar : Nat) : Sp := fun vs H Q E => ∃ B ρ st ps, RVs G H B ρ vs ps ∧ RSto G H B ρ st ∧ ps.length = ar ∧ Post G H B ρ (cf f ps st) (fun v H' B' ρ' _ => ∀ x, RV G H' B' ρ' x v → Q x H') E
structure FnOf (G : Gs) (S : Syn) (cf : CallF) (P : Program) (w : World) (base : Heap) (k : Nat) (f : Nat) (x : Str) (d : Df) : Prop where
  ex : ∃ (a : Addr) (fd : FuncData) (ps : List Str), G.F f = some a ∧ G.mg x = some (.ref a) ∧ PySem.W.keepIn G.K (.ref a) = true ∧ Binds G.K fd ps [] ∧ FnOk P w G.K G.mg base (L2.CX P w) k a fd ps (spF G cf f d.ps)
/-- the clauses' classes and words -/
inductive EW (G : Gs) : List (Value × Option Str) → List (Nat × Option (List Nat)) → Prop
  | nil : EW G [] []
  | word {c : Nat} {a : Addr} {w : List Nat} {l : List (Value × Option Str)} {es : List (Nat × Option (List Nat))} (hc : G.C c = some a) (ho : okStr w = true) (hl : w.length ≤ line) (r : EW G l es) : EW G ((.ref a, some (toS w)) :: l) ((c, some w) :: es)
  | skip {c : Nat} {a : Addr} {l : List (Value × Option Str)} {es : List (Nat × Option (List Nat))} (hc : G.C c = some a) (r : EW G l es) : EW G ((.ref a, none) :: l) ((c, none) :: es)
/-- a def that tells the error of what it calls -/
def ErOk (G : Gs) (T : Top) (g : Nat) (x : Str) : Prop :=
  ∃ (ga : Addr) (a : Str) (pg : Arguments) (h0 : ExceptHandler) (hs : List ExceptHandler) (p1 p2 p3 p4 p5 p6 : Pos) (j : Nat) (sg : Scope) (dV kV doc pm cdv ct oc : Value) (an od : Option Addr) (osl : Array (Option Value)) (Ng : List Str) (l : List (Value × Option Str)),
    G.mg x = some (.ref ga) ∧ PySem.W.keepIn G.K (.ref ga) = true ∧
    G.K.lookup ga = some ⟨oc, od, .func (PySem.W.fnOf x x pg [.Try [.Expr (.Call (.Name a p1) [] [] p2) p3] (h0 :: hs) [] [] p4, .Return (some (.Constant (.str "") j p5)) p6] sg dV kV doc pm an cdv ct), osl⟩ ∧
    PySem.W.codeIn G.K cdv x = true ∧ Binds G.K (PySem.W.fnOf x x pg [.Try [.Expr (.Call (.Name a p1) [] [] p2) p3] (h0 :: hs) [] [] p4, .Return (some (.Constant (.str "") j p5)) p6] sg dV kV doc pm an cdv ct) [a] [] ∧
    FnScope Ng [a] sg ∧ Ng[0]? = some a ∧ Vis sg a ∧ dbgB a = true ∧ (x == ("__debug__" : Str)) = false ∧ (∀ f : Addr, (L2.start Ng [V.ref f])[0]? = some (some (V.ref f))) ∧ EW G l (T.errs g) ∧
    ∀ Y : Cx, Y.mg = G.mg → Y.env.scope = sg → Y.N = Ng → TellOk Y (h0 :: hs) l
structure CxOk (G : Gs) (S : Syn) (T : Top) (D : Nat → Option Df) (cf : CallF) (k : Nat) (X : Cx) (W : XK) (N : List Str) (sc : Scope) (fb : Fb) : Prop where
  hK : X.K = G.K
  hmg : X.mg = G.mg
  hN : X.N = N
  nd : N.Nodup
  kind : sc.kind = .function
  hsc : X.env.scope = sc
  hfb : X.fn = fb.f
  calm : X.calm = true
  room : Room (k + (if fb.ll = true then 4 else 2)) X.A
  tk : Takes X (fun c d _ H => W c d H)
  free : ∀ x, S.free x = true → G.mg x = none
  kt : G.kt = T.kt
  er : ∀ (g : Nat) (x : Str), S.ename g = some x → ErOk G T g x
  exm : ∀ (c1 c2 : Nat) (a1 a2 : Addr), G.C c1 = some a1 → G.C c2 = some a2 → PySem.W.exmOne G.K (.ref a1) (.ref a2) = some (T.under c1 c2)
  lam : fb.ll = true → ∃ c P : Addr, LamX.TabB X.base X.mg c P ∧ X.env.code = .ref c ∧ (P, X.env.qual ++ "<lambda>") ∈ G.T ∧ ∀ p ∈ G.T, p.1 = P → p.2 = X.env.qual ++ "<lambda>"
  cs : ∀ (c : Nat) (x : Str) (v : PV), S.cname c = some x → T.cs[c]? = some v → ∃ (u : Value) (y : V), G.mg x = some u ∧ RelV y u ∧ ∀ H B ρ, RV G H B ρ y v
  fns : ∀ (f : Nat) (x : Str), S.fname f = some x → (∃ d, D f = some d ∧ FnOf G S cf X.prog X.w X.base k f x d) ∧ ∀ vs st d, D f = some d → vs.length ≠ d.ps → cf f vs st = .stuck

/-! ### of the text -/
theorem kindB_ok {sc : Scope} {x : Str} {k : NameKind} (h : kindB sc x k = true) : sc.names.lookup x = some k := of_decide_eq_true h
theorem visB_ok {sc : Scope} {x : Str} (h : visB sc x = true) : Vis sc x := by
  unfold visB at h
  simp only [Bool.or_eq_true] at h
  rcases h with (h | h) | h
  · exact .inl (kindB_ok h)
  · exact .inr (.inl (kindB_ok h))
  · exact .inr (.inr (kindB_ok h))
theorem dbgB_ok {x : Str} (h : dbgB x = true) : (x == ("__debug__" : Str)) = false ∧ (x == ("__classdict__" : Str)) = false := by
  unfold dbgB at h
  simpa using h
theorem glB_ok {sc : Scope} {x : Str} (h : glB sc x = true) : sc.names.lookup x = some .globalImplicit ∧ (x == ("__debug__" : Str)) = false ∧ x ≠ "__name__" := by
  unfold glB at h
  simp only [Bool.and_eq_true, Bool.not_eq_true', decide_eq_false_iff_not] at h
  exact ⟨kindB_ok h.1.1, (dbgB_ok h.1.2).1, h.2⟩
theorem noStar_ok {e : Expr} (h : noStar e = true) (es : List Expr) (env : PySem.Env) : starEach (e :: es) env = (false, eval e env) :: starEach es env := by
  cases e <;> first | rfl | (cases h; done)
theorem noSet_ok {e : Expr} (h : noSet e = true) (env : PySem.Env) : ∀ x, foldedSetIterable e env x = pure x := by
  intro x
  cases e <;> first | rfl | (cases h; done)
theorem noMark_ok {e : Expr} (h : noSet e = true) (op : CmpOp) : behindInMarks op e = false := by
  cases e <;> first | rfl | (cases h; done)
theorem noSlice_ok {e : Expr} (h : noSlice e = true) : PlainIx e := by
  intro o i
  cases e <;> first | rfl | (cases h; done)
theorem plainT_ok {e : Expr} (h : plainT e = true) (env : PySem.Env) : ∀ whole, isTrue e env whole = (do let v ← whole; standAt e.pos; holding [v] (truthy v)) := by
  intro whole
  cases e with
  | UnaryOp op a p => cases op <;> first | rfl | (cases h; done)
  | _ => first | rfl | (cases h; done)
theorem noCall_ok {e : Expr} (h : noCall e = true) (m : Str) (env : PySem.Env) : attributeBase e m env (eval e env) = eval e env := by
  cases e <;> first | rfl | (cases h; done)
theorem noCall_method {e : Expr} (h : noCall e = true) : True := trivial
end MP

set_option Elab.async false
set_option linter.all false
set_option maxRecDepth 100000
set_option maxHeartbeats 4000000
/-! MSound: what the evaluator says, the model does: expressions. -/
namespace MP
open PySem PySem.Spec PyProof.Rows L2

section
variable {G : Gs} {S : Syn} {T : Top} {D : Nat → Option Df} {cf : CallF} {k : Nat} {X : Cx} {W : XK} {N : List Str} {sc : Scope} {fb : Fb}
variable {H H' : Hp} {B ρ B' ρ' : List Addr} {st : Sto}

/-! ### monotone parts -/
theorem post_weak {o : Out PV} {Q Q' : VK} {E : XK} (p : Post G H B ρ o (fun v H' B' ρ' _ => ∀ x, RV G H' B' ρ' x v → Q x H') E) (h : ∀ x H', Q x H' → Q' x H') : Post G H B ρ o (fun v H' B' ρ' _ => ∀ x, RV G H' B' ρ' x v → Q' x H') E :=
  p.imp fun v H' B' ρ' st' _ _ q x rx => h x H' (q x rx)

theorem CxOk.room2 (C : CxOk G S T D cf k X W N sc fb) : Room (k + 2) X.A := C.room.mono (by split <;> omega)
theorem CxOk.units (C : CxOk G S T D cf k X W N sc fb) : X.A.units + 200 < cLine := by
  have := C.room2.un
  omega

/-- one after another: e first, then what comes of its value -/
theorem seqE {m : MP.M PV} {f : PV → MP.Env → Sto → Out PV} {σ : L2.St} {H : Hp} {Q : VK} {R : V → Hp → Prop}
    (h : tE G W (fun env st => (m env st).bind fun x st1 => f x env st1) σ H Q)
    (go : ∀ (B ρ : List Addr) (env : MP.Env) (st : Sto) (x : V) (p : PV) (H1 : Hp), REnv G H1 B ρ σ env → RSto G H1 B ρ st → RV G H1 B ρ x p → Post G H1 B ρ (f p env st) (fun v H' B' ρ' _ => ∀ x, RV G H' B' ρ' x v → Q x H') W → R x H1) :
    tE G W m σ H R := by
  obtain ⟨B, ρ, env, st, re, rs, p⟩ := h
  refine ⟨B, ρ, env, st, re, rs, (Post.bind p).imp fun v H1 B1 ρ1 st1 e1 rs1 p1 x rx => ?_⟩
  exact go B1 ρ1 env st1 x v H1 (re.ext e1 rs.sub) rs1 rx p1
theorem two {ma mb : MP.M PV} {f : PV → PV → Sto → Out PV} {σ : L2.St} {H : Hp} {Q : VK}
    (h : tE G W (fun env st => (ma env st).bind fun x st1 => (mb env st1).bind fun y st2 => f x y st2) σ H Q) :
    tE G W ma σ H fun x H1 => tE G W mb σ H1 fun y H2 => r2 G W f x y H2 Q := by
  refine seqE h fun B ρ env st x p H1 re rs rx p1 => ⟨B, ρ, env, st, re, rs, (Post.bind p1).imp fun v H2 B2 ρ2 st2 e2 rs2 p2 y ry => ?_⟩
  exact ⟨B2, ρ2, st2, p, v, rx.ext e2 rs.sub, ry, rs2, p2⟩
theorem TruV_of {K : PySem.W.Frag} {x : V} {p : PV} {b : Bool} (hK : K = G.K) (rx : RV G H B ρ x p) (rs : RSto G H B ρ st) (h : truth (rd st p) = some b) : TruV K x H b := by
  have d := rx.rdb rs
  generalize rd st p = p' at h d
  cases d with
  | non => cases h; rfl
  | bl => cases h; rfl
  | int => cases h; rfl
  | @str t z hl =>
    cases h
    refine ⟨by rw [toS_length, ← line_eq]; exact hl, ?_⟩
    rw [toS_length]
    cases t with
    | nil => rfl
    | cons a r =>
      have e : (((a :: r).length : Int) != 0) = true := by
        simp
        omega
      rw [e]
      rfl
  | @tup a xs ps z r =>
    cases h
    exact .inr (.inl ⟨xs, by rw [hK]; exact z, by rw [r.isEmpty]⟩)
  | @lst a xs ps z r =>
    cases h
    exact .inl ⟨xs, .inl (.inl z), by rw [r.isEmpty]⟩
  | oth hd => cases p' <;> first | (cases hd; done) | (cases h; done)
theorem gl_ok (C : CxOk G S T D cf k X W N sc fb) {x : Str} (h : glB sc x = true) : Gl X x := by
  show X.env.kindOf x = some .globalImplicit
  have e := (glB_ok h).1
  show X.env.scope.names.lookup x = _
  rw [C.hsc]
  exact e
theorem conB_ok {v : PV} {c : Const} (h : conB v c = true) {j : Nat} {pos : Pos} : PE X (.Constant c j pos) (tE G W (fun _ st => .ok v st)) := by
  cases v with
  | non =>
    cases c <;> first | (cases h; done) | skip
    exact PE.mono pe_non fun σ H Q ⟨B, ρ, env, st, re, rs, p⟩ => p.here rs _ .non
  | bl a =>
    cases c <;> first | (cases h; done) | skip
    rename_i b
    have e : a = b := eq_of_beq h
    subst e
    exact PE.mono pe_bl fun σ H Q ⟨B, ρ, env, st, re, rs, p⟩ => p.here rs _ (.bl _)
  | int i =>
    cases c <;> first | (cases h; done) | skip
    rename_i b
    have e : i = b := of_decide_eq_true h
    subst e
    exact PE.mono pe_int fun σ H Q ⟨B, ρ, env, st, re, rs, p⟩ => p.here rs _ (.int _)
  | str t =>
    cases c <;> first | (cases h; done) | skip
    rename_i z
    have h' : (decide (z = toS t) && okStr t && decide (t.length ≤ line)) = true := h
    simp only [Bool.and_eq_true, decide_eq_true_eq] at h'
    obtain ⟨⟨e, ho⟩, hl⟩ := h'
    subst e
    exact PE.mono pe_str fun σ H Q ⟨B, ρ, env, st, re, rs, p⟩ => p.here rs _ (.str ho hl)
  | _ => cases c <;> cases h
/-- a name of a slot -/
theorem var_ok (C : CxOk G S T D cf k X W N sc fb) {i : Nat} {x : Str} {pos : Pos} (h : (decide (N[i]? = some x) && visB sc x && dbgB x) = true) : PE X (.Name x pos) (tE G W (ev T cf (.var i))) := by
  simp only [Bool.and_eq_true, decide_eq_true_eq] at h
  obtain ⟨⟨h1, h2⟩, h3⟩ := h
  refine PE.mono (pe_var (i := i) (by rw [C.hN]; exact h1) (by rw [C.hsc]; exact visB_ok h2) (dbgB_ok h3).1 (dbgB_ok h3).2) fun σ H Q ⟨B, ρ, env, st, re, rs, p⟩ => ?_
  have p' : Post G H B ρ (match env[i]? with
    | some (some v) => Out.ok v st
    | _ => .stuck) (fun v H' B' ρ' _ => ∀ x, RV G H' B' ρ' x v → Q x H') W := by
    rw [ev] at p
    exact p
  cases e : env[i]? with
  | none => rw [e] at p'; exact p'.elim
  | some o =>
    rw [e] at p'
    cases o with
    | none => exact (show False from p').elim
    | some v =>
      obtain ⟨y, h1, h2⟩ := re.at_ i v e
      exact ⟨y, h1, p'.here rs y h2⟩
theorem cmp_ok (C : CxOk G S T D cf k X W N sc fb) (op : CmpOp) : OpR X (compareOp op) (r2 G W (fun p q st => blOut (cmpop op p q st) st)) := by
  cases op with
  | Eq => exact op_eqM C.hK C.units
  | NotEq => exact op_neM C.hK C.units
  | Lt => exact op_ordS (fun _ _ _ => rfl) op_lt op_lt_str
  | LtE => exact op_ordI (fun _ _ _ => rfl) op_le
  | Gt => exact op_ordS (fun _ _ _ => rfl) op_gt op_gt_str
  | GtE => exact op_ordI (fun _ _ _ => rfl) op_ge
  | Is => exact op_isM (neg := false)
  | IsNot => exact op_isM (neg := true)
  | In =>
    intro pins s σ H x y v u Q I rx ry hh
    obtain ⟨B, ρ, st, p, q, hp, hq, rs, h⟩ := hh
    obtain ⟨b, e, hQ⟩ := post_bl rs h
    refine isIn_seq (neg := false) C.hK C.units I rx ry hp hq rs (fun n => ?_) e hQ
    by_cases z : q = .ref n
    · subst z
      have e' : isIn2 p (rd st (.ref n)) = some b := e
      cases hr : rd st (.ref n) with
      | lst xs => exact .inr ⟨xs, rfl⟩
      | tup xs => exact absurd (rd_tup hr) (by intro z; cases z)
      | str xs => exact absurd (rd_str hr) (by intro z; cases z)
      | _ => rw [hr] at e'; cases e'
    · exact .inl z
  | NotIn =>
    intro pins s σ H x y v u Q I rx ry hh
    obtain ⟨B, ρ, st, p, q, hp, hq, rs, h⟩ := hh
    obtain ⟨b, e, hQ⟩ := post_bl rs h
    have e2 : (isIn p q st).map (!·) = some b := e
    cases e3 : isIn p q st with
    | none => rw [e3] at e2; cases e2
    | some c =>
      rw [e3] at e2
      cases e2
      refine isIn_seq (neg := true) C.hK C.units I rx ry hp hq rs (fun n => ?_) e3 hQ
      by_cases z : q = .ref n
      · subst z
        have e' : isIn2 p (rd st (.ref n)) = some c := e3
        cases hr : rd st (.ref n) with
        | lst xs => exact .inr ⟨xs, rfl⟩
        | tup xs => exact absurd (rd_tup hr) (by intro z; cases z)
        | str xs => exact absurd (rd_str hr) (by intro z; cases z)
        | _ => rw [hr] at e'; cases e'
      · exact .inl z

/-! ### nodes -/
theorem tup_ok {es : IEs} {xs : List Expr} {j : Nat} {pos : Pos} (h : PA X xs (tAs G W (evs T cf es))) : PE X (.Tuple xs j pos) (tE G W (ev T cf (.tup es))) := by
  refine PE.mono (pe_tup h) fun σ H Q ⟨B, ρ, env, st, re, rs, p⟩ => ?_
  rw [ev] at p
  exact ⟨B, ρ, env, st, re, rs, (Post.bind p).imp fun vs H1 B1 ρ1 st1 e1 rs1 p1 xs rxs => post_newT rs1 rxs p1⟩
theorem lst_ok {m : Bool} {es : IEs} {xs : List Expr} {pos : Pos} (h : PA X xs (tAs G W (evs T cf es))) : PE X (.List xs pos) (tE G W (ev T cf (.lst m es))) := by
  refine PE.mono (pe_lst h) fun σ H Q ⟨B, ρ, env, st, re, rs, p⟩ => ?_
  rw [ev] at p
  exact ⟨B, ρ, env, st, re, rs, (Post.bind p).imp fun vs H1 B1 ρ1 st1 e1 rs1 p1 xs rxs => post_newL rs1 rxs p1⟩
theorem dct_ok {t : Bool} {pos : Pos} : PE X (.Dict [] [] pos) (tE G W (ev T cf (.dct t))) := by
  cases t with
  | true =>
    refine PE.mono pe_dnewT fun σ H Q ⟨B, ρ, env, st, re, rs, p⟩ a ha => ?_
    rw [ev] at p
    refine p _ (a :: B) (ρ ++ [a]) (ext_newM rs ha) (sto_newM rs ha (show isMut (.dT []) from True.intro) (.dT upd_same .nil)) _ (.ref ?_)
    rw [← rs.len]
    simp
  | false =>
    refine PE.mono pe_dnewK fun σ H Q ⟨B, ρ, env, st, re, rs, p⟩ a ha => ?_
    rw [ev] at p
    refine p _ (a :: B) (ρ ++ [a]) (ext_newM rs ha) (sto_newM rs ha (show isMut (.dK []) from True.intro) (.dK upd_same .nil)) _ (.ref ?_)
    rw [← rs.len]
    simp
theorem bin_ok (C : CxOk G S T D cf k X W N sc fb) {m : Bool} {op : Operator} {a b : IE} {x y : Expr} {pos : Pos} (ha : PE X x (tE G W (ev T cf a))) (hb : PE X y (tE G W (ev T cf b))) : PE X (.BinOp x op y pos) (tE G W (ev T cf (.bin m op a b))) := by
  refine PE.mono (pe_op (op_bin (W := W) C.hK m op) ha hb) fun σ H Q ⟨B, ρ, env, st, re, rs, p⟩ => ?_
  rw [ev] at p
  exact two (f := binop m op) ⟨B, ρ, env, st, re, rs, p⟩
theorem cmpE_ok (C : CxOk G S T D cf k X W N sc fb) {op : CmpOp} {a b : IE} {x y : Expr} {pos : Pos} (hy : noSet y = true) (ha : PE X x (tE G W (ev T cf a))) (hb : PE X y (tE G W (ev T cf b))) : PE X (.Compare x [op] [y] pos) (tE G W (ev T cf (.cmp op a b))) := by
  refine PE.mono (pe_cmpR (cmp_ok (W := W) C op) ha hb (noMark_ok hy op)) fun σ H Q ⟨B, ρ, env, st, re, rs, p⟩ => ?_
  rw [ev] at p
  exact two (f := fun x y st => blOut (cmpop op x y st) st) ⟨B, ρ, env, st, re, rs, p⟩
theorem neg_ok {a : IE} {x : Expr} {pos : Pos} (ha : PE X x (tE G W (ev T cf a))) : PE X (.UnaryOp .USub x pos) (tE G W (ev T cf (.neg a))) := by
  refine PE.mono (pe_un un_neg ha) fun σ H Q ⟨B, ρ, env, st, re, rs, p⟩ => ?_
  rw [ev] at p
  refine ⟨B, ρ, env, st, re, rs, (Post.bind p).imp fun v H1 B1 ρ1 st1 e1 rs1 p1 x rx => ?_⟩
  cases rx with
  | int i => exact ⟨i, rfl, p1.here rs1 _ (.int _)⟩
  | _ => exact (show False from p1).elim
theorem notE_ok (C : CxOk G S T D cf k X W N sc fb) {a : IE} {x : Expr} {pos : Pos} (ha : PE X x (tE G W (ev T cf a))) : PE X (.UnaryOp .Not x pos) (tE G W (ev T cf (.not a))) := by
  refine PE.mono (pe_notT ha) fun σ H Q ⟨B, ρ, env, st, re, rs, p⟩ => ?_
  rw [ev] at p
  refine ⟨B, ρ, env, st, re, rs, (Post.bind p).imp fun v H1 B1 ρ1 st1 e1 rs1 p1 x rx => ?_⟩
  obtain ⟨b, e, hQ⟩ := post_bl rs1 p1
  cases et : truth (rd st1 v) with
  | none => rw [et] at e; cases e
  | some c =>
    rw [et] at e
    cases e
    exact ⟨c, TruV_of C.hK rx rs1 et, hQ⟩
theorem ife_ok {c a b : IE} {x y z : Expr} {pos : Pos} (hc : PT X x (tT G W (test T cf c))) (ha : PE X y (tE G W (ev T cf a))) (hb : PE X z (tE G W (ev T cf b))) : PE X (.IfExp x y z pos) (tE G W (ev T cf (.ife c a b))) := by
  refine PE.mono (pe_ifExp hc ha hb) fun σ H Q ⟨B, ρ, env, st, re, rs, p⟩ => ?_
  rw [ev] at p
  refine ⟨B, ρ, env, st, re, rs, (Post.bind p).imp fun v H1 B1 ρ1 st1 e1 rs1 p1 => ?_⟩
  cases v with
  | true => exact ⟨B1, ρ1, env, st1, re.ext e1 rs.sub, rs1, p1⟩
  | false => exact ⟨B1, ρ1, env, st1, re.ext e1 rs.sub, rs1, p1⟩
theorem bls_out {o : Option Bool} {st : Sto} {Q : VK} (rs : RSto G H B ρ st) {f : Bool → Out PV} (h : Post G H B ρ (match o with
    | some b => f b
    | none => .stuck) (fun v H' B' ρ' _ => ∀ x, RV G H' B' ρ' x v → Q x H') W) : ∃ b, o = some b ∧ Post G H B ρ (f b) (fun v H' B' ρ' _ => ∀ x, RV G H' B' ρ' x v → Q x H') W := by
  cases o with
  | none => exact h.elim
  | some b => exact ⟨b, rfl, h⟩
theorem evB_one {a : IE} {kk : Bool} : evB T cf kk (.cons a .nil) = fun σ st => (ev T cf a σ st).bind fun x st1 => .ok x st1 := by
  funext σ st
  rw [evB]
theorem evB_more {a b : IE} {es : IEs} {kk : Bool} : evB T cf kk (.cons a (.cons b es)) = fun σ st => (ev T cf a σ st).bind fun x st1 => (match truth (rd st1 x) with
      | some t => if t = kk then evB T cf kk (.cons b es) σ st1 else .ok x st1
      | none => .stuck) := by
  funext σ st
  rw [evB]
  try rfl
theorem ev_bop {a : IE} {es : IEs} {kk : Bool} : ev T cf (.bop kk a es) = evB T cf kk (.cons a es) := by
  funext σ st
  cases es with
  | nil => rw [ev, evB]
  | cons b es => rw [ev, evB]
theorem one_ok {o : BoolOp} {kk : Bool} {a : IE} {x : Expr} {pos : Pos} (ha : PE X x (tE G W (ev T cf a))) : PE X (.BoolOp o [x] pos) (tE G W (evB T cf kk (.cons a .nil))) := by
  refine PE.mono (pe_one ha) fun σ H Q ⟨B, ρ, env, st, re, rs, p⟩ => ?_
  rw [evB_one] at p
  exact ⟨B, ρ, env, st, re, rs, (Post.bind p).imp fun v H1 B1 ρ1 st1 e1 rs1 p1 x rx => p1.here rs1 x rx⟩
theorem more_ok (C : CxOk G S T D cf k X W N sc fb) {kk : Bool} {a b : IE} {es : IEs} {x y : Expr} {ys : List Expr} {pos : Pos} (ha : PE X x (tE G W (ev T cf a))) (hb : PE X (.BoolOp (bopOf kk) (y :: ys) pos) (tE G W (evB T cf kk (.cons b es)))) :
    PE X (.BoolOp (bopOf kk) (x :: y :: ys) pos) (tE G W (evB T cf kk (.cons a (.cons b es)))) := by
  cases kk with
  | true =>
    refine PE.mono (pe_andT ha hb) fun σ H Q ⟨B, ρ, env, st, re, rs, p⟩ => ?_
    rw [evB_more] at p
    refine ⟨B, ρ, env, st, re, rs, (Post.bind p).imp fun v H1 B1 ρ1 st1 e1 rs1 p1 x rx => ?_⟩
    obtain ⟨t, et, p2⟩ := bls_out (f := fun t => if t = true then evB T cf true (.cons b es) env st1 else .ok v st1) rs1 p1
    refine ⟨t, TruV_of C.hK rx rs1 et, ?_⟩
    cases t with
    | true => exact ⟨B1, ρ1, env, st1, re.ext e1 rs.sub, rs1, p2⟩
    | false => exact p2.here rs1 x rx
  | false =>
    refine PE.mono (pe_orT ha hb) fun σ H Q ⟨B, ρ, env, st, re, rs, p⟩ => ?_
    rw [evB_more] at p
    refine ⟨B, ρ, env, st, re, rs, (Post.bind p).imp fun v H1 B1 ρ1 st1 e1 rs1 p1 x rx => ?_⟩
    obtain ⟨t, et, p2⟩ := bls_out (f := fun t => if t = false then evB T cf false (.cons b es) env st1 else .ok v st1) rs1 p1
    refine ⟨t, TruV_of C.hK rx rs1 et, ?_⟩
    cases t with
    | true => exact p2.here rs1 x rx
    | false => exact ⟨B1, ρ1, env, st1, re.ext e1 rs.sub, rs1, p2⟩
/-! tests -/
theorem testV_ok (C : CxOk G S T D cf k X W N sc fb) {a : IE} {x : Expr} (hp : plainT x = true) (ha : PE X x (tE G W (ev T cf a)))
    (ht : test T cf a = fun σ st => (ev T cf a σ st).bind fun x st1 => (match truth (rd st1 x) with
      | some b => Out.ok b st1
      | none => .stuck)) : PT X x (tT G W (test T cf a)) := by
  refine PT.mono (pt_truth ha (plainT_ok hp X.env)) fun σ H Q ⟨B, ρ, env, st, re, rs, p⟩ => ?_
  rw [ht] at p
  refine ⟨B, ρ, env, st, re, rs, (Post.bind p).imp fun v H1 B1 ρ1 st1 e1 rs1 p1 x rx => ?_⟩
  cases et : truth (rd st1 v) with
  | none => rw [et] at p1; exact p1.elim
  | some b =>
    rw [et] at p1
    exact ⟨b, TruV_of C.hK rx rs1 et, p1.here rs1⟩
/-- a test by the value True, False of its expression -/
theorem post_testB {a : IE} {σ : L2.St} {H : Hp} {Q : Bool → Hp → Prop} (ht : test T cf a = fun σ st => (ev T cf a σ st).bind fun x st1 => (match truth (rd st1 x) with
      | some b => Out.ok b st1
      | none => .stuck)) (hb : ∀ env st v st', ev T cf a env st = .ok v st' → ∃ b, v = .bl b) (h : tT G W (test T cf a) σ H Q) : tE G W (ev T cf a) σ H fun x H' => ∃ b, x = .bl b ∧ Q b H' := by
  obtain ⟨B, ρ, env, st, re, rs, p⟩ := h
  rw [ht] at p
  refine ⟨B, ρ, env, st, re, rs, ?_⟩
  have q := Post.bind p
  cases e : ev T cf a env st with
  | exc x st1 => rw [e] at q; exact q
  | stuck => rw [e] at q; exact q
  | ok v st1 =>
    rw [e] at q
    obtain ⟨b, rfl⟩ := hb _ _ _ _ e
    intro H' B' ρ' ex r x rx
    cases rx
    have q2 := q H' B' ρ' ex r
    exact ⟨b, rfl, Post.here (show Post G H' B' ρ' (.ok b st1) (fun b H' _ _ _ => Q b H') W from q2) r⟩
theorem bl_of {o : Option Bool} {st st' : Sto} {v : PV} (h : blOut o st = .ok v st') : ∃ b, v = .bl b := by
  cases o with
  | none => cases h
  | some b => cases h; exact ⟨b, rfl⟩
theorem bind_ok {α β : Type} {o : Out α} {f : α → Sto → Out β} {v : β} {st : Sto} (h : o.bind f = .ok v st) : ∃ a st1, o = .ok a st1 ∧ f a st1 = .ok v st := by
  cases o with
  | ok a st1 => exact ⟨a, st1, rfl, h⟩
  | exc => cases h
  | stuck => cases h
theorem cmpT_ok (C : CxOk G S T D cf k X W N sc fb) {op : CmpOp} {a b : IE} {x y : Expr} {pos : Pos} (hy : noSet y = true) (ha : PE X x (tE G W (ev T cf a))) (hb : PE X y (tE G W (ev T cf b))) : PT X (.Compare x [op] [y] pos) (tT G W (test T cf (.cmp op a b))) := by
  refine PT.mono (pt_cmpR (cmp_ok (W := W) C op) ha hb (noMark_ok hy op)) fun σ H Q h => ?_
  have ht : test T cf (.cmp op a b) = fun σ st => (ev T cf (.cmp op a b) σ st).bind fun x st1 => (match truth (rd st1 x) with
      | some b => Out.ok b st1
      | none => .stuck) := by
    funext σ st
    rw [test] <;> first | rfl | (intros; rename_i h; cases h)
  obtain ⟨B, ρ, env, st, re, rs, p⟩ := post_testB ht (fun env st v st' e => by
    rw [ev] at e
    obtain ⟨_, _, _, e⟩ := bind_ok e
    obtain ⟨_, _, _, e⟩ := bind_ok e
    exact bl_of e) h
  rw [ev] at p
  exact two (f := fun x y st => blOut (cmpop op x y st) st) ⟨B, ρ, env, st, re, rs, p⟩

/-! chains, dicts -/
theorem three {ma mb mc : MP.M PV} {f g : PV → PV → Sto → Option Bool} {σ : L2.St} {H : Hp} {Q : VK}
    (h : tE G W (fun env st => (ma env st).bind fun x st1 => (mb env st1).bind fun y st2 => (match f x y st2 with
      | some true => (mc env st2).bind fun z st3 => blOut (g y z st3) st3
      | some false => .ok (.bl false) st2
      | none => .stuck)) σ H Q) :
    tChain (r2 G W fun x y st => blOut (f x y st) st) (r2 G W fun x y st => blOut (g x y st) st) (tE G W ma) (tE G W mb) (tE G W mc) σ H Q := by
  obtain ⟨B, ρ, env, st, re, rs, p⟩ := h
  refine ⟨B, ρ, env, st, re, rs, (Post.bind p).imp fun v H1 B1 ρ1 st1 e1 rs1 p1 x rx => ?_⟩
  have re1 := re.ext e1 rs.sub
  refine ⟨B1, ρ1, env, st1, re1, rs1, (Post.bind p1).imp fun w H2 B2 ρ2 st2 e2 rs2 p2 y ry => ?_⟩
  have rx2 := rx.ext e2 rs1.sub
  have re2 := re1.ext e2 rs1.sub
  refine ⟨B2, ρ2, st2, v, w, rx2, ry, rs2, ?_⟩
  cases e : f v w st2 with
  | none => rw [e] at p2; exact p2.elim
  | some t =>
    rw [e] at p2
    show Post G H2 B2 ρ2 (blOut (f v w st2) st2) _ _
    rw [e]
    intro H3 B3 ρ3 e3 rs3 z rz
    cases rz
    refine ⟨t, rfl, ?_⟩
    cases t with
    | false => exact p2 H3 B3 ρ3 e3 rs3 _ (.bl false)
    | true =>
      have p3 := Post.ext p2 e3
      refine ⟨B3, ρ3, env, st2, re2.ext e3 rs2.sub, rs3, (Post.bind p3).imp fun u H4 B4 ρ4 st4 e4 rs4 p4 z rz => ?_⟩
      exact ⟨B4, ρ4, st4, w, u, (ry.ext e3 rs2.sub).ext e4 rs3.sub, rz, rs4, p4⟩
theorem lastM {o r : CmpOp} {y z : Expr} (hy : noSet y = true) (hz : noSet z = true) : lastMarks [o, r] [y, z] = false := noMark_ok hz r
theorem chnE_ok (C : CxOk G S T D cf k X W N sc fb) {o r : CmpOp} {a b c : IE} {x y z : Expr} {pos : Pos} (hy : noSet y = true) (hz : noSet z = true) (ha : PE X x (tE G W (ev T cf a))) (hb : PE X y (tE G W (ev T cf b))) (hc : PE X z (tE G W (ev T cf c))) :
    PE X (.Compare x [o, r] [y, z] pos) (tE G W (ev T cf (.chn o r a b c))) := by
  refine PE.mono (pe_chain (cmp_ok (W := W) C o) (cmp_ok (W := W) C r) ha hb hc (lastM hy hz)) fun σ H Q ⟨B, ρ, env, st, re, rs, p⟩ => ?_
  rw [ev] at p
  exact three (f := cmpop o) (g := cmpop r) ⟨B, ρ, env, st, re, rs, p⟩
theorem testV {a : IE} (h : ∀ σ st, test T cf a σ st = (ev T cf a σ st).bind fun x st1 => (match truth (rd st1 x) with
      | some b => Out.ok b st1
      | none => .stuck)) : test T cf a = fun σ st => (ev T cf a σ st).bind fun x st1 => (match truth (rd st1 x) with
      | some b => Out.ok b st1
      | none => .stuck) := by
  funext σ st
  exact h σ st
theorem chnT_ok (C : CxOk G S T D cf k X W N sc fb) {o r : CmpOp} {a b c : IE} {x y z : Expr} {pos : Pos} (hy : noSet y = true) (hz : noSet z = true) (ha : PE X x (tE G W (ev T cf a))) (hb : PE X y (tE G W (ev T cf b))) (hc : PE X z (tE G W (ev T cf c))) :
    PT X (.Compare x [o, r] [y, z] pos) (tT G W (test T cf (.chn o r a b c))) := by
  refine PT.mono (pt_chain (cmp_ok (W := W) C o) (cmp_ok (W := W) C r) ha hb hc (lastM hy hz)) fun σ H Q h => ?_
  have ht := testV (T := T) (cf := cf) (a := .chn o r a b c) (fun σ st => by rw [test] <;> first | rfl | (intros; rename_i h; cases h))
  obtain ⟨B, ρ, env, st, re, rs, p⟩ := post_testB ht (fun env st v st' e => by
    rw [ev] at e
    obtain ⟨_, _, _, e⟩ := bind_ok e
    obtain ⟨_, _, _, e⟩ := bind_ok e
    split at e
    · obtain ⟨_, _, _, e⟩ := bind_ok e
      exact bl_of e
    · cases e; exact ⟨_, rfl⟩
    · cases e) h
  rw [ev] at p
  exact three (f := cmpop o) (g := cmpop r) ⟨B, ρ, env, st, re, rs, p⟩
/-- what a dict has -/
theorem dget_ok {kt : List (List PV)} {d y : V} {p q : PV} {o : Option PV} (hk : G.kt = kt) (rd' : RV G H B ρ d p) (ry : RV G H B ρ y q) (rs : RSto G H B ρ st) (h : dget kt p q st = some o) :
    ∃ a z, d = .ref a ∧ DGet H a y z ∧ z.isSome = o.isSome ∧ ∀ v, o = some v → ∃ x, z = some x ∧ RV G H B ρ x v := by
  cases rd' with
  | @ref a n ha =>
    have h' : (match st[n]? with
      | some (.dK kvs) => if isKey q then some (look q kvs) else none
      | some (.dT kvs) => if isTKey kt q then some (look q kvs) else none
      | _ => none) = some o := h
    cases hn : st[n]? with
    | none => rw [hn] at h'; cases h'
    | some m =>
      rw [hn] at h'
      have ro := rs.obj n a m ha hn
      cases ro with
      | @dK ks vs hH r =>
        have h2 : (if isKey q then some (look q vs) else none) = some o := h'
        by_cases hq : isKey q = true
        · rw [if_pos hq] at h2
          cases h2
          have key : ∃ kk : Key, y = kV kk ∧ q = kP kk := by
            cases ry with
            | int i => exact ⟨.inl i, rfl, rfl⟩
            | @str t _ _ => exact ⟨.inr (toS t), rfl, by simp [kP]⟩
            | _ => cases hq
          obtain ⟨kk, rfl, rfl⟩ := key
          obtain ⟨l1, l2⟩ := RKs.look eqv_kP (k := kk) r
          refine ⟨a, valV ks kk, rfl, DGet.k hH, ?_, l1⟩
          cases e : look (kP kk) vs with
          | none => rw [l2 e]; rfl
          | some v =>
            obtain ⟨x, ex, _⟩ := l1 v e
            rw [ex] <;> rfl
        · rw [if_neg hq] at h2
          cases h2
      | @dT ks vs hH r =>
        have h2 : (if isTKey kt q then some (look q vs) else none) = some o := h'
        by_cases hq : isTKey kt q = true
        · rw [if_pos hq] at h2
          cases h2
          have key : ∃ (b : Addr) (kk : List Key), y = .ref b ∧ H b = some (.tup (kk.map kV)) ∧ q = ktP kk := by
            have keysOf : ∀ {xs : List V} {ps : List PV}, RVs G H B ρ xs ps → ps.all isKey = true → ∃ kk : List Key, xs = kk.map kV ∧ ps = kk.map kP := by
              intro xs ps hr hall
              induction hr using RVs.rec (motive_1 := fun _ _ _ => True) with
              | nil => exact ⟨[], rfl, rfl⟩
              | cons h r _ ih =>
                simp only [List.all_cons, Bool.and_eq_true] at hall
                obtain ⟨kk, e1, e2⟩ := ih hall.2
                cases h with
                | int i => exact ⟨.inl i :: kk, by rw [e1] <;> rfl, by rw [e2] <;> rfl⟩
                | @str t _ _ => exact ⟨.inr (toS t) :: kk, by rw [e1] <;> rfl, by rw [e2]; simp [kP]⟩
                | _ => cases hall.1
              | _ => trivial
            cases ry with
            | @tup b xs ps hb r2 =>
              have hq' : (ps.all isKey && !(kt.any fun ys => eqvs ys ps)) = true := hq
              obtain ⟨kk, rfl, rfl⟩ := keysOf r2 (Bool.and_eq_true_iff.mp hq').1
              exact ⟨b, kk, rfl, hb, rfl⟩
            | @ktup b xs ps hb hm r2 =>
              have hq' : (ps.all isKey && !(kt.any fun ys => eqvs ys ps)) = true := hq
              exfalso
              have h3 := (Bool.and_eq_true_iff.mp hq').2
              have h4 : (kt.any fun ys => eqvs ys ps) = true := by
                rw [List.any_eq_true]
                refine ⟨ps, by rw [← hk]; exact hm, ?_⟩
                obtain ⟨kk, _, e2⟩ := keysOf r2 (Bool.and_eq_true_iff.mp hq').1
                rw [e2, eqvs_kP]
                simp
              rw [h4] at h3
              cases h3
            | _ => cases hq
          obtain ⟨b, kk, rfl, hb, rfl⟩ := key
          obtain ⟨l1, l2⟩ := RKs.look eqv_ktP (k := kk) r
          refine ⟨a, valV ks kk, rfl, DGet.t hH hb, ?_, l1⟩
          cases e : look (ktP kk) vs with
          | none => rw [l2 e]; rfl
          | some v =>
            obtain ⟨x, ex, _⟩ := l1 v e
            rw [ex] <;> rfl
        · rw [if_neg hq] at h2
          cases h2
      | lst => cases h'
  | _ => cases h
theorem dix_ok (C : CxOk G S T D cf k X W N sc fb) {a b : IE} {x y : Expr} {pos : Pos} (hy : noSlice y = true) (ha : PE X x (tE G W (ev T cf a))) (hb : PE X y (tE G W (ev T cf b))) : PE X (.Subscript x y pos) (tE G W (ev T cf (.dix a b))) := by
  refine PE.mono (pe_dget (by have := C.units; omega) ha hb (noSlice_ok hy)) fun σ H Q ⟨B, ρ, env, st, re, rs, p⟩ => ?_
  rw [ev] at p
  refine ⟨B, ρ, env, st, re, rs, (Post.bind p).imp fun v H1 B1 ρ1 st1 e1 rs1 p1 x rx => ?_⟩
  refine ⟨B1, ρ1, env, st1, re.ext e1 rs.sub, rs1, (Post.bind p1).imp fun w H2 B2 ρ2 st2 e2 rs2 p2 y ry => ?_⟩
  obtain ⟨u, eu, hQ⟩ := post_may rs2 p2
  cases ed : dget T.kt v w st2 with
  | none => rw [ed] at eu; cases eu
  | some o =>
    rw [ed] at eu
    have eo : o = some u := eu
    obtain ⟨a', z, rfl, dg, _, hz⟩ := dget_ok C.kt (rx.ext e2 rs1.sub) ry rs2 ed
    obtain ⟨x', rfl, rx'⟩ := hz u eo
    exact ⟨a', x', rfl, dg, hQ x' rx'⟩
theorem din_core (C : CxOk G S T D cf k X W N sc fb) {neg : Bool} {a b : IE} {σ : L2.St} {H : Hp} {Q : VK} (h : tE G W (ev T cf (.din neg a b)) σ H Q) :
    tE G W (ev T cf a) σ H fun y H1 => tE G W (ev T cf b) σ H1 fun x H2 => ∃ a o, x = .ref a ∧ DGet H2 a y o ∧ Q (.bl (if neg then !o.isSome else o.isSome)) H2 := by
  obtain ⟨B, ρ, env, st, re, rs, p⟩ := h
  rw [ev] at p
  refine ⟨B, ρ, env, st, re, rs, (Post.bind p).imp fun v H1 B1 ρ1 st1 e1 rs1 p1 y ry => ?_⟩
  refine ⟨B1, ρ1, env, st1, re.ext e1 rs.sub, rs1, (Post.bind p1).imp fun w H2 B2 ρ2 st2 e2 rs2 p2 x rx => ?_⟩
  obtain ⟨t, et, hQ⟩ := post_bl rs2 p2
  cases ed : dget T.kt w v st2 with
  | none => rw [ed] at et; cases et
  | some o =>
    rw [ed] at et
    obtain ⟨a', z, rfl, dg, hs, _⟩ := dget_ok C.kt rx (ry.ext e2 rs1.sub) rs2 ed
    refine ⟨a', z, rfl, dg, ?_⟩
    rw [hs]
    cases et
    exact hQ
theorem dinE_ok (C : CxOk G S T D cf k X W N sc fb) {neg : Bool} {a b : IE} {x y : Expr} {pos : Pos} (hy : noSet y = true) (ha : PE X x (tE G W (ev T cf a))) (hb : PE X y (tE G W (ev T cf b))) : PE X (.Compare x [if neg then .NotIn else .In] [y] pos) (tE G W (ev T cf (.din neg a b))) := by
  cases neg with
  | true => exact PE.mono (pe_cmp (pc_dnotin (by have := C.units; omega) ha hb) (noMark_ok hy _)) fun σ H Q h => din_core C h
  | false => exact PE.mono (pe_cmp (pc_din (by have := C.units; omega) ha hb) (noMark_ok hy _)) fun σ H Q h => din_core C h
theorem dinT_ok (C : CxOk G S T D cf k X W N sc fb) {neg : Bool} {a b : IE} {x y : Expr} {pos : Pos} (hy : noSet y = true) (ha : PE X x (tE G W (ev T cf a))) (hb : PE X y (tE G W (ev T cf b))) : PT X (.Compare x [if neg then .NotIn else .In] [y] pos) (tT G W (test T cf (.din neg a b))) := by
  have ht := testV (T := T) (cf := cf) (a := .din neg a b) (fun σ st => by rw [test] <;> first | rfl | (intros; rename_i h; cases h))
  have hb' : ∀ env st v st', ev T cf (.din neg a b) env st = .ok v st' → ∃ b, v = .bl b := fun env st v st' e => by
    rw [ev] at e
    obtain ⟨_, _, _, e⟩ := bind_ok e
    obtain ⟨_, _, _, e⟩ := bind_ok e
    exact bl_of e
  cases neg with
  | true => exact PT.mono (pt_cmp (pc_dnotin (by have := C.units; omega) ha hb) (noMark_ok hy _)) fun σ H Q h => din_core C (post_testB ht hb' h)
  | false => exact PT.mono (pt_cmp (pc_din (by have := C.units; omega) ha hb) (noMark_ok hy _)) fun σ H Q h => din_core C (post_testB ht hb' h)
end
end MP

set_option Elab.async false
set_option linter.all false
set_option maxRecDepth 100000
set_option maxHeartbeats 4000000
/-! MSound2: rows of tests, calls, subscripts, what is walked. -/
namespace MP
open PySem PySem.Spec PyProof.Rows L2
section
variable {G : Gs} {S : Syn} {T : Top} {D : Nat → Option Df} {cf : CallF} {k : Nat} {X : Cx} {W : XK} {N : List Str} {sc : Scope} {fb : Fb}
variable {H H' : Hp} {B ρ B' ρ' : List Addr} {st : Sto}

/-! rows of tests -/
theorem test_bop {a : IE} {es : IEs} {kk : Bool} : test T cf (.bop kk a es) = tests T cf kk (.cons a es) := by
  funext σ st
  rw [test, tests]
theorem tests_one {a : IE} {kk : Bool} : tests T cf kk (.cons a .nil) = fun σ st => (test T cf a σ st).bind fun b st1 => .ok b st1 := by
  funext σ st
  rw [tests]
  congr 1
  funext b st1
  by_cases h : b = kk
  · rw [if_pos h, tests, h]
  · rw [if_neg h]
theorem tests_more {a b : IE} {es : IEs} {kk : Bool} : tests T cf kk (.cons a (.cons b es)) = fun σ st => (test T cf a σ st).bind fun t st1 => if t = kk then tests T cf kk (.cons b es) σ st1 else .ok t st1 := by
  funext σ st
  rw [tests]
theorem tone_ok {kk : Bool} {a : IE} {x : Expr} {pos : Pos} (ha : PT X x (tT G W (test T cf a))) : PW X (.BoolOp (bopOf kk) [x] pos) (tT G W (tests T cf kk (.cons a .nil))) := by
  have e : tests T cf kk (.cons a .nil) = test T cf a := by
    rw [tests_one]
    funext σ st
    cases test T cf a σ st <;> rfl
  rw [e]
  cases kk with
  | true => exact pw_and1 ha
  | false => exact pw_or1 ha
theorem tmore_ok {kk : Bool} {a b : IE} {es : IEs} {x y : Expr} {ys : List Expr} {pos : Pos} (ha : PT X x (tT G W (test T cf a))) (hb : PW X (.BoolOp (bopOf kk) (y :: ys) pos) (tT G W (tests T cf kk (.cons b es)))) :
    PW X (.BoolOp (bopOf kk) (x :: y :: ys) pos) (tT G W (tests T cf kk (.cons a (.cons b es)))) := by
  rw [tests_more]
  cases kk with
  | true =>
    refine PW.mono (pw_and ha hb) fun σ H Q ⟨B, ρ, env, st, re, rs, p⟩ => ?_
    refine ⟨B, ρ, env, st, re, rs, (Post.bind p).imp fun v H1 B1 ρ1 st1 e1 rs1 p1 => ?_⟩
    cases v with
    | true => exact ⟨B1, ρ1, env, st1, re.ext e1 rs.sub, rs1, p1⟩
    | false => exact p1.here rs1
  | false =>
    refine PW.mono (pw_or ha hb) fun σ H Q ⟨B, ρ, env, st, re, rs, p⟩ => ?_
    refine ⟨B, ρ, env, st, re, rs, (Post.bind p).imp fun v H1 B1 ρ1 st1 e1 rs1 p1 => ?_⟩
    cases v with
    | true => exact p1.here rs1
    | false => exact ⟨B1, ρ1, env, st1, re.ext e1 rs.sub, rs1, p1⟩
theorem tnot_ok {a : IE} {x : Expr} {pos : Pos} (ha : PT X x (tT G W (test T cf a))) : PT X (.UnaryOp .Not x pos) (tT G W (test T cf (.not a))) := by
  refine PT.mono (pt_not ha) fun σ H Q ⟨B, ρ, env, st, re, rs, p⟩ => ?_
  rw [test] at p
  exact ⟨B, ρ, env, st, re, rs, (Post.bind p).imp fun v H1 B1 ρ1 st1 e1 rs1 p1 => p1.here rs1⟩

/-! argument lists -/
theorem pas_nil : PA X [] (tAs G W (evs T cf .nil)) := PA.mono pa_nil fun σ H Q ⟨B, ρ, env, st, re, rs, p⟩ => by
  rw [evs] at p
  exact p.here rs _ .nil
theorem pas_cons {e : IE} {es : IEs} {x : Expr} {xs : List Expr} (hs : noStar x = true) (ha : PE X x (tE G W (ev T cf e))) (hr : PA X xs (tAs G W (evs T cf es))) : PA X (x :: xs) (tAs G W (evs T cf (.cons e es))) := by
  refine PA.mono (pa_cons ha hr (noStar_ok hs xs X.env)) fun σ H Q ⟨B, ρ, env, st, re, rs, p⟩ => ?_
  rw [evs] at p
  refine ⟨B, ρ, env, st, re, rs, (Post.bind p).imp fun v H1 B1 ρ1 st1 e1 rs1 p1 x rx => ?_⟩
  refine ⟨B1, ρ1, env, st1, re.ext e1 rs.sub, rs1, (Post.bind p1).imp fun vs H2 B2 ρ2 st2 e2 rs2 p2 xs rxs => ?_⟩
  exact p2.here rs2 _ (.cons (rx.ext e2 rs1.sub) rxs)
theorem stars_off : ∀ {es : IEs} {xs : List Expr} {env : PySem.Env}, chkMs S false N sc fb es xs = true → (starEach xs env).any (·.1) = false
  | .nil, [], _, _ => rfl
  | .nil, _ :: _, _, h => by simp [chkMs] at h
  | .cons _ _, [], _, h => by simp [chkMs] at h
  | .cons e es, x :: xs, env, h => by
    simp only [chkMs, Bool.and_eq_true] at h
    rw [noStar_ok h.1.1]
    simp only [List.any_cons, Bool.false_or]
    exact stars_off h.2
theorem back_off {pos : Pos} {l : List (Bool × Sem Value)} (h : l.any (·.1) = false) : (backTo pos l).any (·.1) = false := by
  unfold backTo
  rw [List.any_map]
  rw [← h]
  congr 1

/-! calls -/
theorem fn_there (C : CxOk G S T D cf k X W N sc fb) {f : Nat} {x : Str} (h : S.fname f = some x) :
    ∃ (d : Df) (a : Addr) (fd : FuncData) (ps : List Str), D f = some d ∧ (∀ vs st, vs.length ≠ d.ps → cf f vs st = .stuck) ∧ G.mg x = some (.ref a) ∧ PySem.W.keepIn G.K (.ref a) = true ∧ Binds G.K fd ps [] ∧ FnOk X.prog X.w G.K G.mg X.base (L2.CX X.prog X.w) k a fd ps (spF G cf f d.ps) := by
  obtain ⟨⟨d, hd, ⟨a, fd, ps, h1, h2, h3, h4, h5⟩⟩, hl⟩ := C.fns f x h
  exact ⟨d, a, fd, ps, hd, fun vs st hn => hl vs st d hd hn, h2, h3, h4, h5⟩
mutual
theorem RV.open {B ρ ρ' : List Addr} {H : Hp} : ∀ {x : V} {p : PV}, closed p = true → RV G H B ρ x p → RV G H B ρ' x p
  | _, _, _, .non => .non
  | _, _, _, .bl b => .bl b
  | _, _, _, .int i => .int i
  | _, _, _, .str h hl => .str h hl
  | _, _, c, .tup h r => .tup h (RVs.open (by simpa only [closed] using c) r)
  | _, _, c, .ktup h hm r => .ktup h hm (RVs.open (by simpa only [closed] using c) r)
  | _, _, c, .lst h n r => .lst h n (RVs.open (by simpa only [closed] using c) r)
  | _, _, c, .ref h => by simp [closed] at c
  | _, _, _, .fn h => .fn h
  | _, _, _, .scr h => .scr h
theorem RVs.open {B ρ ρ' : List Addr} {H : Hp} : ∀ {xs : List V} {ps : List PV}, closeds ps = true → RVs G H B ρ xs ps → RVs G H B ρ' xs ps
  | _, _, _, .nil => .nil
  | _, _, c, .cons h r => by
    simp only [closeds, Bool.and_eq_true] at c
    exact .cons (RV.open c.1 h) (RVs.open c.2 r)
end
/-- a call in an empty store -/
theorem post_pure {f : Nat} {vs : List PV} {xs : List V} {Q : VK} {E : XK} (hv : RVs G H B ρ xs vs) (rs : RSto G H B ρ st) (h : Post G H B ρ (pureCall f cf vs st) (fun v H' B' ρ' _ => ∀ x, RV G H' B' ρ' x v → Q x H') E) :
    RVs G H B [] xs vs ∧ RSto G H B [] [] ∧ Post G H B [] (cf f vs []) (fun v H' B' ρ' _ => ∀ x, RV G H' B' ρ' x v → Q x H') E := by
  unfold pureCall at h
  by_cases hc : closeds vs = true
  · rw [if_pos hc] at h
    have back : ∀ {H' : Hp} {B' ρ' : List Addr} {st' : Sto}, Ext H B [] H' B' ρ' → RSto G H' B' ρ' st' → Ext H B ρ H' B' ρ ∧ RSto G H' B' ρ st := fun {H' B' ρ' st'} e r => by
      have ex : Ext H B ρ H' B' ρ := ⟨⟨[], by simp⟩, e.sub, e.new, fun _ z => .inl z, fun a o h1 _ h3 => e.keep a o h1 (by simp) h3, e.tup, e.frz, e.grow⟩
      refine ⟨ex, rs.nd, fun a ha => e.sub a (rs.sub a ha), rs.len, fun n a o h1 h2 => ?_, fun a ha => ?_, r.tabs⟩
      · obtain ⟨u, hu, hmu⟩ := rs.has a (rs.sub a (List.mem_of_getElem? h1))
        have ht := hmu.parts.2.2
        exact (rs.obj n a o h1 h2).ext ex rs.sub (by rw [hu]; exact e.keep a u hu (by simp) ht)
      · exact r.has a ha
    refine ⟨hv.open hc, ⟨List.nodup_nil, fun _ z => absurd z (by simp), rfl, fun n a o h1 _ => by simp at h1, rs.has, rs.tabs⟩, ?_⟩
    cases ec : cf f vs [] with
    | ok v st1 =>
      rw [ec] at h
      intro H' B' ρ' e r x rx
      have h' : Post G H B ρ (if closed v = true then Out.ok v st else .stuck) (fun v H' B' ρ' _ => ∀ x, RV G H' B' ρ' x v → Q x H') E := h
      by_cases hv' : closed v = true
      · rw [if_pos hv'] at h'
        obtain ⟨e2, r2⟩ := back e r
        exact h' H' B' ρ e2 r2 x (rx.open hv')
      · rw [if_neg hv'] at h'
        exact h'.elim
    | exc x st1 =>
      rw [ec] at h
      intro H' B' ρ' c d e r rx
      obtain ⟨e2, r2⟩ := back e r
      refine h H' B' ρ c d e2 r2 ?_
      cases rx with
      | plain hc' => exact .plain hc'
      | lim h1 h2 h3 h4 h5 => exact .lim h1 h2 h3 h4 h5
    | stuck => rw [ec] at h; exact h.elim
  · rw [if_neg hc] at h
    exact h.elim
theorem sp_call {f ar : Nat} {p : Bool} {vs : List PV} {xs : List V} {Q : VK} {E : XK} (hl : vs.length ≠ ar → cf f vs [] = .stuck ∧ cf f vs st = .stuck) (hv : RVs G H B ρ xs vs) (rs : RSto G H B ρ st)
    (h : Post G H B ρ (if p then pureCall f cf vs st else cf f vs st) (fun v H' B' ρ' _ => ∀ x, RV G H' B' ρ' x v → Q x H') E) : spF G cf f ar xs H Q E := by
  cases p with
  | true =>
    obtain ⟨h1, h2, h3⟩ := post_pure hv rs h
    refine ⟨B, [], [], vs, h1, h2, ?_, h3⟩
    by_cases hn : vs.length = ar
    · exact hn
    · rw [(hl hn).1] at h3
      exact h3.elim
  | false =>
    refine ⟨B, ρ, st, vs, hv, rs, ?_, h⟩
    by_cases hn : vs.length = ar
    · exact hn
    · have h' : Post G H B ρ (cf f vs st) _ E := h
      rw [(hl hn).2] at h'
      exact h'.elim
theorem call_ok (C : CxOk G S T D cf k X W N sc fb) {f : Nat} {p : Bool} {es : IEs} {x : Str} {xs : List Expr} {p1 p2 : Pos} (hx : S.fname f = some x) (hg : glB sc x = true) (hc : chkMs S false N sc fb es xs = true) (ha : PA X xs (tAs G W (evs T cf es))) :
    PE X (.Call (.Name x p1) xs [] p2) (tE G W (ev T cf (.call f p es))) := by
  obtain ⟨d, a, fd, ps, hd, hl, hm, hk, hb, F⟩ := fn_there C hx
  have hpass : Passes (L2.CX X.prog X.w) X W := passes_call C.tk fun _ _ _ _ z => z
  have F' : FnOk X.prog X.w X.K X.mg X.base (L2.CX X.prog X.w) k a fd ps (spF G cf f d.ps) := by rw [C.hK, C.hmg]; exact F
  have hr : Room k X.A := C.room2.mono (Nat.le_add_right _ _)
  have core : ∀ σ H Q, tE G W (ev T cf (.call f p es)) σ H Q → tCall (spF G cf f d.ps) [] W (tAs G W (evs T cf es)) σ H Q := fun σ H Q ⟨B, ρ, env, st, re, rs, pp⟩ => by
    rw [ev] at pp
    refine ⟨B, ρ, env, st, re, rs, (Post.bind pp).imp fun vs H1 B1 ρ1 st1 e1 rs1 p1 xs rxs => ?_⟩
    show spF G cf f d.ps (xs ++ []) H1 Q W
    rw [List.append_nil]
    exact sp_call (p := p) (fun hn => ⟨hl vs [] hn, hl vs st1 hn⟩) rxs rs1 p1
  cases xs with
  | nil =>
    cases es with
    | nil =>
      refine PE.mono (pe_call0 F' hr (gl_ok C hg) (by rw [C.hmg]; exact hm) (by rw [C.hK]; exact hk) (by rw [C.hK]; exact hb) .nil hpass (glB_ok hg).2.1) fun σ H Q h => ?_
      obtain ⟨B, ρ, env, st, re, rs, pp⟩ := core σ H Q h
      rw [evs] at pp
      exact pp.here rs _ .nil
    | cons => simp [chkMs] at hc
  | cons y ys =>
    cases es with
    | nil => simp [chkMs] at hc
    | cons e es =>
      have hc' := hc
      simp only [chkMs, Bool.and_eq_true] at hc'
      exact PE.mono (pe_call F' hr (gl_ok C hg) (by rw [C.hmg]; exact hm) (by rw [C.hK]; exact hk) (by rw [C.hK]; exact hb) .nil hpass ha (glB_ok hg).2.1 (noStar_ok hc'.1.1 ys X.env) (back_off (stars_off hc'.2))) core
theorem bltn_ok (C : CxOk G S T D cf k X W N sc fb) {b : Bt} {e : IE} {es : IEs} {x : Str} {y : Expr} {ys : List Expr} {p1 p2 : Pos} (hx : x = bname b) (hf : S.free x = true) (hg : glB sc x = true) (hc : chkMs S false N sc fb (.cons e es) (y :: ys) = true) (ha : PA X (y :: ys) (tAs G W (evs T cf (.cons e es)))) :
    PE X (.Call (.Name x p1) (y :: ys) [] p2) (tE G W (ev T cf (.blt b (.cons e es)))) := by
  have hc' := hc
  simp only [chkMs, Bool.and_eq_true] at hc'
  have hm : X.mg x = none := by rw [C.hmg]; exact C.free x hf
  have core : ∀ σ H Q, tE G W (ev T cf (.blt b (.cons e es))) σ H Q → tCB (rL G W (builtin b)) (tAs G W (evs T cf (.cons e es))) σ H Q := fun σ H Q ⟨B, ρ, env, st, re, rs, pp⟩ => by
    rw [ev] at pp
    exact ⟨B, ρ, env, st, re, rs, (Post.bind pp).imp fun vs H1 B1 ρ1 st1 e1 rs1 p1 xs rxs => ⟨B1, ρ1, st1, vs, rxs, rs1, p1⟩⟩
  have cr := cr_blt (W := W) C.hK C.calm C.units b
  subst hx
  cases b with
  | int => exact PE.mono (pe_callTy cr (gl_ok C hg) hm boot_int ha (glB_ok hg).2.2 (glB_ok hg).2.1 (noStar_ok hc'.1.1 ys X.env) (back_off (stars_off hc'.2))) core
  | str => exact PE.mono (pe_callTy cr (gl_ok C hg) hm boot_str ha (glB_ok hg).2.2 (glB_ok hg).2.1 (noStar_ok hc'.1.1 ys X.env) (back_off (stars_off hc'.2))) core
  | list m => exact PE.mono (pe_callTy cr (gl_ok C hg) hm boot_list ha (glB_ok hg).2.2 (glB_ok hg).2.1 (noStar_ok hc'.1.1 ys X.env) (back_off (stars_off hc'.2))) core
  | tuple => exact PE.mono (pe_callTy cr (gl_ok C hg) hm boot_tuple ha (glB_ok hg).2.2 (glB_ok hg).2.1 (noStar_ok hc'.1.1 ys X.env) (back_off (stars_off hc'.2))) core
  | len => exact PE.mono (pe_callB cr (gl_ok C hg) hm (by decide +kernel) ha (glB_ok hg).2.2 (glB_ok hg).2.1 (noStar_ok hc'.1.1 ys X.env) (back_off (stars_off hc'.2))) core
  | abs => exact PE.mono (pe_callB cr (gl_ok C hg) hm (by decide +kernel) ha (glB_ok hg).2.2 (glB_ok hg).2.1 (noStar_ok hc'.1.1 ys X.env) (back_off (stars_off hc'.2))) core
  | max2 => exact PE.mono (pe_callB cr (gl_ok C hg) hm (by decide +kernel) ha (glB_ok hg).2.2 (glB_ok hg).2.1 (noStar_ok hc'.1.1 ys X.env) (back_off (stars_off hc'.2))) core
  | min2 => exact PE.mono (pe_callB cr (gl_ok C hg) hm (by decide +kernel) ha (glB_ok hg).2.2 (glB_ok hg).2.1 (noStar_ok hc'.1.1 ys X.env) (back_off (stars_off hc'.2))) core
  | sum => exact PE.mono (pe_callB cr (gl_ok C hg) hm (by decide +kernel) ha (glB_ok hg).2.2 (glB_ok hg).2.1 (noStar_ok hc'.1.1 ys X.env) (back_off (stars_off hc'.2))) core
  | all => exact PE.mono (pe_callB cr (gl_ok C hg) hm (by decide +kernel) ha (glB_ok hg).2.2 (glB_ok hg).2.1 (noStar_ok hc'.1.1 ys X.env) (back_off (stars_off hc'.2))) core
  | any => exact PE.mono (pe_callB cr (gl_ok C hg) hm (by decide +kernel) ha (glB_ok hg).2.2 (glB_ok hg).2.1 (noStar_ok hc'.1.1 ys X.env) (back_off (stars_off hc'.2))) core
  | sorted m => exact PE.mono (pe_callB cr (gl_ok C hg) hm (show bootBuiltins ("sorted" : Str) = some (.builtin "sorted") by decide +kernel) ha (glB_ok hg).2.2 (glB_ok hg).2.1 (noStar_ok hc'.1.1 ys X.env) (back_off (stars_off hc'.2))) core

/-! methods, subscripts, slices -/
theorem few_ok {xs : List Expr} {es : IEs} {q : Pos} {env : PySem.Env} (hc : chkMs S false N sc fb es xs = true) (hl : xs.length < 20) :
    ((backTo q (starEach xs env)).all (fun x => !x.1) && (backToKw q (keywordEach [] env)).all (fun x => x.1.isSome) && decide (xs.length + ([] : List Keyword).length + (if ([] : List Keyword).isEmpty then 0 else 1) < 30)) = true := by
  have h1 : (backTo q (starEach xs env)).all (fun x => !x.1) = true := by
    have h := back_off (pos := q) (stars_off (env := env) hc)
    rw [List.any_eq_false] at h
    rw [List.all_eq_true]
    intro p hp
    have := h p hp
    simpa using this
  rw [h1]
  have h2 : (backToKw q (keywordEach [] env)).all (fun x => x.1.isSome) = true := rfl
  rw [h2]
  simp only [List.length_nil, List.isEmpty_nil, if_true, Bool.true_and, decide_eq_true_eq]
  omega
theorem isLst_ok {p : PV} (h : isLst (rd st p) = true) {x : V} (rx : RV G H B ρ x p) (rs : RSto G H B ρ st) {K : PySem.W.Frag} : tyV K "list" x H := by
  cases e : rd st p with
  | lst ps =>
    obtain ⟨a, xs, rfl, hH, _⟩ := rd_lst rx rs e
    exact Or.inl ⟨rfl, _, .inl (.inl hH)⟩
  | _ => rw [e] at h; cases h
theorem met_ok (C : CxOk G S T D cf k X W N sc fb) {m : Mt} {o : IE} {es : IEs} {x : Expr} {a : Str} {xs : List Expr} {p q : Pos} (hm : m ≠ .get2 ∧ m ≠ .index) (hx : a = mname m) (hn : noCall x = true) (hline : p.endLine = q.line) (hl : xs.length < 20) (hc : chkMs S false N sc fb es xs = true) (ho : PE X x (tE G W (ev T cf o))) (ha : PA X xs (tAs G W (evs T cf es))) :
    PE X (.Call (.Attribute x a p) xs [] q) (tE G W (ev T cf (.met m o es))) := by
  have hli : (p.endLine == q.line) = true := beq_iff_eq.mpr hline
  have cr : MtR X (mid m) (rM G W m) := mt_met (W := W) C.hK m
  have core : ∀ σ H Q, tE G W (ev T cf (.met m o es)) σ H Q → tE G W (ev T cf o) σ H fun x H1 => tyV X.K "list" x H1 ∧ tAs G W (evs T cf es) σ H1 fun vs H2 => rM G W m x vs H2 Q := fun σ H Q ⟨B, ρ, env, st, re, rs, pp⟩ => by
    rw [ev] at pp
    refine ⟨B, ρ, env, st, re, rs, (Post.bind pp).imp fun v H1 B1 ρ1 st1 e1 rs1 p1 x rx => ?_⟩
    by_cases hi : isLst (rd st1 v) = true
    · rw [if_pos hi] at p1
      refine ⟨isLst_ok hi rx rs1, B1, ρ1, env, st1, re.ext e1 rs.sub, rs1, (Post.bind p1).imp fun vs H2 B2 ρ2 st2 e2 rs2 p2 xs rxs => ?_⟩
      exact ⟨B2, ρ2, st2, v, vs, rx.ext e2 rs1.sub, rxs, rs2, p2⟩
    · rw [if_neg hi] at p1
      exact p1.elim
  subst hx
  have sl : Slot "list" (mname m) (mid m) := by
    cases m with
    | append => exact PySem.F.slot_list_append
    | extend => exact PySem.F.slot_list_extend
    | pop => exact PySem.F.slot_list_pop
    | popAt => exact PySem.F.slot_list_pop
    | index => exact absurd rfl hm.2
    | get2 => exact absurd rfl hm.1
  have ty : typeOf (.builtin (mid m)) = pure (.type "method_descriptor") := by
    cases m with
    | append => exact PySem.F.type_list_append
    | extend => exact PySem.F.type_list_extend
    | pop => exact PySem.F.type_list_pop
    | popAt => exact PySem.F.type_list_pop
    | index => exact absurd rfl hm.2
    | get2 => exact absurd rfl hm.1
  cases xs with
  | nil =>
    cases es with
    | cons => simp [chkMs] at hc
    | nil =>
      refine PE.mono (pe_bm0 PySem.F.plainAttrs_list sl ty cr ho (noCall_ok hn _ X.env) hli) fun σ H Q h => ?_
      obtain ⟨B, ρ, env, st, re, rs, pp⟩ := core σ H Q h
      refine ⟨B, ρ, env, st, re, rs, pp.imp fun v H1 B1 ρ1 st1 e1 rs1 p1 x rx => ?_⟩
      obtain ⟨h1, B2, ρ2, env2, st2, re2, rs2, p2⟩ := p1 x rx
      rw [evs] at p2
      exact ⟨h1, p2.here rs2 _ .nil⟩
  | cons y ys =>
    cases es with
    | nil => simp [chkMs] at hc
    | cons e es =>
      have hc' := hc
      simp only [chkMs, Bool.and_eq_true] at hc'
      exact PE.mono (pe_bm PySem.F.plainAttrs_list sl ty cr ho ha (noCall_ok hn _ X.env) (few_ok hc hl) hli (noStar_ok hc'.1.1 ys X.env) (back_off (stars_off hc'.2))) core
theorem idx_ok (C : CxOk G S T D cf k X W N sc fb) {a b : IE} {x y : Expr} {pos : Pos} (hy : noSlice y = true) (ha : PE X x (tE G W (ev T cf a))) (hb : PE X y (tE G W (ev T cf b))) : PE X (.Subscript x y pos) (tE G W (ev T cf (.idx a b))) := by
  refine PE.mono (pe_ix (ix_subs (W := W) C.hK) ha hb (noSlice_ok hy)) fun σ H Q ⟨B, ρ, env, st, re, rs, p⟩ => ?_
  rw [ev] at p
  exact two (f := subs) ⟨B, ρ, env, st, re, rs, p⟩
def tO (G : Gs) (W : XK) (m : MP.M (Option Int)) : TO := fun σ H Q => ∃ B ρ env st, REnv G H B ρ σ env ∧ RSto G H B ρ st ∧ Post G H B ρ (m env st) (fun o H' _ _ _ => Q o H') W
theorem PO.mono {e : Option Expr} {t t' : TO} (h : PO X e t) (i : ∀ σ H Q, t' σ H Q → t σ H Q) : PO X e t' := ⟨fun pins s σ H Q I q => h.run pins s σ H Q I (i σ H Q q)⟩
theorem ponone_ok : PO X none (tO G W (part T cf .nop)) := PO.mono po_none fun σ H Q ⟨B, ρ, env, st, re, rs, p⟩ => by
  rw [part] at p
  exact p.here rs
theorem posome_ok {e : IE} {x : Expr} (hp : ∀ σ st, part T cf e σ st = (ev T cf e σ st).bind fun x st1 => (match x with
    | .int i => Out.ok (some i) st1
    | _ => .stuck)) (h : PE X x (tE G W (ev T cf e))) : PO X (some x) (tO G W (part T cf e)) := PO.mono (po_some h) fun σ H Q ⟨B, ρ, env, st, re, rs, p⟩ => by
  rw [hp] at p
  refine ⟨B, ρ, env, st, re, rs, (Post.bind p).imp fun v H1 B1 ρ1 st1 e1 rs1 p1 x rx => ?_⟩
  cases rx with
  | int i => exact ⟨i, rfl, p1.here rs1⟩
  | _ => exact (show False from p1).elim
theorem slc_ok (C : CxOk G S T D cf k X W N sc fb) {m : Bool} {a lo hi : IE} {x : Expr} {l h : Option Expr} {p2 pos : Pos} (ha : PE X x (tE G W (ev T cf a))) (hl : PO X l (tO G W (part T cf lo))) (hh : PO X h (tO G W (part T cf hi))) :
    PE X (.Subscript x (.Slice l h none p2) pos) (tE G W (ev T cf (.slc m a lo hi))) := by
  refine PE.mono (pe_slice (sl_any (W := W) C.hK m) ha hl hh) fun σ H Q ⟨B, ρ, env, st, re, rs, p⟩ => ?_
  rw [ev] at p
  refine ⟨B, ρ, env, st, re, rs, (Post.bind p).imp fun v H1 B1 ρ1 st1 e1 rs1 p1 x rx => ?_⟩
  have re1 := re.ext e1 rs.sub
  refine ⟨B1, ρ1, env, st1, re1, rs1, (Post.bind p1).imp fun o H2 B2 ρ2 st2 e2 rs2 p2 => ?_⟩
  refine ⟨B2, ρ2, env, st2, re1.ext e2 rs1.sub, rs2, (Post.bind p2).imp fun u H3 B3 ρ3 st3 e3 rs3 p3 => ?_⟩
  exact ⟨B3, ρ3, st3, v, (rx.ext e2 rs1.sub).ext e3 rs2.sub, rs3, p3⟩
theorem tyX_of {K : PySem.W.Frag} {x : V} {p : PV} {t : Ty} {b : Bool} (hK : K = G.K) (d : Rdb G H B ρ x p) (h : tyIs p t = some b) : ∃ u, TyX K H x u ∧ PySem.W.kitOne K u (.type (tyName t)) = some b := by
  cases d with
  | non => exact ⟨_, .base .non, by cases t <;> cases h <;> rfl⟩
  | bl c => exact ⟨_, .base (.bl c), by cases t <;> cases h <;> rfl⟩
  | int c => exact ⟨_, .base (.int c), by cases t <;> cases h <;> rfl⟩
  | str z hl => exact ⟨_, .base (.str _), by cases t <;> cases h <;> rfl⟩
  | @tup a xs ps z r =>
    have q : PySem.W.kitOne K (.type "tuple") (.type (tyName t)) = some b := by cases t <;> cases h <;> rfl
    rcases z with (z | ⟨o, z⟩) | ⟨o, its, n, z, zc, _⟩
    · exact ⟨_, .base (.tup z), q⟩
    · exact ⟨_, .fTuple z, q⟩
    · exact ⟨_, .kTuple (by rw [hK]; exact z) zc, q⟩
  | lst z r => exact ⟨_, .base (.lst z), by cases t <;> cases h <;> rfl⟩
  | oth hd => cases p <;> first | (cases hd; done) | (cases h; done)
def bootTy : Ty → Value
  | .int => .type "int" | .bool => .type "bool" | .str => .type "str" | .tuple => .type "tuple" | .list => .type "list"
theorem isi_ok (C : CxOk G S T D cf k X W N sc fb) {a : IE} {t : Ty} {x z : Str} {y : Expr} {p1 p2 p3 : Pos} (hx : x = ("isinstance" : Str)) (hf : S.free x = true) (hg : glB sc x = true) (hz : z = (tyName t : Str)) (hfz : S.free z = true) (hgz : glB sc z = true) (hs : noStar y = true) (ha : PE X y (tE G W (ev T cf a))) :
    PE X (.Call (.Name x p1) [y, .Name z p2] [] p3) (tE G W (ev T cf (.isi a t))) := by
  have hm : X.mg x = none := by rw [C.hmg]; exact C.free x hf
  have hmz : X.mg z = none := by rw [C.hmg]; exact C.free z hfz
  have hbz : bootBuiltins z = some (.type (tyName t)) := by
    rw [hz]
    cases t with
    | int => exact boot_int
    | bool => exact boot_bool
    | str => exact boot_str
    | tuple => exact boot_tuple
    | list => exact boot_list
  have hn : PE X (.Name z p2) (tC (.ty (tyName t))) := pe_bltn (gl_ok C hgz) hmz hbz rfl (glB_ok hgz).2.2 (glB_ok hgz).2.1
  have hargs : PA X [y, .Name z p2] (tCons (tE G W (ev T cf a)) (tCons (tC (.ty (tyName t))) tNil)) := pa_cons ha (pa_cons hn pa_nil (noStar_ok rfl _ _)) (noStar_ok hs _ _)
  subst hx
  refine PE.mono (pe_callB call_isi (gl_ok C hg) hm boot_isinstance hargs (glB_ok hg).2.2 (glB_ok hg).2.1 (noStar_ok hs _ _) rfl) fun σ H Q ⟨B, ρ, env, st, re, rs, p⟩ => ?_
  rw [ev] at p
  refine ⟨B, ρ, env, st, re, rs, (Post.bind p).imp fun v H1 B1 ρ1 st1 e1 rs1 p1 x rx => ?_⟩
  obtain ⟨b, e, hQ⟩ := post_bl rs1 p1
  obtain ⟨u, h1, h2⟩ := tyX_of C.hK (rx.rdb rs1) e
  exact ⟨x, _, u, _, b, rfl, .ty _, h1, h2, hQ⟩
end
end MP

set_option Elab.async false
set_option linter.all false
set_option maxRecDepth 100000
set_option maxHeartbeats 4000000
/-! MSound3: targets, what is walked. -/
namespace MP
open PySem PySem.Spec PyProof.Rows L2
section
variable {G : Gs} {S : Syn} {T : Top} {D : Nat → Option Df} {cf : CallF} {k : Nat} {X : Cx} {W : XK} {N : List Str} {sc : Scope} {fb : Fb}
variable {H H' H1 : Hp} {B ρ B' ρ' B1 ρ1 : List Addr} {st : Sto}

/-! targets -/
theorem set_env {σ : L2.St} {env : MP.Env} {x : V} {v : PV} {i : Nat} (re : REnv G H B ρ σ env) (rx : RV G H B ρ x v) : REnv G H B ρ (σ.set i (some x)) (env.set i (some v)) := by
  refine ⟨by simp [re.len], fun j w h => ?_⟩
  by_cases e : i = j
  · subst e
    by_cases hl : i < env.length
    · rw [List.getElem?_set_self hl] at h
      cases h
      exact ⟨x, List.getElem?_set_self (by rw [re.len]; exact hl), rx⟩
    · rw [List.getElem?_eq_none (by simp; omega)] at h
      cases h
  · rw [List.getElem?_set_ne e] at h ⊢
    exact re.at_ j w h
theorem wipe_in {σ : L2.St} {i : Nat} : ∀ {vs : List Nat}, i ∈ vs → i < σ.length → (wipe σ vs)[i]? = some none
  | v :: vs, hm, hl => by
    unfold wipe
    by_cases e : v = i
    · subst e
      exact List.getElem?_set_self (by rw [wipe_length]; exact hl)
    · rw [List.getElem?_set_ne e]
      exact wipe_in ((List.mem_cons.mp hm).resolve_left (Ne.symm e)) hl
  | [], hm, _ => absurd hm (by simp)
theorem wipe_set {σ : L2.St} {j : Nat} {y : Option V} {vs : List Nat} (h : j ∈ vs) : wipe (σ.set j y) vs = wipe σ vs := by
  apply List.ext_getElem?
  intro i
  by_cases hi : i ∈ vs
  · by_cases hl : i < σ.length
    · rw [wipe_in hi (by simpa using hl), wipe_in hi hl]
    · rw [List.getElem?_eq_none (by rw [wipe_length]; simp; omega), List.getElem?_eq_none (by rw [wipe_length]; omega)]
  · rw [wipe_out hi, wipe_out hi, List.getElem?_set_ne]
    rintro rfl
    exact hi h
theorem wipe_env {σ : L2.St} {env : MP.Env} (re : REnv G H B ρ σ env) (own : List Nat) : REnv G H B ρ (wipe σ own) (forget env own) := by
  have hlen : ∀ own : List Nat, (forget env own).length = env.length := by
    intro own
    induction own with
    | nil => rfl
    | cons v vs ih => unfold forget; rw [List.length_set, ih]
  refine ⟨by rw [wipe_length, hlen, re.len], fun j w h => ?_⟩
  have key : ∀ own : List Nat, (forget env own)[j]? = some (some w) → env[j]? = some (some w) ∧ j ∉ own := by
    intro own
    induction own with
    | nil => exact fun h => ⟨h, by simp⟩
    | cons v vs ih =>
      intro h
      unfold forget at h
      by_cases e : v = j
      · subst e
        by_cases hl : v < (forget env vs).length
        · rw [List.getElem?_set_self hl] at h; cases h
        · rw [List.getElem?_eq_none (by simpa using hl)] at h; cases h
      · rw [List.getElem?_set_ne e] at h
        obtain ⟨h1, h2⟩ := ih h
        exact ⟨h1, by simp only [List.mem_cons, not_or]; exact ⟨Ne.symm e, h2⟩⟩
  obtain ⟨h1, h2⟩ := key own h
  obtain ⟨x, e, r⟩ := re.at_ j w h1
  exact ⟨x, by rw [wipe_out h2]; exact e, r⟩
def gA (G : Gs) (t : Tg) : TG := fun x σ H Q => ∃ B ρ env env' p, REnv G H B ρ σ env ∧ RV G H B ρ x p ∧ MP.assign t p env = some env' ∧ ∀ σ', REnv G H B ρ σ' env' → (∀ own, (∀ j ∈ tgSlots t, j ∈ own) → wipe σ' own = wipe σ own) → Q σ' H
def gAs (G : Gs) (ts : List Tg) : TGs := fun xs σ H Q => ∃ B ρ env env' ps, REnv G H B ρ σ env ∧ RVs G H B ρ xs ps ∧ assigns ts ps env = some env' ∧ ∀ σ', REnv G H B ρ σ' env' → (∀ own, (∀ j ∈ tgsSlots ts, j ∈ own) → wipe σ' own = wipe σ own) → Q σ' H
theorem PG.mono {e : Expr} {t t' : TG} (h : PG X e t) (i : ∀ x σ H Q, t' x σ H Q → t x σ H Q) : PG X e t' := ⟨fun pins s σ H v u Q I r q => h.run pins s σ H v u Q I r (i v σ H Q q)⟩
theorem PGs.mono {e : List Expr} {t t' : TGs} (h : PGs X e t) (i : ∀ x σ H Q, t' x σ H Q → t x σ H Q) : PGs X e t' := ⟨fun pins s σ H v u Q I r q => h.run pins s σ H v u Q I r (i v σ H Q q)⟩
theorem PI.mono {tg e : Expr} {t t' : TI} (h : PI X tg e t) (i : ∀ σ H R, t' σ H R → t σ H R) : PI X tg e t' := ⟨fun pins s σ H R I q => h.run pins s σ H R I (i σ H R q)⟩
theorem tg_each {t : Tg} {e : Expr} (h : chkT N sc fb t e = true) (es : List Expr) (env : PySem.Env) : assignEach (e :: es) env = (false, PySem.assign e env) :: assignEach es env := by
  cases t <;> cases e <;> first | rfl | (simp [chkT] at h; done)
theorem tgs_each : ∀ {ts : List Tg} {es : List Expr}, chkTs N sc fb ts es = true → ∀ env, (assignEach es env).length = ts.length ∧ (assignEach es env).findIdx? (·.1) = none
  | [], [], _, env => ⟨rfl, rfl⟩
  | [], _ :: _, h, _ => by simp [chkTs] at h
  | _ :: _, [], h, _ => by simp [chkTs] at h
  | t :: ts, e :: es, h, env => by
    simp only [chkTs, Bool.and_eq_true] at h
    obtain ⟨h1, h2⟩ := tgs_each h.2 env
    rw [tg_each h.1]
    refine ⟨by simp [h1], ?_⟩
    rw [List.findIdx?_cons]
    simp [h2]
theorem stB_ok {i : Nat} {x : Str} (C : CxOk G S T D cf k X W N sc fb) (h : stB N sc fb i x = true) : X.N[i]? = some x ∧ Loc X.env.scope x ∧ (X.fn x = true ∨ X.env.scope.names.lookup x = some .local) := by
  unfold stB at h
  simp only [Bool.and_eq_true, Bool.or_eq_true, decide_eq_true_eq] at h
  obtain ⟨h1, h2⟩ := h
  refine ⟨by rw [C.hN]; exact h1, ?_, ?_⟩
  · rw [C.hsc]
    rcases h2 with h2 | h2
    · exact .inl (kindB_ok h2)
    · exact .inr (kindB_ok h2.1)
  · rw [C.hsc, C.hfb]
    rcases h2 with h2 | h2
    · exact .inr (kindB_ok h2)
    · exact .inl h2.2
mutual
theorem tg_ok (C : CxOk G S T D cf k X W N sc fb) : ∀ (t : Tg) (e : Expr), chkT N sc fb t e = true → PG X e (gA G t)
  | .name i, e, h => by
    cases e with
    | Name x p =>
      have h' : stB N sc fb i x = true := by simpa only [chkT] using h
      obtain ⟨h1, h2, h3⟩ := stB_ok C h'
      refine PG.mono (pg_name (by rw [C.hN]; exact C.nd) h1 h2 h3) fun x σ H Q ⟨B, ρ, env, env', p, re, rx, ha, hQ⟩ => ?_
      have ha' : (if i < env.length then some (env.set i (some p)) else none) = some env' := by simpa only [MP.assign] using ha
      by_cases hl : i < env.length
      · rw [if_pos hl] at ha'
        cases ha'
        exact hQ _ (set_env re rx) fun own ho => wipe_set (ho i (by simp [tgSlots]))
      · rw [if_neg hl] at ha'
        cases ha'
    | _ => simp [chkT] at h
  | .tup ts, e, h => by
    cases e with
    | Tuple es c p =>
      have h' : chkTs N sc fb ts es = true := by simpa only [chkT] using h
      obtain ⟨h1, h2⟩ := tgs_each h' X.env
      refine PG.mono (pg_tup C.calm (tgs_ok C ts es h') h1 h2) fun x σ H Q ⟨B, ρ, env, env', p, re, rx, ha, hQ⟩ => ?_
      cases p with
      | tup ps =>
        have ha' : assigns ts ps env = some env' := by simpa only [MP.assign] using ha
        have hlen : ∀ {ts : List Tg} {ps : List PV} {env env' : MP.Env}, assigns ts ps env = some env' → ts.length = ps.length := by
          intro ts
          induction ts with
          | nil => intro ps env env' h; cases ps with
            | nil => rfl
            | cons => simp [assigns] at h
          | cons t ts ih => intro ps env env' h; cases ps with
            | nil => simp [assigns] at h
            | cons p ps =>
              simp only [assigns] at h
              obtain ⟨e1, _, h2⟩ := Option.bind_eq_some_iff.mp h
              simp [ih h2]
        obtain ⟨a, xs, rfl, hq, rxs⟩ : ∃ a xs, x = .ref a ∧ SqT G.K H a xs ∧ RVs G H B ρ xs ps := by
          cases rx with
          | tup h r => exact ⟨_, _, rfl, .inl (.inl h), r⟩
          | ktup h hm r => exact ⟨_, _, rfl, h.1 H, r⟩
        refine ⟨a, xs, rfl, by rw [C.hK]; exact hq, by rw [rxs.length, hlen ha'], B, ρ, env, env', ps, re, rxs, ha', fun σ' re' hw => hQ σ' re' fun own ho => hw own (by simpa only [tgSlots] using ho)⟩
      | _ => simp [MP.assign] at ha
    | _ => simp [chkT] at h
theorem tgs_ok (C : CxOk G S T D cf k X W N sc fb) : ∀ (ts : List Tg) (es : List Expr), chkTs N sc fb ts es = true → PGs X es (gAs G ts)
  | [], [], _ => PGs.mono pgs_nil fun xs σ H Q ⟨B, ρ, env, env', ps, re, rx, ha, hQ⟩ => by
    cases ps with
    | nil =>
      cases rx
      simp only [assigns] at ha
      cases ha
      exact ⟨rfl, hQ σ re fun _ _ => rfl⟩
    | cons => simp [assigns] at ha
  | [], _ :: _, h => by simp [chkTs] at h
  | _ :: _, [], h => by simp [chkTs] at h
  | t :: ts, e :: es, h => by
    have h' := h
    simp only [chkTs, Bool.and_eq_true] at h'
    refine PGs.mono (pgs_cons (tg_ok C t e h'.1) (tgs_ok C ts es h'.2) (by rw [tg_each h'.1]; rfl)) fun xs σ H Q ⟨B, ρ, env, env', ps, re, rx, ha, hQ⟩ => ?_
    cases ps with
    | nil => simp [assigns] at ha
    | cons p ps =>
      cases rx with
      | @cons x xs _ _ r rr =>
        simp only [assigns] at ha
        obtain ⟨e1, ha1, ha2⟩ := Option.bind_eq_some_iff.mp ha
        refine ⟨x, xs, rfl, B, ρ, env, e1, p, re, r, ha1, fun σ1 re1 hw1 => ⟨B, ρ, e1, env', ps, re1, rr, ha2, fun σ' re' hw' => hQ σ' re' fun own ho => ?_⟩⟩
        have ho' : ∀ j ∈ tgSlots t ++ tgsSlots ts, j ∈ own := by simpa only [tgsSlots] using ho
        rw [hw' own fun j hj => ho' j (List.mem_append_right _ hj), hw1 own fun j hj => ho' j (List.mem_append_left _ hj)]
end

/-! what is walked -/
structure Yld (G : Gs) (H1 : Hp) (B1 ρ1 : List Addr) (J : It) (s : Src) : Prop where
  stop : ∀ H B ρ st i, Ext H1 B1 ρ1 H B ρ → RSto G H B ρ st → s.get st i = some none → J.stop i H
  go : ∀ H B ρ st i p, Ext H1 B1 ρ1 H B ρ → RSto G H B ρ st → s.get st i = some (some p) → J.go i H ∧ ∀ x H', J.yld i H x H' → Ext H B ρ H' B ρ ∧ RSto G H' B ρ st ∧ RV G H' B ρ x p
def tI (G : Gs) (W : XK) (m : MP.M Src) : TI := fun σ H R => ∃ B ρ env st, REnv G H B ρ σ env ∧ RSto G H B ρ st ∧ Post G H B ρ (m env st) (fun s H1 B1 ρ1 _ => ∀ J, Yld G H1 B1 ρ1 J s → R J H1) W
theorem yld_list {a : Addr} {xs : List V} {ps : List PV} (h : ∀ H B ρ, Ext H1 B1 ρ1 H B ρ → SqL G.K H a xs ∧ RVs G H B ρ xs ps) : Yld G H1 B1 ρ1 (Itl G.K a) (.items ps) where
  stop := fun H B ρ st i e r hg => by
    obtain ⟨h1, h2⟩ := h H B ρ e
    have hg' : ps[i]? = none := Option.some.inj hg
    refine ⟨xs, h1, ?_⟩
    rw [h2.length]
    exact List.getElem?_eq_none_iff.mp hg'
  go := fun H B ρ st i p e r hg => by
    obtain ⟨h1, h2⟩ := h H B ρ e
    have hg' : ps[i]? = some p := Option.some.inj hg
    obtain ⟨x, hx, rx⟩ := h2.get hg'
    refine ⟨⟨xs, x, h1, hx⟩, fun y H' hy => ?_⟩
    obtain ⟨rfl, hy⟩ := hy
    have := hy xs h1
    rw [hx] at this
    cases this
    exact ⟨Ext.refl, r, rx⟩
theorem yld_tup {a : Addr} {xs : List V} {ps : List PV} (h : ∀ H B ρ, Ext H1 B1 ρ1 H B ρ → SqT G.K H a xs ∧ RVs G H B ρ xs ps) : Yld G H1 B1 ρ1 (Itt G.K a) (.items ps) where
  stop := fun H B ρ st i e r hg => by
    obtain ⟨h1, h2⟩ := h H B ρ e
    have hg' : ps[i]? = none := Option.some.inj hg
    refine ⟨xs, h1, ?_⟩
    rw [h2.length]
    exact List.getElem?_eq_none_iff.mp hg'
  go := fun H B ρ st i p e r hg => by
    obtain ⟨h1, h2⟩ := h H B ρ e
    have hg' : ps[i]? = some p := Option.some.inj hg
    obtain ⟨x, hx, rx⟩ := h2.get hg'
    refine ⟨⟨xs, x, h1, hx⟩, fun y H' hy => ?_⟩
    obtain ⟨rfl, hy⟩ := hy
    have := hy xs h1
    rw [hx] at this
    cases this
    exact ⟨Ext.refl, r, rx⟩
theorem yld_live {a : Addr} {n : Nat} (h : ρ1[n]? = some a) : Yld G H1 B1 ρ1 (Itl G.K a) (.live n) where
  stop := fun H B ρ st i e r hg => by
    cases q : st[n]? with
    | none => simp only [Src.get, q] at hg; cases hg
    | some o =>
      cases o with
      | lst ps =>
        simp only [Src.get, q] at hg
        have ro := r.obj n a _ (e.get h) q
        cases ro with
        | lst h1 h2 => exact ⟨_, .inl (.inl h1), by rw [h2.length]; exact List.getElem?_eq_none_iff.mp (Option.some.inj hg)⟩
      | _ => simp only [Src.get, q] at hg; cases hg
  go := fun H B ρ st i p e r hg => by
    cases q : st[n]? with
    | none => simp only [Src.get, q] at hg; cases hg
    | some o =>
      cases o with
      | lst ps =>
        simp only [Src.get, q] at hg
        have ro := r.obj n a _ (e.get h) q
        cases ro with
        | @lst xs _ h1 h2 =>
          obtain ⟨x, hx, rx⟩ := h2.get (Option.some.inj hg)
          refine ⟨⟨xs, x, .inl (.inl h1), hx⟩, fun y H' hy => ?_⟩
          obtain ⟨rfl, hy⟩ := hy
          have := hy xs (.inl (.inl h1))
          rw [hx] at this
          cases this
          exact ⟨Ext.refl, r, rx⟩
      | _ => simp only [Src.get, q] at hg; cases hg
theorem yld_str {x : List Nat} (h : okStr x = true) : Yld G H1 B1 ρ1 (Its (toS x)) (.items (x.map fun c => .str [c])) where
  stop := fun H B ρ st i e r hg => by
    have hg' : (x.map fun c => PV.str [c])[i]? = none := Option.some.inj hg
    have : x.length ≤ i := by
      have := List.getElem?_eq_none_iff.mp hg'
      simpa using this
    show (toS x).cps.size ≤ i
    simpa [toS] using this
  go := fun H B ρ st i p e r hg => by
    have hg' : (x.map fun c => PV.str [c])[i]? = some p := Option.some.inj hg
    rw [List.getElem?_map] at hg'
    cases hc : x[i]? with
    | none => rw [hc] at hg'; cases hg'
    | some c =>
      rw [hc] at hg'
      cases hg'
      have hl := (List.getElem?_eq_some_iff.mp hc).1
      refine ⟨?_, fun y H' hy => ?_⟩
      · show i < (toS x).cps.size
        simpa [toS] using hl
      · obtain ⟨rfl, c', hc', rfl⟩ := hy
        have e' : c' = c := by
          have : (x.toArray)[i]? = some c' := hc'
          rw [List.getElem?_toArray, hc] at this
          exact (Option.some.inj this).symm
        subst e'
        refine ⟨Ext.refl, r, ?_⟩
        have hok : okStr [c'] = true := by
          unfold okStr at h ⊢
          rw [List.all_eq_true] at h
          simp only [List.all_cons, List.all_nil, Bool.and_true]
          exact h c' (List.mem_of_getElem? hc)
        exact RV.str hok (by show 1 ≤ line; decide)
theorem yld_rng {lo : Int} {n : Nat} : Yld G H1 B1 ρ1 (Itr lo n) (.items (rangeL lo n)) where
  stop := fun H B ρ st i e r hg => by
    have hg' : (rangeL lo n)[i]? = none := Option.some.inj hg
    have := List.getElem?_eq_none_iff.mp hg'
    show n ≤ i
    simpa [rangeL] using this
  go := fun H B ρ st i p e r hg => by
    have hg' : (rangeL lo n)[i]? = some p := Option.some.inj hg
    have hl := (List.getElem?_eq_some_iff.mp hg').1
    have hl' : i < n := by simpa [rangeL] using hl
    refine ⟨hl', fun y H' hy => ?_⟩
    obtain ⟨rfl, rfl⟩ := hy
    have : p = .int (lo + i) := by
      have := (List.getElem?_eq_some_iff.mp hg').2
      simp [rangeL] at this
      exact this.symm
    subst this
    exact ⟨Ext.refl, r, .int _⟩
theorem yld_enum {a : Addr} {xs : List V} {ps : List PV} (h : ∀ H B ρ, Ext H1 B1 ρ1 H B ρ → SqL G.K H a xs ∧ RVs G H B ρ xs ps)
 : Yld G H1 B1 ρ1 (Ite G.K a) (.items (enumL ps 0)) where
  stop := fun H B ρ st i e r hg => by
    obtain ⟨h1, h2⟩ := h H B ρ e
    have hg' : (enumL ps 0)[i]? = none := Option.some.inj hg
    refine ⟨xs, h1, ?_⟩
    rw [h2.length]
    have := List.getElem?_eq_none_iff.mp hg'
    simpa [enumL] using this
  go := fun H B ρ st i p e r hg => by
    obtain ⟨h1, h2⟩ := h H B ρ e
    have hg' : (enumL ps 0)[i]? = some p := Option.some.inj hg
    have : ∃ q, ps[i]? = some q ∧ p = .tup [.int i, q] := by
      simp only [enumL, List.getElem?_map, List.getElem?_zipIdx] at hg'
      cases hc : ps[i]? with
      | none => rw [hc] at hg'; simp at hg'
      | some q =>
        rw [hc] at hg'
        simp at hg'
        exact ⟨q, rfl, hg'.symm⟩
    obtain ⟨q, hq, rfl⟩ := this
    obtain ⟨x, hx, rx⟩ := h2.get hq
    refine ⟨⟨xs, x, h1, hx⟩, fun y H' hy => ?_⟩
    obtain ⟨T', x', rfl, hn, rfl, hy⟩ := hy
    have := hy xs h1
    rw [hx] at this
    cases this
    have ex : Ext H B ρ (upd H T' (.tup [.int (i : Nat), x])) B ρ := ext_new r hn
    exact ⟨ex, sto_new r hn, .tup upd_same (.cons (.int _) (.cons (rx.ext ex r.sub) .nil))⟩
theorem yld_enumL {a : Addr} {n : Nat} (h : ρ1[n]? = some a) : Yld G H1 B1 ρ1 (Ite G.K a) (.liveE n) where
  stop := fun H B ρ st i e r hg => by
    cases q : st[n]? with
    | none => simp only [Src.get, q] at hg; cases hg
    | some o =>
      cases o with
      | lst ps =>
        simp only [Src.get, q] at hg
        have ro := r.obj n a _ (e.get h) q
        cases ro with
        | lst h1 h2 =>
          refine ⟨_, .inl (.inl h1), ?_⟩
          rw [h2.length]
          have := Option.some.inj hg
          rw [Option.map_eq_none_iff] at this
          exact List.getElem?_eq_none_iff.mp this
      | _ => simp only [Src.get, q] at hg; cases hg
  go := fun H B ρ st i p e r hg => by
    cases q : st[n]? with
    | none => simp only [Src.get, q] at hg; cases hg
    | some o =>
      cases o with
      | lst ps =>
        simp only [Src.get, q] at hg
        have ro := r.obj n a _ (e.get h) q
        cases ro with
        | @lst xs _ h1 h2 =>
          obtain ⟨v, hv, rfl⟩ := Option.map_eq_some_iff.mp (Option.some.inj hg)
          obtain ⟨x, hx, rx⟩ := h2.get hv
          refine ⟨⟨xs, x, .inl (.inl h1), hx⟩, fun y H' hy => ?_⟩
          obtain ⟨T', x', rfl, hn, rfl, hy⟩ := hy
          have := hy xs (.inl (.inl h1))
          rw [hx] at this
          cases this
          have ex : Ext H B ρ (upd H T' (.tup [.int (i : Nat), x])) B ρ := ext_new r hn
          exact ⟨ex, sto_new r hn, .tup upd_same (.cons (.int _) (.cons (rx.ext ex r.sub) .nil))⟩
      | _ => simp only [Src.get, q] at hg; cases hg
theorem zip_get {ps qs : List PV} {i : Nat} : (zipL ps qs)[i]? = (match ps[i]?, qs[i]? with
    | some p, some q => some (.tup [p, q])
    | _, _ => none) := by
  simp only [zipL, List.getElem?_map, List.getElem?_zip_eq_some, List.zip]
  rw [List.getElem?_zipWith]
  cases ps[i]? <;> cases qs[i]? <;> rfl
theorem yld_zip {a b : Addr} {xs ys : List V} {ps qs : List PV} (h : ∀ H B ρ, Ext H1 B1 ρ1 H B ρ → SqL G.K H a xs ∧ SqL G.K H b ys ∧ RVs G H B ρ xs ps ∧ RVs G H B ρ ys qs) : Yld G H1 B1 ρ1 (Itz G.K a b) (.items (zipL ps qs)) where
  stop := fun H B ρ st i e r hg => by
    obtain ⟨h1, h2, h3, h4⟩ := h H B ρ e
    have hg' : (zipL ps qs)[i]? = none := Option.some.inj hg
    refine ⟨xs, ys, h1, h2, ?_⟩
    rw [h3.length, h4.length]
    have := List.getElem?_eq_none_iff.mp hg'
    simp [zipL] at this
    omega
  go := fun H B ρ st i p e r hg => by
    obtain ⟨h1, h2, h3, h4⟩ := h H B ρ e
    have hg' : (zipL ps qs)[i]? = some p := Option.some.inj hg
    rw [zip_get] at hg'
    cases hp : ps[i]? with
    | none => rw [hp] at hg'; cases hg'
    | some p1 =>
      cases hq : qs[i]? with
      | none => rw [hp, hq] at hg'; cases hg'
      | some q1 =>
        rw [hp, hq] at hg'
        cases hg'
        obtain ⟨x, hx, rx⟩ := h3.get hp
        obtain ⟨y, hy, ry⟩ := h4.get hq
        refine ⟨⟨xs, ys, x, y, h1, h2, hx, hy⟩, fun z H' hz => ?_⟩
        obtain ⟨T', x', y', rfl, hn, rfl, hx', hy'⟩ := hz
        have e1 := hx' xs h1
        rw [hx] at e1
        cases e1
        have e2 := hy' ys h2
        rw [hy] at e2
        cases e2
        have ex : Ext H B ρ (upd H T' (.tup [x, y])) B ρ := ext_new r hn
        exact ⟨ex, sto_new r hn, .tup upd_same (.cons (rx.ext ex r.sub) (.cons (ry.ext ex r.sub) .nil))⟩
theorem yld_zipT {a b : Addr} {xs ys : List V} {ps qs : List PV} (h : ∀ H B ρ, Ext H1 B1 ρ1 H B ρ → SqT G.K H a xs ∧ SqT G.K H b ys ∧ RVs G H B ρ xs ps ∧ RVs G H B ρ ys qs) : Yld G H1 B1 ρ1 (RZ.ItzT G.K a b) (.items (zipL ps qs)) where
  stop := fun H B ρ st i e r hg => by
    obtain ⟨h1, h2, h3, h4⟩ := h H B ρ e
    have hg' : (zipL ps qs)[i]? = none := Option.some.inj hg
    refine ⟨xs, ys, h1, h2, ?_⟩
    rw [h3.length, h4.length]
    have := List.getElem?_eq_none_iff.mp hg'
    simp [zipL] at this
    omega
  go := fun H B ρ st i p e r hg => by
    obtain ⟨h1, h2, h3, h4⟩ := h H B ρ e
    have hg' : (zipL ps qs)[i]? = some p := Option.some.inj hg
    rw [zip_get] at hg'
    cases hp : ps[i]? with
    | none => rw [hp] at hg'; cases hg'
    | some p1 =>
      cases hq : qs[i]? with
      | none => rw [hp, hq] at hg'; cases hg'
      | some q1 =>
        rw [hp, hq] at hg'
        cases hg'
        obtain ⟨x, hx, rx⟩ := h3.get hp
        obtain ⟨y, hy, ry⟩ := h4.get hq
        refine ⟨⟨xs, ys, x, y, h1, h2, hx, hy⟩, fun z H' hz => ?_⟩
        obtain ⟨T', x', y', rfl, hn, rfl, hx', hy'⟩ := hz
        have e1 := hx' xs h1
        rw [hx] at e1
        cases e1
        have e2 := hy' ys h2
        rw [hy] at e2
        cases e2
        have ex : Ext H B ρ (upd H T' (.tup [x, y])) B ρ := ext_new r hn
        exact ⟨ex, sto_new r hn, .tup upd_same (.cons (rx.ext ex r.sub) (.cons (ry.ext ex r.sub) .nil))⟩
/-- a list that nobody changes, in all heaps that go on -/
theorem RV.lstX {ps : List PV} (rs : RSto G H1 B1 ρ1 st) {x : V} (r : RV G H1 B1 ρ1 x (.lst ps)) : ∃ a xs, x = .ref a ∧ ∀ H B ρ, Ext H1 B1 ρ1 H B ρ → SqL G.K H a xs ∧ RVs G H B ρ xs ps := by
  cases r with
  | lst h n r => exact ⟨_, _, rfl, fun H B ρ e => ⟨.inl (.inl (e.keep _ _ h (fun z => n (rs.sub _ z)) (fun _ z => nomatch z))), r.ext e rs.sub⟩⟩
theorem RV.tupX {ps : List PV} (rs : RSto G H1 B1 ρ1 st) {x : V} (r : RV G H1 B1 ρ1 x (.tup ps)) : ∃ a xs, x = .ref a ∧ ∀ H B ρ, Ext H1 B1 ρ1 H B ρ → SqT G.K H a xs ∧ RVs G H B ρ xs ps := by
  cases r with
  | tup h r => exact ⟨_, _, rfl, fun H B ρ e => ⟨.inl (.inl (e.tup _ _ h)), r.ext e rs.sub⟩⟩
  | ktup h hm r => exact ⟨_, _, rfl, fun H B ρ e => ⟨h.1 H, r.ext e rs.sub⟩⟩
theorem isRow_ok {n : Nat} {a : Addr} (rs : RSto G H B ρ st) (ha : ρ[n]? = some a) (h : isRow st n = true) : ∃ xs, H a = some (.lst xs) := by
  unfold isRow at h
  cases q : st[n]? with
  | none => rw [q] at h; cases h
  | some o =>
    rw [q] at h
    cases o with
    | lst ps =>
      cases rs.obj n a _ ha q with
      | lst h1 _ => exact ⟨_, h1⟩
    | _ => cases h
end
end MP

set_option Elab.async false
set_option linter.all false
set_option maxRecDepth 100000
set_option maxHeartbeats 4000000
/-! MSound4: what is walked, by its text; comprehensions. -/
namespace MP
open PySem PySem.Spec PyProof.Rows L2
section
variable {G : Gs} {S : Syn} {T : Top} {D : Nat → Option Df} {cf : CallF} {k : Nat} {X : Cx} {W : XK} {N : List Str} {sc : Scope} {fb : Fb}
variable {H H' H1 : Hp} {B ρ B' ρ' B1 ρ1 : List Addr} {st : Sto}

/-- a list, a tuple, a str -/
def iAny (K : PySem.W.Frag) (te : TE) : TI := fun σ H R => te σ H fun x H1 => (∃ a, x = .ref a ∧ (∃ xs, SqL K H1 a xs) ∧ R (Itl K a) H1) ∨ (∃ a, x = .ref a ∧ (∃ xs, SqT K H1 a xs) ∧ R (Itt K a) H1) ∨ ∃ y, x = .str y ∧ R (Its y) H1
theorem pi_any {tg l : Expr} {tl : TE} (hl : PE X l tl) : PI X tg l (iAny X.K tl) := by
  refine ⟨fun pins s σ H R I h => ?_⟩
  refine thn (hl.run pins s σ H _ I h) fun v s1 ⟨x, H1, I1, r1, q1⟩ => ?_
  rcases q1 with ⟨a, rfl, ⟨xs, hq⟩, q⟩ | ⟨a, rfl, ⟨xs, hq⟩, q⟩ | ⟨y, rfl, q⟩
  · cases r1
    obtain ⟨its, rv, p, hz⟩ := I1.list hq
    refine wpAny_pyIter_list p.isList ?_
    exact pi_one (tk := s1.toks) I1 _ (turn_list a _) ⟨_, Heap.get?_push_size _ rfl, rfl, rfl⟩ q
  · cases r1
    obtain ⟨its, rv, p, hz⟩ := I1.tuple hq
    refine wpAny_pyIter_tuple (show s1.heap.IsTuple a its.toArray from p) ?_
    exact pi_one (tk := s1.toks) I1 _ (turn_tuple a _) ⟨_, Heap.get?_push_size _ rfl, rfl, rfl⟩ q
  · obtain ⟨t, rfl⟩ := r1
    cases ha : y.cps.all (· < 128)
    · exact wpAny_pyIter_wide ha (pi_one (tk := s1.toks) I1 _ (turn_str _ y t "str_iterator" (.inr rfl)) ⟨_, Heap.get?_push_size _ rfl, rfl, rfl⟩ q)
    · exact wpAny_pyIter_ascii ha (pi_one (tk := s1.toks) I1 _ (turn_str _ y t "str_ascii_iterator" (.inl rfl)) ⟨_, Heap.get?_push_size _ rfl, rfl, rfl⟩ q)
theorem iev_ok (C : CxOk G S T D cf k X W N sc fb) {e : IE} {tg x : Expr} (he : PE X x (tE G W (ev T cf e))) : PI X tg x (tI G W (src T cf (.ev e))) := by
  refine PI.mono (pi_any he) fun σ H R ⟨B, ρ, env, st, re, rs, p⟩ => ?_
  rw [src] at p
  refine ⟨B, ρ, env, st, re, rs, (Post.bind p).imp fun v H1 B1 ρ1 st1 e1 rs1 p1 x rx => ?_⟩
  cases v with
  | tup ps =>
    obtain ⟨a, xs, rfl, h⟩ := rx.tupX rs1
    exact .inr (.inl ⟨a, rfl, ⟨xs, by rw [C.hK]; exact (h _ _ _ Ext.refl).1⟩, p1.here rs1 _ (by rw [C.hK]; exact yld_tup h)⟩)
  | lst ps =>
    obtain ⟨a, xs, rfl, h⟩ := rx.lstX rs1
    exact .inl ⟨a, rfl, ⟨xs, by rw [C.hK]; exact (h _ _ _ Ext.refl).1⟩, p1.here rs1 _ (by rw [C.hK]; exact yld_list h)⟩
  | str y =>
    cases rx with
    | str h hl => exact .inr (.inr ⟨_, rfl, p1.here rs1 _ (yld_str h)⟩)
  | scr ns =>
    cases rx with
    | @scr a _ h =>
      have h' : ∀ H B ρ, Ext H1 B1 ρ1 H B ρ → SqL G.K H a (ns.map V.int) ∧ RVs G H B ρ (ns.map V.int) (ns.map PV.int) := fun H B ρ e =>
        ⟨Still.sq (h.elim (fun ⟨o, z⟩ => .inl ⟨o, e.frz _ o _ z⟩) .inr), rvs_ints ns⟩
      exact .inl ⟨a, rfl, ⟨_, by rw [C.hK]; exact h.sq⟩, p1.here rs1 _ (by rw [C.hK]; exact yld_list h')⟩
  | ref n =>
    cases rx with
    | @ref a _ ha =>
      have p2 : Post G H1 B1 ρ1 (if isRow st1 n = true then Out.ok (Src.live n) st1 else .stuck) _ W := p1
      by_cases hi : isRow st1 n = true
      · rw [if_pos hi] at p2
        obtain ⟨xs, hx⟩ := isRow_ok rs1 ha hi
        exact .inl ⟨a, rfl, ⟨xs, .inl (.inl hx)⟩, p2.here rs1 _ (by rw [C.hK]; exact yld_live ha)⟩
      · rw [if_neg hi] at p2
        exact p2.elim
  | _ => exact (show False from p1).elim
theorem wide_ok {i : Int} (h : wide i = true) : -(2 ^ 62) ≤ i ∧ i < 2 ^ 62 := by
  have h2 : i.natAbs ≤ 4611686018427387903 := Nat.le_of_ble_eq_true h
  have e1 : ((2 : Int) ^ 62) = 4611686018427387904 := by decide
  rw [e1]
  omega
theorem pa_one {x : Expr} {te : TE} (hs : noStar x = true) (h : PE X x te) : PA X [x] (tCons te tNil) := pa_cons h pa_nil (noStar_ok hs [] X.env)
theorem pa_two {x y : Expr} {te tf : TE} (hs : noStar x = true) (hs2 : noStar y = true) (h : PE X x te) (h2 : PE X y tf) : PA X [x, y] (tCons te (tCons tf tNil)) := pa_cons h (pa_one hs2 h2) (noStar_ok hs [y] X.env)
theorem irng1_ok (C : CxOk G S T D cf k X W N sc fb) {a : IE} {tg y : Expr} {x : Str} {p1 p2 : Pos} (hx : x = ("range" : Str)) (hf : S.free x = true) (hg : glB sc x = true) (hs : noStar y = true) (ha : PE X y (tE G W (ev T cf a))) :
    PI X tg (.Call (.Name x p1) [y] [] p2) (tI G W (src T cf (.rng1 a))) := by
  subst hx
  refine PI.mono (pi_range1 (gl_ok C hg) (by rw [C.hmg]; exact C.free _ hf) (pa_one hs ha) (noStar_ok hs [] X.env)) fun σ H R ⟨B, ρ, env, st, re, rs, p⟩ => ?_
  rw [src] at p
  refine ⟨B, ρ, env, st, re, rs, (Post.bind p).imp fun v H1 B1 ρ1 st1 e1 rs1 p1 x rx => ?_⟩
  cases rx with
  | int j =>
    have p2 : Post G H1 B1 ρ1 (if wide j = true then Out.ok (Src.items (rangeL 0 j.toNat)) st1 else .stuck) _ W := p1
    by_cases hw : wide j = true
    · rw [if_pos hw] at p2
      obtain ⟨h1, h2⟩ := wide_ok hw
      exact ⟨j, rfl, h1, h2, p2.here rs1 _ yld_rng⟩
    · rw [if_neg hw] at p2
      exact p2.elim
  | _ => exact (show False from p1).elim
theorem irng2_ok (C : CxOk G S T D cf k X W N sc fb) {a b : IE} {tg y z : Expr} {x : Str} {p1 p2 : Pos} (hx : x = ("range" : Str)) (hf : S.free x = true) (hg : glB sc x = true) (hs : noStar y = true) (hs2 : noStar z = true) (ha : PE X y (tE G W (ev T cf a))) (hb : PE X z (tE G W (ev T cf b))) :
    PI X tg (.Call (.Name x p1) [y, z] [] p2) (tI G W (src T cf (.rng2 a b))) := by
  subst hx
  refine PI.mono (pi_range2 (gl_ok C hg) (by rw [C.hmg]; exact C.free _ hf) (pa_two hs hs2 ha hb) (by rw [noStar_ok hs, noStar_ok hs2]; rfl) (noStar_ok hs2 [] X.env)) fun σ H R ⟨B, ρ, env, st, re, rs, p⟩ => ?_
  rw [src] at p
  refine ⟨B, ρ, env, st, re, rs, (Post.bind p).imp fun v H1 B1 ρ1 st1 e1 rs1 p1 x rx => ?_⟩
  refine ⟨B1, ρ1, env, st1, re.ext e1 rs.sub, rs1, (Post.bind p1).imp fun w H2 B2 ρ2 st2 e2 rs2 p2 y ry => ?_⟩
  cases rx with
  | int i =>
    cases ry with
    | int j =>
      have p3 : Post G H2 B2 ρ2 (if (wide i && wide j) = true then Out.ok (Src.items (rangeL i (j - i).toNat)) st2 else .stuck) _ W := p2
      by_cases hw : (wide i && wide j) = true
      · rw [if_pos hw] at p3
        have hw' := Bool.and_eq_true_iff.mp hw
        obtain ⟨h1, h2⟩ := wide_ok hw'.1
        obtain ⟨h3, h4⟩ := wide_ok hw'.2
        exact ⟨i, j, rfl, ⟨h1, h2, h3, h4⟩, p3.here rs2 _ yld_rng⟩
      · rw [if_neg hw] at p3
        exact p3.elim
    | _ => exact (show False from p2).elim
  | _ => exact (show False from p2).elim
theorem ienm_ok (C : CxOk G S T D cf k X W N sc fb) {a : IE} {elts : List Expr} {kk : Nat} {tpos : Pos} {y : Expr} {x : Str} {p1 p2 : Pos} (hx : x = ("enumerate" : Str)) (hf : S.free x = true) (hg : glB sc x = true) (hs : noStar y = true) (ha : PE X y (tE G W (ev T cf a))) :
    PI X (.Tuple elts kk tpos) (.Call (.Name x p1) [y] [] p2) (tI G W (src T cf (.enm a))) := by
  subst hx
  refine PI.mono (pi_enum (gl_ok C hg) (by rw [C.hmg]; exact C.free _ hf) (pa_one hs ha) (noStar_ok hs [] X.env)) fun σ H R ⟨B, ρ, env, st, re, rs, p⟩ => ?_
  rw [src] at p
  refine ⟨B, ρ, env, st, re, rs, (Post.bind p).imp fun v H1 B1 ρ1 st1 e1 rs1 p1 x rx => ?_⟩
  cases v with
  | lst ps =>
    obtain ⟨a, xs, rfl, h⟩ := rx.lstX rs1
    exact ⟨a, xs, rfl, by rw [C.hK]; exact (h _ _ _ Ext.refl).1, p1.here rs1 _ (by rw [C.hK]; exact yld_enum h)⟩
  | ref n =>
    cases rx with
    | @ref a _ ha =>
      have p2 : Post G H1 B1 ρ1 (if isRow st1 n = true then Out.ok (Src.liveE n) st1 else .stuck) _ W := p1
      by_cases hi : isRow st1 n = true
      · rw [if_pos hi] at p2
        obtain ⟨xs, hx⟩ := isRow_ok rs1 ha hi
        exact ⟨a, xs, rfl, .inl (.inl hx), p2.here rs1 _ (by rw [C.hK]; exact yld_enumL ha)⟩
      · rw [if_neg hi] at p2
        exact p2.elim
  | _ => exact (show False from p1).elim
theorem izip_ok (C : CxOk G S T D cf k X W N sc fb) {a b : IE} {elts : List Expr} {kk : Nat} {tpos : Pos} {y z : Expr} {x : Str} {p1 p2 : Pos} (hx : x = ("zip" : Str)) (hf : S.free x = true) (hg : glB sc x = true) (hs : noStar y = true) (hs2 : noStar z = true) (ha : PE X y (tE G W (ev T cf a))) (hb : PE X z (tE G W (ev T cf b))) :
    PI X (.Tuple elts kk tpos) (.Call (.Name x p1) [y, z] [] p2) (tI G W (src T cf (.zip a b))) := by
  subst hx
  refine PI.mono (RZ.pi_zipA (gl_ok C hg) (by rw [C.hmg]; exact C.free _ hf) (pa_two hs hs2 ha hb) (noStar_ok hs [z] X.env) (by rw [noStar_ok hs2]; rfl)) fun σ H R ⟨B, ρ, env, st, re, rs, p⟩ => ?_
  rw [src] at p
  refine ⟨B, ρ, env, st, re, rs, (Post.bind p).imp fun v H1 B1 ρ1 st1 e1 rs1 p1 x rx => ?_⟩
  refine ⟨B1, ρ1, env, st1, re.ext e1 rs.sub, rs1, (Post.bind p1).imp fun w H2 B2 ρ2 st2 e2 rs2 p2 y ry => ?_⟩
  have rx2 := rx.ext e2 rs1.sub
  cases v with
  | lst ps =>
    cases w with
    | lst qs =>
      obtain ⟨a, xs, rfl, h⟩ := rx2.lstX rs2
      obtain ⟨b, ys, rfl, h'⟩ := ry.lstX rs2
      exact ⟨a, b, xs, ys, rfl, .inl ⟨by rw [C.hK]; exact (h _ _ _ Ext.refl).1, by rw [C.hK]; exact (h' _ _ _ Ext.refl).1, p2.here rs2 _ (by rw [C.hK]; exact yld_zip fun H B ρ e => ⟨(h _ _ _ e).1, (h' _ _ _ e).1, (h _ _ _ e).2, (h' _ _ _ e).2⟩)⟩⟩
    | _ => exact (show False from p2).elim
  | tup ps =>
    cases w with
    | tup qs =>
      obtain ⟨a, xs, rfl, h⟩ := rx2.tupX rs2
      obtain ⟨b, ys, rfl, h'⟩ := ry.tupX rs2
      exact ⟨a, b, xs, ys, rfl, .inr ⟨by rw [C.hK]; exact (h _ _ _ Ext.refl).1, by rw [C.hK]; exact (h' _ _ _ Ext.refl).1, p2.here rs2 _ (by rw [C.hK]; exact yld_zipT fun H B ρ e => ⟨(h _ _ _ e).1, (h' _ _ _ e).1, (h _ _ _ e).2, (h' _ _ _ e).2⟩)⟩⟩
    | _ => exact (show False from p2).elim
  | _ => exact (show False from p2).elim

/-! ### comprehensions -/
section
variable {E : Addr} {ys : List V} {o : HO}
mutual
theorem RV.updB (hD : H E = some (.lst ys)) (hB : E ∈ B) : ∀ {x : V} {p : PV}, RV G H B ρ x p → RV G (upd H E o) B ρ x p
  | _, _, .non => .non
  | _, _, .bl b => .bl b
  | _, _, .int i => .int i
  | _, _, .str h hl => .str h hl
  | _, _, .tup h r => .tup (by rw [upd_ne (fun z => by rw [z, hD] at h; cases h)]; exact h) (RVs.updB hD hB r)
  | _, _, .ktup h hm r => .ktup h hm (RVs.updB hD hB r)
  | _, _, .lst h n r => .lst (by rw [upd_ne (fun z => by rw [z] at n; exact n hB)]; exact h) n (RVs.updB hD hB r)
  | _, _, .ref h => .ref h
  | _, _, .fn h => .fn h
  | _, _, .scr h => .scr (h.elim (fun ⟨ob, z⟩ => .inl ⟨ob, by rw [upd_ne (fun q => by rw [q, hD] at z; cases z)]; exact z⟩) .inr)
theorem RVs.updB (hD : H E = some (.lst ys)) (hB : E ∈ B) : ∀ {xs : List V} {ps : List PV}, RVs G H B ρ xs ps → RVs G (upd H E o) B ρ xs ps
  | _, _, .nil => .nil
  | _, _, .cons h r => .cons (RV.updB hD hB h) (RVs.updB hD hB r)
end
theorem RKs.updB (hD : H E = some (.lst ys)) (hB : E ∈ B) {κ : Type} {f : κ → PV} : ∀ {ks : List (κ × V)} {vs : List (PV × PV)}, RKs G H B ρ f ks vs → RKs G (upd H E o) B ρ f ks vs
  | _, _, .nil => .nil
  | _, _, .cons h r => .cons (h.updB hD hB) (RKs.updB hD hB r)
theorem RSto.updB (r : RSto G H B ρ st) (hD : H E = some (.lst ys)) (hB : E ∈ B) (hn : E ∉ ρ) (hm : isMut o) : RSto G (upd H E o) B ρ st where
  nd := r.nd
  sub := r.sub
  len := r.len
  obj := fun n a m h1 h2 => by
    have hne : a ≠ E := fun z => hn (by rw [← z]; exact List.mem_of_getElem? h1)
    cases r.obj n a m h1 h2 with
    | lst h q => exact .lst (by rw [upd_ne hne]; exact h) (q.updB hD hB)
    | dK h q => exact .dK (by rw [upd_ne hne]; exact h) (q.updB hD hB)
    | dT h q => exact .dT (by rw [upd_ne hne]; exact h) (q.updB hD hB)
  has := fun a ha => by
    by_cases e : a = E
    · rw [e]
      exact ⟨o, upd_same, hm⟩
    · obtain ⟨ob, e', q⟩ := r.has a ha
      exact ⟨ob, by rw [upd_ne e]; exact e', q⟩
  tabs := tabs_set r.tabs hD trivial
theorem Ext.updN (e : Ext H1 B1 ρ1 H B ρ) (hn : H1 E = none) : Ext H1 B1 ρ1 (upd H E o) B ρ where
  pre := e.pre
  sub := e.sub
  new := e.new
  newr := e.newr
  keep := fun a u h n t => by rw [upd_ne (ne_of_none h hn)]; exact e.keep a u h n t
  tup := fun a u h => by rw [upd_ne (ne_of_none h hn)]; exact e.tup a u h
  frz := fun a u w h => by rw [upd_ne (ne_of_none h hn)]; exact e.frz a u w h
  grow := fun a h => by
    by_cases q : a = E
    · rw [q]; exact gone_none hn
    · exact e.grow a fun u z => h u (by rw [upd_ne q]; exact z)
/-- a new thing apart: it may change, but nobody has it -/
theorem ext_newB (r : RSto G H B ρ st) (h : H E = none) : Ext H B ρ (upd H E o) (E :: B) ρ where
  pre := ⟨[], by simp⟩
  sub := fun _ z => List.mem_cons_of_mem _ z
  new := fun a z => (List.mem_cons.mp z).elim (fun e => .inr (by rw [e]; exact gone_none h)) .inl
  newr := fun _ z => .inl z
  keep := (ext_new r h).keep
  tup := (ext_new r h).tup
  frz := (ext_new r h).frz
  grow := (ext_new (o := o) r h).grow
theorem sto_newB (r : RSto G H B ρ st) (h : H E = none) (hm : isMut o) : RSto G (upd H E o) (E :: B) ρ st where
  nd := r.nd
  sub := fun a z => List.mem_cons_of_mem _ (r.sub a z)
  len := r.len
  obj := fun n a m h1 h2 => (r.obj n a m h1 h2).ext (ext_newB r h) r.sub (upd_ne fun z => r.ninr h (by rw [← z]; exact List.mem_of_getElem? h1))
  has := fun a ha => by
    rcases List.mem_cons.mp ha with e | e
    · rw [e]
      exact ⟨o, upd_same, hm⟩
    · obtain ⟨ob, e', q'⟩ := r.has a e
      exact ⟨ob, by rw [upd_ne (ne_of_none e' h)]; exact e', q'⟩
  tabs := tabs_new r.tabs h
mutual
theorem RV.less {B2 : List Addr} (hs : ∀ a ∈ B2, a ∈ B) : ∀ {x : V} {p : PV}, RV G H B ρ x p → RV G H B2 ρ x p
  | _, _, .non => .non
  | _, _, .bl b => .bl b
  | _, _, .int i => .int i
  | _, _, .str h hl => .str h hl
  | _, _, .tup h r => .tup h (RVs.less hs r)
  | _, _, .ktup h hm r => .ktup h hm (RVs.less hs r)
  | _, _, .lst h n r => .lst h (fun z => n (hs _ z)) (RVs.less hs r)
  | _, _, .ref h => .ref h
  | _, _, .fn h => .fn h
  | _, _, .scr h => .scr h
theorem RVs.less {B2 : List Addr} (hs : ∀ a ∈ B2, a ∈ B) : ∀ {xs : List V} {ps : List PV}, RVs G H B ρ xs ps → RVs G H B2 ρ xs ps
  | _, _, .nil => .nil
  | _, _, .cons h r => .cons (RV.less hs h) (RVs.less hs r)
end
theorem RKs.less {B2 : List Addr} (hs : ∀ a ∈ B2, a ∈ B) {κ : Type} {f : κ → PV} : ∀ {ks : List (κ × V)} {vs : List (PV × PV)}, RKs G H B ρ f ks vs → RKs G H B2 ρ f ks vs
  | _, _, .nil => .nil
  | _, _, .cons h r => .cons (h.less hs) (RKs.less hs r)
theorem RSto.less {B2 : List Addr} (r : RSto G H B ρ st) (hs : ∀ a ∈ B2, a ∈ B) (h2 : ∀ a ∈ ρ, a ∈ B2) : RSto G H B2 ρ st where
  nd := r.nd
  sub := h2
  len := r.len
  obj := fun n a m e1 e2 => by
    cases r.obj n a m e1 e2 with
    | lst h q => exact .lst h (q.less hs)
    | dK h q => exact .dK h (q.less hs)
    | dT h q => exact .dT h (q.less hs)
  has := fun a ha => r.has a (hs a ha)
  tabs := r.tabs
mutual
theorem RV.moreR {m : List Addr} : ∀ {x : V} {p : PV}, RV G H B ρ x p → RV G H B (ρ ++ m) x p
  | _, _, .non => .non
  | _, _, .bl b => .bl b
  | _, _, .int i => .int i
  | _, _, .str h hl => .str h hl
  | _, _, .tup h r => .tup h (RVs.moreR r)
  | _, _, .ktup h hm r => .ktup h hm (RVs.moreR r)
  | _, _, .lst h n r => .lst h n (RVs.moreR r)
  | _, _, .ref h => .ref (by rw [List.getElem?_append_left (List.getElem?_eq_some_iff.mp h).1]; exact h)
  | _, _, .fn h => .fn h
  | _, _, .scr h => .scr h
theorem RVs.moreR {m : List Addr} : ∀ {xs : List V} {ps : List PV}, RVs G H B ρ xs ps → RVs G H B (ρ ++ m) xs ps
  | _, _, .nil => .nil
  | _, _, .cons h r => .cons (RV.moreR h) (RVs.moreR r)
end
theorem RKs.moreR {m : List Addr} {κ : Type} {f : κ → PV} : ∀ {ks : List (κ × V)} {vs : List (PV × PV)}, RKs G H B ρ f ks vs → RKs G H B (ρ ++ m) f ks vs
  | _, _, .nil => .nil
  | _, _, .cons h r => .cons h.moreR (RKs.moreR r)
/-- it comes into the store -/
theorem RSto.takeIn {ps : List PV} (r : RSto G H B ρ st) (hD : H E = some (.lst ys)) (hB : E ∈ B) (hn : E ∉ ρ) (q : RVs G H B ρ ys ps) : RSto G H B (ρ ++ [E]) (st ++ [.lst ps]) where
  nd := by
    rw [List.nodup_append]
    exact ⟨r.nd, by simp, fun a ha b hb => by rw [List.mem_singleton.mp hb]; rintro rfl; exact hn ha⟩
  sub := fun a z => (List.mem_append.mp z).elim (r.sub a) fun e => by rw [List.mem_singleton.mp e]; exact hB
  len := by simp [r.len]
  obj := fun n a mo h1 h2 => by
    by_cases hl : n < ρ.length
    · rw [List.getElem?_append_left hl] at h1
      rw [List.getElem?_append_left (by rw [← r.len]; exact hl)] at h2
      cases r.obj n a mo h1 h2 with
      | lst h q => exact .lst h q.moreR
      | dK h q => exact .dK h q.moreR
      | dT h q => exact .dT h q.moreR
    · have e : n = ρ.length := by
        have := (List.getElem?_eq_some_iff.mp h1).1
        simp at this
        omega
      subst e
      rw [List.getElem?_append_right (Nat.le_refl _)] at h1
      rw [r.len, List.getElem?_append_right (Nat.le_refl _)] at h2
      simp at h1 h2
      rw [← h1, ← h2]
      exact .lst hD q.moreR
  has := r.has
  tabs := r.tabs
end

theorem wipe_twice (σ : L2.St) (own : List Nat) : wipe (wipe σ own) own = wipe σ own := by
  apply List.ext_getElem?
  intro i
  by_cases hi : i ∈ own
  · by_cases hl : i < σ.length
    · rw [wipe_in hi (by rw [wipe_length]; exact hl), wipe_in hi hl]
    · rw [List.getElem?_eq_none (by rw [wipe_length, wipe_length]; omega), List.getElem?_eq_none (by rw [wipe_length]; omega)]
  · rw [wipe_out hi]
theorem only {α : Type} {o : Out α} {v : α} {st' : Sto} {Q : QK α} {F : XK} (h : o = .ok v st') (q : ∀ H' B' ρ', Ext H B ρ H' B' ρ' → RSto G H' B' ρ' st' → Q v H' B' ρ' st') : Post G H B ρ o Q F := by
  rw [h]
  exact q
theorem lc_imp (C : CxOk G S T D cf k X W N sc fb) {m : Bool} {own : List Nat} {tg : Tg} {it : II} {c elt : IE} (hslots : ∀ j ∈ tgSlots tg, j ∈ own) {σ : L2.St} {H : Hp} {Q : VK} (hp : tE G W (ev T cf (.lc m own tg it c elt)) σ H Q) :
    tLc (tI G W (src T cf it)) (gA G tg) (tT G (fun _ _ _ => False) (gate T cf c)) (tE G (fun _ _ _ => False) (ev T cf elt)) own σ H Q := by
  obtain ⟨B, ρ, env, st, re, rs, p⟩ := hp
  rw [ev_lc] at p
  refine ⟨B, ρ, env, st, re, rs, (Post.bind p).imp fun s H1 B1 ρ1 st1 e1 rs1 p1 => ?_⟩
  intro J Y E hE
  have re1 := re.ext e1 rs.sub
  refine ⟨fun i mm Hc => ∃ Bc ρc stc acc pacc, Ext H1 B1 ρ1 Hc Bc ρc ∧ RSto G Hc Bc ρc stc ∧ E ∈ Bc ∧ E ∉ ρc ∧ Hc E = some (.lst acc) ∧ RVs G Hc Bc ρc acc pacc ∧
      Post G H1 B1 ρ1 ((compG s (stepC tg (forget env own) (gate T cf c) (ev T cf elt)) mm i pacc.reverse stc).bind (newL m)) (fun v H' B' ρ' _ => ∀ x, RV G H' B' ρ' x v → Q x H') W, ?_, ?_⟩
  · exact ⟨turns, E :: B1, ρ1, st1, [], [], ext_newB rs1 hE, sto_newB rs1 hE trivial, List.mem_cons_self, rs1.ninr hE, upd_same, .nil, p1⟩
  · rintro i mm Hc ⟨Bc, ρc, stc, acc, pacc, ec, rc, hEB, hEr, hEH, rv, pc⟩
    cases mm with
    | zero => exact (show False from pc).elim
    | succ mm =>
      rw [compG] at pc
      cases hgt : s.get stc i with
      | none => rw [hgt] at pc; exact (show False from pc).elim
      | some r =>
        cases r with
        | none =>
          refine .inl ⟨Y.stop Hc Bc ρc stc i ec rc hgt, ?_⟩
          rw [hgt] at pc
          have pc' : Post G H1 B1 ρ1 (newL m pacc stc) (fun v H' B' ρ' _ => ∀ x, RV G H' B' ρ' x v → Q x H') W := by
            have : pacc.reverse.reverse = pacc := List.reverse_reverse pacc
            have pc2 : Post G H1 B1 ρ1 (newL m pacc.reverse.reverse stc) (fun v H' B' ρ' _ => ∀ x, RV G H' B' ρ' x v → Q x H') W := pc
            rw [this] at pc2
            exact pc2
          unfold newL at pc'
          by_cases hl : pacc.length ≤ line
          · rw [if_pos hl] at pc'
            cases m with
            | true =>
              have hpre : Ext H1 B1 ρ1 Hc Bc (ρc ++ [E]) := ⟨by
                obtain ⟨mo, e⟩ := ec.pre
                exact ⟨mo ++ [E], by rw [e, List.append_assoc]⟩, ec.sub, ec.new, fun a ha => (List.mem_append.mp ha).elim (ec.newr a) fun e => .inr (by rw [List.mem_singleton.mp e]; exact gone_none hE), ec.keep, ec.tup, ec.frz, ec.grow⟩
              refine pc' Hc Bc (ρc ++ [E]) hpre (rc.takeIn hEH hEB hEr rv) (.ref E) (.ref ?_)
              rw [← rc.len, List.getElem?_append_right (Nat.le_refl _)]
              simp
            | false =>
              have hEB1 : E ∉ B1 := rs1.nin hE
              have hsub : ∀ a ∈ Bc.filter (fun z => decide (z ≠ E)), a ∈ Bc := fun a ha => (List.mem_filter.mp ha).1
              have hpre : Ext H1 B1 ρ1 Hc (Bc.filter fun z => decide (z ≠ E)) ρc := ⟨ec.pre, fun a ha => List.mem_filter.mpr ⟨ec.sub a ha, by simp; rintro rfl; exact hEB1 ha⟩, fun a ha => ec.new a (hsub a ha), ec.newr, ec.keep, ec.tup, ec.frz, ec.grow⟩
              refine pc' Hc _ ρc hpre (rc.less hsub fun a ha => List.mem_filter.mpr ⟨rc.sub a ha, by simp; rintro rfl; exact hEr ha⟩) (.ref E) (.lst hEH (fun z => ?_) (rv.less hsub))
              simpa using (List.mem_filter.mp z).2
          · rw [if_neg hl] at pc'
            exact pc'.elim
        | some x =>
          obtain ⟨hgo, hy⟩ := Y.go Hc Bc ρc stc i x ec rc hgt
          rw [hgt] at pc
          refine .inr ⟨hgo, _, fun H' h => ⟨mm, Nat.lt_succ_self _, h⟩, fun xv Hy hyl => ?_⟩
          obtain ⟨ey, ry, rx⟩ := hy xv Hy hyl
          have pc2 : Post G H1 B1 ρ1 ((match stepC tg (forget env own) (gate T cf c) (ev T cf elt) x stc with
              | .ok none st' => compG s (stepC tg (forget env own) (gate T cf c) (ev T cf elt)) mm (i + 1) pacc.reverse st'
              | .ok (some y) st' => if pacc.reverse.length < line then compG s (stepC tg (forget env own) (gate T cf c) (ev T cf elt)) mm (i + 1) (y :: pacc.reverse) st' else .stuck
              | _ => .stuck).bind (newL m)) (fun v H' B' ρ' _ => ∀ x, RV G H' B' ρ' x v → Q x H') W := pc
          clear pc
          -- what the turn does
          cases ha : MP.assign tg x (forget env own) with
          | none =>
            have es : stepC tg (forget env own) (gate T cf c) (ev T cf elt) x stc = .stuck := by unfold stepC; rw [ha]
            rw [es] at pc2
            exact (show False from pc2).elim
          | some env2 =>
            have es : stepC tg (forget env own) (gate T cf c) (ev T cf elt) x stc = (gate T cf c env2 stc).bind fun b st2 => if b then (ev T cf elt env2 st2).bind fun y st3 => .ok (some y) st3 else .ok none st2 := by
              unfold stepC
              rw [ha]
            rw [es] at pc2
            have hey : Ext H1 B1 ρ1 Hy Bc ρc := ec.trans ey
            have hEy : Hy E = some (.lst acc) := ey.keep E _ hEH hEr (fun _ z => nomatch z)
            refine ⟨Bc, ρc, forget env own, env2, x, wipe_env (re1.ext hey rs1.sub) own, rx, ha, fun σ2 re2 hw => ⟨(hw own hslots).trans (wipe_twice _ _), Bc, ρc, env2, stc, re2, ry, ?_⟩⟩
            cases hgate : gate T cf c env2 stc with
            | exc ex st2 => rw [hgate] at pc2; exact (show False from pc2).elim
            | stuck => rw [hgate] at pc2; exact (show False from pc2).elim
            | ok b st2 =>
              rw [hgate] at pc2
              intro H3 B3 ρ3 e3 r3
              have hE3 : H3 E = some (.lst acc) := e3.keep E _ hEy hEr (fun _ z => nomatch z)
              have hEr3 : E ∉ ρ3 := fun z => (e3.newr E z).elim hEr fun q => gone_mut q hEy trivial
              cases b with
              | false =>
                have pc3 : Post G H1 B1 ρ1 ((compG s (stepC tg (forget env own) (gate T cf c) (ev T cf elt)) mm (i + 1) pacc.reverse st2).bind (newL m)) (fun v H' B' ρ' _ => ∀ x, RV G H' B' ρ' x v → Q x H') W := pc2
                simp only [Bool.false_eq_true, if_false]
                exact ⟨B3, ρ3, st2, acc, pacc, hey.trans e3, r3, e3.sub E hEB, hEr3, hE3, (rv.ext ey rc.sub).ext e3 rc.sub, pc3⟩
              | true =>
                simp only [if_true]
                refine ⟨B3, ρ3, env2, st2, re2.ext e3 rc.sub, r3, ?_⟩
                cases hel : ev T cf elt env2 st2 with
                | exc ex st3 =>
                  have es2 : ((Out.ok true st2 : Out Bool).bind fun b st2 => if b = true then (ev T cf elt env2 st2).bind fun y st3 => .ok (some y) st3 else .ok none st2) = .exc ex st3 := by
                    show (ev T cf elt env2 st2).bind _ = _
                    rw [hel]; rfl
                  rw [es2] at pc2
                  exact (show False from pc2).elim
                | stuck =>
                  have es2 : ((Out.ok true st2 : Out Bool).bind fun b st2 => if b = true then (ev T cf elt env2 st2).bind fun y st3 => .ok (some y) st3 else .ok none st2) = .stuck := by
                    show (ev T cf elt env2 st2).bind _ = _
                    rw [hel]; rfl
                  rw [es2] at pc2
                  exact (show False from pc2).elim
                | ok yv st3 =>
                  have es2 : ((Out.ok true st2 : Out Bool).bind fun b st2 => if b = true then (ev T cf elt env2 st2).bind fun y st3 => .ok (some y) st3 else .ok none st2) = .ok (some yv) st3 := by
                    show (ev T cf elt env2 st2).bind _ = _
                    rw [hel]; rfl
                  rw [es2] at pc2
                  have pc3 : Post G H1 B1 ρ1 ((if pacc.reverse.length < line then compG s (stepC tg (forget env own) (gate T cf c) (ev T cf elt)) mm (i + 1) (yv :: pacc.reverse) st3 else .stuck).bind (newL m)) (fun v H' B' ρ' _ => ∀ x, RV G H' B' ρ' x v → Q x H') W := pc2
                  intro H4 B4 ρ4 e4 r4 z rz
                  have hE4 : H4 E = some (.lst acc) := e4.keep E _ hE3 hEr3 (fun _ z => nomatch z)
                  have hEr4 : E ∉ ρ4 := fun z => (e4.newr E z).elim hEr3 fun q => gone_mut q hE3 trivial
                  have hEB4 : E ∈ B4 := e4.sub E (e3.sub E hEB)
                  have rv4 : RVs G H4 B4 ρ4 acc pacc := ((rv.ext ey rc.sub).ext e3 rc.sub).ext e4 r3.sub
                  by_cases hlen : pacc.reverse.length < line
                  · rw [if_pos hlen] at pc3
                    refine ⟨acc, hE4, ?_, B4, ρ4, st3, acc ++ [z], pacc ++ [yv], ((hey.trans e3).trans e4).updN hE, r4.updB hE4 hEB4 hEr4 trivial, hEB4, hEr4, upd_same, ?_, ?_⟩
                    · rw [rv.length, ← line_eq]
                      simpa using hlen
                    · exact (rv4.updB hE4 hEB4).append (.cons (rz.updB hE4 hEB4) .nil)
                    · rw [List.reverse_append]
                      exact pc3
                  · rw [if_neg hlen] at pc3
                    exact (show False from pc3).elim
theorem lc_ok (C : CxOk G S T D cf k X W N sc fb) {m : Bool} {own : List Nat} {tg : Tg} {it : II} {c elt : IE} {y t i : Expr} {ifs : List Expr} {scope : Scope} {pos : Pos}
    (hown : (ownL N own).map (·.2) = own) (hslots : ∀ j ∈ tgSlots tg, j ∈ own) (ok : blkC N sc scope (ownL N own) = true) (hset : noSet i = true) (hi : PI X t i (tI G W (src T cf it)))
    (hg : ∀ (s : Shared) (H : Hp) (C : Addr) (cl : List (Str × Addr)) (fp : List Addr), PG (X.blk s H scope (compEnvC scope cl C X.env) fp) t (gA G tg))
    (ht : ∀ (s : Shared) (H : Hp) (C : Addr) (cl : List (Str × Addr)) (fp : List Addr), PTs (X.blk s H scope (compEnvC scope cl C X.env) fp) ifs (tT G (fun _ _ _ => False) (gate T cf c)))
    (he : ∀ (s : Shared) (H : Hp) (C : Addr) (cl : List (Str × Addr)) (fp : List Addr), PE (X.blk s H scope (compEnvC scope cl C X.env) fp) y (tE G (fun _ _ _ => False) (ev T cf elt))) :
    PE X (.ListComp y [⟨t, i, ifs, 0⟩] scope pos) (tE G W (ev T cf (.lc m own tg it c elt))) := by
  have okB : BlkOk X.N X.env.scope scope (ownL N own) := by rw [C.hN, C.hsc]; exact blkOk_by ok
  refine PE.mono (pe_lc C.calm (by rw [C.hN]; exact C.nd) hi okB hg ht he (noSet_ok hset X.env)) fun σ H Q hp => ?_
  rw [hown]
  exact lc_imp C hslots hp
/-- name = [..] on one line -/
theorem lcSet_ok (C : CxOk G S T D cf k X W N sc fb) {m : Bool} {own : List Nat} {tg : Tg} {it : II} {c elt : IE} {y t i : Expr} {ifs : List Expr} {scope : Scope} {pos : Pos} {j : Nat} {z : Str} {zp spos : Pos}
    (hz : N[j]? = some z) (hzl : sc.names.lookup z = some .local) (hsw : swapsWith (.ListComp y [⟨t, i, ifs, 0⟩] scope pos) (some (.Name z zp)) spos.line X.env = pure true)
    (hown : (ownL N own).map (·.2) = own) (hslots : ∀ j ∈ tgSlots tg, j ∈ own) (ok : blkC N sc scope (ownL N own) = true) (hset : noSet i = true) (hi : PI X t i (tI G W (src T cf it)))
    (hg : ∀ (s : Shared) (H : Hp) (C : Addr) (cl : List (Str × Addr)) (fp : List Addr), PG (X.blk s H scope (compEnvC scope cl C X.env) fp) t (gA G tg))
    (ht : ∀ (s : Shared) (H : Hp) (C : Addr) (cl : List (Str × Addr)) (fp : List Addr), PTs (X.blk s H scope (compEnvC scope cl C X.env) fp) ifs (tT G (fun _ _ _ => False) (gate T cf c)))
    (he : ∀ (s : Shared) (H : Hp) (C : Addr) (cl : List (Str × Addr)) (fp : List Addr), PE (X.blk s H scope (compEnvC scope cl C X.env) fp) y (tE G (fun _ _ _ => False) (ev T cf elt))) :
    PS X (.Assign [.Name z zp] (.ListComp y [⟨t, i, ifs, 0⟩] scope pos) spos) (tAsg (tE G W (ev T cf (.lc m own tg it c elt))) (gName j)) := by
  have okB : BlkOk X.N X.env.scope scope (ownL N own) := by rw [C.hN, C.hsc]; exact blkOk_by ok
  refine PS.mono (ps_setLc C.calm (by rw [C.hN]; exact C.nd) (by rw [C.hN]; exact hz) (by rw [C.hsc]; exact hzl) hsw hi okB hg ht he (noSet_ok hset X.env)) fun Ds σ H hp => ?_
  rw [hown]
  exact lc_imp C hslots hp
theorem strsOf_rvs {G : Gs} {H : Hp} {B ρ : List Addr} : ∀ {ps : List PV} {zs : List (List Nat)} {xs : List V}, strsOf ps = some zs → RVs G H B ρ xs ps → xs = (zs.map toS).map V.str
  | [], zs, xs, h, r => by cases h; cases r; rfl
  | p :: ps, zs, xs, h, r => by
    cases r with
    | cons h1 r1 =>
      cases h1 with
      | str ho hl =>
        have h' : (strsOf ps).map (_ :: ·) = some zs := h
        obtain ⟨ys, hy, rfl⟩ := Option.map_eq_some_iff.mp h'
        rw [strsOf_rvs hy r1]
        rfl
      | _ => cases h
theorem toS_eqq {a b : List Nat} (h : toS a = toS b) : a = b := by
  have e : (toS a).cps.toList = (toS b).cps.toList := by rw [h]
  simpa using e
theorem posOf_ok {z : List Nat} : ∀ {zs : List (List Nat)} {j : Nat}, posOf z zs = some j → (zs.map toS)[j]? = some (toS z) ∧ ∀ m, m < j → (zs.map toS)[m]? ≠ some (toS z)
  | [], j, h => by cases h
  | x :: zs, j, h => by
    unfold posOf at h
    split at h
    · rename_i hx
      cases h
      subst hx
      exact ⟨rfl, fun m hm => by omega⟩
    · rename_i hx
      obtain ⟨i, hi, rfl⟩ := Option.map_eq_some_iff.mp h
      obtain ⟨h1, h2⟩ := posOf_ok hi
      refine ⟨h1, fun m hm => ?_⟩
      cases m with
      | zero => intro e; exact hx (toS_eqq (by simpa using e))
      | succ m => exact h2 m (by omega)
theorem ixg_ok (C : CxOk G S T D cf k X W N sc fb) {c : Nat} {b : IE} {y : Expr} {nm a : Str} {p0 p q : Pos} (hcn : S.cname c = some nm) (hg : glB sc nm = true) (ha : a = ("index" : Str)) (hline : p.endLine = q.line) (hs : noStar y = true) (hc : chkM S false N sc fb b y = true) (hb : PE X y (tE G W (ev T cf b))) :
    PE X (.Call (.Attribute (.Name nm p0) a p) [y] [] q) (tE G W (ev T cf (.ixg c b))) := by
  subst ha
  have hli : (p.endLine == q.line) = true := beq_iff_eq.mpr hline
  have hcs : chkMs S false N sc fb (.cons b .nil) [y] = true := by simp [chkMs, hs, hc]
  have no : isTup T.cs[c]? = false → PE X (.Call (.Attribute (.Name nm p0) "index" p) [y] [] q) (tE G W (ev T cf (.ixg c b))) := fun hn => ⟨fun pins s σ H Q I ⟨B, ρ, env, st, re, rs, pp⟩ => by
      rw [ev, hn] at pp
      exact (show False from pp).elim⟩
  cases hv : T.cs[c]? with
  | none => exact no (by rw [hv]; rfl)
  | some v =>
    cases v with
    | tup ps =>
      obtain ⟨u, yv, hm, hr, hrv⟩ := C.cs c nm _ hcn hv
      have r0 := hrv (fun _ => none) [] []
      cases r0 with
      | tup h r => cases h
      | @ktup ad xs _ h hkt r =>
        refine PE.mono (pe_bm PySem.F.plainAttrs_tuple PySem.F.slot_tuple_index PySem.F.type_tuple_index mt_tup_index (pe_glob (gl_ok C hg) (by rw [C.hmg]; exact hm) hr (glB_ok hg).2.1) (pa_one hs hb) rfl (few_ok hcs (by simp)) hli (noStar_ok hs [] X.env) (by rfl)) fun σ H Q ⟨B, ρ, env, st, re, rs, pp⟩ => ?_
        rw [ev, hv] at pp
        obtain ⟨o, ho1, ho2, ho3⟩ := h.2
        refine ⟨Or.inr (.inl ⟨rfl, o, by rw [C.hK]; exact ho1, ho2, ho3⟩), B, ρ, env, st, re, rs, (Post.bind (show Post G H B ρ ((ev T cf b env st).bind fun y st2 => may (posT (.tup ps) y) st2) _ W from pp)).imp fun z H1 B1 ρ1 st1 e1 rs1 p1 zx rz => ?_⟩
        cases z with
        | str z =>
          have p1' : Post G H1 B1 ρ1 (may (ixOfS ps z) st1) _ W := p1
          cases hix : ixOfS ps z with
          | none => rw [hix] at p1'; exact (show False from p1').elim
          | some w =>
            rw [hix] at p1'
            unfold ixOfS at hix
            obtain ⟨i, hi, rfl⟩ := Option.map_eq_some_iff.mp hix
            obtain ⟨zs, hz, hp⟩ := Option.bind_eq_some_iff.mp hi
            obtain ⟨xs', hsq, hrvs⟩ := (hrv H1 B1 ρ1).sqt
            have hx := strsOf_rvs hz hrvs
            subst hx
            obtain ⟨g1, g2⟩ := posOf_ok hp
            cases rz with
            | str ho hl => exact ⟨ad, zs.map toS, toS z, i, rfl, rfl, by rw [C.hK]; exact hsq, g1, g2, (show Post G H1 B1 ρ1 (.ok (.int (i : Int)) st1) (fun v H' B' ρ' _ => ∀ x, RV G H' B' ρ' x v → Q x H') W from p1').here rs1 _ (.int _)⟩
        | _ => exact (show False from p1).elim
    | _ => exact no (by rw [hv]; rfl)
theorem ixo_ok (C : CxOk G S T D cf k X W N sc fb) {o b : IE} {x y : Expr} {a : Str} {p q : Pos} (ha : a = ("index" : Str)) (hn : noCall x = true) (hline : p.endLine = q.line) (hs : noStar y = true) (hc : chkM S false N sc fb b y = true) (ho : PE X x (tE G W (ev T cf o))) (hb : PE X y (tE G W (ev T cf b))) :
    PE X (.Call (.Attribute x a p) [y] [] q) (tE G W (ev T cf (.ixo o b))) := by
  subst ha
  have hli : (p.endLine == q.line) = true := beq_iff_eq.mpr hline
  have hcs : chkMs S false N sc fb (.cons b .nil) [y] = true := by simp [chkMs, hs, hc]
  refine PE.mono (pe_bm PySem.F.plainAttrs_list PySem.F.slot_list_index PySem.F.type_list_index mt_index ho (pa_one hs hb) (noCall_ok hn _ X.env) (few_ok hcs (by simp)) hli (noStar_ok hs [] X.env) (by rfl)) fun σ H Q ⟨B, ρ, env, st, re, rs, pp⟩ => ?_
  rw [ev] at pp
  refine ⟨B, ρ, env, st, re, rs, (Post.bind pp).imp fun v H1 B1 ρ1 st1 e1 rs1 p1 x rx => ?_⟩
  by_cases hi : isLst (rd st1 v) = true
  · rw [if_pos hi] at p1
    refine ⟨isLst_ok hi rx rs1, B1, ρ1, env, st1, re.ext e1 rs.sub, rs1, (Post.bind p1).imp fun z H2 B2 ρ2 st2 e2 rs2 p2 zx rz => ?_⟩
    have rx2 := rx.ext e2 rs1.sub
    cases hr2 : rd st2 v with
    | lst ps =>
      rw [hr2] at p2
      obtain ⟨ad, xs, rfl, hH, hrvs⟩ := rd_lst rx2 rs2 hr2
      cases z with
      | str z =>
        have p2' : Post G H2 B2 ρ2 (may (ixOfS ps z) st2) _ W := p2
        cases hix : ixOfS ps z with
        | none => rw [hix] at p2'; exact (show False from p2').elim
        | some w =>
          rw [hix] at p2'
          unfold ixOfS at hix
          obtain ⟨i, hi, rfl⟩ := Option.map_eq_some_iff.mp hix
          obtain ⟨zs, hz, hp⟩ := Option.bind_eq_some_iff.mp hi
          have hx := strsOf_rvs hz hrvs
          subst hx
          obtain ⟨g1, g2⟩ := posOf_ok hp
          cases rz with
          | str ho hl =>
            refine ⟨ad, (zs.map toS).map V.str, .str (toS z), i, .str (toS z), rfl, rfl, SqL.of hH, rfl, by simp [flatV], by rw [List.getElem?_map, g1]; rfl, by simp [eqV], fun m z' hm hz' => ?_, (show Post G H2 B2 ρ2 (.ok (.int (i : Int)) st2) (fun v H' B' ρ' _ => ∀ x, RV G H' B' ρ' x v → Q x H') W from p2').here rs2 _ (.int _)⟩
            rw [List.getElem?_map] at hz'
            obtain ⟨w, hw, rfl⟩ := Option.map_eq_some_iff.mp hz'
            have := g2 m hm
            rw [hw] at this
            simp [eqV]
            intro e
            exact this (by rw [e])
      | _ => exact (show False from p2).elim
    | _ => rw [hr2] at p2; cases z <;> exact (show False from p2).elim
  · rw [if_neg hi] at p1
    exact p1.elim
end
end MP

set_option Elab.async false
set_option linter.all false
set_option maxRecDepth 100000
set_option maxHeartbeats 4000000
/-! MErl: a lambda given to a def that tells its error. -/
namespace MP
open PySem PySem.Spec PyProof.Rows L2
section
variable {G : Gs} {S : Syn} {T : Top} {D : Nat → Option Df} {cf : CallF} {k : Nat} {X : Cx} {W : XK} {N : List Str} {sc : Scope} {fb : Fb}
variable {H H' H1 : Hp} {B ρ B' ρ' B1 ρ1 : List Addr} {st : Sto}
theorem ext_N (rs : RSto G H B ρ st) (e : LamX.ExtN H H1) (t : LamX.Tabs G.T H1) : Ext H B ρ H1 B ρ ∧ RSto G H1 B ρ st := by
  have ex : Ext H B ρ H1 B ρ := ⟨⟨[], by simp⟩, fun _ z => z, fun _ z => .inl z, fun _ z => .inl z, fun a o h _ n => e a o h n, fun a xs h => e a _ h (fun _ z => nomatch z), fun a o u h => e a _ h (fun _ z => nomatch z), fun a g o h => by
    by_cases q : ∃ ps, o = .tbl ps
    · exact q
    · exact g o (e a o h fun ps z => q ⟨ps, z⟩)⟩
  refine ⟨ex, rs.nd, rs.sub, rs.len, fun n a o h1 h2 => ?_, fun a ha => ?_, t⟩
  · obtain ⟨u, hu, hm⟩ := rs.has a (rs.sub a (List.mem_of_getElem? h1))
    exact (rs.obj n a o h1 h2).ext ex rs.sub (by rw [hu]; exact e a u hu hm.parts.2.2)
  · obtain ⟨u, hu, hm⟩ := rs.has a ha
    exact ⟨u, e a u hu hm.parts.2.2, hm⟩
theorem toS_app {x y : List Nat} : toS x ++ toS y = toS (x ++ y) := by
  show (⟨_⟩ : Str) = _
  simp [toS]
theorem tell_ok (C : CxOk G S T D cf k X W N sc fb) {cls : Value} {d : Option Addr} {e : Exn} {Q : VK} {v : PV} {st' : Sto} (rx : RX G H B ρ cls d e) : ∀ {l : List (Value × Option Str)} {es : List (Nat × Option (List Nat))}, EW G l es → tellE T e es = .ok v st' → (∀ x, RV G H B ρ x v → Q x H) → tellK G.K cls d H Q l
  | _, _, .nil, h, _ => by cases h
  | _, _, .word (c := c) (a := a) (w := w) (es := es) hc ho hl r, h, hQ => by
    have h' : (if T.under e.c c = true then Out.ok (PV.str w) [] else tellE T e es) = .ok v st' := h
    have key : ∀ (c1 : Nat) (a1 : Addr), G.C c1 = some a1 → e.c = c1 → cls = .ref a1 → tellK G.K cls d H Q ((.ref a, some (toS w)) :: _) := fun c1 a1 h1 h2 h3 => by
      refine ⟨T.under c1 c, by rw [h3]; exact C.exm c1 c a1 a h1 hc, fun hb => ?_, fun hb => ?_⟩
      · rw [h2, if_pos hb] at h'
        cases h'
        exact hQ _ (.str ho hl)
      · rw [h2, if_neg (by rw [hb]; exact Bool.false_ne_true)] at h'
        exact tell_ok C rx r h' hQ
    cases rx with
    | plain h1 => exact key _ _ h1 rfl rfl
    | lim h1 => exact key _ _ h1 rfl rfl
  | _, _, .skip (c := c) (a := a) (es := es) hc r, h, hQ => by
    have h' : (if T.under e.c c = true then (match e.arg with
      | some (.int i) => Out.ok (PV.str (manyT ++ limText i)) []
      | _ => .stuck) else tellE T e es) = .ok v st' := h
    have key : ∀ (c1 : Nat) (a1 : Addr), G.C c1 = some a1 → e.c = c1 → cls = .ref a1 → (T.under c1 c = true → LimAt G.K cls d H fun i => Q (.str (toS manyT ++ toS (limText i))) H) → tellK G.K cls d H Q ((.ref a, none) :: _) := fun c1 a1 h1 h2 h3 hy => by
      refine ⟨T.under c1 c, by rw [h3]; exact C.exm c1 c a1 a h1 hc, hy, fun hb => ?_⟩
      rw [h2, if_neg (by rw [hb]; exact Bool.false_ne_true)] at h'
      exact tell_ok C rx r h' hQ
    have rx' := rx
    cases rx with
    | plain h1 =>
      refine key _ _ h1 rfl rfl fun hb => ?_
      rw [if_pos hb] at h'
      cases h'
    | @lim c1 a1 d1 i h1 xf no hd ok =>
      refine key _ _ h1 rfl rfl fun hb => ?_
      rw [if_pos hb] at h'
      cases h'
      obtain ⟨_, _, e3, e4⟩ := lim_of ok
      refine ⟨a1, d1, i, rfl, xf, no, rfl, hd, ok, ?_⟩
      show Q (V.str (toS manyT ++ toS (limText i))) H
      rw [toS_app]
      refine hQ _ (.str ?_ ?_)
      · rw [okStr, List.all_append]
        rw [okStr] at e4
        rw [e4]
        rfl
      · simp only [List.length_append, manyT, List.length_cons, List.length_nil, line]
        omega
theorem lamX (C : CxOk G S T D cf k X W N sc fb) (hll : fb.ll = true) {scope : Scope} (hL : LamX.LamS sc scope) (A : Around) (outer : List PySem.Env) (s : Shared) (H : Hp) (E : XK) (f c' : Addr) (hr : Room (k + 2) (A.deeper (LamX.lamEnv X scope s.heap.objs.size f c'))) :
    CxOk G S T D cf k (LamX.lamCx X A outer s H E scope f c') E N scope ⟨fun _ => false, false⟩ where
  hK := C.hK
  hmg := C.hmg
  hN := C.hN
  nd := C.nd
  kind := hL.kind
  hsc := rfl
  hfb := rfl
  calm := rfl
  room := hr
  tk := takes_of (X := LamX.lamCx X A outer s H E scope f c') rfl rfl rfl rfl
  free := C.free
  kt := C.kt
  cs := C.cs
  fns := C.fns
  er := C.er
  exm := C.exm
  lam := fun z => nomatch z
theorem noPar_ok {params : Arguments} (h : noPar params = true) : params = ⟨[], [], none, [], [], none, []⟩ := by
  unfold noPar at h
  split at h
  · rfl
  · cases h
theorem erl_ok (C : CxOk G S T D cf k X W N sc fb) (hll : fb.ll = true) {g : Nat} {b : IE} {x : Str} {params : Arguments} {body : Expr} {scope : Scope} {p1 lp p2 : Pos} (hx : S.ename g = some x) (hg : glB sc x = true) (hp : noPar params = true) (hL : LamX.lamSB sc scope = true)
    (hb : ∀ (Y : Cx) (E : XK), CxOk G S T D cf k Y E N scope ⟨fun _ => false, false⟩ → PE Y body (tE G E (ev T cf b))) :
    PE X (.Call (.Name x p1) [.Lambda params body scope lp] [] p2) (tE G W (ev T cf (.erl g b))) := by
  obtain ⟨ga, a, pg, h0, hs, q1, q2, q3, q4, q5, q6, j, sg, dV, kV, doc, pm, cdv, ct, oc, an, od, osl, Ng, l, m1, m2, m3, m4, m5, m6, m7, m8, m9, m10, m11, m12, m13⟩ := C.er g x hx
  obtain ⟨c, P, t1, t2, t3, t4⟩ := C.lam hll
  have hLs := LamX.lamS_by hL
  have hLX : LamX.LamS X.env.scope scope := by rw [C.hsc]; exact hLs
  have hr : Room (k + 2 + 2) X.A := by
    have := C.room
    rw [if_pos hll] at this
    exact this
  have hpar := noPar_ok hp
  subst hpar
  refine PE.mono (LamX.pe_lamcall (T := G.T) (TT := TErr X.K l) (t := fun E => tE G E (ev T cf b)) (k := k + 2) (Ng := Ng) (gl_ok C hg) (by rw [C.hmg]; exact m1) (by rw [C.hK]; exact m2) (by rw [C.hK]; exact m3) (by rw [C.hK]; exact m4) (by rw [C.hK]; exact m5) m6 m7 m8
    (err_gives m11 fun Y h1 h2 => m13 Y (by rw [h1, C.hmg]) h2) t1 t2 t3 t4 hr hLX rfl (fun _ _ _ _ _ => rfl) (fun A outer s H E f c' hr' => hb _ _ (lamX C hll hLs A outer s H E f c' hr')) m10 (dbgB_ok m9).1 (dbgB_ok m9).2) fun σ H Q ⟨B, ρ, env, st, re, rs, p⟩ => ?_
  refine ⟨rs.tabs, fun H1 hE hT => ?_⟩
  obtain ⟨e1, rs1⟩ := ext_N rs hE hT
  have p1 := Post.ext p e1
  rw [ev] at p1
  refine ⟨B, ρ, env, st, re.ext e1 rs.sub, rs1, ?_⟩
  cases hev : ev T cf b env st with
  | stuck => rw [hev] at p1; exact (show False from p1).elim
  | ok v st1 =>
    rw [hev] at p1
    have p2 : Post G H1 B ρ (.ok (.str []) st1) (fun v H' B' ρ' _ => ∀ x, RV G H' B' ρ' x v → Q x H') W := p1
    intro H' B' ρ' e r x rx
    exact p2 H' B' ρ' e r (.str (toS [])) (.str rfl (by decide))
  | exc e st1 =>
    rw [hev] at p1
    intro H' B' ρ' cc d ex r rx
    cases ht : tellE T e (T.errs g) with
    | ok v st2 =>
      simp only [ht] at p1
      rw [C.hK]
      exact tell_ok C rx m12 ht (p1 H' B' ρ' ex r)
    | exc => simp only [ht] at p1; exact (show False from p1).elim
    | stuck => simp only [ht] at p1; exact (show False from p1).elim
end
end MP

set_option Elab.async false
set_option linter.all false
set_option maxRecDepth 100000
set_option maxHeartbeats 4000000
/-! MSound5: all expressions. -/
namespace MP
open PySem PySem.Spec PyProof.Rows L2
section
variable {G : Gs} {S : Syn} {T : Top} {D : Nat → Option Df} {cf : CallF} {k : Nat} {N : List Str}
theorem taken0 {X : Cx} : Takes X (fun _ _ _ _ => False) := fun _ _ x => by
  obtain ⟨_, _, _, _, _, _, _, _, _, _, _, _, _, _, _, _, z⟩ := x
  exact z.elim
theorem blkX {X : Cx} {W : XK} {sc : Scope} {fb : Fb} (C : CxOk G S T D cf k X W N sc fb) {scope : Scope} (hk : scope.kind = .function) (s : Shared) (H : Hp) (A : Addr) (cl : List (Str × Addr)) (fp : List Addr) :
    CxOk G S T D cf k (X.blk s H scope (compEnvC scope cl A X.env) fp) (fun _ _ _ => False) N (relS scope sc) ⟨fun x => scope.names.lookup x == some .cell, fb.ll⟩ where
  hK := C.hK
  hmg := C.hmg
  hN := C.hN
  nd := C.nd
  kind := hk
  hsc := by
    show relS scope X.env.scope = relS scope sc
    rw [C.hsc]
  hfb := rfl
  calm := C.calm
  room := C.room
  tk := taken0
  free := C.free
  kt := C.kt
  cs := C.cs
  fns := C.fns
  er := C.er
  exm := C.exm
  lam := C.lam
theorem glo_ok {X : Cx} {W : XK} {sc : Scope} {fb : Fb} (C : CxOk G S T D cf k X W N sc fb) {c : Nat} {x : Str} {pos : Pos} (hx : S.cname c = some x) (hg : glB sc x = true) : PE X (.Name x pos) (tE G W (ev T cf (.glo c))) := by
  cases hv : T.cs[c]? with
  | none =>
    refine ⟨fun pins s σ H Q I ⟨B, ρ, env, st, re, rs, p⟩ => ?_⟩
    rw [ev, hv] at p
    exact p.elim
  | some v =>
    obtain ⟨u, y, hm, hr, hrv⟩ := C.cs c x v hx hv
    refine PE.mono (pe_glob (gl_ok C hg) (by rw [C.hmg]; exact hm) hr (glB_ok hg).2.1) fun σ H Q ⟨B, ρ, env, st, re, rs, p⟩ => ?_
    rw [ev, hv] at p
    exact (show Post G H B ρ (.ok v st) _ W from p).here rs y (hrv H B ρ)
theorem fnv_ok {X : Cx} {W : XK} {sc : Scope} {fb : Fb} (C : CxOk G S T D cf k X W N sc fb) {f : Nat} {x : Str} {pos : Pos} (hx : S.fname f = some x) (hg : glB sc x = true) : PE X (.Name x pos) (tE G W (ev T cf (.fnv f))) := by
  obtain ⟨⟨d, hd, ⟨a, fd, ps, h1, h2, h3, h4, h5⟩⟩, hl⟩ := C.fns f x hx
  refine PE.mono (pe_glob (v := .ref a) (gl_ok C hg) (by rw [C.hmg]; exact h2) rfl (glB_ok hg).2.1) fun σ H Q ⟨B, ρ, env, st, re, rs, p⟩ => ?_
  rw [ev] at p
  exact p.here rs _ (.fn h1)

theorem PTs.mono {X : Cx} {es : List Expr} {t t' : TT} (h : PTs X es t) (i : ∀ σ H Q, t' σ H Q → t σ H Q) : PTs X es t' := ⟨fun pins s σ H Q I q => h.run pins s σ H Q I (i σ H Q q)⟩

variable (G S T D cf k N) in
def M1 (e : IE) : Prop := (∀ {X : Cx} {W : XK} {sc : Scope} {fb : Fb} (C : CxOk G S T D cf k X W N sc fb) (x : Expr), chkM S false N sc fb e x = true → PE X x (tE G W (ev T cf e))) ∧
  ∀ {X : Cx} {W : XK} {sc : Scope} {fb : Fb} (C : CxOk G S T D cf k X W N sc fb) (x : Expr), chkM S true N sc fb e x = true → PT X x (tT G W (test T cf e))
variable (G S T D cf k N) in
def M2 (es : IEs) : Prop := (∀ {X : Cx} {W : XK} {sc : Scope} {fb : Fb} (C : CxOk G S T D cf k X W N sc fb) (xs : List Expr), chkMs S false N sc fb es xs = true → PA X xs (tAs G W (evs T cf es))) ∧
  (∀ {X : Cx} {W : XK} {sc : Scope} {fb : Fb} (C : CxOk G S T D cf k X W N sc fb) (kk : Bool) (a : IE) (x : Expr) (xs : List Expr) (p : Pos), PE X x (tE G W (ev T cf a)) → chkMs S false N sc fb es xs = true → PE X (.BoolOp (bopOf kk) (x :: xs) p) (tE G W (evB T cf kk (.cons a es)))) ∧
  ∀ {X : Cx} {W : XK} {sc : Scope} {fb : Fb} (C : CxOk G S T D cf k X W N sc fb) (kk : Bool) (a : IE) (x : Expr) (xs : List Expr) (p : Pos), PT X x (tT G W (test T cf a)) → chkMs S true N sc fb es xs = true → PW X (.BoolOp (bopOf kk) (x :: xs) p) (tT G W (tests T cf kk (.cons a es)))
variable (G S T D cf k N) in
def M3 (it : II) : Prop := ∀ {X : Cx} {W : XK} {sc : Scope} {fb : Fb} (C : CxOk G S T D cf k X W N sc fb) (x t : Expr), chkI S N sc fb it x t = true → PI X t x (tI G W (src T cf it))
theorem dflt {e : IE} (he : ∀ {X : Cx} {W : XK} {sc : Scope} {fb : Fb} (C : CxOk G S T D cf k X W N sc fb) (x : Expr), chkM S false N sc fb e x = true → PE X x (tE G W (ev T cf e)))
    (hp : ∀ (sc : Scope) (fb : Fb) (x : Expr), chkM S true N sc fb e x = true → plainT x = true ∧ chkM S false N sc fb e x = true)
    (ht : test T cf e = fun σ st => (ev T cf e σ st).bind fun x st1 => (match truth (rd st1 x) with
      | some b => Out.ok b st1
      | none => .stuck)) : M1 G S T D cf k N e :=
  ⟨he, fun C x h => testV_ok C (hp _ _ x h).1 (he C x (hp _ _ x h).2) ht⟩
theorem part_ok {e : IE} (h1 : M1 G S T D cf k N e) {X : Cx} {W : XK} {sc : Scope} {fb : Fb} (C : CxOk G S T D cf k X W N sc fb) (x : Option Expr) (h : (match x with
      | none => isNop e
      | some y => !isNop e && chkM S false N sc fb e y) = true) : PO X x (tO G W (part T cf e)) := by
  cases x with
  | none => cases e <;> first | exact ponone_ok | (cases h; done)
  | some y =>
    have h' := Bool.and_eq_true_iff.mp (show (!isNop e && chkM S false N sc fb e y) = true from h)
    have he := h1.1 C y h'.2
    have hn := h'.1
    clear h h' h1
    refine posome_ok (fun σ st => ?_) he
    cases e <;> first | (cases hn; done) | (rw [part] <;> first | rfl | (intros; rename_i h; cases h))
theorem gate_ok {e : IE} (h1 : M1 G S T D cf k N e) {X : Cx} {W : XK} {sc : Scope} {fb : Fb} (C : CxOk G S T D cf k X W N sc fb) (xs : List Expr) (h : (match xs with
      | [] => isNop e
      | [z] => !isNop e && chkM S true N sc fb e z
      | _ => false) = true) : PTs X xs (tT G W (gate T cf e)) := by
  rcases xs with _ | ⟨y, _ | ⟨z, zs⟩⟩
  · have hn : isNop e = true := h
    have e1 : gate T cf e = fun _ st => .ok true st := by
      cases e <;> first | rfl | (cases hn; done)
    rw [e1]
    exact PTs.mono pts_nil fun σ H Q ⟨B, ρ, env, st, re, rs, p⟩ => p.here rs
  · have h' := Bool.and_eq_true_iff.mp (show (!isNop e && chkM S true N sc fb e y) = true from h)
    have e1 : gate T cf e = test T cf e := by
      have hn := h'.1
      cases e <;> first | rfl | (cases hn; done)
    rw [e1]
    exact pts_one (h1.2 C y h'.2)
  · cases h
theorem c_var {i : Nat} : M1 G S T D cf k N (.var i) := by
  refine dflt (fun {X W sc fb} C x h => ?_) (fun sc fb x h => by
    cases x with
    | UnaryOp o y p => cases o <;> first | exact ⟨rfl, h⟩ | (simp [chkM] at h; done)
    | BoolOp o xs p => cases xs <;> simp [chkM] at h
    | IfExp => simp [chkM] at h
    | Compare y os zs p => simp [chkM] at h
    | _ => exact ⟨rfl, h⟩) (testV fun σ st => by rw [test] <;> first | rfl | (intros; rename_i h; cases h))
  cases x with
    | Name y p =>
      simp only [chkM] at h
      exact var_ok C h
    | _ => simp [chkM] at h


theorem c_con {v : PV} : M1 G S T D cf k N (.con v) := by
  refine dflt (fun {X W sc fb} C x h => ?_) (fun sc fb x h => by
    cases x with
    | UnaryOp o y p => cases o <;> first | exact ⟨rfl, h⟩ | (simp [chkM] at h; done)
    | BoolOp o xs p => cases xs <;> simp [chkM] at h
    | IfExp => simp [chkM] at h
    | Compare y os zs p => simp [chkM] at h
    | _ => exact ⟨rfl, h⟩) (testV fun σ st => by rw [test] <;> first | rfl | (intros; rename_i h; cases h))
  cases x with
    | Constant c j p =>
      simp only [chkM] at h
      have e : ev T cf (.con v) = fun _ st => .ok v st := by funext σ st; rw [ev]
      rw [e]
      exact conB_ok h
    | _ => simp [chkM] at h


theorem c_glo {c : Nat} : M1 G S T D cf k N (.glo c) := by
  refine dflt (fun {X W sc fb} C x h => ?_) (fun sc fb x h => by
    cases x with
    | UnaryOp o y p => cases o <;> first | exact ⟨rfl, h⟩ | (simp [chkM] at h; done)
    | BoolOp o xs p => cases xs <;> simp [chkM] at h
    | IfExp => simp [chkM] at h
    | Compare y os zs p => simp [chkM] at h
    | _ => exact ⟨rfl, h⟩) (testV fun σ st => by rw [test] <;> first | rfl | (intros; rename_i h; cases h))
  cases x with
    | Name y p =>
      simp only [chkM, Bool.and_eq_true, decide_eq_true_eq] at h
      exact glo_ok C h.1 h.2
    | _ => simp [chkM] at h


theorem c_fnv {f : Nat} : M1 G S T D cf k N (.fnv f) := by
  refine dflt (fun {X W sc fb} C x h => ?_) (fun sc fb x h => by
    cases x with
    | UnaryOp o y p => cases o <;> first | exact ⟨rfl, h⟩ | (simp [chkM] at h; done)
    | BoolOp o xs p => cases xs <;> simp [chkM] at h
    | IfExp => simp [chkM] at h
    | Compare y os zs p => simp [chkM] at h
    | _ => exact ⟨rfl, h⟩) (testV fun σ st => by rw [test] <;> first | rfl | (intros; rename_i h; cases h))
  cases x with
    | Name y p =>
      simp only [chkM, Bool.and_eq_true, decide_eq_true_eq] at h
      exact fnv_ok C h.1 h.2
    | _ => simp [chkM] at h


theorem c_tup {es : IEs} (hes : M2 G S T D cf k N es) : M1 G S T D cf k N (.tup es) := by
  refine dflt (fun {X W sc fb} C x h => ?_) (fun sc fb x h => by
    cases x with
    | UnaryOp o y p => cases o <;> first | exact ⟨rfl, h⟩ | (simp [chkM] at h; done)
    | BoolOp o xs p => cases xs <;> simp [chkM] at h
    | IfExp => simp [chkM] at h
    | Compare y os zs p => simp [chkM] at h
    | _ => exact ⟨rfl, h⟩) (testV fun σ st => by rw [test] <;> first | rfl | (intros; rename_i h; cases h))
  cases x with
    | Tuple xs j p =>
      simp only [chkM] at h
      exact tup_ok (hes.1 C xs h)
    | _ => simp [chkM] at h


theorem c_lst {m : Bool} {es : IEs} (hes : M2 G S T D cf k N es) : M1 G S T D cf k N (.lst m es) := by
  refine dflt (fun {X W sc fb} C x h => ?_) (fun sc fb x h => by
    cases x with
    | UnaryOp o y p => cases o <;> first | exact ⟨rfl, h⟩ | (simp [chkM] at h; done)
    | BoolOp o xs p => cases xs <;> simp [chkM] at h
    | IfExp => simp [chkM] at h
    | Compare y os zs p => simp [chkM] at h
    | _ => exact ⟨rfl, h⟩) (testV fun σ st => by rw [test] <;> first | rfl | (intros; rename_i h; cases h))
  cases x with
    | List xs p =>
      simp only [chkM] at h
      exact lst_ok (hes.1 C xs h)
    | _ => simp [chkM] at h


theorem c_dct {t : Bool} : M1 G S T D cf k N (.dct t) := by
  refine dflt (fun {X W sc fb} C x h => ?_) (fun sc fb x h => by
    cases x with
    | UnaryOp o y p => cases o <;> first | exact ⟨rfl, h⟩ | (simp [chkM] at h; done)
    | BoolOp o xs p => cases xs <;> simp [chkM] at h
    | IfExp => simp [chkM] at h
    | Compare y os zs p => simp [chkM] at h
    | Dict ks vs p => cases ks <;> cases vs <;> first | exact ⟨rfl, h⟩ | (simp [chkM] at h; done)
    | _ => exact ⟨rfl, h⟩) (testV fun σ st => by rw [test] <;> first | rfl | (intros; rename_i h; cases h))
  cases x with
    | Dict ks vs p =>
      cases ks with
      | nil =>
        cases vs with
        | nil => exact dct_ok
        | cons => simp [chkM] at h
      | cons => simp [chkM] at h
    | _ => simp [chkM] at h


theorem c_bin {m : Bool} {op : Operator} {a b : IE} (ha : M1 G S T D cf k N a) (hb : M1 G S T D cf k N b) : M1 G S T D cf k N (.bin m op a b) := by
  refine dflt (fun {X W sc fb} C x h => ?_) (fun sc fb x h => by
    cases x with
    | UnaryOp o y p => cases o <;> first | exact ⟨rfl, h⟩ | (simp [chkM] at h; done)
    | BoolOp o xs p => cases xs <;> simp [chkM] at h
    | IfExp => simp [chkM] at h
    | Compare y os zs p => simp [chkM] at h
    | _ => exact ⟨rfl, h⟩) (testV fun σ st => by rw [test] <;> first | rfl | (intros; rename_i h; cases h))
  cases x with
    | BinOp y o z p =>
      simp only [chkM, Bool.and_eq_true, decide_eq_true_eq] at h
      obtain ⟨⟨rfl, h1⟩, h2⟩ := h
      exact bin_ok C (ha.1 C y h1) (hb.1 C z h2)
    | _ => simp [chkM] at h


theorem c_cmp {op : CmpOp} {a b : IE} (ha : M1 G S T D cf k N a) (hb : M1 G S T D cf k N b) : M1 G S T D cf k N (.cmp op a b) := by
  refine ⟨fun {X W sc fb} C x h => ?_, fun {X W sc fb} C x h => ?_⟩
  · skip
    cases x with
    | Compare y os zs p =>
      rcases os with _ | ⟨o, _ | ⟨o2, os⟩⟩
      · simp [chkM] at h
      · rcases zs with _ | ⟨z, _ | ⟨z2, zs⟩⟩
        · simp [chkM] at h
        · simp only [chkM, Bool.and_eq_true, decide_eq_true_eq] at h
          obtain ⟨⟨⟨rfl, h0⟩, h1⟩, h2⟩ := h
          exact cmpE_ok C h0 (ha.1 C y h1) (hb.1 C z h2)
        · simp [chkM] at h
      · simp [chkM] at h
    | _ => simp [chkM] at h
  · skip
    cases x with
    | Compare y os zs p =>
      rcases os with _ | ⟨o, _ | ⟨o2, os⟩⟩
      · simp [chkM] at h
      · rcases zs with _ | ⟨z, _ | ⟨z2, zs⟩⟩
        · simp [chkM] at h
        · simp only [chkM, Bool.and_eq_true, decide_eq_true_eq] at h
          obtain ⟨⟨⟨rfl, h0⟩, h1⟩, h2⟩ := h
          exact cmpT_ok C h0 (ha.1 C y h1) (hb.1 C z h2)
        · simp [chkM] at h
      · simp [chkM] at h
    | _ => simp [chkM] at h

theorem c_din {ng : Bool} {a b : IE} (ha : M1 G S T D cf k N a) (hb : M1 G S T D cf k N b) : M1 G S T D cf k N (.din ng a b) := by
  refine ⟨fun {X W sc fb} C x h => ?_, fun {X W sc fb} C x h => ?_⟩
  · skip
    cases x with
    | Compare y os zs p =>
      rcases os with _ | ⟨o, _ | ⟨o2, os⟩⟩
      · simp [chkM] at h
      · rcases zs with _ | ⟨z, _ | ⟨z2, zs⟩⟩
        · simp [chkM] at h
        · simp only [chkM, Bool.and_eq_true, decide_eq_true_eq] at h
          obtain ⟨⟨⟨rfl, h0⟩, h1⟩, h2⟩ := h
          exact dinE_ok C h0 (ha.1 C y h1) (hb.1 C z h2)
        · simp [chkM] at h
      · simp [chkM] at h
    | _ => simp [chkM] at h
  · skip
    cases x with
    | Compare y os zs p =>
      rcases os with _ | ⟨o, _ | ⟨o2, os⟩⟩
      · simp [chkM] at h
      · rcases zs with _ | ⟨z, _ | ⟨z2, zs⟩⟩
        · simp [chkM] at h
        · simp only [chkM, Bool.and_eq_true, decide_eq_true_eq] at h
          obtain ⟨⟨⟨rfl, h0⟩, h1⟩, h2⟩ := h
          exact dinT_ok C h0 (ha.1 C y h1) (hb.1 C z h2)
        · simp [chkM] at h
      · simp [chkM] at h
    | _ => simp [chkM] at h

theorem c_chn {o1 o2 : CmpOp} {a b c : IE} (ha : M1 G S T D cf k N a) (hb : M1 G S T D cf k N b) (hc : M1 G S T D cf k N c) : M1 G S T D cf k N (.chn o1 o2 a b c) := by
  refine ⟨fun {X W sc fb} C x h => ?_, fun {X W sc fb} C x h => ?_⟩
  · skip
    cases x with
    | Compare y os zs p =>
      rcases os with _ | ⟨o, _ | ⟨r, _ | ⟨o3, os⟩⟩⟩
      · simp [chkM] at h
      · simp [chkM] at h
      · rcases zs with _ | ⟨z, _ | ⟨w, _ | ⟨z2, zs⟩⟩⟩
        · simp [chkM] at h
        · simp [chkM] at h
        · simp only [chkM, Bool.and_eq_true, decide_eq_true_eq] at h
          obtain ⟨⟨⟨⟨⟨⟨rfl, rfl⟩, h0⟩, h00⟩, h1⟩, h2⟩, h3⟩ := h
          exact chnE_ok C h00 h0 (ha.1 C y h1) (hb.1 C z h2) (hc.1 C w h3)
        · simp [chkM] at h
      · simp [chkM] at h
    | _ => simp [chkM] at h
  · skip
    cases x with
    | Compare y os zs p =>
      rcases os with _ | ⟨o, _ | ⟨r, _ | ⟨o3, os⟩⟩⟩
      · simp [chkM] at h
      · simp [chkM] at h
      · rcases zs with _ | ⟨z, _ | ⟨w, _ | ⟨z2, zs⟩⟩⟩
        · simp [chkM] at h
        · simp [chkM] at h
        · simp only [chkM, Bool.and_eq_true, decide_eq_true_eq] at h
          obtain ⟨⟨⟨⟨⟨⟨rfl, rfl⟩, h0⟩, h00⟩, h1⟩, h2⟩, h3⟩ := h
          exact chnT_ok C h00 h0 (ha.1 C y h1) (hb.1 C z h2) (hc.1 C w h3)
        · simp [chkM] at h
      · simp [chkM] at h
    | _ => simp [chkM] at h

theorem c_bop {kk : Bool} {a : IE} {es : IEs} (ha : M1 G S T D cf k N a) (hes : M2 G S T D cf k N es) : M1 G S T D cf k N (.bop kk a es) := by
  refine ⟨fun {X W sc fb} C x h => ?_, fun {X W sc fb} C x h => ?_⟩
  · cases x with
    | BoolOp o xs p =>
      cases xs with
      | nil => simp [chkM] at h
      | cons y ys =>
        simp only [chkM, Bool.and_eq_true, decide_eq_true_eq] at h
        obtain ⟨⟨rfl, h1⟩, h2⟩ := h
        rw [ev_bop]
        exact hes.2.1 C kk a y ys p (ha.1 C y h1) h2
    | _ => simp [chkM] at h
  · cases x with
    | BoolOp o xs p =>
      cases xs with
      | nil => simp [chkM] at h
      | cons y ys =>
        simp only [chkM, Bool.and_eq_true, decide_eq_true_eq] at h
        obtain ⟨⟨rfl, h1⟩, h2⟩ := h
        rw [test_bop]
        exact PW.pt (hes.2.2 C kk a y ys p (ha.2 C y h1) h2)
    | _ => simp [chkM] at h
theorem c_not {a : IE} (ha : M1 G S T D cf k N a) : M1 G S T D cf k N (.not a) := by
  refine ⟨fun {X W sc fb} C x h => ?_, fun {X W sc fb} C x h => ?_⟩
  · cases x with
    | UnaryOp o y p =>
      cases o with
      | Not =>
        simp only [chkM] at h
        exact notE_ok C (ha.1 C y h)
      | _ => simp [chkM] at h
    | _ => simp [chkM] at h
  · cases x with
    | UnaryOp o y p =>
      cases o with
      | Not =>
        simp only [chkM] at h
        exact tnot_ok (ha.2 C y h)
      | _ => simp [chkM] at h
    | _ => simp [chkM] at h
theorem c_ife {c a b : IE} (hc : M1 G S T D cf k N c) (ha : M1 G S T D cf k N a) (hb : M1 G S T D cf k N b) : M1 G S T D cf k N (.ife c a b) := by
  refine ⟨fun {X W sc fb} C x h => ?_, fun {X W sc fb} C x h => ?_⟩
  · cases x with
    | IfExp y z w p =>
      simp only [chkM, Bool.and_eq_true] at h
      exact ife_ok (hc.2 C y h.2.1.1) (ha.1 C z h.2.1.2) (hb.1 C w h.2.2)
    | _ => simp [chkM] at h
  · cases x <;> simp [chkM] at h

theorem c_neg {a : IE} (ha : M1 G S T D cf k N a) : M1 G S T D cf k N (.neg a) := by
  refine dflt (fun {X W sc fb} C x h => ?_) (fun sc fb x h => by
    cases x with
    | UnaryOp o y p => cases o <;> first | exact ⟨rfl, h⟩ | (simp [chkM] at h; done)
    | BoolOp o xs p => cases xs <;> simp [chkM] at h
    | IfExp => simp [chkM] at h
    | Compare y os zs p => simp [chkM] at h
    | _ => exact ⟨rfl, h⟩) (testV fun σ st => by rw [test] <;> first | rfl | (intros; rename_i h; cases h))
  cases x with
    | UnaryOp o y p =>
      cases o with
      | USub =>
        simp only [chkM] at h
        exact neg_ok (ha.1 C y h)
      | _ => simp [chkM] at h
    | _ => simp [chkM] at h


theorem c_call {f : Nat} {pu : Bool} {es : IEs} (hes : M2 G S T D cf k N es) : M1 G S T D cf k N (.call f pu es) := by
  refine dflt (fun {X W sc fb} C x h => ?_) (fun sc fb x h => by
    cases x with
    | UnaryOp o y p => cases o <;> first | exact ⟨rfl, h⟩ | (simp [chkM] at h; done)
    | BoolOp o xs p => cases xs <;> simp [chkM] at h
    | IfExp => simp [chkM] at h
    | Compare y os zs p => simp [chkM] at h
    | Call g xs ks q => cases g <;> cases ks <;> first | exact ⟨rfl, h⟩ | (simp [chkM] at h; done)
    | _ => exact ⟨rfl, h⟩) (testV fun σ st => by rw [test] <;> first | rfl | (intros; rename_i h; cases h))
  cases x with
    | Call g xs ks q =>
      cases g with
      | Name y p =>
        cases ks with
        | nil =>
          simp only [chkM, Bool.and_eq_true, decide_eq_true_eq] at h
          exact call_ok C h.1.1 h.1.2 h.2 (hes.1 C xs h.2)
        | cons => simp [chkM] at h
      | _ => simp [chkM] at h
    | _ => simp [chkM] at h


theorem c_blt {b : Bt} {es : IEs} (hes : M2 G S T D cf k N es) : M1 G S T D cf k N (.blt b es) := by
  refine dflt (fun {X W sc fb} C x h => ?_) (fun sc fb x h => by
    cases x with
    | UnaryOp o y p => cases o <;> first | exact ⟨rfl, h⟩ | (simp [chkM] at h; done)
    | BoolOp o xs p => cases xs <;> simp [chkM] at h
    | IfExp => simp [chkM] at h
    | Compare y os zs p => simp [chkM] at h
    | Call g xs ks q => cases g <;> cases ks <;> cases xs <;> first | exact ⟨rfl, h⟩ | (simp [chkM] at h; done)
    | _ => exact ⟨rfl, h⟩) (testV fun σ st => by rw [test] <;> first | rfl | (intros; rename_i h; cases h))
  cases x with
    | Call g xs ks q =>
      cases g with
      | Name y p =>
        cases ks with
        | nil =>
          cases xs with
          | nil => simp [chkM] at h
          | cons z zs =>
            simp only [chkM, Bool.and_eq_true, decide_eq_true_eq] at h
            cases es with
            | nil => simp [chkMs] at h
            | cons e es => exact bltn_ok C h.1.1.1 h.1.1.2 h.1.2 h.2 (hes.1 C (z :: zs) h.2)
        | cons => cases xs <;> simp [chkM] at h
      | _ => simp [chkM] at h
    | _ => simp [chkM] at h


theorem c_met {m : Mt} {o : IE} {es : IEs} (ho : M1 G S T D cf k N o) (hes : M2 G S T D cf k N es) : M1 G S T D cf k N (.met m o es) := by
  refine dflt (fun {X W sc fb} C x h => ?_) (fun sc fb x h => by
    cases x with
    | UnaryOp o y p => cases o <;> first | exact ⟨rfl, h⟩ | (simp [chkM] at h; done)
    | BoolOp o xs p => cases xs <;> simp [chkM] at h
    | IfExp => simp [chkM] at h
    | Compare y os zs p => simp [chkM] at h
    | Call g xs ks q => cases g <;> cases ks <;> first | exact ⟨rfl, h⟩ | (simp [chkM] at h; done)
    | _ => exact ⟨rfl, h⟩) (testV fun σ st => by rw [test] <;> first | rfl | (intros; rename_i h; cases h))
  cases x with
    | Call g xs ks q =>
      cases g with
      | Attribute y a p =>
        cases ks with
        | nil =>
          simp only [chkM, Bool.and_eq_true, decide_eq_true_eq] at h
          obtain ⟨⟨⟨⟨⟨⟨h0, h1⟩, h2⟩, h3⟩, h4⟩, h5⟩, h6⟩ := h
          exact met_ok C h0 h1 h2 h3 h4 h6 (ho.1 C y h5) (hes.1 C xs h6)
        | cons => simp [chkM] at h
      | _ => simp [chkM] at h
    | _ => simp [chkM] at h


theorem c_idx {a b : IE} (ha : M1 G S T D cf k N a) (hb : M1 G S T D cf k N b) : M1 G S T D cf k N (.idx a b) := by
  refine dflt (fun {X W sc fb} C x h => ?_) (fun sc fb x h => by
    cases x with
    | UnaryOp o y p => cases o <;> first | exact ⟨rfl, h⟩ | (simp [chkM] at h; done)
    | BoolOp o xs p => cases xs <;> simp [chkM] at h
    | IfExp => simp [chkM] at h
    | Compare y os zs p => simp [chkM] at h
    | _ => exact ⟨rfl, h⟩) (testV fun σ st => by rw [test] <;> first | rfl | (intros; rename_i h; cases h))
  cases x with
    | Subscript y z p =>
      have hs : noSlice z = true := by
        cases z <;> first | rfl | (simp [chkM] at h; done) | (rename_i l u st _; cases st <;> simp [chkM, noSlice] at h)
      simp only [chkM, Bool.and_eq_true] at h
      exact idx_ok C h.1.1 (ha.1 C y h.1.2) (hb.1 C z h.2)
    | _ => simp [chkM] at h


theorem c_ixg {c : Nat} {b : IE} (hb : M1 G S T D cf k N b) : M1 G S T D cf k N (.ixg c b) := by
  refine dflt (fun {X W sc fb} C x h => ?_) (fun sc fb x h => by
    cases x with
    | UnaryOp o y p => cases o <;> first | exact ⟨rfl, h⟩ | (simp [chkM] at h; done)
    | BoolOp o xs p => cases xs <;> simp [chkM] at h
    | IfExp => simp [chkM] at h
    | Compare y os zs p => simp [chkM] at h
    | Call g xs ks q =>
      cases g with
      | Attribute y a p => cases y <;> rcases xs with _ | ⟨z, _ | ⟨z2, zs⟩⟩ <;> cases ks <;> first | exact ⟨rfl, h⟩ | (simp [chkM] at h; done)
      | _ => first | exact ⟨rfl, h⟩ | (simp [chkM] at h; done)
    | _ => exact ⟨rfl, h⟩) (testV fun σ st => by rw [test] <;> first | rfl | (intros; rename_i h; cases h))
  cases x with
    | Call g xs ks q =>
      cases g with
      | Attribute y a p =>
        cases y with
        | Name nm p0 =>
          cases ks with
          | nil =>
            rcases xs with _ | ⟨z, _ | ⟨z2, zs⟩⟩
            · simp [chkM] at h
            · simp only [chkM, Bool.and_eq_true, decide_eq_true_eq] at h
              exact ixg_ok C h.1.1.1.1.1 h.1.1.1.1.2 h.1.1.1.2 h.1.1.2 h.1.2 h.2 (hb.1 C _ h.2)
            · simp [chkM] at h
          | cons => simp [chkM] at h
        | _ => simp [chkM] at h
      | _ => simp [chkM] at h
    | _ => simp [chkM] at h
theorem c_ixo {a b : IE} (ha : M1 G S T D cf k N a) (hb : M1 G S T D cf k N b) : M1 G S T D cf k N (.ixo a b) := by
  refine dflt (fun {X W sc fb} C x h => ?_) (fun sc fb x h => by
    cases x with
    | UnaryOp o y p => cases o <;> first | exact ⟨rfl, h⟩ | (simp [chkM] at h; done)
    | BoolOp o xs p => cases xs <;> simp [chkM] at h
    | IfExp => simp [chkM] at h
    | Compare y os zs p => simp [chkM] at h
    | Call g xs ks q =>
      cases g with
      | Attribute y a p => cases y <;> rcases xs with _ | ⟨z, _ | ⟨z2, zs⟩⟩ <;> cases ks <;> first | exact ⟨rfl, h⟩ | (simp [chkM] at h; done)
      | _ => first | exact ⟨rfl, h⟩ | (simp [chkM] at h; done)
    | _ => exact ⟨rfl, h⟩) (testV fun σ st => by rw [test] <;> first | rfl | (intros; rename_i h; cases h))
  cases x with
    | Call g xs ks q =>
      cases g with
      | Attribute y m p =>
        cases ks with
        | nil =>
          rcases xs with _ | ⟨z, _ | ⟨z2, zs⟩⟩
          · simp [chkM] at h
          · simp only [chkM, Bool.and_eq_true, decide_eq_true_eq] at h
            exact ixo_ok C h.1.1.1.1.1 h.1.1.1.1.2 h.1.1.1.2 h.1.1.2 h.2 (ha.1 C _ h.1.2) (hb.1 C _ h.2)
          · simp [chkM] at h
        | cons => simp [chkM] at h
      | _ => simp [chkM] at h
    | _ => simp [chkM] at h
theorem c_dix {a b : IE} (ha : M1 G S T D cf k N a) (hb : M1 G S T D cf k N b) : M1 G S T D cf k N (.dix a b) := by
  refine dflt (fun {X W sc fb} C x h => ?_) (fun sc fb x h => by
    cases x with
    | UnaryOp o y p => cases o <;> first | exact ⟨rfl, h⟩ | (simp [chkM] at h; done)
    | BoolOp o xs p => cases xs <;> simp [chkM] at h
    | IfExp => simp [chkM] at h
    | Compare y os zs p => simp [chkM] at h
    | _ => exact ⟨rfl, h⟩) (testV fun σ st => by rw [test] <;> first | rfl | (intros; rename_i h; cases h))
  cases x with
    | Subscript y z p =>
      have hs : noSlice z = true := by
        cases z <;> first | rfl | (simp [chkM] at h; done) | (rename_i l u st _; cases st <;> simp [chkM, noSlice] at h)
      simp only [chkM, Bool.and_eq_true] at h
      exact dix_ok C h.1.1 (ha.1 C y h.1.2) (hb.1 C z h.2)
    | _ => simp [chkM] at h


theorem c_slc {m : Bool} {a lo hi : IE} (ha : M1 G S T D cf k N a) (hl : M1 G S T D cf k N lo) (hh : M1 G S T D cf k N hi) : M1 G S T D cf k N (.slc m a lo hi) := by
  refine dflt (fun {X W sc fb} C x h => ?_) (fun sc fb x h => by
    cases x with
    | UnaryOp o y p => cases o <;> first | exact ⟨rfl, h⟩ | (simp [chkM] at h; done)
    | BoolOp o xs p => cases xs <;> simp [chkM] at h
    | IfExp => simp [chkM] at h
    | Compare y os zs p => simp [chkM] at h
    | Subscript y z p =>
      cases z with
      | Slice l u st p2 => cases st <;> first | exact ⟨rfl, h⟩ | (simp [chkM] at h; done)
      | _ => first | exact ⟨rfl, h⟩ | (simp [chkM] at h; done)
    | _ => exact ⟨rfl, h⟩) (testV fun σ st => by rw [test] <;> first | rfl | (intros; rename_i h; cases h))
  cases x with
    | Subscript y z p =>
      cases z with
      | Slice l u st p2 =>
        cases st with
        | none =>
          simp only [chkM] at h
          have h1 := Bool.and_eq_true_iff.mp h
          have h2 := Bool.and_eq_true_iff.mp h1.1
          exact slc_ok C (ha.1 C y h2.1) (part_ok hl C l h2.2) (part_ok hh C u h1.2)
        | some => simp [chkM] at h
      | _ => simp [chkM] at h
    | _ => simp [chkM] at h


theorem c_nop : M1 G S T D cf k N .nop := ⟨fun C x h => by simp [chkM] at h, fun C x h => by simp [chkM] at h⟩

theorem lc_parts {t0 : Bool} {m : Bool} {own : List Nat} {tg : Tg} {it : II} {c elt : IE} {sc : Scope} {fb : Fb} {y t i : Expr} {ifs : List Expr} {as : Int} {scope : Scope} {p : Pos} (h : chkM S t0 N sc fb (.lc m own tg it c elt) (.ListComp y [⟨t, i, ifs, as⟩] scope p) = true) :
    as = 0 ∧ (ownL N own).map (·.2) = own ∧ (∀ j ∈ tgSlots tg, j ∈ own) ∧ blkC N sc scope (ownL N own) = true ∧ noSet i = true ∧ chkI S N sc fb it i t = true ∧ chkT N (relS scope sc) ⟨fun x => scope.names.lookup x == some .cell, fb.ll⟩ tg t = true ∧ (match (generalizing := false) ifs with
      | [] => isNop c
      | [z] => !isNop c && chkM S true N (relS scope sc) ⟨fun x => scope.names.lookup x == some .cell, fb.ll⟩ c z
      | _ => false) = true ∧ chkM S false N (relS scope sc) ⟨fun x => scope.names.lookup x == some .cell, fb.ll⟩ elt y = true := by
  simp only [chkM] at h
  have g1 := Bool.and_eq_true_iff.mp h
  have g2 := Bool.and_eq_true_iff.mp g1.1
  have g3 := Bool.and_eq_true_iff.mp g2.1
  have g4 := Bool.and_eq_true_iff.mp g3.1
  have g5 := Bool.and_eq_true_iff.mp g4.1
  have g6 := Bool.and_eq_true_iff.mp g5.1
  have g7 := Bool.and_eq_true_iff.mp g6.1
  have g8 := Bool.and_eq_true_iff.mp g7.1
  exact ⟨of_decide_eq_true g8.1, of_decide_eq_true g8.2, fun j hj => of_decide_eq_true (List.all_eq_true.mp g7.2 j hj), g6.2, g5.2, g4.2, g3.2, g2.2, g1.2⟩

theorem c_lc {m : Bool} {own : List Nat} {tg : Tg} {it : II} {c elt : IE} (hit : M3 G S T D cf k N it) (hc : M1 G S T D cf k N c) (he : M1 G S T D cf k N elt) : M1 G S T D cf k N (.lc m own tg it c elt) := by
  refine dflt (fun {X W sc fb} C x h => ?_) (fun sc fb x h => by
    cases x with
    | UnaryOp o y p => cases o <;> first | exact ⟨rfl, h⟩ | (simp [chkM] at h; done)
    | BoolOp o xs p => cases xs <;> simp [chkM] at h
    | IfExp => simp [chkM] at h
    | Compare y os zs p => simp [chkM] at h
    | ListComp y gs scope p => rcases gs with _ | ⟨⟨t, i, ifs, as⟩, _ | ⟨g2, gs⟩⟩ <;> first | exact ⟨rfl, h⟩ | (simp [chkM] at h; done)
    | _ => exact ⟨rfl, h⟩) (testV fun σ st => by rw [test] <;> first | rfl | (intros; rename_i h; cases h))
  cases x with
    | ListComp y gs scope p =>
      rcases gs with _ | ⟨⟨t, i, ifs, as⟩, _ | ⟨g2, gs⟩⟩
      · simp [chkM] at h
      · obtain ⟨rfl, h2, h3, h4, h5, h6, h7, h8, h9⟩ := lc_parts h
        have hk : scope.kind = .function := (blkOk_by h4).kind
        exact lc_ok C h2 h3 h4 h5 (hit C i t h6) (fun s H A cl fp => tg_ok (blkX C hk s H A cl fp) tg t h7) (fun s H A cl fp => gate_ok hc (blkX C hk s H A cl fp) ifs h8) (fun s H A cl fp => he.1 (blkX C hk s H A cl fp) y h9)
      · simp [chkM] at h
    | _ => simp [chkM] at h


theorem c_isi {a : IE} {t : Ty} (ha : M1 G S T D cf k N a) : M1 G S T D cf k N (.isi a t) := by
  refine dflt (fun {X W sc fb} C x h => ?_) (fun sc fb x h => by
    cases x with
    | UnaryOp o y p => cases o <;> first | exact ⟨rfl, h⟩ | (simp [chkM] at h; done)
    | BoolOp o xs p => cases xs <;> simp [chkM] at h
    | IfExp => simp [chkM] at h
    | Compare y os zs p => simp [chkM] at h
    | Call g xs ks q => cases g <;> cases ks <;> first | exact ⟨rfl, h⟩ | (simp [chkM] at h; done) | (rcases xs with _ | ⟨y1, _ | ⟨z1, _ | ⟨z2, zs⟩⟩⟩ <;> first | exact ⟨rfl, h⟩ | (simp [chkM] at h; done) | (cases z1 <;> first | exact ⟨rfl, h⟩ | (simp [chkM] at h; done)))
    | _ => exact ⟨rfl, h⟩) (testV fun σ st => by rw [test] <;> first | rfl | (intros; rename_i h; cases h))
  cases x with
    | Call g xs ks q =>
      cases g with
      | Name y p =>
        cases ks with
        | nil =>
          rcases xs with _ | ⟨y1, _ | ⟨z1, _ | ⟨z2, zs⟩⟩⟩
          · simp [chkM] at h
          · simp [chkM] at h
          · cases z1 with
            | Name z p2 =>
              simp only [chkM, Bool.and_eq_true, decide_eq_true_eq] at h
              obtain ⟨⟨⟨⟨⟨⟨⟨h0, h1⟩, h2⟩, h3⟩, h4⟩, h5⟩, h6⟩, h7⟩ := h
              exact isi_ok C h0 h1 h2 h3 h4 h5 h6 (ha.1 C y1 h7)
            | _ => simp [chkM] at h
          · simp [chkM] at h
        | cons => simp [chkM] at h
      | _ => simp [chkM] at h
    | _ => simp [chkM] at h


theorem c_erl {g : Nat} {b : IE} (hb : M1 G S T D cf k N b) : M1 G S T D cf k N (.erl g b) := by
  refine dflt (fun {X W sc fb} C x h => ?_) (fun sc fb x h => by
    cases x with
    | UnaryOp o y p => cases o <;> first | exact ⟨rfl, h⟩ | (simp [chkM] at h; done)
    | BoolOp o xs p => cases xs <;> simp [chkM] at h
    | IfExp => simp [chkM] at h
    | Compare y os zs p => simp [chkM] at h
    | Call g xs ks q => cases g <;> cases ks <;> first | exact ⟨rfl, h⟩ | (simp [chkM] at h; done) | (rcases xs with _ | ⟨y1, _ | ⟨z1, zs⟩⟩ <;> first | exact ⟨rfl, h⟩ | (simp [chkM] at h; done) | (cases y1 <;> first | exact ⟨rfl, h⟩ | (simp [chkM] at h; done)))
    | _ => exact ⟨rfl, h⟩) (testV fun σ st => by rw [test] <;> first | rfl | (intros; rename_i h; cases h))
  cases x with
    | Call g1 xs ks q =>
      cases g1 with
      | Name y p =>
        cases ks with
        | nil =>
          rcases xs with _ | ⟨y1, _ | ⟨z1, zs⟩⟩
          · simp [chkM] at h
          · cases y1 with
            | Lambda params body scope lp =>
              simp only [chkM, Bool.and_eq_true, decide_eq_true_eq] at h
              obtain ⟨⟨⟨⟨⟨h0, h1⟩, h2⟩, h3⟩, h4⟩, h5⟩ := h
              exact erl_ok C h0 h1 h2 h3 h4 fun Y E C' => hb.1 C' body h5
            | _ => simp [chkM] at h
          · simp [chkM] at h
        | cons => simp [chkM] at h
      | _ => simp [chkM] at h
    | _ => simp [chkM] at h


theorem c_nil : M2 G S T D cf k N .nil := by
  refine ⟨fun {X W sc fb} C xs h => ?_, fun {X W sc fb} C kk a x xs p ha h => ?_, fun {X W sc fb} C kk a x xs p ha h => ?_⟩
  · cases xs with
    | nil => exact pas_nil
    | cons => simp [chkMs] at h
  · cases xs with
    | nil => exact one_ok ha
    | cons => simp [chkMs] at h
  · cases xs with
    | nil => exact tone_ok ha
    | cons => simp [chkMs] at h
theorem c_cons {e : IE} {es : IEs} (he : M1 G S T D cf k N e) (hes : M2 G S T D cf k N es) : M2 G S T D cf k N (.cons e es) := by
  refine ⟨fun {X W sc fb} C xs h => ?_, fun {X W sc fb} C kk a x xs p ha h => ?_, fun {X W sc fb} C kk a x xs p ha h => ?_⟩
  · cases xs with
    | nil => simp [chkMs] at h
    | cons x xs =>
      simp only [chkMs, Bool.and_eq_true] at h
      exact pas_cons h.1.1 (he.1 C x h.1.2) (hes.1 C xs h.2)
  · cases xs with
    | nil => simp [chkMs] at h
    | cons y ys =>
      simp only [chkMs, Bool.and_eq_true] at h
      exact more_ok C ha (hes.2.1 C kk e y ys p (he.1 C y h.1.2) h.2)
  · cases xs with
    | nil => simp [chkMs] at h
    | cons y ys =>
      simp only [chkMs, Bool.and_eq_true] at h
      exact tmore_ok ha (hes.2.2 C kk e y ys p (he.2 C y h.1.2) h.2)

theorem i_ev {e : IE} (he : M1 G S T D cf k N e) : M3 G S T D cf k N (.ev e) := fun {X W sc fb} C x t h => by
    simp only [chkI] at h
    exact iev_ok C (he.1 C x h)

theorem i_rng1 {a : IE} (ha : M1 G S T D cf k N a) : M3 G S T D cf k N (.rng1 a) := fun {X W sc fb} C x t h => by
    cases x with
    | Call g xs ks q =>
      cases g with
      | Name y p =>
        cases ks with
        | nil =>
          rcases xs with _ | ⟨y1, _ | ⟨z1, zs⟩⟩
          · first | exact absurd h Bool.false_ne_true | (rcases xs with _ | ⟨_, _ | ⟨_, _ | ⟨_, _⟩⟩⟩ <;> exact absurd h Bool.false_ne_true) | (cases t <;> exact absurd h Bool.false_ne_true) | (rcases xs with _ | ⟨_, _ | ⟨_, _ | ⟨_, _⟩⟩⟩ <;> cases t <;> exact absurd h Bool.false_ne_true)
          · simp only [chkI, Bool.and_eq_true, decide_eq_true_eq] at h
            obtain ⟨⟨⟨⟨h0, h1⟩, h2⟩, h3⟩, h4⟩ := h
            exact irng1_ok C h0 h1 h2 h3 (ha.1 C y1 h4)
          · first | exact absurd h Bool.false_ne_true | (rcases xs with _ | ⟨_, _ | ⟨_, _ | ⟨_, _⟩⟩⟩ <;> exact absurd h Bool.false_ne_true) | (cases t <;> exact absurd h Bool.false_ne_true) | (rcases xs with _ | ⟨_, _ | ⟨_, _ | ⟨_, _⟩⟩⟩ <;> cases t <;> exact absurd h Bool.false_ne_true)
        | cons => first | exact absurd h Bool.false_ne_true | (rcases xs with _ | ⟨_, _ | ⟨_, _ | ⟨_, _⟩⟩⟩ <;> exact absurd h Bool.false_ne_true) | (cases t <;> exact absurd h Bool.false_ne_true) | (rcases xs with _ | ⟨_, _ | ⟨_, _ | ⟨_, _⟩⟩⟩ <;> cases t <;> exact absurd h Bool.false_ne_true)
      | _ => first | exact absurd h Bool.false_ne_true | (rcases xs with _ | ⟨_, _ | ⟨_, _ | ⟨_, _⟩⟩⟩ <;> exact absurd h Bool.false_ne_true) | (cases t <;> exact absurd h Bool.false_ne_true) | (rcases xs with _ | ⟨_, _ | ⟨_, _ | ⟨_, _⟩⟩⟩ <;> cases t <;> exact absurd h Bool.false_ne_true)
    | _ => first | exact absurd h Bool.false_ne_true | (rcases xs with _ | ⟨_, _ | ⟨_, _ | ⟨_, _⟩⟩⟩ <;> exact absurd h Bool.false_ne_true) | (cases t <;> exact absurd h Bool.false_ne_true) | (rcases xs with _ | ⟨_, _ | ⟨_, _ | ⟨_, _⟩⟩⟩ <;> cases t <;> exact absurd h Bool.false_ne_true)

theorem i_rng2 {a b : IE} (ha : M1 G S T D cf k N a) (hb : M1 G S T D cf k N b) : M3 G S T D cf k N (.rng2 a b) := fun {X W sc fb} C x t h => by
    cases x with
    | Call g xs ks q =>
      cases g with
      | Name y p =>
        cases ks with
        | nil =>
          rcases xs with _ | ⟨y1, _ | ⟨z1, _ | ⟨z2, zs⟩⟩⟩
          · first | exact absurd h Bool.false_ne_true | (rcases xs with _ | ⟨_, _ | ⟨_, _ | ⟨_, _⟩⟩⟩ <;> exact absurd h Bool.false_ne_true) | (cases t <;> exact absurd h Bool.false_ne_true) | (rcases xs with _ | ⟨_, _ | ⟨_, _ | ⟨_, _⟩⟩⟩ <;> cases t <;> exact absurd h Bool.false_ne_true)
          · first | exact absurd h Bool.false_ne_true | (rcases xs with _ | ⟨_, _ | ⟨_, _ | ⟨_, _⟩⟩⟩ <;> exact absurd h Bool.false_ne_true) | (cases t <;> exact absurd h Bool.false_ne_true) | (rcases xs with _ | ⟨_, _ | ⟨_, _ | ⟨_, _⟩⟩⟩ <;> cases t <;> exact absurd h Bool.false_ne_true)
          · simp only [chkI, Bool.and_eq_true, decide_eq_true_eq] at h
            obtain ⟨⟨⟨⟨⟨⟨h0, h1⟩, h2⟩, h3⟩, h4⟩, h5⟩, h6⟩ := h
            exact irng2_ok C h0 h1 h2 h3 h4 (ha.1 C y1 h5) (hb.1 C z1 h6)
          · first | exact absurd h Bool.false_ne_true | (rcases xs with _ | ⟨_, _ | ⟨_, _ | ⟨_, _⟩⟩⟩ <;> exact absurd h Bool.false_ne_true) | (cases t <;> exact absurd h Bool.false_ne_true) | (rcases xs with _ | ⟨_, _ | ⟨_, _ | ⟨_, _⟩⟩⟩ <;> cases t <;> exact absurd h Bool.false_ne_true)
        | cons => first | exact absurd h Bool.false_ne_true | (rcases xs with _ | ⟨_, _ | ⟨_, _ | ⟨_, _⟩⟩⟩ <;> exact absurd h Bool.false_ne_true) | (cases t <;> exact absurd h Bool.false_ne_true) | (rcases xs with _ | ⟨_, _ | ⟨_, _ | ⟨_, _⟩⟩⟩ <;> cases t <;> exact absurd h Bool.false_ne_true)
      | _ => first | exact absurd h Bool.false_ne_true | (rcases xs with _ | ⟨_, _ | ⟨_, _ | ⟨_, _⟩⟩⟩ <;> exact absurd h Bool.false_ne_true) | (cases t <;> exact absurd h Bool.false_ne_true) | (rcases xs with _ | ⟨_, _ | ⟨_, _ | ⟨_, _⟩⟩⟩ <;> cases t <;> exact absurd h Bool.false_ne_true)
    | _ => first | exact absurd h Bool.false_ne_true | (rcases xs with _ | ⟨_, _ | ⟨_, _ | ⟨_, _⟩⟩⟩ <;> exact absurd h Bool.false_ne_true) | (cases t <;> exact absurd h Bool.false_ne_true) | (rcases xs with _ | ⟨_, _ | ⟨_, _ | ⟨_, _⟩⟩⟩ <;> cases t <;> exact absurd h Bool.false_ne_true)

theorem i_enm {a : IE} (ha : M1 G S T D cf k N a) : M3 G S T D cf k N (.enm a) := fun {X W sc fb} C x t h => by
    cases x with
    | Call g xs ks q =>
      cases g with
      | Name y p =>
        cases ks with
        | nil =>
          rcases xs with _ | ⟨y1, _ | ⟨z1, zs⟩⟩
          · first | exact absurd h Bool.false_ne_true | (rcases xs with _ | ⟨_, _ | ⟨_, _ | ⟨_, _⟩⟩⟩ <;> exact absurd h Bool.false_ne_true) | (cases t <;> exact absurd h Bool.false_ne_true) | (rcases xs with _ | ⟨_, _ | ⟨_, _ | ⟨_, _⟩⟩⟩ <;> cases t <;> exact absurd h Bool.false_ne_true)
          · cases t with
            | Tuple ts tk tp =>
              simp only [chkI, Bool.and_eq_true, decide_eq_true_eq] at h
              obtain ⟨⟨⟨⟨h0, h1⟩, h2⟩, h3⟩, h4⟩ := h
              exact ienm_ok C h0 h1 h2 h3 (ha.1 C y1 h4)
            | _ => first | exact absurd h Bool.false_ne_true | (rcases xs with _ | ⟨_, _ | ⟨_, _ | ⟨_, _⟩⟩⟩ <;> exact absurd h Bool.false_ne_true) | (cases t <;> exact absurd h Bool.false_ne_true) | (rcases xs with _ | ⟨_, _ | ⟨_, _ | ⟨_, _⟩⟩⟩ <;> cases t <;> exact absurd h Bool.false_ne_true)
          · first | exact absurd h Bool.false_ne_true | (rcases xs with _ | ⟨_, _ | ⟨_, _ | ⟨_, _⟩⟩⟩ <;> exact absurd h Bool.false_ne_true) | (cases t <;> exact absurd h Bool.false_ne_true) | (rcases xs with _ | ⟨_, _ | ⟨_, _ | ⟨_, _⟩⟩⟩ <;> cases t <;> exact absurd h Bool.false_ne_true)
        | cons => first | exact absurd h Bool.false_ne_true | (rcases xs with _ | ⟨_, _ | ⟨_, _ | ⟨_, _⟩⟩⟩ <;> exact absurd h Bool.false_ne_true) | (cases t <;> exact absurd h Bool.false_ne_true) | (rcases xs with _ | ⟨_, _ | ⟨_, _ | ⟨_, _⟩⟩⟩ <;> cases t <;> exact absurd h Bool.false_ne_true)
      | _ => first | exact absurd h Bool.false_ne_true | (rcases xs with _ | ⟨_, _ | ⟨_, _ | ⟨_, _⟩⟩⟩ <;> exact absurd h Bool.false_ne_true) | (cases t <;> exact absurd h Bool.false_ne_true) | (rcases xs with _ | ⟨_, _ | ⟨_, _ | ⟨_, _⟩⟩⟩ <;> cases t <;> exact absurd h Bool.false_ne_true)
    | _ => first | exact absurd h Bool.false_ne_true | (rcases xs with _ | ⟨_, _ | ⟨_, _ | ⟨_, _⟩⟩⟩ <;> exact absurd h Bool.false_ne_true) | (cases t <;> exact absurd h Bool.false_ne_true) | (rcases xs with _ | ⟨_, _ | ⟨_, _ | ⟨_, _⟩⟩⟩ <;> cases t <;> exact absurd h Bool.false_ne_true)

theorem i_zip {a b : IE} (ha : M1 G S T D cf k N a) (hb : M1 G S T D cf k N b) : M3 G S T D cf k N (.zip a b) := fun {X W sc fb} C x t h => by
    cases x with
    | Call g xs ks q =>
      cases g with
      | Name y p =>
        cases ks with
        | nil =>
          rcases xs with _ | ⟨y1, _ | ⟨z1, _ | ⟨z2, zs⟩⟩⟩
          · first | exact absurd h Bool.false_ne_true | (rcases xs with _ | ⟨_, _ | ⟨_, _ | ⟨_, _⟩⟩⟩ <;> exact absurd h Bool.false_ne_true) | (cases t <;> exact absurd h Bool.false_ne_true) | (rcases xs with _ | ⟨_, _ | ⟨_, _ | ⟨_, _⟩⟩⟩ <;> cases t <;> exact absurd h Bool.false_ne_true)
          · first | exact absurd h Bool.false_ne_true | (rcases xs with _ | ⟨_, _ | ⟨_, _ | ⟨_, _⟩⟩⟩ <;> exact absurd h Bool.false_ne_true) | (cases t <;> exact absurd h Bool.false_ne_true) | (rcases xs with _ | ⟨_, _ | ⟨_, _ | ⟨_, _⟩⟩⟩ <;> cases t <;> exact absurd h Bool.false_ne_true)
          · cases t with
            | Tuple ts tk tp =>
              simp only [chkI, Bool.and_eq_true, decide_eq_true_eq] at h
              obtain ⟨⟨⟨⟨⟨⟨h0, h1⟩, h2⟩, h3⟩, h4⟩, h5⟩, h6⟩ := h
              exact izip_ok C h0 h1 h2 h3 h4 (ha.1 C y1 h5) (hb.1 C z1 h6)
            | _ => first | exact absurd h Bool.false_ne_true | (rcases xs with _ | ⟨_, _ | ⟨_, _ | ⟨_, _⟩⟩⟩ <;> exact absurd h Bool.false_ne_true) | (cases t <;> exact absurd h Bool.false_ne_true) | (rcases xs with _ | ⟨_, _ | ⟨_, _ | ⟨_, _⟩⟩⟩ <;> cases t <;> exact absurd h Bool.false_ne_true)
          · first | exact absurd h Bool.false_ne_true | (rcases xs with _ | ⟨_, _ | ⟨_, _ | ⟨_, _⟩⟩⟩ <;> exact absurd h Bool.false_ne_true) | (cases t <;> exact absurd h Bool.false_ne_true) | (rcases xs with _ | ⟨_, _ | ⟨_, _ | ⟨_, _⟩⟩⟩ <;> cases t <;> exact absurd h Bool.false_ne_true)
        | cons => first | exact absurd h Bool.false_ne_true | (rcases xs with _ | ⟨_, _ | ⟨_, _ | ⟨_, _⟩⟩⟩ <;> exact absurd h Bool.false_ne_true) | (cases t <;> exact absurd h Bool.false_ne_true) | (rcases xs with _ | ⟨_, _ | ⟨_, _ | ⟨_, _⟩⟩⟩ <;> cases t <;> exact absurd h Bool.false_ne_true)
      | _ => first | exact absurd h Bool.false_ne_true | (rcases xs with _ | ⟨_, _ | ⟨_, _ | ⟨_, _⟩⟩⟩ <;> exact absurd h Bool.false_ne_true) | (cases t <;> exact absurd h Bool.false_ne_true) | (rcases xs with _ | ⟨_, _ | ⟨_, _ | ⟨_, _⟩⟩⟩ <;> cases t <;> exact absurd h Bool.false_ne_true)
    | _ => first | exact absurd h Bool.false_ne_true | (rcases xs with _ | ⟨_, _ | ⟨_, _ | ⟨_, _⟩⟩⟩ <;> exact absurd h Bool.false_ne_true) | (cases t <;> exact absurd h Bool.false_ne_true) | (rcases xs with _ | ⟨_, _ | ⟨_, _ | ⟨_, _⟩⟩⟩ <;> cases t <;> exact absurd h Bool.false_ne_true)

theorem m1 (e : IE) : M1 G S T D cf k N e :=
  IE.rec (motive_1 := M1 G S T D cf k N) (motive_2 := M2 G S T D cf k N) (motive_3 := M3 G S T D cf k N) (fun _ => c_var) (fun _ => c_con) (fun _ => c_glo) (fun _ => c_fnv) (fun _ h => c_tup h) (fun _ _ h => c_lst h) (fun _ => c_dct) (fun _ _ _ _ h1 h2 => c_bin h1 h2) (fun _ _ _ h1 h2 => c_cmp h1 h2) (fun _ _ _ _ _ h1 h2 h3 => c_chn h1 h2 h3)
    (fun _ _ _ h1 h2 => c_bop h1 h2) (fun _ h => c_not h) (fun _ h => c_neg h) (fun _ _ _ h1 h2 h3 => c_ife h1 h2 h3) (fun _ _ _ h => c_call h) (fun _ _ h => c_blt h) (fun _ _ _ h1 h2 => c_met h1 h2) (fun _ _ h1 h2 => c_idx h1 h2) (fun _ _ h => c_ixg h) (fun _ _ h1 h2 => c_ixo h1 h2) (fun _ _ h1 h2 => c_dix h1 h2) (fun _ _ _ h1 h2 => c_din h1 h2) (fun _ _ _ _ h1 h2 h3 => c_slc h1 h2 h3) c_nop
    (fun _ _ _ _ _ _ h1 h2 h3 => c_lc h1 h2 h3) (fun _ _ h => c_isi h) (fun _ _ h => c_erl h) c_nil (fun _ _ h1 h2 => c_cons h1 h2) (fun _ h => i_ev h) (fun _ h => i_rng1 h) (fun _ _ h1 h2 => i_rng2 h1 h2) (fun _ h => i_enm h) (fun _ _ h1 h2 => i_zip h1 h2) e
theorem m2 : ∀ es : IEs, M2 G S T D cf k N es
  | .nil => c_nil
  | .cons e es => c_cons (m1 e) (m2 es)
theorem m3 : ∀ it : II, M3 G S T D cf k N it
  | .ev e => i_ev (m1 e)
  | .rng1 a => i_rng1 (m1 a)
  | .rng2 a b => i_rng2 (m1 a) (m1 b)
  | .enm a => i_enm (m1 a)
  | .zip a b => i_zip (m1 a) (m1 b)
variable {X : Cx} {W : XK} {sc : Scope} {fb : Fb}
theorem ev_ok (e : IE) (C : CxOk G S T D cf k X W N sc fb) (x : Expr) (h : chkM S false N sc fb e x = true) : PE X x (tE G W (ev T cf e)) := (m1 e).1 C x h
theorem test_ok (e : IE) (C : CxOk G S T D cf k X W N sc fb) (x : Expr) (h : chkM S true N sc fb e x = true) : PT X x (tT G W (test T cf e)) := (m1 e).2 C x h
theorem evs_ok (es : IEs) (C : CxOk G S T D cf k X W N sc fb) (xs : List Expr) (h : chkMs S false N sc fb es xs = true) : PA X xs (tAs G W (evs T cf es)) := (m2 es).1 C xs h
theorem src_ok (it : II) (C : CxOk G S T D cf k X W N sc fb) (x t : Expr) (h : chkI S N sc fb it x t = true) : PI X t x (tI G W (src T cf it)) := m3 it C x t h
end
end MP

set_option Elab.async false
set_option linter.all false
set_option maxRecDepth 100000
set_option maxHeartbeats 4000000
/-! MSound6: statements. -/
namespace MP
open PySem PySem.Spec PyProof.Rows L2

/-! ### against the text -/
def noComp : Expr → Bool
  | .ListComp .. => false
  | .SetComp .. => false
  | .DictComp .. => false
  | _ => true
/-- the names and the row of a store change places -/
def swB (sc : Scope) (x : Str) (p : Pos) : Expr → Bool
  | .ListComp _ _ s q | .SetComp _ _ s q | .DictComp _ _ _ s q => decide (sc.names.lookup x = some .local) && p.line == q.line && !(s.names.any fun (n, k) => n == x && (k == .local || k == .cell))
  | _ => false
def parN (sc : Scope) (line : Nat) (ts : List Expr) : List Str := ts.filterMap fun
  | .Name id pos => if decide (sc.names.lookup id = some .local) && pos.line == line then some id else none
  | _ => none
def isStar : Expr → Bool
  | .Starred .. => true
  | _ => false
def parE (env : PySem.Env) (line : Nat) (ts : List Expr) : List Str := ts.filterMap fun
  | .Name id pos => if env.kindOf id == some .local && pos.line == line then some id else none
  | _ => none
/-- which names a pair's stores go to from the right; none: not told -/
def swN (sc : Scope) (ts vs : List Expr) : Option (Option (List Str)) :=
  if !(ts.length == 2 || ts.length == 3) || vs.length != ts.length then some none
  else if vs.any isStar then some none
  else
    let names := parN sc ((ts.head?.map (·.pos.line)).getD 0) ts
    if names.length != ts.length || names.eraseDups.length != names.length then some none
    else if vs.all (foldedForSure 8) then some none
    else if vs.all (constantsAlone 8) then none
    else some (some names)
def swT (sc : Scope) : Expr → Expr → Bool
  | .Tuple ts _ _, .Tuple vs _ _ => decide (swN sc ts vs = some none)
  | .Name .., _ => true
  | .Tuple .., _ => true
  | _, _ => false
def isName : Expr → Bool
  | .Name .. => true
  | _ => false
def isTuple : Expr → Bool
  | .Tuple .. => true
  | _ => false
section
variable {sc : Scope} {env : PySem.Env}
theorem sw_none {e : Expr} (h : noComp e = true) (t : Option Expr) (l : Nat) : swapsWith e t l env = pure false := by
  cases e <;> first | rfl | (cases h; done)
theorem sw_tgt {e t : Expr} (ht : isName t = false) (l : Nat) : swapsWith e (some t) l env = pure false := by
  cases e <;> cases t <;> first | rfl | (cases ht; done)
theorem sw_name {e : Expr} {x : Str} {p : Pos} (hsc : env.scope = sc) (hk : sc.kind = .function) (l : Nat) : swapsWith e (some (.Name x p)) l env = pure (swB sc x p e) := by
  have hb : env.blockKind = .function := by unfold Env.blockKind; rw [hsc, hk]; rfl
  have hy : env.kindOf x = sc.names.lookup x := by unfold Env.kindOf; rw [hsc]
  have key : ∀ (s : Scope) (q : Pos), (env.blockKind == ScopeKind.function && env.kindOf x == some .local && p.line == q.line && !(s.names.any fun (n, k) => n == x && (k == .local || k == .cell))) = (decide (sc.names.lookup x = some .local) && p.line == q.line && !(s.names.any fun (n, k) => n == x && (k == .local || k == .cell))) := fun s q => by
    rw [hb, hy]
    have e1 : (ScopeKind.function == ScopeKind.function) = true := rfl
    rw [e1, Bool.true_and]
    congr 2
    rw [Bool.eq_iff_iff]
    simp
  cases e with
  | ListComp a b s q => show (pure _ : Sem Bool) = _; rw [key] <;> rfl
  | SetComp a b s q => show (pure _ : Sem Bool) = _; rw [key] <;> rfl
  | DictComp a b c s q => show (pure _ : Sem Bool) = _; rw [key] <;> rfl
  | _ => rfl
theorem swN_ok {ts vs : List Expr} {a b : Nat} {p q : Pos} {r : Option (List Str)} (hsc : env.scope = sc) (hk : sc.kind = .function) (h : swN sc ts vs = some r) : swappedStores [.Tuple ts a p] (.Tuple vs b q) env = pure r := by
  have hb : env.blockKind = .function := by unfold Env.blockKind; rw [hsc, hk]; rfl
  have hn : parE env ((ts.head?.map (·.pos.line)).getD 0) ts = parN sc ((ts.head?.map (·.pos.line)).getD 0) ts := by
    unfold parN parE
    congr 1
    funext e
    cases e with
    | Name id pos =>
      have hy : env.kindOf id = sc.names.lookup id := by unfold Env.kindOf; rw [hsc]
      show (if (env.kindOf id == some .local && pos.line == _) = true then some id else none) = (if (decide (sc.names.lookup id = some .local) && pos.line == _) = true then some id else none)
      rw [hy]
      have : (sc.names.lookup id == some NameKind.local) = decide (sc.names.lookup id = some .local) := by
        rw [Bool.eq_iff_iff]
        simp
      rw [this]
    | _ => rfl
  have hbf : (env.blockKind != .function) = false := by rw [hb]; rfl
  have e0 : swappedStores [.Tuple ts a p] (.Tuple vs b q) env = (if (!(ts.length == 2 || ts.length == 3) || vs.length != ts.length || env.blockKind != .function) = true then pure none
      else if vs.any isStar = true then pure none
      else if ((parE env ((ts.head?.map (·.pos.line)).getD 0) ts).length != ts.length || (parE env ((ts.head?.map (·.pos.line)).getD 0) ts).eraseDups.length != (parE env ((ts.head?.map (·.pos.line)).getD 0) ts).length) = true then pure none
      else if vs.all (foldedForSure 8) = true then pure none
      else if vs.all (constantsAlone 8) = true then unsupported "assign.tuple-of-constant-expressions:order-of-the-stores"
      else pure (some (parE env ((ts.head?.map (·.pos.line)).getD 0) ts))) := rfl
  rw [e0, hn, hbf, Bool.or_false]
  unfold swN at h
  dsimp only at h
  by_cases h1 : (!(ts.length == 2 || ts.length == 3) || vs.length != ts.length) = true
  · rw [if_pos h1] at h ⊢
    cases h
    rfl
  · rw [if_neg h1] at h ⊢
    by_cases h2 : vs.any isStar = true
    · rw [if_pos h2] at h ⊢
      cases h
      rfl
    · rw [if_neg h2] at h ⊢
      by_cases h3 : ((parN sc ((ts.head?.map (·.pos.line)).getD 0) ts).length != ts.length || (parN sc ((ts.head?.map (·.pos.line)).getD 0) ts).eraseDups.length != (parN sc ((ts.head?.map (·.pos.line)).getD 0) ts).length) = true
      · rw [if_pos h3] at h ⊢
        cases h
        rfl
      · rw [if_neg h3] at h ⊢
        by_cases h4 : vs.all (foldedForSure 8) = true
        · rw [if_pos h4] at h ⊢
          cases h
          rfl
        · rw [if_neg h4] at h ⊢
          by_cases h5 : vs.all (constantsAlone 8) = true
          · rw [if_pos h5] at h
            cases h
          · rw [if_neg h5] at h ⊢
            cases h
            rfl
theorem swT_ok {t v : Expr} (hsc : env.scope = sc) (hk : sc.kind = .function) (h : swT sc t v = true) : swappedStores [t] v env = pure none := by
  cases t with
  | Tuple ts a p =>
    cases v with
    | Tuple vs b q => exact swN_ok hsc hk (of_decide_eq_true h)
    | _ => rfl
  | Name x p => cases v <;> rfl
  | _ => cases h
end
def parL (N : List Str) (sc : Scope) : List Nat → List Expr → Bool
  | [], [] => true
  | i :: is, .Name x _ :: xs => decide (N[i]? = some x) && kindB sc x .local && parL N sc is xs
  | _, _ => false
def raiseB (S : Syn) (sc : Scope) (c : Nat) : Expr → Bool
  | .Call (.Name x _) [.Constant (.str _) _ _] [] _ => S.rz c && decide (S.xname c = some x) && glB sc x
  | _ => false
def raiseAB (S : Syn) (N : List Str) (sc : Scope) (fb : Fb) (c : Nat) (e : IE) : Expr → Bool
  | .Call (.Name x _) [y] [] _ => S.lz c && decide (S.xname c = some x) && glB sc x && noStar y && chkM S false N sc fb e y
  | _ => false
def setL1 (S : Syn) (N : List Str) (sc : Scope) (fb : Fb) (i : Nat) (e : IE) (v : Expr) : Expr → Bool
  | .Name x _ => stB N sc fb i x && chkM S false N sc fb e v
  | _ => false
def setP1 (S : Syn) (N : List Str) (sc : Scope) (fb : Fb) (t : Tg) (e : IE) (v g : Expr) : Bool := isTuple g && swT sc g v && chkT N sc fb t g && chkM S false N sc fb e v || isName g && noComp v && chkT N sc fb t g && chkM S false N sc fb e v
def parB (S : Syn) (N : List Str) (sc : Scope) (fb : Fb) (is : List Nat) (es : IEs) : Expr → List Expr → Bool
  | .Tuple vs _ _, [.Tuple ts _ _] => decide (is.Nodup) && decide (swN sc ts vs = some (some (is.filterMap fun i => N[i]?))) && parL N sc is ts && chkMs S false N sc fb es vs
  | _, _ => false
def ixB (S : Syn) (N : List Str) (sc : Scope) (fb : Fb) (o i e : IE) (v : Expr) : List Expr → Bool
  | [.Subscript x y _] => noSlice y && chkM S false N sc fb o x && chkM S false N sc fb i y && chkM S false N sc fb e v
  | _ => false
def isLcN : Tg → IE → Option Nat
  | .name i, .lc .. => some i
  | _, _ => none
def setB (S : Syn) (N : List Str) (sc : Scope) (fb : Fb) (t : Tg) (e : IE) (v : Expr) : List Expr → Bool
  | [g] => (match isLcN t e with
    | some i => setL1 S N sc fb i e v g
    | none => setP1 S N sc fb t e v g)
  | _ => false
section
variable (S : Syn)
mutual
def chkS (N : List Str) (sc : Scope) (fb : Fb) : IS → Stmt → Bool
  | .set t e, .Assign gs v _ => setB S N sc fb t e v gs
  | .par is es, .Assign gs v _ => parB S N sc fb is es v gs
  | .expr e, .Expr v q => noComp v && chkM S false N sc fb e v
  | .ret e, .Return (some v) _ => chkM S false N sc fb e v
  | .retn, .Return none _ => true
  | .ife c a b, .If x p q _ => chkM S true N sc fb c x && chkSs N sc fb a p && chkSs N sc fb b q
  | .for_ t it b, .For g i body [] _ => noSet i && chkI S N sc fb it i g && chkT N sc fb t g && chkSs N sc fb b body
  | .while_ c b, .While x body [] _ => chkM S true N sc fb c x && chkSs N sc fb b body
  | .raise c, .Raise (some e) none _ => raiseB S sc c e
  | .raiseA c e, .Raise (some x) none _ => raiseAB S N sc fb c e x
  | .pass, .Pass _ => true
  | .pass, .Expr (.Constant (.str _) _ _) _ => true
  | .setIx o i e, .Assign gs v _ => ixB S N sc fb o i e v gs
  | .setD o i e, .Assign gs v _ => ixB S N sc fb o i e v gs
  | _, _ => false
def chkSs (N : List Str) (sc : Scope) (fb : Fb) : List IS → List Stmt → Bool
  | [], [] => true
  | s :: r, x :: xs => chkS N sc fb s x && chkSs N sc fb r xs
  | _, _ => false
end
end

/-! ### what a body's context must have -/
structure SxOk (G : Gs) (S : Syn) (X : Cx) : Prop where
  po : PassesOwn (model X.prog X.w) X.A X.env X.xe
  xs : ∀ c x, S.rz c = true → S.xname c = some x → ∃ (a : Addr) (Bs newId initId : String) (bm : List Value), G.C c = some a ∧ G.mg x = some (.ref a) ∧ PySem.W.keepIn G.K (.ref a) = true ∧ ExcBaseFacts Bs newId initId bm ∧ PySem.W.excIn G.K a bm newId = true ∧ Raises X (.ref a)
  lm : ∀ c x, S.lz c = true → S.xname c = some x → ∃ (a f : Addr) (fd : FuncData), G.C c = some a ∧ G.mg x = some (.ref a) ∧ LimOk G.K a f ∧ XfC G.K a ∧ FnOk X.prog X.w G.K G.mg X.base CX0 1 f fd ["self", "limit"] (spLim a) ∧ Binds G.K fd ["self", "limit"] []
section
variable {G : Gs} {S : Syn} {T : Top} {D : Nat → Option Df} {cf : CallF} {k : Nat} {N : List Str} {X : Cx} {W : XK} {sc : Scope} {fb : Fb}
variable {H H' : Hp} {B ρ B' ρ' : List Addr} {st : Sto}
theorem set_imp {t : Tg} {e : IE} {Ds : Ends} {σ : L2.St} {H : Hp} (h : tS G W (ex T cf (.set t e)) Ds σ H) : tAsg (tE G W (ev T cf e)) (gA G t) Ds σ H := by
  obtain ⟨B, ρ, env, st, re, rs, p⟩ := h
  rw [ex] at p
  refine ⟨B, ρ, env, st, re, rs, (Post.bind p).imp fun v H1 B1 ρ1 st1 e1 rs1 p1 x rx => ?_⟩
  cases ha : MP.assign t v env with
  | none => rw [ha] at p1; exact p1.elim
  | some env' =>
    rw [ha] at p1
    exact ⟨B1, ρ1, env, env', v, re.ext e1 rs.sub, rx, ha, fun σ' re' _ => p1.here rs1 σ' re'⟩
theorem setN_imp {j : Nat} {e : IE} {Ds : Ends} {σ : L2.St} {H : Hp} (h : tS G W (ex T cf (.set (.name j) e)) Ds σ H) : tAsg (tE G W (ev T cf e)) (gName j) Ds σ H := by
  obtain ⟨B, ρ, env, st, re, rs, p⟩ := h
  rw [ex] at p
  refine ⟨B, ρ, env, st, re, rs, (Post.bind p).imp fun v H1 B1 ρ1 st1 e1 rs1 p1 x rx => ?_⟩
  by_cases hl : j < env.length
  · have ha : MP.assign (.name j) v env = some (env.set j (some v)) := by simp only [MP.assign, if_pos hl]
    rw [ha] at p1
    exact p1.here rs1 _ (set_env (re.ext e1 rs.sub) rx)
  · have ha : MP.assign (.name j) v env = none := by simp only [MP.assign, if_neg hl]
    rw [ha] at p1
    exact p1.elim
theorem setName_ok (C : CxOk G S T D cf k X W N sc fb) {j : Nat} {e : IE} {x : Str} {p q : Pos} {v : Expr} (hst : stB N sc fb j x = true) (hsw : swapsWith v (some (.Name x p)) q.line X.env = pure false) (he : PE X v (tE G W (ev T cf e))) : PS X (.Assign [.Name x p] v q) (tS G W (ex T cf (.set (.name j) e))) := by
  obtain ⟨h1, h2, h3⟩ := stB_ok C hst
  exact PS.mono (ps_set (by rw [C.hN]; exact C.nd) h1 h2 he hsw h3) fun Ds σ H h => setN_imp h
theorem setTup_ok (C : CxOk G S T D cf k X W N sc fb) {t : Tg} {e : IE} {g v : Expr} {q : Pos} (ht : isTuple g = true) (hsw : swT sc g v = true) (hg : chkT N sc fb t g = true) (he : PE X v (tE G W (ev T cf e))) : PS X (.Assign [g] v q) (tS G W (ex T cf (.set t e))) := by
  have hs : swapsWithSole [g] v q.line X.env = pure false := sw_tgt (by cases g <;> first | rfl | (cases ht; done)) q.line
  have h1 : (assignEach [g] X.env).map (·.2) = [PySem.assign g X.env] := by rw [tg_each hg]; rfl
  exact PS.mono (ps_asg he (tg_ok C t g hg) hs (swT_ok C.hsc C.kind hsw) h1) fun Ds σ H h => set_imp h
/-! one after another -/
theorem stepS {o : Out Fl} {r : MP.Env → Sto → Out Fl} {Ds : Ends} {Nx : L2.St → Hp → Prop} {c1 c2 : L2.St → Hp → Prop} (h : Post G H B ρ (match o with
    | .ok (.nx σ') st' => r σ' st'
    | o => o) (flQ G Ds) W) (hN : ∀ H' B' ρ' env' st' σ, Ext H B ρ H' B' ρ' → RSto G H' B' ρ' st' → REnv G H' B' ρ' σ env' → Post G H' B' ρ' (r env' st') (flQ G Ds) W → Nx σ H') : Post G H B ρ o (flQ G { nx := Nx, rt := Ds.rt, bk := c1, ct := c2 }) W := by
  cases o with
  | ok fl st' =>
    cases fl with
    | nx env' => exact fun H' B' ρ' e rs σ re => hN H' B' ρ' env' st' σ e rs re (Post.ext h e)
    | rt v => exact h
  | exc e st' => exact h
  | stuck => exact h
theorem snil_ok : PSs X [] (tS G W (exs T cf [])) := PSs.mono pss_nil fun Ds σ H ⟨B, ρ, env, st, re, rs, p⟩ => by
  rw [exs] at p
  exact p.here rs σ re
theorem scons_ok {s : IS} {r : List IS} {x : Stmt} {xs : List Stmt} (h : PS X x (tS G W (ex T cf s))) (hr : PSs X xs (tS G W (exs T cf r))) : PSs X (x :: xs) (tS G W (exs T cf (s :: r))) := by
  refine PSs.mono (pss_cons h hr) fun Ds σ H ⟨B, ρ, env, st, re, rs, p⟩ => ?_
  rw [exs] at p
  exact ⟨B, ρ, env, st, re, rs, stepS p fun H' B' ρ' env' st' σ' e rs' re' p' => ⟨B', ρ', env', st', re', rs', p'⟩⟩
theorem sexpr_ok {e : IE} {v : Expr} {q : Pos} (hn : noComp v = true) (he : PE X v (tE G W (ev T cf e))) : PS X (.Expr v q) (tS G W (ex T cf (.expr e))) := by
  refine PS.mono (ps_expr he (sw_none hn none q.line)) fun Ds σ H ⟨B, ρ, env, st, re, rs, p⟩ => ?_
  rw [ex] at p
  exact ⟨B, ρ, env, st, re, rs, (Post.bind p).imp fun v H1 B1 ρ1 st1 e1 rs1 p1 x rx => p1.here rs1 σ (re.ext e1 rs.sub)⟩
theorem sret_ok {e : IE} {v : Expr} {q : Pos} (he : PE X v (tE G W (ev T cf e))) : PS X (.Return (some v) q) (tS G W (ex T cf (.ret e))) := by
  refine PS.mono (ps_ret he) fun Ds σ H ⟨B, ρ, env, st, re, rs, p⟩ => ?_
  rw [ex] at p
  exact ⟨B, ρ, env, st, re, rs, (Post.bind p).imp fun v H1 B1 ρ1 st1 e1 rs1 p1 x rx => p1.here rs1 x rx⟩
theorem sretn_ok {q : Pos} : PS X (.Return none q) (tS G W (ex T cf .retn)) := by
  refine PS.mono ps_retN fun Ds σ H ⟨B, ρ, env, st, re, rs, p⟩ => ?_
  rw [ex] at p
  exact p.here rs _ .non
theorem spass_ok {q : Pos} : PS X (.Pass q) (tS G W (ex T cf .pass)) := by
  refine PS.mono ps_pass fun Ds σ H ⟨B, ρ, env, st, re, rs, p⟩ => ?_
  rw [ex] at p
  exact p.here rs σ re
theorem sdoc_ok {x : Str} {j : Nat} {q1 q : Pos} : PS X (.Expr (.Constant (.str x) j q1) q) (tS G W (ex T cf .pass)) := by
  refine PS.mono ps_doc fun Ds σ H ⟨B, ρ, env, st, re, rs, p⟩ => ?_
  rw [ex] at p
  exact p.here rs σ re
theorem sif_ok {c : IE} {a b : List IS} {x : Expr} {p q : List Stmt} {pos : Pos} (hc : PT X x (tT G W (test T cf c))) (ha : PSs X p (tS G W (exs T cf a))) (hb : PSs X q (tS G W (exs T cf b))) : PS X (.If x p q pos) (tS G W (ex T cf (.ife c a b))) := by
  refine PS.mono (ps_if hc ha hb) fun Ds σ H ⟨B, ρ, env, st, re, rs, p⟩ => ?_
  rw [ex] at p
  refine ⟨B, ρ, env, st, re, rs, (Post.bind p).imp fun t H1 B1 ρ1 st1 e1 rs1 p1 => ?_⟩
  cases t with
  | true => exact ⟨B1, ρ1, env, st1, re.ext e1 rs.sub, rs1, p1⟩
  | false => exact ⟨B1, ρ1, env, st1, re.ext e1 rs.sub, rs1, p1⟩
theorem while_succ {c : MP.Env → Sto → Out Bool} {step : MP.Env → Sto → Out Fl} {m : Nat} {env : MP.Env} {st : Sto} : whileG c step (m + 1) env st = (c env st).bind fun b st1 => if b then (match step env st1 with
    | .ok (.nx σ') st' => whileG c step m σ' st'
    | o => o) else .ok (.nx env) st1 := by
  rw [whileG]
  cases c env st with
  | ok b st1 => cases b <;> rfl
  | exc => rfl
  | stuck => rfl
theorem swhile_ok (Y : SxOk G S X) {c : IE} {b : List IS} {x : Expr} {body : List Stmt} {pos : Pos} (hc : PT X x (tT G W (test T cf c))) (hb : PSs X body (tS G W (exs T cf b))) : PS X (.While x body [] pos) (tS G W (ex T cf (.while_ c b))) := by
  refine PS.mono (ps_while Y.po hc hb) fun Ds σ H ⟨B, ρ, env, st, re, rs, p⟩ => ?_
  rw [ex] at p
  refine ⟨fun m σ H => ∃ B ρ env st, REnv G H B ρ σ env ∧ RSto G H B ρ st ∧ Post G H B ρ (whileG (fun σ' st' => test T cf c σ' st') (fun σ' st' => exs T cf b σ' st') m env st) (flQ G Ds) W, ⟨turns, B, ρ, env, st, re, rs, p⟩, ?_⟩
  rintro m σ H ⟨B, ρ, env, st, re, rs, p⟩
  cases m with
  | zero => exact (show False from p).elim
  | succ m =>
    rw [while_succ] at p
    refine ⟨B, ρ, env, st, re, rs, (Post.bind p).imp fun t H1 B1 ρ1 st1 e1 rs1 p1 => ?_⟩
    cases t with
    | true =>
      rw [if_pos rfl] at p1
      rw [if_pos rfl]
      exact ⟨_, fun σ' H' h => ⟨m, Nat.lt_succ_self _, h⟩, B1, ρ1, env, st1, re.ext e1 rs.sub, rs1, stepS p1 fun H' B' ρ' env' st' σ' e rs' re' p' => ⟨B', ρ', env', st', re', rs', p'⟩⟩
    | false =>
      rw [if_neg Bool.false_ne_true] at p1
      rw [if_neg Bool.false_ne_true]
      exact p1.here rs1 σ (re.ext e1 rs.sub)
theorem sfor_ok (C : CxOk G S T D cf k X W N sc fb) (Y : SxOk G S X) {t : Tg} {it : II} {b : List IS} {g i : Expr} {body : List Stmt} {pos : Pos} (hset : noSet i = true) (hi : PI X g i (tI G W (src T cf it))) (hg : PG X g (gA G t)) (hb : PSs X body (tS G W (exs T cf b))) : PS X (.For g i body [] pos) (tS G W (ex T cf (.for_ t it b))) := by
  refine PS.mono (ps_for Y.po C.calm hi hg hb (noSet_ok hset X.env)) fun Ds σ H ⟨B, ρ, env, st, re, rs, p⟩ => ?_
  rw [ex] at p
  refine ⟨B, ρ, env, st, re, rs, (Post.bind p).imp fun s H1 B1 ρ1 st1 e1 rs1 p1 => ?_⟩
  intro J Yl
  refine ⟨fun i m σ H => ∃ B ρ env st, Ext H1 B1 ρ1 H B ρ ∧ REnv G H B ρ σ env ∧ RSto G H B ρ st ∧ Post G H B ρ (forG s (fun x σ' st' => (match MP.assign t x σ' with
    | some σ2 => exs T cf b σ2 st'
    | none => .stuck)) m i env st) (flQ G Ds) W, ⟨turns, B1, ρ1, env, st1, Ext.refl, re.ext e1 rs.sub, rs1, p1⟩, ?_⟩
  rintro i m σ H ⟨B, ρ, env, st, eh, re, rs, p⟩
  cases m with
  | zero => exact (show False from p).elim
  | succ m =>
    rw [forG] at p
    cases hgt : s.get st i with
    | none => rw [hgt] at p; exact (show False from p).elim
    | some r =>
      rw [hgt] at p
      cases r with
      | none => exact .inl ⟨Yl.stop H B ρ st i eh rs hgt, p.here rs σ re⟩
      | some x =>
        obtain ⟨hgo, hy⟩ := Yl.go H B ρ st i x eh rs hgt
        refine .inr ⟨hgo, _, fun σ' H' h => ⟨m, Nat.lt_succ_self _, h⟩, fun xv Hy hyl => ?_⟩
        obtain ⟨ey, ry, rx⟩ := hy xv Hy hyl
        cases ha : MP.assign t x env with
        | none =>
          simp only [ha] at p
          exact (show False from p).elim
        | some env2 =>
          simp only [ha] at p
          refine ⟨B, ρ, env, env2, x, re.ext ey rs.sub, rx, ha, fun σ2 re2 _ => ?_⟩
          exact ⟨B, ρ, env2, st, re2, ry, stepS (Post.ext p ey) fun H' B' ρ' env' st' σ' e rs' re' p' => ⟨B', ρ', env', st', (eh.trans ey).trans e, re', rs', p'⟩⟩
theorem sraise_ok (C : CxOk G S T D cf k X W N sc fb) (Y : SxOk G S X) {c : Nat} {x m : Str} {j : Nat} {p p2 q pos : Pos} (hr : S.rz c = true) (hx : S.xname c = some x) (hg : glB sc x = true) : PS X (.Raise (some (.Call (.Name x p) [.Constant (.str m) j p2] [] q)) none pos) (tS G W (ex T cf (.raise c))) := by
  obtain ⟨a, Bs, newId, initId, bm, h1, h2, h3, h4, h5, h6⟩ := Y.xs c x hr hx
  refine PS.mono (ps_raise C.calm C.tk (pmk_own h4 (by rw [C.hK]; exact h5) (by rw [C.hmg]; exact h2) (by rw [C.hK]; exact h3) h6 (gl_ok C hg) (glB_ok hg).2.1)) fun Ds σ H ⟨B, ρ, env, st, re, rs, p⟩ => ?_
  rw [ex] at p
  exact p H B ρ (.ref a) none Ext.refl rs (.plain h1)
theorem sraiseA_ok (C : CxOk G S T D cf k X W N sc fb) (Y : SxOk G S X) {c : Nat} {x : Str} {e : IE} {y : Expr} {p q pos : Pos} (hr : S.lz c = true) (hx : S.xname c = some x) (hg : glB sc x = true) (hs : noStar y = true) (he : PE X y (tE G W (ev T cf e))) :
    PS X (.Raise (some (.Call (.Name x p) [y] [] q)) none pos) (tS G W (ex T cf (.raiseA c e))) := by
  obtain ⟨a, f, fd, h1, h2, L, xf, F, hb⟩ := Y.lm c x hr hx
  have hroom : Room (1 + 1) X.A := by
    have := C.room
    refine this.mono ?_
    split <;> omega
  rw [← C.hK] at F hb L
  rw [← C.hmg] at F
  refine PS.mono (ps_raise C.calm C.tk (pmk_oex (ds := []) (dvs := []) L.ox L.at_ L.ty F hroom hb .nil pass0 (gl_ok C hg) (by rw [C.hmg]; exact h2) (pa_cons he pa_nil (noStar_ok hs [] X.env)) (glB_ok hg).2.1 (noStar_ok hs [] X.env))) fun Ds σ H ⟨B, ρ, env, st, re, rs, p⟩ => ?_
  rw [ex] at p
  refine ⟨B, ρ, env, st, re, rs, (Post.bind p).imp fun v H1 B1 ρ1 st1 e1 rs1 p1 x rx => ?_⟩
  cases v with
  | int i =>
    have p2 : Post G H1 B1 ρ1 (if limOk i = true then (Out.exc ⟨c, some (.int i)⟩ st1 : Out Fl) else .stuck) (flQ G Ds) W := p1
    by_cases hl : limOk i = true
    · rw [if_pos hl] at p2
      cases rx
      refine ⟨by simp, fun ad hn => ⟨ad, i, rfl, hl, upd_same, fun dx ndx ne => ⟨rfl, dx, [("limit", .int i)], upd_same, ?_, ?_, ?_⟩⟩⟩
      · rw [upd_ne ne, upd_same]
      · rw [upd_ne ne] at ndx
        exact ndx
      · have ndx' : H1 dx = none := by
          rw [upd_ne ne] at ndx
          exact ndx
        have eH : upd (del (upd (upd (upd H1 ad (exo ad a none)) dx (exd dx [("limit", .int i)])) ad (exo ad a (some dx))) ad) dx (.xd [("limit", .int i)]) = upd H1 dx (.xd [("limit", .int i)]) := by
          funext b
          by_cases hb1 : b = dx
          · rw [hb1, upd_same, upd_same]
          · rw [upd_ne hb1, upd_ne hb1]
            by_cases hb2 : b = ad
            · rw [hb2, del_same, hn]
            · rw [del_ne hb2, upd_ne hb2, upd_ne hb1, upd_ne hb2]
        rw [eH]
        exact p2 _ B1 ρ1 _ _ (ext_new rs1 ndx') (sto_new rs1 ndx') (.lim h1 xf (by rw [← C.hK]; exact L.no) upd_same hl)
    · rw [if_neg hl] at p2
      exact p2.elim
  | _ => exact (show False from p1).elim
theorem ix_eq {n : Nat} {j : Int} : ixN n j = ixOf n j := by
  unfold ixN ixOf
  split <;> split <;> first | rfl | (split <;> first | rfl | omega) | omega
theorem ssetIx_ok (C : CxOk G S T D cf k X W N sc fb) {o i e : IE} {x y v : Expr} {p q : Pos} (hy : noSlice y = true) (ho : PE X x (tE G W (ev T cf o))) (hi : PE X y (tE G W (ev T cf i))) (he : PE X v (tE G W (ev T cf e))) : PS X (.Assign [.Subscript x y p] v q) (tS G W (ex T cf (.setIx o i e))) := by
  have hs : swapsWithSole [.Subscript x y p] v q.line X.env = pure false := show swapsWith v (some (.Subscript x y p)) q.line X.env = pure false from sw_tgt rfl q.line
  have ha : ∀ w, PySem.assign (.Subscript x y p) X.env w = (do
      let ov ← holding [w] (eval x X.env)
      let iv ← holding [w, ov] (eval y X.env)
      standAt p
      holding [w, ov, iv] (setItem ov iv w)
      release [w, ov, iv] []) := by
    intro w
    cases y <;> first | rfl | (cases hy; done)
  refine PS.mono (ps_asg he (pg_sub ho hi set_list ha) hs (by cases v <;> rfl)) fun Ds σ H ⟨B, ρ, env, st, re, rs, p⟩ => ?_
  rw [ex] at p
  refine ⟨B, ρ, env, st, re, rs, (Post.bind p).imp fun w H1 B1 ρ1 st1 e1 rs1 p1 x rx => ?_⟩
  have re1 := re.ext e1 rs.sub
  refine ⟨B1, ρ1, env, st1, re1, rs1, (Post.bind p1).imp fun a H2 B2 ρ2 st2 e2 rs2 p2 y ry => ?_⟩
  refine ⟨B2, ρ2, env, st2, re1.ext e2 rs1.sub, rs2, (Post.bind p2).imp fun b H3 B3 ρ3 st3 e3 rs3 p3 z rz => ?_⟩
  have rx3 := (rx.ext e2 rs1.sub).ext e3 rs2.sub
  have re3 := (re1.ext e2 rs1.sub).ext e3 rs2.sub
  have ry3 := ry.ext e3 rs2.sub
  cases ry3 with
  | @ref l n hl =>
    cases rz with
    | int jj =>
      have p4 : Post G H3 B3 ρ3 ((setLAt n st3[n]? jj w st3).bind fun _ st4 => .ok (.nx env) st4) (flQ G Ds) W := p3
      cases hn : st3[n]? with
      | none => rw [hn] at p4; exact p4.elim
      | some mo =>
        rw [hn] at p4
        cases mo with
        | lst ps =>
          cases rs3.obj n l _ hl hn with
          | @lst xs _ hH rv =>
            cases hj : ixOf ps.length jj with
            | none => simp only [setLAt, hj] at p4; exact (show False from p4).elim
            | some pp =>
              simp only [setLAt, hj] at p4
              refine ⟨l, xs, jj, pp, rfl, rfl, hH, ?_, ?_⟩
              · rw [rv.length, ix_eq]
                exact hj
              · have ex := ext_set (o := .lst (xs.set pp x)) rs3 hl
                have rs4 : RSto G (upd H3 l (.lst (xs.set pp x))) B3 ρ3 (st3.set n (.lst (ps.set pp w))) := sto_set rs3 hl trivial (.lst upd_same (RVs.set (rx3.ext ex rs3.sub) pp (rv.ext ex rs3.sub)))
                exact p4 _ _ _ ex rs4 σ (re3.ext ex rs3.sub)
        | _ => exact (show False from p4).elim
    | _ => exact (show False from p3).elim
  | _ => exact (show False from p3).elim
theorem keysOf : ∀ {xs : List V} {ps : List PV}, RVs G H B ρ xs ps → ps.all isKey = true → ∃ kk : List Key, xs = kk.map kV ∧ ps = kk.map kP
  | _, _, .nil, _ => ⟨[], rfl, rfl⟩
  | _, _, .cons h r, hall => by
    simp only [List.all_cons, Bool.and_eq_true] at hall
    obtain ⟨kk, e1, e2⟩ := keysOf r hall.2
    cases h with
    | int i => exact ⟨.inl i :: kk, by rw [e1] <;> rfl, by rw [e2] <;> rfl⟩
    | @str t _ _ => exact ⟨.inr (toS t) :: kk, by rw [e1] <;> rfl, by rw [e2]; simp [kP]⟩
    | _ => cases hall.1
theorem tkey_ok {kt : List (List PV)} (hk : G.kt = kt) {y : V} {q : PV} (ry : RV G H B ρ y q) (hq : isTKey kt q = true) : ∃ (b : Addr) (kk : List Key), y = .ref b ∧ H b = some (.tup (kk.map kV)) ∧ q = ktP kk := by
  cases ry with
  | @tup b xs ps hb r2 =>
    have hq' : (ps.all isKey && !(kt.any fun ys => eqvs ys ps)) = true := hq
    obtain ⟨kk, rfl, rfl⟩ := keysOf r2 (Bool.and_eq_true_iff.mp hq').1
    exact ⟨b, kk, rfl, hb, rfl⟩
  | @ktup b xs ps hb hm r2 =>
    have hq' : (ps.all isKey && !(kt.any fun ys => eqvs ys ps)) = true := hq
    exfalso
    have h3 := (Bool.and_eq_true_iff.mp hq').2
    have h4 : (kt.any fun ys => eqvs ys ps) = true := by
      rw [List.any_eq_true]
      refine ⟨ps, by rw [← hk]; exact hm, ?_⟩
      obtain ⟨kk, _, e2⟩ := keysOf r2 (Bool.and_eq_true_iff.mp hq').1
      rw [e2, eqvs_kP]
      simp
    rw [h4] at h3
    cases h3
  | _ => cases hq
theorem ssetD_ok (C : CxOk G S T D cf k X W N sc fb) {o i e : IE} {x y v : Expr} {p q : Pos} (ho : PE X x (tE G W (ev T cf o))) (hi : PE X y (tE G W (ev T cf i))) (he : PE X v (tE G W (ev T cf e))) : PS X (.Assign [.Subscript x y p] v q) (tS G W (ex T cf (.setD o i e))) := by
  have hs : swapsWith v (some (.Subscript x y p)) q.line X.env = pure false := sw_tgt rfl q.line
  refine PS.mono (ps_dput (by have := C.units; omega) ho hi he hs) fun Ds σ H ⟨B, ρ, env, st, re, rs, p⟩ => ?_
  rw [ex] at p
  refine ⟨B, ρ, env, st, re, rs, (Post.bind p).imp fun w H1 B1 ρ1 st1 e1 rs1 p1 x rx => ?_⟩
  have re1 := re.ext e1 rs.sub
  refine ⟨B1, ρ1, env, st1, re1, rs1, (Post.bind p1).imp fun a H2 B2 ρ2 st2 e2 rs2 p2 y ry => ?_⟩
  refine ⟨B2, ρ2, env, st2, re1.ext e2 rs1.sub, rs2, (Post.bind p2).imp fun b H3 B3 ρ3 st3 e3 rs3 p3 z rz => ?_⟩
  have rx3 := (rx.ext e2 rs1.sub).ext e3 rs2.sub
  have re3 := (re1.ext e2 rs1.sub).ext e3 rs2.sub
  have ry3 := ry.ext e3 rs2.sub
  cases ry3 with
  | @ref l n hl =>
    have p4 : Post G H3 B3 ρ3 ((setDAt T.kt n st3[n]? b w st3).bind fun _ st4 => .ok (.nx env) st4) (flQ G Ds) W := p3
    cases hn : st3[n]? with
    | none => rw [hn] at p4; exact p4.elim
    | some mo =>
      rw [hn] at p4
      cases rs3.obj n l _ hl hn with
      | @dK ks vs hH rv =>
        by_cases hq : (isKey b && decide (vs.length < line)) = true
        · simp only [setDAt, if_pos hq] at p4
          have hq' := Bool.and_eq_true_iff.mp hq
          have key : ∃ kk : Key, z = kV kk ∧ b = kP kk := by
            cases rz with
            | int i => exact ⟨.inl i, rfl, rfl⟩
            | @str t _ _ => exact ⟨.inr (toS t), rfl, by simp [kP]⟩
            | _ => cases hq'.1
          obtain ⟨kk, rfl, rfl⟩ := key
          have ex := ext_set (o := .dK (putK ks kk x)) rs3 hl
          have rs4 : RSto G (upd H3 l (.dK (putK ks kk x))) B3 ρ3 (st3.set n (.dK (put (kP kk) w vs))) := sto_set rs3 hl trivial (.dK upd_same (RKs.put eqv_kP (rx3.ext ex rs3.sub) (rv.ext ex rs3.sub)))
          refine ⟨l, _, rfl, DPut.k hH ?_, p4 _ _ _ ex rs4 σ (re3.ext ex rs3.sub)⟩
          rw [rv.length, ← line_eq]
          exact of_decide_eq_true hq'.2
        · simp only [setDAt, if_neg hq] at p4
          exact (show False from p4).elim
      | @dT ks vs hH rv =>
        by_cases hq : (isTKey T.kt b && decide (vs.length < line)) = true
        · simp only [setDAt, if_pos hq] at p4
          have hq' := Bool.and_eq_true_iff.mp hq
          obtain ⟨bb, kk, rfl, hb, rfl⟩ := tkey_ok C.kt rz hq'.1
          have ex := ext_set (o := .dT (putK ks kk x)) rs3 hl
          have rs4 : RSto G (upd H3 l (.dT (putK ks kk x))) B3 ρ3 (st3.set n (.dT (put (ktP kk) w vs))) := sto_set rs3 hl trivial (.dT upd_same (RKs.put eqv_ktP (rx3.ext ex rs3.sub) (rv.ext ex rs3.sub)))
          refine ⟨l, _, rfl, DPut.t hH hb ?_, p4 _ _ _ ex rs4 σ (re3.ext ex rs3.sub)⟩
          rw [rv.length, ← line_eq]
          exact of_decide_eq_true hq'.2
        · simp only [setDAt, if_neg hq] at p4
          exact (show False from p4).elim
      | lst => exact (show False from p4).elim
  | _ => exact (show False from p3).elim
theorem parL_len : ∀ {is : List Nat} {ts : List Expr}, parL N sc is ts = true → is.length = ts.length := by
  intro is
  induction is with
  | nil => intro ts h; cases ts with
    | nil => rfl
    | cons => simp [parL] at h
  | cons i is ih => intro ts h; cases ts with
    | nil => simp [parL] at h
    | cons t ts =>
      cases t with
      | Name x p =>
        simp only [parL, Bool.and_eq_true] at h
        simp [ih h.2]
      | _ => simp [parL] at h
theorem spar_ok (C : CxOk G S T D cf k X W N sc fb) {is : List Nat} {es : IEs} {ts vs : List Expr} {a b : Nat} {p1 p2 q : Pos} (hnd : is.Nodup) (hw : swN sc ts vs = some (some (is.filterMap fun i => N[i]?))) (hl : parL N sc is ts = true) (ha : PA X vs (tAs G W (evs T cf es))) :
    PS X (.Assign [.Tuple ts a p1] (.Tuple vs b p2) q) (tS G W (ex T cf (.par is es))) := by
  have hsw := swN_ok (env := X.env) (a := a) (b := b) (p := p1) (q := p2) C.hsc C.kind hw
  have hso : swapsWithSole [.Tuple ts a p1] (.Tuple vs b p2) q.line X.env = pure false := rfl
  have core : ∀ {Ds : Ends} {σ : L2.St} {H : Hp}, tS G W (ex T cf (.par is es)) Ds σ H → tAs G W (evs T cf es) σ H fun xs H1 => ∃ (env env' : MP.Env) (B ρ : List Addr) (ps : List PV), REnv G H1 B ρ σ env ∧ RVs G H1 B ρ xs ps ∧ pars is ps env = some env' ∧ ∀ σ', REnv G H1 B ρ σ' env' → Ds.nx σ' H1 := fun {Ds σ H} ⟨B, ρ, env, st, re, rs, p⟩ => by
    rw [ex] at p
    refine ⟨B, ρ, env, st, re, rs, (Post.bind p).imp fun ps H1 B1 ρ1 st1 e1 rs1 p1 xs rx => ?_⟩
    cases hp : pars is ps env with
    | none => rw [hp] at p1; exact p1.elim
    | some env' =>
      rw [hp] at p1
      exact ⟨env, env', B1, ρ1, ps, re.ext e1 rs.sub, rx, hp, fun σ' re' => p1.here rs1 σ' re'⟩
  rcases is with _ | ⟨i, _ | ⟨j, _ | ⟨l, _ | ⟨l2, is⟩⟩⟩⟩
  · cases ts with
    | nil => exact absurd hw (by simp [swN])
    | cons => simp [parL] at hl
  · rcases ts with _ | ⟨t, _ | ⟨t2, ts⟩⟩
    · simp [parL] at hl
    · exact absurd hw (by simp [swN])
    · exact absurd (parL_len hl) (by simp)
  · rcases ts with _ | ⟨t, _ | ⟨t2, _ | ⟨t3, ts⟩⟩⟩
    · simp [parL] at hl
    · exact absurd (parL_len hl) (by simp)
    · cases t with
      | Name x px =>
        cases t2 with
        | Name y py =>
          simp only [parL, Bool.and_eq_true, decide_eq_true_eq] at hl
          obtain ⟨⟨h1, h2⟩, ⟨h3, h4⟩, _⟩ := hl
          have hvl : vs.length = 2 := by
            by_cases hv : vs.length = 2
            · exact hv
            · exfalso
              unfold swN at hw
              rw [if_pos (by simp [hv])] at hw
              cases hw
          rcases vs with _ | ⟨v, _ | ⟨w, _ | ⟨w3, vs⟩⟩⟩ <;> simp at hvl
          have hij : i ≠ j := fun z => by simp [z] at hnd
          refine PS.mono (ps_par (i := i) (j := j) C.calm (by rw [C.hN]; exact C.nd) (by rw [C.hN]; exact h1) (by rw [C.hN]; exact h3) hij (by rw [C.hsc]; exact kindB_ok h2) (by rw [C.hsc]; exact kindB_ok h4) ha (by rw [hsw]; simp [h1, h3]) hso) fun Ds σ H h => ?_
          obtain ⟨B, ρ, env, st, re, rs, p⟩ := core h
          refine ⟨B, ρ, env, st, re, rs, p.imp fun ps H1 B1 ρ1 st1 e1 rs1 p1 xs rx => ?_⟩
          obtain ⟨env1, env', B2, ρ2, qs, re2, rx2, hp, hQ⟩ := p1 xs rx
          rcases qs with _ | ⟨q1, _ | ⟨q2, _ | ⟨q3, qs⟩⟩⟩
          · simp [pars] at hp
          · simp [pars] at hp
          · simp only [pars, List.length_set] at hp
            by_cases hi : i < env1.length
            · rw [if_pos hi] at hp
              by_cases hj : j < env1.length
              · rw [if_pos hj] at hp
                cases hp
                cases rx2 with
                | cons r1 rr =>
                  cases rr with
                  | cons r2 rr =>
                    cases rr
                    exact ⟨_, _, rfl, hQ _ (set_env (set_env re2 r1) r2)⟩
              · rw [if_neg hj] at hp; cases hp
            · rw [if_neg hi] at hp; cases hp
          · simp [pars] at hp
        | _ => simp [parL] at hl
      | _ => simp [parL] at hl
    · exact absurd (parL_len hl) (by simp)
  · rcases ts with _ | ⟨t, _ | ⟨t2, _ | ⟨t3, _ | ⟨t4, ts⟩⟩⟩⟩
    · simp [parL] at hl
    · exact absurd (parL_len hl) (by simp)
    · exact absurd (parL_len hl) (by simp)
    · cases t with
      | Name x px =>
        cases t2 with
        | Name y py =>
          cases t3 with
          | Name z pz =>
            simp only [parL, Bool.and_eq_true, decide_eq_true_eq] at hl
            obtain ⟨⟨h1, h2⟩, ⟨h3, h4⟩, ⟨h5, h6⟩, _⟩ := hl
            have hvl : vs.length = 3 := by
              by_cases hv : vs.length = 3
              · exact hv
              · exfalso
                unfold swN at hw
                rw [if_pos (by simp [hv])] at hw
                cases hw
            rcases vs with _ | ⟨v, _ | ⟨w, _ | ⟨w3, _ | ⟨w4, vs⟩⟩⟩⟩ <;> simp at hvl
            have hij : i ≠ j := fun z => by simp [z] at hnd
            have hil : i ≠ l := fun z => by simp [z] at hnd
            have hjl : j ≠ l := fun z => by simp [z] at hnd
            refine PS.mono (ps_par3 (i := i) (j := j) (l := l) C.calm (by rw [C.hN]; exact C.nd) (by rw [C.hN]; exact h1) (by rw [C.hN]; exact h3) (by rw [C.hN]; exact h5) hij hil hjl (by rw [C.hsc]; exact kindB_ok h2) (by rw [C.hsc]; exact kindB_ok h4) (by rw [C.hsc]; exact kindB_ok h6) ha (by rw [hsw]; simp [h1, h3, h5]) hso) fun Ds σ H h => ?_
            obtain ⟨B, ρ, env, st, re, rs, p⟩ := core h
            refine ⟨B, ρ, env, st, re, rs, p.imp fun ps H1 B1 ρ1 st1 e1 rs1 p1 xs rx => ?_⟩
            obtain ⟨env1, env', B2, ρ2, qs, re2, rx2, hp, hQ⟩ := p1 xs rx
            rcases qs with _ | ⟨q1, _ | ⟨q2, _ | ⟨q3, _ | ⟨q4, qs⟩⟩⟩⟩
            · simp [pars] at hp
            · simp [pars] at hp
            · simp [pars] at hp
            · simp only [pars, List.length_set] at hp
              by_cases hi : i < env1.length
              · rw [if_pos hi] at hp
                by_cases hj : j < env1.length
                · rw [if_pos hj] at hp
                  by_cases hl : l < env1.length
                  · rw [if_pos hl] at hp
                    cases hp
                    cases rx2 with
                    | cons r1 rr =>
                      cases rr with
                      | cons r2 rr =>
                        cases rr with
                        | cons r3 rr =>
                          cases rr
                          exact ⟨_, _, _, rfl, hQ _ (set_env (set_env (set_env re2 r1) r2) r3)⟩
                  · rw [if_neg hl] at hp; cases hp
                · rw [if_neg hj] at hp; cases hp
              · rw [if_neg hi] at hp; cases hp
            · simp [pars] at hp
          | _ => simp [parL] at hl
        | _ => simp [parL] at hl
      | _ => simp [parL] at hl
    · exact absurd (parL_len hl) (by simp)
  · exfalso
    have h0 := parL_len hl
    unfold swN at hw
    rw [if_pos (by simp at h0; simp [← h0])] at hw
    cases hw

theorem setPlain_ok (C : CxOk G S T D cf k X W N sc fb) {t : Tg} {e : IE} {g v : Expr} {q : Pos} (h : setP1 S N sc fb t e v g = true) : PS X (.Assign [g] v q) (tS G W (ex T cf (.set t e))) := by
  unfold setP1 at h
  simp only [Bool.or_eq_true, Bool.and_eq_true] at h
  rcases h with ⟨⟨⟨h1, h2⟩, h3⟩, h4⟩ | ⟨⟨⟨h1, h2⟩, h3⟩, h4⟩
  · exact setTup_ok C h1 h2 h3 (ev_ok e C v h4)
  · cases g with
    | Name x p =>
      cases t with
      | name i =>
        have h3' : stB N sc fb i x = true := by simpa only [chkT] using h3
        exact setName_ok C h3' (sw_none h2 _ _) (ev_ok e C v h4)
      | tup ts => simp [chkT] at h3
    | _ => cases h1
theorem setLc_ok (C : CxOk G S T D cf k X W N sc fb) {i : Nat} {m : Bool} {own : List Nat} {tg : Tg} {it : II} {c elt : IE} {x : Str} {p : Pos} {v : Expr} {q : Pos} (hst : stB N sc fb i x = true) (he : chkM S false N sc fb (.lc m own tg it c elt) v = true) :
    PS X (.Assign [.Name x p] v q) (tS G W (ex T cf (.set (.name i) (.lc m own tg it c elt)))) := by
  have hsw := sw_name (env := X.env) (e := v) (x := x) (p := p) C.hsc C.kind q.line
  by_cases hb : swB sc x p v = true
  · have he' := he
    cases v with
    | ListComp y gs scope pp =>
      rcases gs with _ | ⟨⟨tt, ii, ifs, as⟩, _ | ⟨g2, gs⟩⟩
      · simp [chkM] at he
      · obtain ⟨rfl, h2, h3, h4, h5, h6, h7, h8, h9⟩ := lc_parts he
        have hk : scope.kind = .function := (blkOk_by h4).kind
        have hz := stB_ok C hst
        have hloc : sc.names.lookup x = some .local := by
          have hb' : (decide (sc.names.lookup x = some .local) && p.line == pp.line && !(scope.names.any fun (n, k) => n == x && (k == .local || k == .cell))) = true := hb
          simp only [Bool.and_eq_true, decide_eq_true_eq] at hb'
          exact hb'.1.1
        rw [hb] at hsw
        exact PS.mono (lcSet_ok C (by rw [← C.hN]; exact hz.1) hloc hsw h2 h3 h4 h5 (src_ok it C ii tt h6) (fun s H A cl fp => tg_ok (blkX C hk s H A cl fp) tg tt h7) (fun s H A cl fp => gate_ok (m1 c) (blkX C hk s H A cl fp) ifs h8) (fun s H A cl fp => ev_ok elt (blkX C hk s H A cl fp) y h9)) fun Ds σ H h => setN_imp h
      · simp [chkM] at he
    | _ => simp [chkM] at he
  · rw [Bool.not_eq_true] at hb
    rw [hb] at hsw
    exact setName_ok C hst hsw (ev_ok _ C v he)
theorem set_ok (C : CxOk G S T D cf k X W N sc fb) {t : Tg} {e : IE} {gs : List Expr} {v : Expr} {q : Pos} (h : setB S N sc fb t e v gs = true) : PS X (.Assign gs v q) (tS G W (ex T cf (.set t e))) := by
  rcases gs with _ | ⟨g, _ | ⟨g2, gs⟩⟩
  · cases h
  · have h' : (match isLcN t e with
      | some i => setL1 S N sc fb i e v g
      | none => setP1 S N sc fb t e v g) = true := h
    cases hl : isLcN t e with
    | none =>
      rw [hl] at h'
      exact setPlain_ok C h'
    | some i =>
      rw [hl] at h'
      unfold isLcN at hl
      split at hl
      · cases hl
        cases g with
        | Name x p =>
          have h2 : (stB N sc fb i x && chkM S false N sc fb _ v) = true := h'
          have h3 := Bool.and_eq_true_iff.mp h2
          exact setLc_ok C h3.1 h3.2
        | _ => cases h'
      · cases hl
  · cases h
theorem raiseE_ok (C : CxOk G S T D cf k X W N sc fb) (Y : SxOk G S X) {c : Nat} {e : Expr} {pos : Pos} (h : raiseB S sc c e = true) : PS X (.Raise (some e) none pos) (tS G W (ex T cf (.raise c))) := by
  unfold raiseB at h
  split at h
  · simp only [Bool.and_eq_true, decide_eq_true_eq] at h
    exact sraise_ok C Y h.1.1 h.1.2 h.2
  · cases h
theorem raise_ok (C : CxOk G S T D cf k X W N sc fb) (Y : SxOk G S X) {c : Nat} {x : Stmt} (h : chkS S N sc fb (.raise c) x = true) : PS X x (tS G W (ex T cf (.raise c))) := by
  cases x with
  | Raise e fr pos =>
    cases e with
    | none => simp [chkS] at h
    | some e =>
      cases fr with
      | some => simp [chkS] at h
      | none =>
        simp only [chkS] at h
        exact raiseE_ok C Y h
  | _ => simp [chkS] at h

theorem raiseA_ok (C : CxOk G S T D cf k X W N sc fb) (Y : SxOk G S X) {c : Nat} {e : IE} {x : Stmt} (h : chkS S N sc fb (.raiseA c e) x = true) : PS X x (tS G W (ex T cf (.raiseA c e))) := by
  cases x with
  | Raise z fr pos =>
    cases z with
    | none => simp [chkS] at h
    | some z =>
      cases fr with
      | some => simp [chkS] at h
      | none =>
        simp only [chkS] at h
        unfold raiseAB at h
        split at h
        · simp only [Bool.and_eq_true, decide_eq_true_eq] at h
          exact sraiseA_ok C Y h.1.1.1.1 h.1.1.1.2 h.1.1.2 h.1.2 (ev_ok e C _ h.2)
        · cases h
  | _ => simp [chkS] at h
theorem ex_ok (C : CxOk G S T D cf k X W N sc fb) (Y : SxOk G S X) (s : IS) : ∀ (x : Stmt), chkS S N sc fb s x = true → PS X x (tS G W (ex T cf s)) := by
  induction s using IS.rec (motive_2 := fun s => ∀ x : List Stmt, chkSs S N sc fb s x = true → PSs X x (tS G W (exs T cf s))) with
  | set t e =>
    intro x h
    cases x with
    | Assign gs v q =>
      simp only [chkS] at h
      exact set_ok C h
    | _ => simp [chkS] at h
  | par is es =>
    intro x h
    cases x with
    | Assign gs v q =>
      simp only [chkS] at h
      unfold parB at h
      split at h
      · simp only [Bool.and_eq_true, decide_eq_true_eq] at h
        exact spar_ok C h.1.1.1 h.1.1.2 h.1.2 (evs_ok es C _ h.2)
      · cases h
    | _ => simp [chkS] at h
  | expr e =>
    intro x h
    cases x with
    | Expr v q =>
      simp only [chkS, Bool.and_eq_true] at h
      exact sexpr_ok h.1 (ev_ok e C v h.2)
    | _ => simp [chkS] at h
  | ret e =>
    intro x h
    cases x with
    | Return v q =>
      cases v with
      | none => simp [chkS] at h
      | some v =>
        simp only [chkS] at h
        exact sret_ok (ev_ok e C v h)
    | _ => simp [chkS] at h
  | retn =>
    intro x h
    cases x with
    | Return v q =>
      cases v with
      | none => exact sretn_ok
      | some v => simp [chkS] at h
    | _ => simp [chkS] at h
  | ife c a b iha ihb =>
    intro x h
    cases x with
    | If y p q pos =>
      simp only [chkS, Bool.and_eq_true] at h
      exact sif_ok (test_ok c C y h.1.1) (iha p h.1.2) (ihb q h.2)
    | _ => simp [chkS] at h
  | for_ t it b ihb =>
    intro x h
    cases x with
    | For g i body els pos =>
      cases els with
      | nil =>
        simp only [chkS, Bool.and_eq_true] at h
        exact sfor_ok C Y h.1.1.1 (src_ok it C i g h.1.1.2) (tg_ok C t g h.1.2) (ihb body h.2)
      | cons => simp [chkS] at h
    | _ => simp [chkS] at h
  | while_ c b ihb =>
    intro x h
    cases x with
    | While y body els pos =>
      cases els with
      | nil =>
        simp only [chkS, Bool.and_eq_true] at h
        exact swhile_ok Y (test_ok c C y h.1) (ihb body h.2)
      | cons => simp [chkS] at h
    | _ => simp [chkS] at h
  | raise c =>
    intro x h
    exact raise_ok C Y h
  | raiseA c e =>
    intro x h
    exact raiseA_ok C Y h
  | pass =>
    intro x h
    cases x with
    | Pass q => exact spass_ok
    | Expr v q =>
      cases v with
      | Constant c j p =>
        cases c with
        | str m => exact sdoc_ok
        | _ => simp [chkS] at h
      | _ => simp [chkS] at h
    | _ => simp [chkS] at h
  | setIx o i e =>
    intro x h
    cases x with
    | Assign gs v q =>
      simp only [chkS] at h
      unfold ixB at h
      split at h
      · simp only [Bool.and_eq_true] at h
        exact ssetIx_ok C h.1.1.1 (ev_ok o C _ h.1.1.2) (ev_ok i C _ h.1.2) (ev_ok e C v h.2)
      · cases h
    | _ => simp [chkS] at h
  | setD o i e =>
    intro x h
    cases x with
    | Assign gs v q =>
      simp only [chkS] at h
      unfold ixB at h
      split at h
      · simp only [Bool.and_eq_true] at h
        exact ssetD_ok C (ev_ok o C _ h.1.1.2) (ev_ok i C _ h.1.2) (ev_ok e C v h.2)
      · cases h
    | _ => simp [chkS] at h
  | nil x h =>
    cases x with
    | nil => exact snil_ok
    | cons => simp [chkSs] at h
  | cons s r ihs ihr x h =>
    cases x with
    | nil => simp [chkSs] at h
    | cons x xs =>
      simp only [chkSs, Bool.and_eq_true] at h
      exact scons_ok (ihs x h.1) (ihr xs h.2)
theorem exs_ok (C : CxOk G S T D cf k X W N sc fb) (Y : SxOk G S X) : ∀ (s : List IS) (x : List Stmt), chkSs S N sc fb s x = true → PSs X x (tS G W (exs T cf s))
  | [], x, h => by
    cases x with
    | nil => exact snil_ok
    | cons => simp [chkSs] at h
  | s :: r, x, h => by
    cases x with
    | nil => simp [chkSs] at h
    | cons x xs =>
      simp only [chkSs, Bool.and_eq_true] at h
      exact scons_ok (ex_ok C Y s x h.1) (exs_ok C Y r xs h.2)
end
end MP

set_option Elab.async false
set_option linter.all false
set_option maxRecDepth 100000
set_option maxHeartbeats 4000000
/-! MDef: defs, by levels. -/
namespace MP
open PySem PySem.Spec PyProof.Rows L2

/-- what a module's text and heap give -/
structure MdOk (G : Gs) (S : Syn) (T : Top) (P : Program) (w : World) (base : Heap) : Prop where
  free : ∀ x, S.free x = true → G.mg x = none
  kt : G.kt = T.kt
  cs : ∀ (c : Nat) (x : Str) (v : PV), S.cname c = some x → T.cs[c]? = some v → ∃ (u : Value) (y : V), G.mg x = some u ∧ RelV y u ∧ ∀ H B ρ, RV G H B ρ y v
  er : ∀ (g : Nat) (x : Str), S.ename g = some x → ErOk G T g x
  exm : ∀ (c1 c2 : Nat) (a1 a2 : Addr), G.C c1 = some a1 → G.C c2 = some a2 → PySem.W.exmOne G.K (.ref a1) (.ref a2) = some (T.under c1 c2)
  xs : ∀ c x, S.rz c = true → S.xname c = some x → ∃ (a : Addr) (Bs newId initId : String) (bm : List Value), G.C c = some a ∧ G.mg x = some (.ref a) ∧ PySem.W.keepIn G.K (.ref a) = true ∧ ExcBaseFacts Bs newId initId bm ∧ PySem.W.excIn G.K a bm newId = true ∧
    PySem.W.subIn G.K (.ref a) (.type "BaseException") = some true ∧ PySem.W.typeIn G.K (.ref a) = some (.type "type")
  lm : ∀ c x, S.lz c = true → S.xname c = some x → ∃ (a f : Addr) (fd : FuncData), G.C c = some a ∧ G.mg x = some (.ref a) ∧ LimOk G.K a f ∧ XfC G.K a ∧ FnOk P w G.K G.mg base CX0 1 f fd ["self", "limit"] (spLim a) ∧ Binds G.K fd ["self", "limit"] []
/-- a lambda's name within the def x -/
def lamQ (x : Str) : Str := (x ++ (".<locals>." : Str)) ++ ("<lambda>" : Str)
/-- a def's text -/
structure DefT where
  args : Arguments
  body : List Stmt
  scope : Scope
  N : List Str
  ps : List Str
def DefT.chk (S : Syn) (t : DefT) (d : Df) (ll : Bool) : Bool := decide (t.ps.length = d.ps) && decide (t.N.length = d.ns) && decide (d.ps ≤ d.ns) && chkSs S t.N t.scope ⟨fun _ => true, ll⟩ d.body t.body
section
variable {G : Gs} {S : Syn} {T : Top} {D : Nat → Option Df} {cf : CallF} {k : Nat} {P : Program} {w : World} {base : Heap}
theorem start_env {H : Hp} {B ρ : List Addr} {N : List Str} : ∀ {vs : List V} {ps : List PV}, RVs G H B ρ vs ps → REnv G H B ρ (start N vs) (ps.map some ++ List.replicate (N.length - ps.length) none) := fun {vs ps} r => by
  refine ⟨by simp [L2.start, r.length], fun i v h => ?_⟩
  by_cases hi : i < ps.length
  · rw [List.getElem?_append_left (by simpa using hi), List.getElem?_map] at h
    cases hp : ps[i]? with
    | none => rw [hp] at h; cases h
    | some p =>
      rw [hp] at h
      cases h
      obtain ⟨x, hx, rx⟩ := r.get hp
      refine ⟨x, ?_, rx⟩
      unfold L2.start
      rw [List.getElem?_append_left (by simp [r.length]; exact hi), List.getElem?_map, hx]
      rfl
  · rw [List.getElem?_append_right (by simpa using hi), List.getElem?_replicate] at h
    split at h <;> cases h
theorem def_ok (M : MdOk G S T P w base) (fns : ∀ (f : Nat) (x : Str), S.fname f = some x → (∃ d, D f = some d ∧ FnOf G S cf P w base k f x d) ∧ ∀ vs st d, D f = some d → vs.length ≠ d.ps → cf f vs st = .stuck)
    {cf1 : CallF} {f : Nat} {x : Str} {d : Df} {t : DefT} {a : Addr} {fd : FuncData} {ll : Bool} (F : FunD G.K x x t.args t.body t.scope [] [] a fd) (hs : FnScope t.N t.ps t.scope) (hc : t.chk S d ll = true) (hcf : cf1 f = runB T cf d)
    (lam : ll = true → ∃ c p : Addr, LamX.TabB base G.mg c p ∧ fd.code = .ref c ∧ (p, lamQ x) ∈ G.T ∧ ∀ q ∈ G.T, q.1 = p → q.2 = lamQ x) :
    FnOk P w G.K G.mg base (L2.CX P w) (k + (if ll = true then 5 else 3)) a fd t.ps (spF G cf1 f d.ps) := by
  unfold DefT.chk at hc
  simp only [Bool.and_eq_true, decide_eq_true_eq] at hc
  obtain ⟨⟨⟨h1, h2⟩, h3⟩, h4⟩ := hc
  obtain ⟨oc, od, dV, kV, doc, pm, an, cdv, ct, osl, rfl, lk, hcd, _, _⟩ := F.ex
  have hk : k + (if ll = true then 5 else 3) = (k + (if ll = true then 4 else 2)) + 1 := by split <;> rfl
  rw [hk]
  refine fn_of lk hcd hs (fun vs H Q E h => ?_) fun A outer s H vs Q E hr h => ?_
  · obtain ⟨B, ρ, st, ps, r, rs, hl, _⟩ := h
    rw [r.length, hl, h1]
  · have C : CxOk G S T D cf k (cxOf (L2.CX P w) P w G.K G.mg base t.N x t.scope a cdv A outer s H E) E t.N t.scope ⟨fun _ => true, ll⟩ := {
      hK := rfl
      hmg := rfl
      hN := rfl
      nd := hs.nd
      kind := hs.kind
      hsc := rfl
      hfb := rfl
      calm := rfl
      room := hr
      tk := takes_of rfl rfl rfl rfl
      free := M.free
      kt := M.kt
      cs := M.cs
      fns := fns
      er := M.er
      exm := M.exm
      lam := fun z => by
        obtain ⟨c, p, t1, t2, t3, t4⟩ := lam z
        exact ⟨c, p, t1, t2, t3, t4⟩ }
    have Y : SxOk G S (cxOf (L2.CX P w) P w G.K G.mg base t.N x t.scope a cdv A outer s H E) := by
      refine ⟨passes_of rfl, fun c x hr hx => ?_, M.lm⟩
      obtain ⟨a, Bs, n1, n2, bm, q1, q2, q3, q4, q5, q6, q7⟩ := M.xs c x hr hx
      exact ⟨a, Bs, n1, n2, bm, q1, q2, q3, q4, q5, raises_own (X := cxOf (L2.CX P w) P w G.K G.mg base t.N _ t.scope _ cdv A outer s H E) q6 q7⟩
    refine ⟨_, exs_ok C Y d.body t.body h4, ?_⟩
    obtain ⟨B, ρ, st, ps, r, rs, hl, p⟩ := h
    rw [hcf] at p
    refine ⟨B, ρ, ps.map some ++ List.replicate (t.N.length - ps.length) none, st, start_env r, rs, ?_⟩
    unfold runB at p
    rw [if_pos hl] at p
    rw [h2, hl]
    cases e : exs T cf d.body (ps.map some ++ List.replicate (d.ns - d.ps) none) st with
    | ok fl st' =>
      rw [e] at p
      cases fl with
      | nx env' => exact fun H' B' ρ' ex rs' σ _ => p H' B' ρ' ex rs' .non .non
      | rt v => exact p
    | exc ex st' => rw [e] at p; exact p
    | stuck => rw [e] at p; exact p
/-- a def stands in the heap -/
structure DefOk (G : Gs) (S : Syn) (x : Str) (f : Nat) (d : Df) (ll : Bool) : Prop where
  ex : ∃ (t : DefT) (a : Addr) (fd : FuncData), G.F f = some a ∧ G.mg x = some (.ref a) ∧ FunD G.K x x t.args t.body t.scope [] [] a fd ∧ Binds G.K fd t.ps [] ∧ FnScope t.N t.ps t.scope ∧ t.chk S d ll = true
theorem all_ok (M : MdOk G S T P w base) (Df : ∀ f x, S.fname f = some x → ∃ d, D f = some d ∧ DefOk G S x f d false) : ∀ (n : Nat) (f : Nat) (x : Str), S.fname f = some x →
    (∃ d, D f = some d ∧ FnOf G S (callN T D n) P w base (3 * n) f x d) ∧ ∀ vs st d, D f = some d → vs.length ≠ d.ps → callN T D n f vs st = .stuck
  | 0, f, x, h => by
    obtain ⟨d, hd, ⟨t, a, fd, h1, h2, F, hb, hs, hc⟩⟩ := Df f x h
    refine ⟨⟨d, hd, ⟨a, fd, t.ps, h1, h2, F.kp, hb, fun vs H Q E z => ?_, fun A outer s H args us vs Q E _ _ _ _ z => ?_⟩⟩, fun _ _ _ _ _ => rfl⟩
    · obtain ⟨_, _, _, _, _, _, _, p⟩ := z
      exact (show False from p).elim
    · obtain ⟨_, _, _, _, _, _, _, p⟩ := z
      exact (show False from p).elim
  | n + 1, f, x, h => by
    obtain ⟨d, hd, ⟨t, a, fd, h1, h2, F, hb, hs, hc⟩⟩ := Df f x h
    refine ⟨⟨d, hd, ⟨a, fd, t.ps, h1, h2, F.kp, hb, ?_⟩⟩, fun vs st d' hd' hn => ?_⟩
    · exact def_ok (ll := false) M (all_ok M Df n) F hs hc (callN_succ hd) (fun z => nomatch z)
    · rw [callN_succ hd']
      unfold runB
      rw [if_neg hn]
end
end MP

set_option Elab.async false
set_option linter.all false
set_option maxRecDepth 100000
set_option maxHeartbeats 4000000
/-! MHead: from a head's facts to a law. -/
namespace MP
open PySem PySem.Spec PyProof.Rows L2

/-! ### constants of the module -/
mutual
def pvB (K : PySem.W.Frag) : PV → Value → Bool
  | .non, .none => true
  | .bl a, .bool b => a == b
  | .int i, .int j _ => decide (i = j)
  | .str x, .str y _ => decide (y = toS x) && okStr x && decide (x.length ≤ line)
  | .tup ps, .ref a => (match K.lookup a with
    | some ⟨.type c, none, .seq its _, _⟩ => decide (c = "tuple") && decide (its.size ≤ sizeLine) && pvBs K ps its.toList
    | _ => false)
  | _, _ => false
def pvBs (K : PySem.W.Frag) : List PV → List Value → Bool
  | [], [] => true
  | p :: ps, u :: us => pvB K p u && pvBs K ps us
  | _, _ => false
end
mutual
def ktB (kt : List (List PV)) : PV → Bool
  | .tup ps => (kt.any fun qs => eqvs qs ps && alks qs ps && datas qs && datas ps) && ktBs kt ps
  | _ => true
def ktBs (kt : List (List PV)) : List PV → Bool
  | [] => true
  | p :: ps => ktB kt p && ktBs kt ps
end
section
variable {G : Gs}
mutual
theorem pvB_ok : ∀ {v : PV} {u : Value}, pvB G.K v u = true → ktB G.kt v = true → ∃ y, RelV y u ∧ ∀ H B ρ, RV G H B ρ y v
  | .non, u, h, _ => by
    cases u with
    | none => exact ⟨.non, rfl, fun _ _ _ => .non⟩
    | _ => simp [pvB] at h
  | .bl a, u, h, _ => by
    cases u with
    | bool b =>
      simp only [pvB, beq_iff_eq] at h
      subst h
      exact ⟨.bl a, rfl, fun _ _ _ => .bl a⟩
    | _ => simp [pvB] at h
  | .int i, u, h, _ => by
    cases u with
    | int j t =>
      simp only [pvB, decide_eq_true_eq] at h
      subst h
      exact ⟨.int i, ⟨t, rfl⟩, fun _ _ _ => .int i⟩
    | _ => simp [pvB] at h
  | .str x, u, h, _ => by
    cases u with
    | str y t =>
      simp only [pvB, Bool.and_eq_true, decide_eq_true_eq] at h
      obtain ⟨⟨rfl, h2⟩, h3⟩ := h
      exact ⟨.str (toS x), ⟨t, rfl⟩, fun _ _ _ => .str h2 h3⟩
    | _ => simp [pvB] at h
  | .tup ps, u, h, k => by
    cases u with
    | ref a =>
      simp only [pvB] at h
      simp only [ktB, Bool.and_eq_true, List.any_eq_true] at k
      obtain ⟨⟨qs, hq, ⟨⟨e1, e2⟩, e3⟩, e4⟩, k2⟩ := k
      have eq' : qs = ps := eqvs_alks qs ps e3 e4 e2 e1
      have hq' : ps ∈ G.kt := by rw [← eq']; exact hq
      split at h
      · rename_i c its n osl hl
        simp only [Bool.and_eq_true, decide_eq_true_eq] at h
        obtain ⟨⟨rfl, h2⟩, h3⟩ := h
        obtain ⟨xs, r, v⟩ := pvBs_ok h3 k2
        exact ⟨.ref a, rfl, fun H B ρ => .ktup ⟨fun H' => .inr ⟨_, its, n, hl, rfl, rfl, h2, v⟩, _, hl, rfl, rfl⟩ hq' (r H B ρ)⟩
      · cases h
    | _ => simp [pvB] at h
  | .lst _, u, h, _ => by cases u <;> simp [pvB] at h
  | .ref _, u, h, _ => by cases u <;> simp [pvB] at h
  | .fn _, u, h, _ => by cases u <;> simp [pvB] at h
  | .scr _, u, h, _ => by cases u <;> simp [pvB] at h
theorem pvBs_ok : ∀ {ps : List PV} {us : List Value}, pvBs G.K ps us = true → ktBs G.kt ps = true → ∃ xs, (∀ H B ρ, RVs G H B ρ xs ps) ∧ Vals xs us
  | [], us, h, _ => by
    cases us with
    | nil => exact ⟨[], fun _ _ _ => .nil, .nil⟩
    | cons => simp [pvBs] at h
  | p :: ps, us, h, k => by
    cases us with
    | nil => simp [pvBs] at h
    | cons u us =>
      simp only [pvBs, Bool.and_eq_true] at h
      simp only [ktBs, Bool.and_eq_true] at k
      obtain ⟨y, r, v⟩ := pvB_ok h.1 k.1
      obtain ⟨ys, rs, vs⟩ := pvBs_ok h.2 k.2
      exact ⟨y :: ys, fun H B ρ => .cons (v H B ρ) (rs H B ρ), .cons r vs⟩
end
end

/-! ### a def that tells errors, by its text -/
def hdB (S : Syn) (sg : Scope) (N : List Str) : List ExceptHandler → List (Nat × Option (List Nat)) → Bool
  | [], [] => true
  | .ExceptHandler (some (.Name y _)) none [.Return (some (.Constant (.str m) _ _)) _] _ :: hs, (c, some w) :: es => decide (S.xname c = some y) && glB sg y && decide (m = toS w) && okStr w && decide (w.length ≤ line) && hdB S sg N hs es
  | .ExceptHandler (some (.Name y _)) (some n) [.Return (some (.BinOp (.Constant (.str m) _ _) .Add (.Call (.Name s _) [.Attribute (.Name n2 _) f _] [] _) _)) _] _ :: hs, (c, none) :: es =>
    decide (S.xname c = some y) && glB sg y && decide (m = toS manyT) && decide (s = "str") && decide (n2 = n) && decide (f = "limit") && N.elem n && kindB sg n .local && dbgB n && glB sg "str" && S.free "str" && hdB S sg N hs es
  | _, _ => false
def tellB (S : Syn) (sg : Scope) (N : List Str) (es : List (Nat × Option (List Nat))) (a : Str) : List Stmt → Bool
  | [.Try [.Expr (.Call (.Name b _) [] [] _) _] (h :: hs) [] [] _, .Return (some (.Constant (.str z) _ _)) _] => decide (b = a) && decide (z = ("" : Str)) && hdB S sg N (h :: hs) es
  | _ => false
section
variable {G : Gs} {S : Syn}
theorem hdB_ok {sg : Scope} {N : List Str} (nd : N.Nodup) (hfree : S.free "str" = true → G.mg "str" = none) (hx : ∀ c y, S.xname c = some y → ∃ a, G.C c = some a ∧ G.mg y = some (.ref a)) : ∀ {hs : List ExceptHandler} {es : List (Nat × Option (List Nat))}, hdB S sg N hs es = true → ∃ l, EW G l es ∧ ∀ Y : Cx, Y.mg = G.mg → Y.env.scope = sg → Y.N = N → TellOk Y hs l
  | hs, es, h => by
    induction hs generalizing es with
    | nil =>
      cases es with
      | nil => exact ⟨[], .nil, fun _ _ _ _ => .nil⟩
      | cons => simp [hdB] at h
    | cons hd hs ih =>
      have names : ∀ {y : Str} {a : Addr}, G.mg y = some (.ref a) → glB sg y = true → ∀ Y : Cx, Y.mg = G.mg → Y.env.scope = sg → Names Y y (.ref a) := fun {y a} hm hg Y e1 e2 => by
        refine ⟨?_, (glB_ok hg).2.1, .inl (by rw [e1]; exact hm)⟩
        show Y.env.scope.names.lookup y = _
        rw [e2]
        exact (glB_ok hg).1
      unfold hdB at h
      split at h
      · rename_i e2; cases e2
      · rename_i y p1 m j p2 p3 p4 hs' c' w es' e1
        cases e1
        simp only [Bool.and_eq_true, decide_eq_true_eq] at h
        obtain ⟨⟨⟨⟨⟨h1, h2⟩, rfl⟩, h4⟩, h5⟩, h6⟩ := h
        obtain ⟨a, q1, q2⟩ := hx _ y h1
        obtain ⟨l, ew, tk⟩ := ih _ h6
        exact ⟨_, .word q1 h4 h5 ew, fun Y e1 e2 e3 => .word (names q2 h2 Y e1 e2) (tk Y e1 e2 e3)⟩
      · rename_i y p1 n m j p2 s p3 n2 p5 f p6 p7 p8 p9 p4 hs' c' es' e1
        cases e1
        simp only [Bool.and_eq_true, decide_eq_true_eq] at h
        obtain ⟨⟨⟨⟨⟨⟨⟨⟨⟨⟨⟨h1, h2⟩, rfl⟩, rfl⟩, rfl⟩, rfl⟩, hmem⟩, hk⟩, hdb⟩, hgs⟩, hfs⟩, h6⟩ := h
        obtain ⟨a, q1, q2⟩ := hx _ y h1
        obtain ⟨l, ew, tk⟩ := ih _ h6
        obtain ⟨i, hi⟩ := List.mem_iff_getElem?.mp (List.elem_iff.mp hmem)
        exact ⟨_, .skip q1 ew, fun Y e1 e2 e3 => .lim (names q2 h2 Y e1 e2) (by rw [e3]; exact nd) (by rw [e3]; exact hi) (by show Y.env.scope.names.lookup _ = _; rw [e2]; exact kindB_ok hk) (dbgB_ok hdb).1 (dbgB_ok hdb).2
          (by show Y.env.scope.names.lookup _ = _; rw [e2]; exact (glB_ok hgs).1) (by rw [e1]; exact hfree hfs) (tk Y e1 e2 e3)⟩
      · cases h
theorem erOk_of {T : Top} {g : Nat} {x a : Str} {t : DefT} {ga : Addr} {fd : FuncData} (hx : ∀ c y, S.xname c = some y → ∃ a, G.C c = some a ∧ G.mg y = some (.ref a)) (hm : G.mg x = some (.ref ga)) (F : FunD G.K x x t.args t.body t.scope [] [] ga fd) (hb : Binds G.K fd [a] [])
    (hs : FnScope t.N [a] t.scope) (hN : t.N[0]? = some a) (hv : visB t.scope a = true) (hd : dbgB a = true) (hdx : (x == ("__debug__" : Str)) = false) (ht : tellB S t.scope t.N (T.errs g) a t.body = true) (hfree : S.free "str" = true → G.mg "str" = none) : ErOk G T g x := by
  obtain ⟨oc, od, dV, kV, doc, pm, an, cdv, ct, osl, rfl, lk, hcd, _, _⟩ := F.ex
  have kp := F.kp
  obtain ⟨ta, tb, tsc, tN, tps⟩ := t
  simp only at *
  unfold tellB at ht
  split at ht
  · rename_i b p1 p2 p3 h0 hs0 p4 z j p5 p6
    simp only [Bool.and_eq_true, decide_eq_true_eq] at ht
    obtain ⟨⟨rfl, rfl⟩, h3⟩ := ht
    obtain ⟨l, ew, tk⟩ := hdB_ok hs.nd hfree hx h3
    have hstart : ∀ f : Addr, (L2.start tN [V.ref f])[0]? = some (some (V.ref f)) := fun f => rfl
    exact ⟨ga, b, ta, h0, hs0, p1, p2, p3, p4, p5, p6, j, tsc, dV, kV, doc, pm, cdv, ct, oc, an, od, osl, tN, l, hm, kp, lk, hcd, hb, hs, hN, visB_ok hv, hd, hdx, hstart, ew, tk⟩
  · cases ht
end
end MP

set_option Elab.async false
set_option linter.all false
set_option maxRecDepth 100000
set_option maxHeartbeats 4000000
/-! MHook: what is looked at in the module's heap: an error class with a limit, its __init__; one more object. -/
namespace MP
open PySem PySem.Spec PyProof.Rows L2
/-- the class's __init__, by its text -/
structure LimD where
  qual : Str
  z : Str
  file : Str
  args : Arguments
  body : List Stmt
  scope : Scope
abbrev FnL := Option (Str × Str × Arguments × FuncBody × Scope × Addr × List Str × Value × Addr)
def fnL (K : PySem.W.Frag) (x : Str) : FnL := match K.lookup (He.ma K (He.ga K x) "__init__") with
  | some ⟨_, _, .func fd, _⟩ => some (fd.name, fd.qualname, fd.params, fd.body, fd.scope, fd.globals, fd.closure.map (·.1), fd.defaults, fd.builtins)
  | _ => none
def LimD.val (t : LimD) : FnL := some (("__init__" : Str), t.qual, t.args, FuncBody.stmts t.body, t.scope, mainGlobals, [("__class__" : Str)], Value.none, builtinsNs)
def oexB (K : PySem.W.Frag) (C : Addr) : Bool := (match K.lookup C with
  | some ⟨.type "type", _, .cls cd, sl⟩ => (match cd.mro, sl.toList with
    | .ref C' :: bm, [_, _, _, _, some (.builtin n), _] => C' == C && n == "ValueError.__new__" && !cd.hasDel && cd.hasDict && PySem.HandSPX.refsVE bm
    | _, _ => false)
  | _ => false) && (He.eqO (PySem.W.findIn K (.ref C) "__setattr__") (some (some (.builtin "object.__setattr__"))) && (decide (PySem.W.subIn K (.ref C) (.type "BaseException") = some true) && (decide (PySem.W.typeIn K (.ref C) = some (.type "type")) && PySem.W.keepIn K (.ref C))))
theorem oexB_ok {K : PySem.W.Frag} {C : Addr} (h : oexB K C = true) : OexC K C := by
  unfold oexB at h
  obtain ⟨q, h⟩ := Bool.and_eq_true_iff.mp h
  obtain ⟨h2, h⟩ := Bool.and_eq_true_iff.mp h
  obtain ⟨h3, h⟩ := Bool.and_eq_true_iff.mp h
  obtain ⟨h4, h5⟩ := Bool.and_eq_true_iff.mp h
  refine ⟨?_, He.eqO_ok h2, of_decide_eq_true h3, of_decide_eq_true h4, h5⟩
  split at q
  · rename_i dict cdata slots look
    split at q
    · rename_i D tail s0 s1 s2 s3 nw s5 em es
      simp only [Bool.and_eq_true, beq_iff_eq, Bool.not_eq_true'] at q
      obtain ⟨⟨⟨⟨rfl, rfl⟩, nodel⟩, withd⟩, tl⟩ := q
      obtain ⟨c1, c2, c3, c4, c5, c6, c7, c8, c9, c10, c11⟩ := cdata
      dsimp only at em nodel withd
      subst em nodel withd
      have e : slots = #[s0, s1, s2, s3, some (.builtin "ValueError.__new__"), s5] := by
        obtain ⟨l⟩ := slots
        simp only at es
        rw [es]
      subst e
      exact ⟨_, _, _, _, _, _, _, _, _, _, _, _, _, _, _, look, tl⟩
    · cases q
  · cases q
def limCode (K : PySem.W.Frag) (file : Str) (C : Addr) : Bool := match K.lookup (He.ma K C "__init__") with
  | some ⟨_, _, .func fd, _⟩ => PySem.W.codeIn K fd.code fd.qualname && (match fd.code with
    | .ref a => (match K.lookup a with
      | some ⟨_, _, .fields vs, _⟩ => (match (vs[2]? : Option Value) with
        | some (.str y _) => decide (y = file)
        | _ => false)
      | _ => false)
    | _ => false) && (match fd.closure with
    | [(_, c)] => (match K.lookup c with
      | some ⟨_, _, .cell (some (.ref D)), _⟩ => decide (D = C)
      | _ => false)
    | _ => false)
  | _ => false
def limB (K : PySem.W.Frag) (file : Str) (C : Addr) : Bool :=
  oexB K C && (He.eqO (PySem.W.findIn K (.ref C) "limit") (some none) && (He.eqO (PySem.W.findIn K (.ref C) "__init__") (some (some (.ref (He.ma K C "__init__")))) && (decide (PySem.W.typeIn K (.ref (He.ma K C "__init__")) = some (.type "function")) &&
  (He.eqO (PySem.W.ks_superIn K C C "__init__") (some (some (.builtin "ValueError.__init__"))) && (decide (PySem.W.subIn K (.ref C) (.type "ValueError") = some true) && (decide (PySem.W.mroIn K C (.ref C) = some true) && (He.eqO (PySem.W.nsIn K cStatics "thirdparty.any") (some none) &&
  (xfB K C && ((PySem.W.clsIn K C).isSome && limCode K file C)))))))))
theorem limB_ok {K : PySem.W.Frag} {file : Str} {C : Addr} (h : limB K file C = true) : LimOk K C (He.ma K C "__init__") ∧ XfC K C ∧ (∃ cd, PySem.W.clsIn K C = some cd) ∧ limCode K file C = true := by
  unfold limB at h
  obtain ⟨h1, h⟩ := Bool.and_eq_true_iff.mp h
  obtain ⟨h2, h⟩ := Bool.and_eq_true_iff.mp h
  obtain ⟨h3, h⟩ := Bool.and_eq_true_iff.mp h
  obtain ⟨h4, h⟩ := Bool.and_eq_true_iff.mp h
  obtain ⟨h5, h⟩ := Bool.and_eq_true_iff.mp h
  obtain ⟨h6, h⟩ := Bool.and_eq_true_iff.mp h
  obtain ⟨h7, h⟩ := Bool.and_eq_true_iff.mp h
  obtain ⟨h8, h⟩ := Bool.and_eq_true_iff.mp h
  obtain ⟨h9, h⟩ := Bool.and_eq_true_iff.mp h
  obtain ⟨h10, h11⟩ := Bool.and_eq_true_iff.mp h
  exact ⟨⟨oexB_ok h1, He.eqO_ok h2, He.eqO_ok h3, of_decide_eq_true h4, He.eqO_ok h5, of_decide_eq_true h6, of_decide_eq_true h7, He.eqO_ok h8⟩, xfB_ok h9, Option.isSome_iff_exists.mp h10, h11⟩
/-- its __init__ keeps its promise -/
theorem lim_at {K : PySem.W.Frag} {P : Program} {w : World} {mg : Str → Option Value} {base : Heap} {x : Str} {t : LimD} (h : limB K t.file (He.ga K x) = true) (hf : fnL K x = t.val) (S : LimTx t.scope t.args t.z t.body) (hfile : ((P.main.file : Str) == t.file) = true) (htop : (P.main.scope.names.lookup ("super" : Str)).isSome = false)
    (hsup : mg "super" = none) (hstr : mg "str" = none) (hb : ∀ (cc : Addr) (kV doc pm : Value) (an : Option Addr) (cdv ct : Value) (us : List Value), us.length = 2 → bindArgs (PySem.W.ksFn "__init__" t.qual t.args t.body t.scope .none kV doc pm an cdv ct cc) ⟨us, []⟩ = pure ((["self", "limit"] : List Str).zip us)) :
    ∃ (f : Addr) (fd : FuncData), LimOk K (He.ga K x) f ∧ XfC K (He.ga K x) ∧ FnOk P w K mg base CX0 1 f fd ["self", "limit"] (spLim (He.ga K x)) ∧ Binds K fd ["self", "limit"] [] := by
  obtain ⟨L, xf, ⟨cd, hcd⟩, hc⟩ := limB_ok h
  unfold limCode at hc
  unfold fnL at hf
  split at hc
  · rename_i oc od fd osl lk
    rw [lk] at hf
    obtain ⟨n1, n2, n3, n4, n5, n6, n7, n8, n9, n10, n11, n12, n13, n14, n15⟩ := fd
    have e2 : (some (n1, n2, n3, n4, n5, n6, n7.map (·.1), n8, n15) : FnL) = some (("__init__" : Str), t.qual, t.args, FuncBody.stmts t.body, t.scope, mainGlobals, [("__class__" : Str)], Value.none, builtinsNs) := hf
    simp only [Option.some.injEq, Prod.mk.injEq] at e2
    obtain ⟨h1, h2, h3, h4, h5, h6, h7, h8, h9⟩ := e2
    subst h1 h2 h3 h4 h5 h6 h8 h9
    simp only [Bool.and_eq_true] at hc
    obtain ⟨⟨c1, c2⟩, c3⟩ := hc
    split at c2
    · rename_i a
      split at c2
      · rename_i cc1 cc2 vs cc4 look
        split at c2
        · rename_i y tk hv
          obtain rfl := of_decide_eq_true c2
          split at c3
          · rename_i nm c
            split at c3
            · rename_i d1 d2 D d4 lookc
              obtain rfl := of_decide_eq_true c3
              obtain rfl : nm = ("__class__" : Str) := by simpa using h7
              exact ⟨_, _, L, xf, lim_fn (k := 0) S lk c1 look hv hfile lookc hcd htop hsup hstr L, .all fun us hu => hb _ _ _ _ _ _ _ us hu⟩
            · cases c3
          · cases c3
        · cases c2
      · cases c2
    · cases c2
  · cases hc
/-! ### the Hook: the module's names' reach, and the statics -/
def asM (g : Addr → Option Obj) (n : Nat) : List Addr := cStatics :: He.asD g n
abbrev AlM : Type := He.AlX × List FnL
def lookM (n : Nat) (fn : List He.DefD) (tf : List He.Defn) (ls : List Str) (ex : PySem.W.Frag → Bool) (g : Addr → Option Obj) : AlM :=
  let K := He.frT g (asM g n)
  ((He.obsT [] fn [] K, ex K && He.tabsB g tf K), ls.map (fnL K))
def dueM (fn : List He.DefD) (ls : List LimD) (w : World) : AlM := (He.valX fn [] w, ls.map LimD.val)
structure SaysM (fn : List He.DefD) (tf : List He.Defn) (xs : List Str) (ls : List LimD) (ex : PySem.W.Frag → Bool) (w : World) (h : Heap) (K : PySem.W.Frag) : Prop where
  x : He.SaysX [] fn [] tf ex w h K
  l : xs.map (fnL K) = ls.map LimD.val
theorem saysM_of {n : Nat} {fn : List He.DefD} {tf : List He.Defn} {xs : List Str} {ls : List LimD} {ex : PySem.W.Frag → Bool} {w : World} {h : Heap} (e : lookM n fn tf xs ex h.get? = dueM fn ls w) : SaysM fn tf xs ls ex w h (He.frT h.get? (asM h.get? n)) := by
  have e0 : (He.obsT [] fn [] (He.frT h.get? (asM h.get? n)), ex (He.frT h.get? (asM h.get? n)) && He.tabsB h.get? tf (He.frT h.get? (asM h.get? n))) = He.valX fn [] w := congrArg (fun q : AlM => q.1) e
  have e3 : xs.map (fnL (He.frT h.get? (asM h.get? n))) = ls.map LimD.val := congrArg (fun q : AlM => q.2) e
  refine ⟨?_, e3⟩
  have a1 : He.obsT [] fn [] (He.frT h.get? (asM h.get? n)) = He.valT fn [] w := congrArg (fun q : He.AlX => q.1) e0
  have a2 : (ex (He.frT h.get? (asM h.get? n)) && He.tabsB h.get? tf (He.frT h.get? (asM h.get? n))) = true := congrArg (fun q : He.AlX => q.2) e0
  obtain ⟨b1, b2⟩ := Bool.and_eq_true_iff.mp a2
  have tab : ∀ d ∈ tf, PySem.W.codeHdIn (He.frT h.get? (asM h.get? n)) (He.cT (He.frT h.get? (asM h.get? n)) d).1 (He.cT (He.frT h.get? (asM h.get? n)) d).2 = true ∧ ∃ o, h.get? (He.cT (He.frT h.get? (asM h.get? n)) d).2 = some o ∧ He.emptyTab o = true := fun d hd => by
    obtain ⟨c1, c2⟩ := Bool.and_eq_true_iff.mp (List.all_eq_true.mp b2 d hd)
    refine ⟨c1, ?_⟩
    revert c2
    cases h.get? (He.cT (He.frT h.get? (asM h.get? n)) d).2 with
    | none => intro c2; cases c2
    | some o => intro c2; exact ⟨o, rfl, c2⟩
  refine ⟨a1, b1, fun d hd => (tab d hd).1, fun d hd => ?_, fun d hd => ?_⟩
  · obtain ⟨_, o, q1, q2⟩ := tab d hd
    exact He.frT_none q1 q2
  · obtain ⟨_, o, q1, q2⟩ := tab d hd
    rw [q1, He.emptyTab_eq q2]
def hookM (n : Nat) (fn : List He.DefD) (tf : List He.Defn) (xs : List Str) (ls : List LimD) (ex : PySem.W.Frag → Bool) : PySem.W.Hook where
  α := AlM
  obs := fun s => lookM n fn tf xs ex s.heap.get?
  val := fun w => dueM fn ls w
  says := fun w h => ∃ K : PySem.W.Frag, K.In h ∧ SaysM fn tf xs ls ex w h K
  of := fun _ _ e => ⟨_, He.frT_in, saysM_of e⟩
  keeps := fun _ _ _ ⟨K, hK, c⟩ k => ⟨K, PySem.W.Frag.In.keeps hK k, ⟨⟨c.x.t, c.x.more, c.x.hd, c.x.out, fun p hp => k _ _ (c.x.empty p hp)⟩, c.l⟩⟩
theorem lookM_eq {n : Nat} {fn : List He.DefD} {tf : List He.Defn} {xs : List Str} {ls : List LimD} {ex : PySem.W.Frag → Bool} {g : Addr → Option Obj} {s : Shared} (h : ∀ a, g a = s.heap.get? a) : lookM n fn tf xs ex g = (hookM n fn tf xs ls ex).obs s := by
  obtain rfl : g = s.heap.get? := funext h
  rfl
end MP

set_option Elab.async false
set_option linter.all false
set_option maxRecDepth 100000
set_option maxHeartbeats 4000000
/-! MHead2: a law's end by its terms. -/
namespace MP
open PySem PySem.Spec PyProof.Rows L2
/-- all that a law's text gives -/
structure Pg where
  FN : List Str
  CN : List Str
  XN : List Str
  RZ : List Nat
  EN : List Str
  FR : List Str
  CS : List PV
  KT : List (List PV)
  ERRS : Nat → List (Nat × Option (List Nat))
  UND : List (Nat × Nat)
  D : Nat → Option Df
  DT : Nat → DefT
  ET : Nat → DefT
  LT : DefT
  law : Str
  LZ : List Nat
  LD : Nat → LimD
namespace Pg
variable (p : Pg)
def S : Syn := ⟨fun i => p.FN[i]?, fun i => p.CN[i]?, fun i => p.XN[i]?, fun i => p.EN[i]?, fun x => p.FR.elem x, fun c => p.RZ.elem c, fun c => p.LZ.elem c⟩
def T : Top := ⟨p.CS, p.KT, p.ERRS, fun a b => p.UND.elem (a, b)⟩
def dd (x : Str) (t : DefT) : He.DefD := ⟨(x, none), x, x, t.args, t.body, t.scope, [], []⟩
def fn : List He.DefD := (p.FN.zipIdx.map fun q => dd q.1 (p.DT q.2)) ++ ((p.EN.zipIdx.map fun q => dd q.1 (p.ET q.2)) ++ [dd p.law p.LT])
def lx (c : Nat) : Str := p.XN.getD c ""
def ex (K : PySem.W.Frag) : Bool :=
  (p.LZ.all fun c => limB K (p.LD c).file (He.ga K (p.lx c))) && (
  p.FR.all (fun x => (He.Fa.free x).ok K) && ((p.FN ++ (p.EN ++ [p.law])).all (fun x => (He.Fa.glo x).ok K) && ((p.XN.zipIdx.all fun q => (He.Fa.glo q.1).ok K && (!p.RZ.elem q.2 || (He.Fa.exc q.1).ok K)) &&
  ((p.XN.zipIdx.all fun a => p.XN.zipIdx.all fun b => (He.Fa.exm a.1 b.1 (p.UND.elem (a.2, b.2))).ok K) &&
  ((p.CN.zip p.CS).all fun q => match PySem.W.nsIn K mainGlobals q.1 with
    | some (some u) => pvB K q.2 u && ktB p.KT q.2
    | _ => false)))))
def G (K : PySem.W.Frag) (mg : Str → Option Value) : Gs := ⟨K, mg, fun f => (p.FN[f]?).map (He.ga K), fun c => (p.XN[c]?).map (He.ga K), p.KT, [((He.cT K (p.law, none)).2, lamQ p.law)]⟩
/-- what is looked at once for a text -/
structure Okay : Prop where
  bind : ∀ (i : Nat) (x : Str), p.FN[i]? = some x → ∀ (kV doc pm : Value) (an : Option Addr) (cdv ct : Value) (us : List Value), us.length = (p.DT i).ps.length → bindArgs (PySem.W.fnOf x x (p.DT i).args (p.DT i).body (p.DT i).scope .none kV doc pm an cdv ct) ⟨us, []⟩ = pure ((p.DT i).ps.zip us)
  scope : ∀ (i : Nat) (x : Str), p.FN[i]? = some x → FnScope (p.DT i).N (p.DT i).ps (p.DT i).scope
  chk : ∀ (i : Nat) (x : Str), p.FN[i]? = some x → ∃ d, p.D i = some d ∧ (p.DT i).chk p.S d false = true
  ebind : ∀ (i : Nat) (x : Str), p.EN[i]? = some x → ∀ (kV doc pm : Value) (an : Option Addr) (cdv ct : Value) (us : List Value), us.length = (p.ET i).ps.length → bindArgs (PySem.W.fnOf x x (p.ET i).args (p.ET i).body (p.ET i).scope .none kV doc pm an cdv ct) ⟨us, []⟩ = pure ((p.ET i).ps.zip us)
  escope : ∀ (i : Nat) (x : Str), p.EN[i]? = some x → FnScope (p.ET i).N (p.ET i).ps (p.ET i).scope
  echk : ∀ (i : Nat) (x : Str), p.EN[i]? = some x → ∃ a, (p.ET i).ps = [a] ∧ (p.ET i).N[0]? = some a ∧ visB (p.ET i).scope a = true ∧ dbgB a = true ∧ (x == ("__debug__" : Str)) = false ∧ tellB p.S (p.ET i).scope (p.ET i).N (p.ERRS i) a (p.ET i).body = true
  lbind : ∀ (kV doc pm : Value) (an : Option Addr) (cdv ct : Value) (us : List Value), us.length = p.LT.ps.length → bindArgs (PySem.W.fnOf p.law p.law p.LT.args p.LT.body p.LT.scope .none kV doc pm an cdv ct) ⟨us, []⟩ = pure (p.LT.ps.zip us)
  lscope : FnScope p.LT.N p.LT.ps p.LT.scope
  lps : p.LT.ps = [("script" : Str)]
  lchk : ∃ d, p.D p.FN.length = some d ∧ p.LT.chk p.S d true = true
  len : p.CN.length = p.CS.length
  ltx : ∀ c ∈ p.LZ, LimTx (p.LD c).scope (p.LD c).args (p.LD c).z (p.LD c).body
  lbd : ∀ c ∈ p.LZ, ∀ (cc : Addr) (kV doc pm : Value) (an : Option Addr) (cdv ct : Value) (us : List Value), us.length = 2 → bindArgs (PySem.W.ksFn "__init__" (p.LD c).qual (p.LD c).args (p.LD c).body (p.LD c).scope .none kV doc pm an cdv ct cc) ⟨us, []⟩ = pure ((["self", "limit"] : List Str).zip us)
  lfr : p.LZ ≠ [] → p.FR.elem ("super" : Str) = true ∧ p.FR.elem ("str" : Str) = true
variable {p}
variable {K : PySem.W.Frag} {mg : Str → Option Value} {h base : Heap} {w : World} {P : Program}
abbrev Says (p : Pg) (w : World) (h : Heap) (K : PySem.W.Frag) : Prop := SaysM p.fn [(p.law, none)] (p.LZ.map p.lx) (p.LZ.map p.LD) p.ex w h K
/-- the program's file, and that it has no name of its own for super -/
def Filed (p : Pg) (P : Program) : Prop := (∀ c ∈ p.LZ, ((P.main.file : Str) == (p.LD c).file) = true) ∧ (P.main.scope.names.lookup ("super" : Str)).isSome = false
theorem zip_mem {α : Type} {l : List α} {i : Nat} {x : α} (h : l[i]? = some x) : (x, i) ∈ l.zipIdx := by
  rw [List.mem_zipIdx_iff_getElem?]
  exact h
theorem ex_parts (c : Says p w h K) : (∀ x ∈ p.FR, (He.Fa.free x).ok K = true) ∧ (∀ x ∈ p.FN ++ (p.EN ++ [p.law]), (He.Fa.glo x).ok K = true) ∧ (∀ (i : Nat) (x : Str), p.XN[i]? = some x → (He.Fa.glo x).ok K = true ∧ (p.RZ.elem i = true → (He.Fa.exc x).ok K = true)) ∧
    (∀ (i j : Nat) (x y : Str), p.XN[i]? = some x → p.XN[j]? = some y → (He.Fa.exm x y (p.UND.elem (i, j))).ok K = true) ∧
    ∀ (i : Nat) (x : Str) (v : PV), p.CN[i]? = some x → p.CS[i]? = some v → (∃ u, PySem.W.nsIn K mainGlobals x = some (some u) ∧ pvB K v u = true ∧ ktB p.KT v = true) := by
  have m := c.x.more
  unfold ex at m
  have m := (Bool.and_eq_true_iff.mp m).2
  simp only [Bool.and_eq_true, List.all_eq_true] at m
  obtain ⟨m1, m2, m3, m4, m5⟩ := m
  refine ⟨m1, m2, fun i x hx => ?_, fun i j x y hx hy => m4 (x, i) (zip_mem hx) (y, j) (zip_mem hy), fun i x v hx hv => ?_⟩
  · have q := m3 (x, i) (zip_mem hx)
    refine ⟨q.1, fun hr => ?_⟩
    have q2 := q.2
    simp only [Bool.or_eq_true, Bool.not_eq_true'] at q2
    rcases q2 with q2 | q2
    · rw [hr] at q2; cases q2
    · exact q2
  have hm : (x, v) ∈ p.CN.zip p.CS := by
    refine List.mem_of_getElem? (i := i) ?_
    rw [List.getElem?_zip_eq_some]
    exact ⟨hx, hv⟩
  have q := m5 (x, v) hm
  split at q
  · rename_i u hu
    have q2 := Bool.and_eq_true_iff.mp q
    exact ⟨u, hu, q2.1, q2.2⟩
  · cases q
theorem md_ok (O : p.Okay) (X : K.In h) (N : h.Ns mainGlobals mg) (c : Says p w h K) (hP : p.Filed P) : MdOk (p.G K mg) p.S p.T P w base := by
  obtain ⟨e1, e2, e3, e4, e5⟩ := ex_parts c
  have glo : ∀ x ∈ p.FN ++ (p.EN ++ [p.law]), mg x = some (.ref (He.ga K x)) := fun x hx => He.glo_ok X N (e2 x hx)
  have xn : ∀ (i : Nat) (x : Str), p.XN[i]? = some x → (p.G K mg).C i = some (He.ga K x) ∧ mg x = some (.ref (He.ga K x)) := fun i x hx =>
    ⟨by show (p.XN[i]?).map (He.ga K) = _; rw [hx]; rfl, He.glo_ok X N (e3 i x hx).1⟩
  have free : ∀ x, p.FR.elem x = true → mg x = none := fun x hx => He.free_ok X N (e1 x (List.elem_iff.mp hx))
  refine ⟨free, rfl, fun i x v hx hv => ?_, fun g x hx => ?_, fun c1 c2 a1 a2 h1 h2 => ?_, fun i x hr hx => ?_, fun i x hr hx => ?_⟩
  · obtain ⟨u, hu, hp, hk⟩ := e5 i x v hx hv
    obtain ⟨y, r, q⟩ := pvB_ok (G := p.G K mg) hp hk
    exact ⟨u, y, PySem.W.mg_of X N hu, r, q⟩
  · obtain ⟨a, k1, k2, k3, k4, k5, k6⟩ := O.echk g x hx
    have hmem : dd x (p.ET g) ∈ p.fn := List.mem_append_right _ (List.mem_append_left _ (List.mem_map.mpr ⟨(x, g), zip_mem hx, rfl⟩))
    obtain ⟨fd, F⟩ := c.x.t.d.defs hmem
    have hb := FunD.bindsN (ps := (p.ET g).ps) F (O.ebind g x hx)
    rw [k1] at hb
    have hsc := O.escope g x hx
    rw [k1] at hsc
    exact erOk_of (G := p.G K mg) (T := p.T) (a := a) (t := p.ET g) (ga := He.ga K x) (fd := fd) (fun c y hy => ⟨_, xn c y hy⟩) (glo x (List.mem_append_right _ (List.mem_append_left _ (List.mem_of_getElem? hx)))) F hb hsc k2 k3 k4 k5 k6 (fun z => free ("str" : Str) z)
  · have h1' : (p.XN[c1]?).map (He.ga K) = some a1 := h1
    have h2' : (p.XN[c2]?).map (He.ga K) = some a2 := h2
    obtain ⟨x, hx, rfl⟩ := Option.map_eq_some_iff.mp h1'
    obtain ⟨y, hy, rfl⟩ := Option.map_eq_some_iff.mp h2'
    exact He.exm_ok (e4 c1 c2 x y hx hy)
  · obtain ⟨q1, q2⟩ := xn i x hx
    obtain ⟨z1, z2, z3, z4⟩ := He.exc_ok ((e3 i x hx).2 hr)
    exact ⟨_, _, _, _, _, q1, q2, z2, PySem.F.excBase_ValueError, z1, z3, z4⟩
  · obtain ⟨q1, q2⟩ := xn i x hx
    have hm : i ∈ p.LZ := List.elem_iff.mp hr
    have ex : p.lx i = x := by
      unfold lx
      have hx' : p.XN[i]? = some x := hx
      rw [List.getD_eq_getElem?_getD, hx']
      rfl
    have b := List.all_eq_true.mp (Bool.and_eq_true_iff.mp c.x.more).1 i hm
    rw [ex] at b
    have l := c.l
    rw [List.map_map, List.map_map] at l
    have l2 : fnL K (p.lx i) = (p.LD i).val := List.map_inj_left.mp l i hm
    rw [ex] at l2
    obtain ⟨f1, f2⟩ := O.lfr fun z => by rw [z] at hm; cases hm
    obtain ⟨f, fd, r1, r2, r3, r4⟩ := lim_at (P := P) (w := w) (mg := mg) (base := base) b l2 (O.ltx i hm) (hP.1 i hm) hP.2 (free _ f1) (free _ f2) (O.lbd i hm)
    exact ⟨_, f, fd, q1, q2, r1, r2, r3, r4⟩
theorem def_at (O : p.Okay) (X : K.In h) (N : h.Ns mainGlobals mg) (c : Says p w h K) (f : Nat) (x : Str) (hx : p.S.fname f = some x) : ∃ d, p.D f = some d ∧ DefOk (p.G K mg) p.S x f d false := by
  have hx' : p.FN[f]? = some x := hx
  obtain ⟨e1, e2, e3, e4, e5⟩ := ex_parts c
  obtain ⟨d, hd, hc⟩ := O.chk f x hx'
  have hmem : dd x (p.DT f) ∈ p.fn := List.mem_append_left _ (List.mem_map.mpr ⟨(x, f), zip_mem hx', rfl⟩)
  obtain ⟨fd, F⟩ := c.x.t.d.defs hmem
  refine ⟨d, hd, ⟨p.DT f, He.ga K x, fd, ?_, He.glo_ok X N (e2 x (List.mem_append_left _ (List.mem_of_getElem? hx'))), F, FunD.bindsN F (O.bind f x hx'), O.scope f x hx', hc⟩⟩
  show (p.FN[f]?).map (He.ga K) = _
  rw [hx']
  rfl
/-- the law's def at the head's heap -/
theorem law_at {l : PySem.W.OpenLaw} {fa : Addr} (O : p.Okay) (n : Nat) (X : K.In h) (N : h.Ns mainGlobals mg) (c : Says p w h K) (hfa : mg p.law = some (.ref fa)) (hP : p.Filed l.prog)
    (hlaw : ∀ (v : PV) (ns : List Int), (v = .scr ns ∨ v = .lst (ns.map .int)) → ns.length ≤ 63 → (∀ z ∈ ns, Builtin.Int.intBits z ≤ 1048576) → ∃ st, callN p.T p.D (n + 1) p.FN.length [v] [] = .ok (.bl true) st) :
    LamX.LawAtS l w K (L2.CX l.prog w) (3 * n + 5) 63 "script" mg fa h := by
  obtain ⟨e1, e2, e3, e4, e5⟩ := ex_parts c
  obtain ⟨d, hd, hc⟩ := O.lchk
  have hmem : dd p.law p.LT ∈ p.fn := List.mem_append_right _ (List.mem_append_right _ (List.mem_singleton.mpr rfl))
  obtain ⟨fd, F⟩ := c.x.t.d.defs hmem
  have hga : mg p.law = some (.ref (He.ga K p.law)) := He.glo_ok X N (e2 p.law (by simp))
  have efa : fa = He.ga K p.law := by
    rw [hfa] at hga
    cases hga
    rfl
  subst efa
  have F1 : FunD K p.law p.law p.LT.args p.LT.body p.LT.scope [] [] (He.ga K p.law) fd := F
  have hd1 : d.ps = 1 := by
    unfold DefT.chk at hc
    simp only [Bool.and_eq_true, decide_eq_true_eq] at hc
    rw [← hc.1.1.1, O.lps]
    rfl
  refine ⟨fd, [He.cT K (p.law, none)], spF (p.G K mg) (callN p.T p.D (n + 1)) p.FN.length 1, fun q hq => ?_, fun q hq => ?_, fun q hq => ?_, fun s u => ?_, fun H a ns hl hb hH hS => ?_, fun base hK hN hT => ?_⟩
  · rw [List.mem_singleton.mp hq]
    exact c.x.empty _ (List.mem_singleton.mpr rfl)
  · rw [List.mem_singleton.mp hq]
    exact c.x.out _ (List.mem_singleton.mpr rfl)
  · rw [List.mem_singleton.mp hq]
    exact PySem.W.codeHd_of_K X (c.x.hd _ (List.mem_singleton.mpr rfl))
  · have b := FunD.bindsA (ps := p.LT.ps) F1 O.lbind s [u] (by rw [O.lps]; rfl)
    rw [O.lps] at b
    exact b
  · have tabs : LamX.Tabs (p.G K mg).T H := fun q hq => by
      have hq' : q = ((He.cT K (p.law, none)).2, lamQ p.law) := List.mem_singleton.mp hq
      rw [hq']
      exact LamX.TabS.nil (hH _ (List.mem_singleton.mpr rfl))
    have rs : RSto (p.G K mg) H [] [] [] := ⟨List.nodup_nil, fun _ z => absurd z (by simp), rfl, fun n a o h1 _ => by simp at h1, fun _ z => absurd z (by simp), tabs⟩
    have fin : ∀ v : PV, (v = .scr ns ∨ v = .lst (ns.map .int)) → RV (p.G K mg) H [] [] (.ref a) v → spF (p.G K mg) (callN p.T p.D (n + 1)) p.FN.length 1 [.ref a] H (fun v _ => v = .bl true) fun _ _ _ => False := fun v hv rv => by
      obtain ⟨st, e⟩ := hlaw v ns hv hl hb
      refine ⟨[], [], [], [v], .cons rv .nil, rs, rfl, ?_⟩
      rw [e]
      intro H' B' ρ' _ _ x rx
      cases rx
      rfl
    rcases hS with (hS | ⟨o, hS⟩) | hS
    · exact fin _ (.inr rfl) (.lst hS (by simp) (rvs_ints ns))
    · exact fin _ (.inl rfl) (.scr (.inl ⟨o, hS⟩))
    · exact fin _ (.inl rfl) (.scr (.inr fun H' => .inr hS))
  · have M : MdOk (p.G K mg) p.S p.T l.prog w base := md_ok O X N c hP
    have A := all_ok (D := p.D) (T := p.T) (P := l.prog) (w := w) (base := base) M (fun f x hx => def_at O X N c f x hx) n
    have hT1 := hT _ (List.mem_singleton.mpr rfl)
    have r := def_ok (D := p.D) (ll := true) (f := p.FN.length) M A F1 O.lscope hc (callN_succ hd) (fun _ => ?_)
    · rw [O.lps, hd1] at r
      exact r
    · refine ⟨_, _, hT1, ?_, List.mem_singleton.mpr rfl, fun q hq _ => ?_⟩
      · obtain ⟨oc, od, dV, kV, doc, pm, an, cdv, ct, osl, rfl, lk, hcd, _, _⟩ := F1.ex
        have hcr : ∃ cc, cdv = .ref cc := by
          unfold PySem.W.codeIn at hcd
          cases cdv with
          | ref cc => exact ⟨cc, rfl⟩
          | _ => cases hcd
        obtain ⟨cc, rfl⟩ := hcr
        show Value.ref cc = .ref (He.codeOf K (p.law, none))
        rw [He.codeOf_eq (K := K) (p := (p.law, none)) lk rfl]
      · rw [List.mem_singleton.mp hq]
end Pg
end MP

set_option linter.all false
set_option maxRecDepth 100000
set_option maxHeartbeats 1000000
/-! MFuel: the evaluator with fuel, for the kernel; what it says holds of the evaluator. -/
namespace MQ
open MP
section
variable (T : Top) (cf : CallF)
mutual
def evF : Nat → IE → Env → Sto → Out PV
  | 0, _, _, _ => .stuck
  | n + 1, .var i, σ, st => (match σ[i]? with
    | some (some v) => .ok v st
    | _ => .stuck)
  | n + 1, .con v, _, st => .ok v st
  | n + 1, .glo c, _, st => may T.cs[c]? st
  | n + 1, .fnv f, _, st => .ok (.fn f) st
  | n + 1, .tup es, σ, st => (evsF n es σ st).bind newT
  | n + 1, .lst m es, σ, st => (evsF n es σ st).bind (newL m)
  | n + 1, .dct t, _, st => .ok (.ref st.length) (st ++ [if t then .dT [] else .dK []])
  | n + 1, .bin m op a b, σ, st => (evF n a σ st).bind fun x st1 => (evF n b σ st1).bind fun y st2 => binop m op x y st2
  | n + 1, .cmp op a b, σ, st => (evF n a σ st).bind fun x st1 => (evF n b σ st1).bind fun y st2 => blOut (cmpop op x y st2) st2
  | n + 1, .chn o1 o2 a b c, σ, st => (evF n a σ st).bind fun x st1 => (evF n b σ st1).bind fun y st2 => (match cmpop o1 x y st2 with
    | some true => (evF n c σ st2).bind fun z st3 => blOut (cmpop o2 y z st3) st3
    | some false => .ok (.bl false) st2
    | none => .stuck)
  | n + 1, .bop k a es, σ, st => (evF n a σ st).bind fun x st1 => (match es with
    | .nil => .ok x st1
    | es => (match truth (rd st1 x) with
      | some b => if b = k then evBF n k es σ st1 else .ok x st1
      | none => .stuck))
  | n + 1, .not a, σ, st => (evF n a σ st).bind fun x st1 => blOut ((truth (rd st1 x)).map fun b => !b) st1
  | n + 1, .neg a, σ, st => (evF n a σ st).bind fun x st1 => (match x with
    | .int i => .ok (.int (-i)) st1
    | _ => .stuck)
  | n + 1, .ife c a b, σ, st => (testF n c σ st).bind fun t st1 => if t then evF n a σ st1 else evF n b σ st1
  | n + 1, .call f p es, σ, st => (evsF n es σ st).bind fun vs st1 => if p then pureCall f cf vs st1 else cf f vs st1
  | n + 1, .blt b es, σ, st => (evsF n es σ st).bind fun vs st1 => builtin b vs st1
  | n + 1, .met m o es, σ, st => (evF n o σ st).bind fun x st1 => if isLst (rd st1 x) then (evsF n es σ st1).bind fun vs st2 => method m x vs st2 else .stuck
  | n + 1, .idx a b, σ, st => (evF n a σ st).bind fun x st1 => (evF n b σ st1).bind fun y st2 => subs x y st2
  | n + 1, .ixg c b, σ, st => if isTup T.cs[c]? then (evF n b σ st).bind fun y st2 => may (T.cs[c]?.bind fun x => posT x y) st2 else .stuck
  | n + 1, .ixo a b, σ, st => (evF n a σ st).bind fun x st1 => if isLst (rd st1 x) then (evF n b σ st1).bind fun y st2 => may (posL (rd st2 x) y) st2 else .stuck
  | n + 1, .dix a b, σ, st => (evF n a σ st).bind fun x st1 => (evF n b σ st1).bind fun y st2 => may ((dget T.kt x y st2).bind id) st2
  | n + 1, .din neg a b, σ, st => (evF n a σ st).bind fun x st1 => (evF n b σ st1).bind fun y st2 => blOut ((dget T.kt y x st2).map fun o => if neg then !o.isSome else o.isSome) st2
  | n + 1, .slc m a lo hi, σ, st => (evF n a σ st).bind fun x st1 => (partF n lo σ st1).bind fun l st2 => (partF n hi σ st2).bind fun h st3 => slice m x l h st3
  | n + 1, .nop, _, _ => .stuck
  | n + 1, .lc m own tg it c elt, σ, st => (srcF n it σ st).bind fun s st1 =>
      (compG s (fun x st' => (match assign tg x (forget σ own) with
        | none => .stuck
        | some σ' => (match c with
          | .nop => (evF n elt σ' st').bind fun y st2 => .ok (some y) st2
          | c => (testF n c σ' st').bind fun b st2 => if b then (evF n elt σ' st2).bind fun y st3 => .ok (some y) st3 else .ok none st2))) 1000000 0 [] st1).bind (newL m)
  | n + 1, .isi a t, σ, st => (evF n a σ st).bind fun x st1 => blOut (tyIs (rd st1 x) t) st1
  | n + 1, .erl g b, σ, st => (match evF n b σ st with
    | .ok _ st1 => .ok (.str []) st1
    | .exc e st1 => (match tellE T e (T.errs g) with
      | .ok v _ => .ok v st1
      | _ => .stuck)
    | .stuck => .stuck)
def evsF : Nat → IEs → Env → Sto → Out (List PV)
  | 0, _, _, _ => .stuck
  | n + 1, .nil, _, st => .ok [] st
  | n + 1, .cons e es, σ, st => (evF n e σ st).bind fun x st1 => (evsF n es σ st1).bind fun xs st2 => .ok (x :: xs) st2
/-- the rest of a row of and (true), or (false) -/
def evBF : Nat → Bool → IEs → Env → Sto → Out PV
  | 0, _, _, _, _ => .stuck
  | n + 1, k, .nil, _, _ => .stuck
  | n + 1, k, .cons a es, σ, st => (evF n a σ st).bind fun x st1 => (match es with
    | .nil => .ok x st1
    | es => (match truth (rd st1 x) with
      | some b => if b = k then evBF n k es σ st1 else .ok x st1
      | none => .stuck))
def partF : Nat → IE → Env → Sto → Out (Option Int)
  | 0, _, _, _ => .stuck
  | n + 1, .nop, _, st => .ok none st
  | n + 1, e, σ, st => (evF n e σ st).bind fun x st1 => (match x with
    | .int i => .ok (some i) st1
    | _ => .stuck)
def testF : Nat → IE → Env → Sto → Out Bool
  | 0, _, _, _ => .stuck
  | n + 1, .not a, σ, st => (testF n a σ st).bind fun b st1 => .ok (!b) st1
  | n + 1, .bop k a es, σ, st => (testF n a σ st).bind fun b st1 => if b = k then testsF n k es σ st1 else .ok b st1
  | n + 1, .ife c a b, σ, st => (testF n c σ st).bind fun t st1 => if t then testF n a σ st1 else testF n b σ st1
  | n + 1, e, σ, st => (evF n e σ st).bind fun x st1 => (match truth (rd st1 x) with
    | some b => .ok b st1
    | none => .stuck)
def testsF : Nat → Bool → IEs → Env → Sto → Out Bool
  | 0, _, _, _, _ => .stuck
  | n + 1, k, .nil, _, st => .ok k st
  | n + 1, k, .cons a es, σ, st => (testF n a σ st).bind fun b st1 => if b = k then testsF n k es σ st1 else .ok b st1
def srcF : Nat → II → Env → Sto → Out Src
  | 0, _, _, _ => .stuck
  | n + 1, .ev e, σ, st => (evF n e σ st).bind fun x st1 => (match x with
    | .tup xs | .lst xs => .ok (.items xs) st1
    | .str x => .ok (.items (x.map fun c => .str [c])) st1
    | .scr ns => .ok (.items (ns.map .int)) st1
    | .ref n => if isRow st1 n then .ok (.live n) st1 else .stuck
    | _ => .stuck)
  | n + 1, .rng1 a, σ, st => (evF n a σ st).bind fun x st1 => (match x with
    | .int j => if wide j then .ok (.items (rangeL 0 j.toNat)) st1 else .stuck
    | _ => .stuck)
  | n + 1, .rng2 a b, σ, st => (evF n a σ st).bind fun x st1 => (evF n b σ st1).bind fun y st2 => (match x, y with
    | .int i, .int j => if wide i && wide j then .ok (.items (rangeL i (j - i).toNat)) st2 else .stuck
    | _, _ => .stuck)
  | n + 1, .enm e, σ, st => (evF n e σ st).bind fun x st1 => (match x with
    | .lst xs => .ok (.items (enumL xs 0)) st1
    | .ref n => if isRow st1 n then .ok (.liveE n) st1 else .stuck
    | _ => .stuck)
  | n + 1, .zip a b, σ, st => (evF n a σ st).bind fun x st1 => (evF n b σ st1).bind fun y st2 => (match x, y with
    | .lst xs, .lst ys => .ok (.items (zipL xs ys)) st2
    | .tup xs, .tup ys => .ok (.items (zipL xs ys)) st2
    | _, _ => .stuck)
end
variable (F : Nat)
mutual
def exF : Nat → IS → Env → Sto → Out Fl
  | 0, _, _, _ => .stuck
  | n + 1, .set t e, σ, st => (evF T cf F e σ st).bind fun v st1 => (match assign t v σ with
    | some σ' => .ok (.nx σ') st1
    | none => .stuck)
  | n + 1, .par is es, σ, st => (evsF T cf F es σ st).bind fun vs st1 => (match pars is vs σ with
    | some σ' => .ok (.nx σ') st1
    | none => .stuck)
  | n + 1, .expr e, σ, st => (evF T cf F e σ st).bind fun _ st1 => .ok (.nx σ) st1
  | n + 1, .ret e, σ, st => (evF T cf F e σ st).bind fun v st1 => .ok (.rt v) st1
  | n + 1, .retn, _, st => .ok (.rt .non) st
  | n + 1, .ife c a b, σ, st => (testF T cf F c σ st).bind fun t st1 => if t then exsF n a σ st1 else exsF n b σ st1
  | n + 1, .for_ t it b, σ, st => (srcF T cf F it σ st).bind fun s st1 => forG s (fun x σ' st' => (match assign t x σ' with
    | some σ2 => exsF n b σ2 st'
    | none => .stuck)) 1000000 0 σ st1
  | n + 1, .while_ c b, σ, st => whileG (fun σ' st' => testF T cf F c σ' st') (fun σ' st' => exsF n b σ' st') 1000000 σ st
  | n + 1, .raise c, _, st => .exc ⟨c, none⟩ st
  | n + 1, .raiseA c e, σ, st => (evF T cf F e σ st).bind fun v st1 => (match v with
    | .int i => if limOk i then .exc ⟨c, some (.int i)⟩ st1 else .stuck
    | _ => .stuck)
  | n + 1, .pass, σ, st => .ok (.nx σ) st
  | n + 1, .setIx o i e, σ, st => (evF T cf F e σ st).bind fun v st1 => (evF T cf F o σ st1).bind fun x st2 => (evF T cf F i σ st2).bind fun y st3 => (setL x y v st3).bind fun _ st4 => .ok (.nx σ) st4
  | n + 1, .setD o i e, σ, st => (evF T cf F e σ st).bind fun v st1 => (evF T cf F o σ st1).bind fun x st2 => (evF T cf F i σ st2).bind fun y st3 => (setD T.kt x y v st3).bind fun _ st4 => .ok (.nx σ) st4
def exsF : Nat → List IS → Env → Sto → Out Fl
  | 0, _, _, _ => .stuck
  | n + 1, [], σ, st => .ok (.nx σ) st
  | n + 1, s :: r, σ, st => (match exF n s σ st with
    | .ok (.nx σ') st' => exsF n r σ' st'
    | o => o)
end

end
/-- calls with fuel -/
def callF (T : Top) (D : Nat → Option Df) : Nat → CallF
  | 0 => fun _ _ _ => .stuck
  | k + 1 => fun f vs st => (match D f with
    | none => .stuck
    | some d => if vs.length = d.ps then (match exsF T (callF T D k) 400 400 d.body (vs.map some ++ List.replicate (d.ns - d.ps) none) st with
      | .ok (.rt v) st' => .ok v st'
      | .ok (.nx _) st' => .ok .non st'
      | .exc e st' => .exc e st'
      | .stuck => .stuck) else .stuck)
/-- says as much, or nothing -/
def Le {α : Type} (a b : Out α) : Prop := a = .stuck ∨ a = b
namespace Le
variable {α β : Type}
theorem refl (a : Out α) : Le a a := .inr rfl
theorem stuck (b : Out α) : Le .stuck b := .inl rfl
theorem bind {a b : Out α} {f g : α → Sto → Out β} (h : Le a b) (hf : ∀ x st, Le (f x st) (g x st)) : Le (a.bind f) (b.bind g) := by
  rcases h with rfl | rfl
  · exact .inl rfl
  · cases a with
    | ok x st => exact hf x st
    | exc e st => exact .inr rfl
    | stuck => exact .inl rfl
theorem ok {a b : Out α} (h : Le a b) {x : α} {st : Sto} (e : a = .ok x st) : b = .ok x st := by
  rcases h with rfl | rfl
  · cases e
  · exact e
theorem exc {a b : Out α} (h : Le a b) {x : Exn} {st : Sto} (e : a = .exc x st) : b = .exc x st := by
  rcases h with rfl | rfl
  · cases e
  · exact e
end Le
theorem turns_ge : 1000000 ≤ turns := by rw [turns_eq]; exact Nat.le_refl _
theorem compG_le {s : Src} {f g : PV → Sto → Out (Option PV)} (h : ∀ x st, Le (f x st) (g x st)) : ∀ (n m : Nat) (_ : n ≤ m) (i : Nat) (acc : List PV) (st : Sto), Le (compG s f n i acc st) (compG s g m i acc st)
  | 0, _, _, _, _, _ => .inl rfl
  | n + 1, 0, hm, _, _, _ => by omega
  | n + 1, m + 1, hm, i, acc, st => by
    rw [compG, compG]
    cases s.get st i with
    | none => exact .inl rfl
    | some o =>
      cases o with
      | none => exact .inr rfl
      | some x =>
        simp only []
        rcases h x st with e | e
        · rw [e]; exact .inl rfl
        · rw [e]
          cases g x st with
          | ok o st' =>
            cases o with
            | none => exact compG_le h n m (by omega) _ _ _
            | some y =>
              simp only []
              split
              · exact compG_le h n m (by omega) _ _ _
              · exact .inl rfl
          | exc => exact .inl rfl
          | stuck => exact .inl rfl
theorem forG_le {s : Src} {f g : PV → Env → Sto → Out Fl} (h : ∀ x σ st, Le (f x σ st) (g x σ st)) : ∀ (n m : Nat) (_ : n ≤ m) (i : Nat) (σ : Env) (st : Sto), Le (forG s f n i σ st) (forG s g m i σ st)
  | 0, _, _, _, _, _ => .inl rfl
  | n + 1, 0, hm, _, _, _ => by omega
  | n + 1, m + 1, hm, i, σ, st => by
    rw [forG, forG]
    cases s.get st i with
    | none => exact .inl rfl
    | some o =>
      cases o with
      | none => exact .inr rfl
      | some x =>
        simp only []
        rcases h x σ st with e | e
        · rw [e]; exact .inl rfl
        · rw [e]
          cases g x σ st with
          | ok fl st' =>
            cases fl with
            | nx σ' => exact forG_le h n m (by omega) _ _ _
            | rt v => exact .inr rfl
          | exc => exact .inr rfl
          | stuck => exact .inl rfl
theorem whileG_le {c c' : Env → Sto → Out Bool} {f g : Env → Sto → Out Fl} (hc : ∀ σ st, Le (c σ st) (c' σ st)) (h : ∀ σ st, Le (f σ st) (g σ st)) : ∀ (n m : Nat) (_ : n ≤ m) (σ : Env) (st : Sto), Le (whileG c f n σ st) (whileG c' g m σ st)
  | 0, _, _, _, _ => .inl rfl
  | n + 1, 0, hm, _, _ => by omega
  | n + 1, m + 1, hm, σ, st => by
    rw [whileG, whileG]
    rcases hc σ st with e | e
    · rw [e]; exact .inl rfl
    · rw [e]
      cases c' σ st with
      | ok b st1 =>
        cases b with
        | false => exact .inr rfl
        | true =>
          simp only []
          rcases h σ st1 with e | e
          · rw [e]; exact .inl rfl
          · rw [e]
            cases g σ st1 with
            | ok fl st' =>
              cases fl with
              | nx σ' => exact whileG_le hc h n m (by omega) _ _
              | rt v => exact .inr rfl
            | exc => exact .inr rfl
            | stuck => exact .inl rfl
      | exc => exact .inr rfl
      | stuck => exact .inl rfl
theorem pureCall_le {cf cg : CallF} (h : ∀ f vs st, Le (cf f vs st) (cg f vs st)) (f : Nat) (vs : List PV) (st : Sto) : Le (pureCall f cf vs st) (pureCall f cg vs st) := by
  unfold pureCall
  split
  · rcases h f vs [] with e | e
    · rw [e]; exact .inl rfl
    · rw [e]; exact .inr rfl
  · exact .inl rfl
structure AllLe (T : Top) (cf cg : CallF) (n : Nat) : Prop where
  ev : ∀ e σ st, Le (evF T cf n e σ st) (ev T cg e σ st)
  evs : ∀ e σ st, Le (evsF T cf n e σ st) (evs T cg e σ st)
  evB : ∀ k e σ st, Le (evBF T cf n k e σ st) (evB T cg k e σ st)
  part : ∀ e σ st, Le (partF T cf n e σ st) (part T cg e σ st)
  test : ∀ e σ st, Le (testF T cf n e σ st) (test T cg e σ st)
  tests : ∀ k e σ st, Le (testsF T cf n k e σ st) (tests T cg k e σ st)
  src : ∀ e σ st, Le (srcF T cf n e σ st) (src T cg e σ st)
theorem all_le {T : Top} {cf cg : CallF} (h : ∀ f vs st, Le (cf f vs st) (cg f vs st)) : ∀ n, AllLe T cf cg n
  | 0 => ⟨fun _ _ _ => .inl rfl, fun _ _ _ => .inl rfl, fun _ _ _ _ => .inl rfl, fun _ _ _ => .inl rfl, fun _ _ _ => .inl rfl, fun _ _ _ _ => .inl rfl, fun _ _ _ => .inl rfl⟩
  | n + 1 => by
    obtain ⟨h1, h2, h3, h4, h5, h6, h7⟩ := all_le h n
    refine ⟨fun e σ st => ?_, fun e σ st => ?_, fun k e σ st => ?_, fun e σ st => ?_, fun e σ st => ?_, fun k e σ st => ?_, fun e σ st => ?_⟩
    · cases e with
      | ife c a b => rw [evF, MP.ev]; exact (h5 _ _ _).bind fun t st => by split <;> exact h1 _ _ _
      | bop k a es =>
        rw [evF, MP.ev]
        refine (h1 _ _ _).bind fun x st1 => ?_
        cases es with
        | nil => exact .refl _
        | cons b es =>
          simp only []
          cases truth (rd st1 x) with
          | none => exact .refl _
          | some b =>
            simp only []
            split
            · exact h3 _ _ _ _
            · exact .refl _
      | chn o1 o2 a b c =>
        rw [evF, MP.ev]
        refine (h1 _ _ _).bind fun x st1 => (h1 _ _ _).bind fun y st2 => ?_
        cases cmpop o1 x y st2 with
        | none => exact .refl _
        | some b => cases b with
          | true => exact (h1 _ _ _).bind fun z st3 => .refl _
          | false => exact .refl _
      | call f p es =>
        rw [evF, MP.ev]
        refine (h2 _ _ _).bind fun vs st1 => ?_
        cases p with
        | true => exact pureCall_le h _ _ _
        | false => exact h _ _ _
      | met m o es =>
        rw [evF, MP.ev]
        refine (h1 _ _ _).bind fun x st1 => ?_
        split
        · exact (h2 _ _ _).bind fun _ _ => .refl _
        · exact .refl _
      | slc m a lo hi => rw [evF, MP.ev]; exact (h1 _ _ _).bind fun _ _ => (h4 _ _ _).bind fun _ _ => (h4 _ _ _).bind fun _ _ => .refl _
      | lc m own tg it c elt =>
        rw [evF, MP.ev]
        refine (h7 _ _ _).bind fun s st1 => (compG_le (fun x st' => ?_) _ _ turns_ge _ _ _).bind fun _ _ => .refl _
        cases assign tg x (forget σ own) with
        | none => exact .refl _
        | some σ' =>
          cases c with
          | nop => exact (h1 _ _ _).bind fun _ _ => .refl _
          | _ => exact (h5 _ _ _).bind fun b st2 => by
                  cases b with
                  | true => exact (h1 _ _ _).bind fun _ _ => .refl _
                  | false => exact .refl _
      | erl g b =>
        rw [evF, MP.ev]
        rcases h1 b σ st with e | e
        · rw [e]; exact .inl rfl
        · rw [e]; exact .refl _
      | var i => rw [evF, MP.ev]; exact .refl _
      | con i => rw [evF, MP.ev]; exact .refl _
      | glo i => rw [evF, MP.ev]; exact .refl _
      | fnv i => rw [evF, MP.ev]; exact .refl _
      | dct i => rw [evF, MP.ev]; exact .refl _
      | nop => rw [evF, MP.ev]; exact .refl _
      | tup es => rw [evF, MP.ev]; exact (h2 _ _ _).bind fun _ _ => .refl _
      | lst m es => rw [evF, MP.ev]; exact (h2 _ _ _).bind fun _ _ => .refl _
      | blt b es => rw [evF, MP.ev]; exact (h2 _ _ _).bind fun _ _ => .refl _
      | not a => rw [evF, MP.ev]; exact (h1 _ _ _).bind fun _ _ => .refl _
      | neg a => rw [evF, MP.ev]; exact (h1 _ _ _).bind fun _ _ => .refl _
      | isi a t => rw [evF, MP.ev]; exact (h1 _ _ _).bind fun _ _ => .refl _
      | bin m op a b => rw [evF, MP.ev]; exact (h1 _ _ _).bind fun _ _ => (h1 _ _ _).bind fun _ _ => .refl _
      | cmp op a b => rw [evF, MP.ev]; exact (h1 _ _ _).bind fun _ _ => (h1 _ _ _).bind fun _ _ => .refl _
      | idx a b => rw [evF, MP.ev]; exact (h1 _ _ _).bind fun _ _ => (h1 _ _ _).bind fun _ _ => .refl _
      | ixg c b =>
        rw [evF, MP.ev]
        split
        · exact (h1 _ _ _).bind fun _ _ => .refl _
        · exact .refl _
      | ixo a b =>
        rw [evF, MP.ev]
        refine (h1 _ _ _).bind fun _ _ => ?_
        split
        · exact (h1 _ _ _).bind fun _ _ => .refl _
        · exact .refl _
      | dix a b => rw [evF, MP.ev]; exact (h1 _ _ _).bind fun _ _ => (h1 _ _ _).bind fun _ _ => .refl _
      | din neg a b => rw [evF, MP.ev]; exact (h1 _ _ _).bind fun _ _ => (h1 _ _ _).bind fun _ _ => .refl _
    · cases e with
      | nil => rw [evsF, MP.evs]; exact .refl _
      | cons e es => rw [evsF, MP.evs]; exact (h1 _ _ _).bind fun _ _ => (h2 _ _ _).bind fun _ _ => .refl _
    · cases e with
      | nil => rw [evBF, MP.evB]; exact .refl _
      | cons a es =>
        rw [evBF, MP.evB]
        refine (h1 _ _ _).bind fun x st1 => ?_
        cases es with
        | nil => exact .refl _
        | cons b es =>
          simp only []
          cases truth (rd st1 x) with
          | none => exact .refl _
          | some b =>
            simp only []
            split
            · exact h3 _ _ _ _
            · exact .refl _
    · cases e <;> first | (simp only [partF, MP.part]; exact .refl _) | (simp only [partF, MP.part]; exact (h1 _ _ _).bind fun _ _ => .refl _)
    · cases e with
      | not a => rw [testF, MP.test]; exact (h5 _ _ _).bind fun _ _ => .refl _
      | bop k a es => rw [testF, MP.test]; exact (h5 _ _ _).bind fun b st1 => by split <;> first | exact h6 _ _ _ _ | exact .refl _
      | ife c a b => rw [testF, MP.test]; exact (h5 _ _ _).bind fun t st1 => by split <;> exact h5 _ _ _
      | _ => simp only [testF, MP.test]; exact (h1 _ _ _).bind fun _ _ => .refl _
    · cases e with
      | nil => rw [testsF, MP.tests]; exact .refl _
      | cons a es => rw [testsF, MP.tests]; exact (h5 _ _ _).bind fun b st1 => by split <;> first | exact h6 _ _ _ _ | exact .refl _
    · cases e with
      | ev e => rw [srcF, MP.src]; exact (h1 _ _ _).bind fun _ _ => .refl _
      | rng1 e => rw [srcF, MP.src]; exact (h1 _ _ _).bind fun _ _ => .refl _
      | rng2 a b => rw [srcF, MP.src]; exact (h1 _ _ _).bind fun _ _ => (h1 _ _ _).bind fun _ _ => .refl _
      | enm e => rw [srcF, MP.src]; exact (h1 _ _ _).bind fun _ _ => .refl _
      | zip a b => rw [srcF, MP.src]; exact (h1 _ _ _).bind fun _ _ => (h1 _ _ _).bind fun _ _ => .refl _
theorem exs_le {T : Top} {cf cg : CallF} (h : ∀ f vs st, Le (cf f vs st) (cg f vs st)) (F : Nat) : ∀ n, (∀ s σ st, Le (exF T cf F n s σ st) (ex T cg s σ st)) ∧ ∀ r σ st, Le (exsF T cf F n r σ st) (exs T cg r σ st)
  | 0 => ⟨fun _ _ _ => .inl rfl, fun _ _ _ => .inl rfl⟩
  | n + 1 => by
    obtain ⟨h1, h2⟩ := exs_le h F n
    obtain ⟨g1, g2, g3, g4, g5, g6, g7⟩ := all_le (T := T) h F
    refine ⟨fun s σ st => ?_, fun r σ st => ?_⟩
    · cases s with
      | set t e => rw [exF, MP.ex]; exact (g1 _ _ _).bind fun _ _ => .refl _
      | par is es => rw [exF, MP.ex]; exact (g2 _ _ _).bind fun _ _ => .refl _
      | expr e => rw [exF, MP.ex]; exact (g1 _ _ _).bind fun _ _ => .refl _
      | ret e => rw [exF, MP.ex]; exact (g1 _ _ _).bind fun _ _ => .refl _
      | retn => rw [exF, MP.ex]; exact .refl _
      | ife c a b => rw [exF, MP.ex]; exact (g5 _ _ _).bind fun t st => by split <;> exact h2 _ _ _
      | for_ t it b =>
        rw [exF, MP.ex]
        refine (g7 _ _ _).bind fun s st1 => forG_le (fun x σ' st' => ?_) _ _ turns_ge _ _ _
        cases assign t x σ' with
        | none => exact .refl _
        | some σ2 => exact h2 _ _ _
      | while_ c b => rw [exF, MP.ex]; exact whileG_le (fun _ _ => g5 _ _ _) (fun _ _ => h2 _ _ _) _ _ turns_ge _ _
      | raise c => rw [exF, MP.ex]; exact .refl _
      | raiseA c e => rw [exF, MP.ex]; exact (g1 _ _ _).bind fun _ _ => .refl _
      | pass => rw [exF, MP.ex]; exact .refl _
      | setIx o i e => rw [exF, MP.ex]; exact (g1 _ _ _).bind fun _ _ => (g1 _ _ _).bind fun _ _ => (g1 _ _ _).bind fun _ _ => .refl _
      | setD o i e => rw [exF, MP.ex]; exact (g1 _ _ _).bind fun _ _ => (g1 _ _ _).bind fun _ _ => (g1 _ _ _).bind fun _ _ => .refl _
    · cases r with
      | nil => rw [exsF, MP.exs]; exact .refl _
      | cons s r =>
        rw [exsF, MP.exs]
        rcases h1 s σ st with e | e
        · rw [e]; exact .inl rfl
        · rw [e]
          cases MP.ex T cg s σ st with
          | ok fl st' => cases fl with
            | nx σ' => exact h2 _ _ _
            | rt v => exact .refl _
          | exc => exact .refl _
          | stuck => exact .refl _
theorem callF_le {T : Top} {D : Nat → Option Df} : ∀ (k n : Nat), k ≤ n → ∀ f vs st, Le (callF T D k f vs st) (callN T D n f vs st)
  | 0, _, _, _, _, _ => .inl rfl
  | k + 1, 0, h, _, _, _ => by omega
  | k + 1, n + 1, h, f, vs, st => by
    have ih := callF_le (T := T) (D := D) k n (by omega)
    simp only [callF, callN]
    cases hd : D f with
    | none => exact .refl _
    | some d =>
      simp only []
      split
      · rcases (exs_le (T := T) ih 400 400).2 d.body (vs.map some ++ List.replicate (d.ns - d.ps) none) st with e | e
        · rw [e]; exact .inl rfl
        · rw [e]; exact .refl _
      · exact .refl _
theorem callF_ok {T : Top} {D : Nat → Option Df} {k n f : Nat} {vs : List PV} {st st' : Sto} {v : PV} (h : callF T D k f vs st = .ok v st') (hn : k ≤ n) : callN T D n f vs st = .ok v st' := (callF_le k n hn f vs st).ok h
theorem callF_exc {T : Top} {D : Nat → Option Df} {k n f : Nat} {vs : List PV} {st st' : Sto} {e : Exn} (h : callF T D k f vs st = .exc e st') (hn : k ≤ n) : callN T D n f vs st = .exc e st' := (callF_le k n hn f vs st).exc h
/-- the rest of a def's text by the kernel -/
theorem exsF_ok {T : Top} {D : Nat → Option Df} {k n : Nat} {r : List IS} {σ : Env} {st st' : Sto} {fl : Fl} (h : exsF T (callF T D k) 400 400 r σ st = .ok fl st') (hn : k ≤ n) : exs T (callN T D n) r σ st = .ok fl st' := ((exs_le (callF_le k n hn) 400 400).2 r σ st).ok h
theorem evF_ok {T : Top} {D : Nat → Option Df} {k n : Nat} {e : IE} {σ : Env} {st st' : Sto} {v : PV} (h : evF T (callF T D k) 400 e σ st = .ok v st') (hn : k ≤ n) : ev T (callN T D n) e σ st = .ok v st' := ((all_le (callF_le k n hn) 400).ev e σ st).ok h
/-- it gives True -/
def isTr : Out Fl → Bool
  | .ok (.rt (.bl true)) _ => true
  | _ => false
theorem isTr_ok {o : Out Fl} (h : isTr o = true) : ∃ st, o = .ok (.rt (.bl true)) st := by
  unfold isTr at h
  split at h
  · exact ⟨_, rfl⟩
  · cases h
theorem exsF_true {T : Top} {D : Nat → Option Df} {k n : Nat} {r : List IS} {σ : Env} {st : Sto} (h : isTr (exsF T (callF T D k) 400 400 r σ st) = true) (hn : k ≤ n) : ∃ st', exs T (callN T D n) r σ st = .ok (.rt (.bl true)) st' := by
  obtain ⟨st', e⟩ := isTr_ok h
  exact ⟨st', exsF_ok e hn⟩
end MQ

set_option linter.all false
set_option maxRecDepth 100000
set_option maxHeartbeats 1000000
/-! MSimp: the evaluator step by step, for simp. -/
namespace MQ
open MP
section
variable {T : Top} {D : Nat → Option Df} {cf : CallF} {σ : Env} {st st' : Sto}
@[simp] theorem bnd_ok {α β : Type} {a : α} {f : α → Sto → Out β} : (Out.ok a st).bind f = f a st := rfl
@[simp] theorem bnd_exc {α β : Type} {e : Exn} {f : α → Sto → Out β} : (Out.exc e st : Out α).bind f = .exc e st := rfl
@[simp] theorem bnd_stuck {α β : Type} {f : α → Sto → Out β} : (Out.stuck : Out α).bind f = .stuck := rfl
@[simp] theorem get_zero {α : Type} {a : α} {l : List α} : (a :: l)[0]? = some a := rfl
@[simp] theorem closed_int (i : Int) : closed (.int i) = true := rfl
@[simp] theorem closed_bl (i : Bool) : closed (.bl i) = true := rfl
@[simp] theorem closed_non : closed .non = true := rfl
@[simp] theorem closed_str (i : List Nat) : closed (.str i) = true := rfl
@[simp] theorem closed_tup (i : List PV) : closed (.tup i) = closeds i := by rw [closed]
@[simp] theorem closed_lst (i : List PV) : closed (.lst i) = closeds i := by rw [closed]
@[simp] theorem closeds_nil : closeds [] = true := rfl
@[simp] theorem closeds_cons (v : PV) (vs : List PV) : closeds (v :: vs) = (closed v && closeds vs) := by rw [closeds]
@[simp] theorem closeds_app (xs ys : List PV) : closeds (xs ++ ys) = (closeds xs && closeds ys) := by
  induction xs with
  | nil => simp
  | cons x xs ih => simp [ih, Bool.and_assoc]
theorem closeds_of {xs : List PV} (h : ∀ x ∈ xs, closed x = true) : closeds xs = true := by
  induction xs with
  | nil => rfl
  | cons x xs ih => simp [h x, ih fun y hy => h y (List.mem_cons_of_mem _ hy)]
theorem closeds_mem : ∀ {xs : List PV}, closeds xs = true → ∀ x ∈ xs, closed x = true
  | x :: xs, h, y, hy => by
    simp only [closeds, Bool.and_eq_true] at h
    rcases List.mem_cons.mp hy with rfl | hy
    · exact h.1
    · exact closeds_mem h.2 y hy
  | [], _, y, hy => absurd hy (by simp)
@[simp] theorem rd_int {i : Int} : rd st (.int i) = .int i := rfl
@[simp] theorem rd_bl {i : Bool} : rd st (.bl i) = .bl i := rfl
@[simp] theorem rd_str {x : List Nat} : rd st (.str x) = .str x := rfl
@[simp] theorem rd_tup {x : List PV} : rd st (.tup x) = .tup x := rfl
@[simp] theorem rd_lst {x : List PV} : rd st (.lst x) = .lst x := rfl
@[simp] theorem rd_non : rd st .non = .non := rfl
@[simp] theorem rd_scr {x : List Int} : rd st (.scr x) = .scr x := rfl
@[simp] theorem truth_bl {b : Bool} : truth (.bl b) = some b := rfl
@[simp] theorem truth_non : truth .non = some false := rfl
@[simp] theorem may_some {v : PV} : may (some v) st = .ok v st := rfl
@[simp] theorem blOut_some {b : Bool} : blOut (some b) st = .ok (.bl b) st := rfl

@[simp] theorem ev_var {i : Nat} : ev T cf (.var i) σ st = (match σ[i]? with | some (some v) => .ok v st | _ => .stuck) := by
  rw [ev]
  all_goals (rcases σ[i]? with _ | _ | _ <;> rfl)
@[simp] theorem ev_con {v : PV} : ev T cf (.con v) σ st = .ok v st := by rw [ev]
@[simp] theorem ev_glo {c : Nat} : ev T cf (.glo c) σ st = may T.cs[c]? st := by rw [ev]
@[simp] theorem ev_fnv {f : Nat} : ev T cf (.fnv f) σ st = .ok (.fn f) st := by rw [ev]
@[simp] theorem ev_tup {es : IEs} : ev T cf (.tup es) σ st = (evs T cf es σ st).bind newT := by rw [ev]
@[simp] theorem ev_lst {m : Bool} {es : IEs} : ev T cf (.lst m es) σ st = (evs T cf es σ st).bind (newL m) := by rw [ev]
@[simp] theorem ev_dct {t : Bool} : ev T cf (.dct t) σ st = .ok (.ref st.length) (st ++ [if t then .dT [] else .dK []]) := by rw [ev]
@[simp] theorem ev_bin {m : Bool} {op : PySem.Operator} {a b : IE} : ev T cf (.bin m op a b) σ st = (ev T cf a σ st).bind fun x st1 => (ev T cf b σ st1).bind fun y st2 => binop m op x y st2 := by rw [ev]
@[simp] theorem ev_cmp {op : PySem.CmpOp} {a b : IE} : ev T cf (.cmp op a b) σ st = (ev T cf a σ st).bind fun x st1 => (ev T cf b σ st1).bind fun y st2 => blOut (cmpop op x y st2) st2 := by rw [ev]
noncomputable def chnK (T : Top) (cf : CallF) (σ : Env) (o2 : PySem.CmpOp) (c : IE) (y : PV) (st : Sto) : Option Bool → Out PV
  | some true => (ev T cf c σ st).bind fun z st3 => blOut (cmpop o2 y z st3) st3
  | some false => .ok (.bl false) st
  | none => .stuck
@[simp] theorem ev_chn {o1 o2 : PySem.CmpOp} {a b c : IE} : ev T cf (.chn o1 o2 a b c) σ st = (ev T cf a σ st).bind fun x st1 => (ev T cf b σ st1).bind fun y st2 => chnK T cf σ o2 c y st2 (cmpop o1 x y st2) := by
  rw [ev]
  try rfl
@[simp] theorem chnK_some {o2 : PySem.CmpOp} {c : IE} {y : PV} {b : Bool} : chnK T cf σ o2 c y st (some b) = if b = true then (ev T cf c σ st).bind fun z st3 => blOut (cmpop o2 y z st3) st3 else .ok (.bl false) st := by cases b <;> rfl
@[simp] theorem ite_bl_f {p : Prop} [Decidable p] {c : Bool} : (if p then Out.ok (PV.bl c) st else .ok (.bl false) st) = .ok (.bl (decide p && c)) st := by by_cases h : p <;> simp [h]
@[simp] theorem ite_bl_t {p : Prop} [Decidable p] {c : Bool} : (if p then Out.ok (PV.bl true) st else .ok (.bl c) st) = .ok (.bl (decide p || c)) st := by by_cases h : p <;> simp [h]
@[simp] theorem ite_bl_d {p : Prop} [Decidable p] {c : Bool} : (if p then Out.ok (PV.bl c) st else .ok (.bl (decide p)) st) = .ok (.bl (decide p && c)) st := by by_cases h : p <;> simp [h]
@[simp] theorem ite_bl_e {p : Prop} [Decidable p] {c : Bool} : (if p then Out.ok (PV.bl (decide p)) st else .ok (.bl c) st) = .ok (.bl (decide p || c)) st := by by_cases h : p <;> simp [h]
@[simp] theorem ite_bl_b {p c : Bool} : (if p = true then Out.ok (PV.bl c) st else .ok (.bl p) st) = .ok (.bl (p && c)) st := by cases p <;> simp
@[simp] theorem ite_bl_c {p c : Bool} : (if p = true then Out.ok (PV.bl p) st else .ok (.bl c) st) = .ok (.bl (p || c)) st := by cases p <;> simp
@[simp] theorem ite_b_f {p : Prop} [Decidable p] {c : Bool} : (if p then Out.ok c st else .ok false st) = .ok (decide p && c) st := by by_cases h : p <;> simp [h]
@[simp] theorem ite_b_t {p : Prop} [Decidable p] {c : Bool} : (if p then Out.ok true st else .ok c st) = .ok (decide p || c) st := by by_cases h : p <;> simp [h]
@[simp] theorem ev_bop {k : Bool} {a b : IE} {es : IEs} : ev T cf (.bop k a (.cons b es)) σ st = evB T cf k (.cons a (.cons b es)) σ st := by rw [ev, evB]
@[simp] theorem evB_one {k : Bool} {a : IE} : evB T cf k (.cons a .nil) σ st = ev T cf a σ st := by
  rw [evB]
  cases ev T cf a σ st <;> rfl
/-- a row's step -/
noncomputable def bopK (T : Top) (cf : CallF) (σ : Env) (k : Bool) (es : IEs) (x : PV) (st : Sto) : Option Bool → Out PV
  | some b => if b = k then evB T cf k es σ st else .ok x st
  | none => .stuck
@[simp] theorem evB_two {k : Bool} {a b : IE} {es : IEs} : evB T cf k (.cons a (.cons b es)) σ st = (ev T cf a σ st).bind fun x st1 => bopK T cf σ k (.cons b es) x st1 (truth (rd st1 x)) := by
  rw [evB]
  try rfl
@[simp] theorem bopK_t {es : IEs} {x : PV} {b : Bool} : bopK T cf σ true es x st (some b) = if b = true then evB T cf true es σ st else .ok x st := rfl
@[simp] theorem bopK_f {es : IEs} {x : PV} {b : Bool} : bopK T cf σ false es x st (some b) = if b = true then .ok x st else evB T cf false es σ st := by cases b <;> rfl
/-- and, of truth values -/
theorem bop_and {es : IEs} {b d : Bool} (h : b = true → evB T cf true es σ st = .ok (.bl d) st) : bopK T cf σ true es (.bl b) st (some b) = .ok (.bl (b && d)) st := by
  cases b with
  | true => simpa using h rfl
  | false => rfl
theorem bop_or {es : IEs} {b d : Bool} (h : b = false → evB T cf false es σ st = .ok (.bl d) st) : bopK T cf σ false es (.bl b) st (some b) = .ok (.bl (b || d)) st := by
  cases b with
  | true => rfl
  | false => simpa using h rfl
@[simp] theorem ev_not {a : IE} : ev T cf (.not a) σ st = (ev T cf a σ st).bind fun x st1 => blOut ((truth (rd st1 x)).map fun b => !b) st1 := by rw [ev]
def negK (st : Sto) : PV → Out PV
  | .int i => .ok (.int (-i)) st
  | _ => .stuck
@[simp] theorem negK_int {i : Int} : negK st (.int i) = .ok (.int (-i)) st := rfl
@[simp] theorem ev_neg {a : IE} : ev T cf (.neg a) σ st = (ev T cf a σ st).bind fun x st1 => negK st1 x := by
  rw [ev]
  try rfl
@[simp] theorem ev_ife {c a b : IE} : ev T cf (.ife c a b) σ st = (test T cf c σ st).bind fun t st1 => if t then ev T cf a σ st1 else ev T cf b σ st1 := by rw [ev]
@[simp] theorem ev_call {f : Nat} {es : IEs} : ev T cf (.call f true es) σ st = (evs T cf es σ st).bind fun vs st1 => pureCall f cf vs st1 := by rw [ev]; try rfl
@[simp] theorem ev_callS {f : Nat} {es : IEs} : ev T cf (.call f false es) σ st = (evs T cf es σ st).bind fun vs st1 => cf f vs st1 := by rw [ev]; try rfl
@[simp] theorem ev_blt {b : Bt} {es : IEs} : ev T cf (.blt b es) σ st = (evs T cf es σ st).bind fun vs st1 => builtin b vs st1 := by rw [ev]
@[simp] theorem ev_met {m : Mt} {o : IE} {es : IEs} : ev T cf (.met m o es) σ st = (ev T cf o σ st).bind fun x st1 => if isLst (rd st1 x) then (evs T cf es σ st1).bind fun vs st2 => method m x vs st2 else .stuck := by rw [ev]
@[simp] theorem ev_idx {a b : IE} : ev T cf (.idx a b) σ st = (ev T cf a σ st).bind fun x st1 => (ev T cf b σ st1).bind fun y st2 => subs x y st2 := by rw [ev]
@[simp] theorem ev_ixg {c : Nat} {b : IE} : ev T cf (.ixg c b) σ st = if isTup T.cs[c]? then (ev T cf b σ st).bind fun y st2 => may (T.cs[c]?.bind fun x => posT x y) st2 else .stuck := by rw [ev]
@[simp] theorem ev_ixo {a b : IE} : ev T cf (.ixo a b) σ st = (ev T cf a σ st).bind fun x st1 => if isLst (rd st1 x) then (ev T cf b σ st1).bind fun y st2 => may (posL (rd st2 x) y) st2 else .stuck := by rw [ev]
@[simp] theorem ev_dix {a b : IE} : ev T cf (.dix a b) σ st = (ev T cf a σ st).bind fun x st1 => (ev T cf b σ st1).bind fun y st2 => may ((dget T.kt x y st2).bind id) st2 := by rw [ev]
@[simp] theorem ev_din {neg : Bool} {a b : IE} : ev T cf (.din neg a b) σ st = (ev T cf a σ st).bind fun x st1 => (ev T cf b σ st1).bind fun y st2 => blOut ((dget T.kt y x st2).map fun o => if neg then !o.isSome else o.isSome) st2 := by rw [ev]
@[simp] theorem ev_slc {m : Bool} {a lo hi : IE} : ev T cf (.slc m a lo hi) σ st = (ev T cf a σ st).bind fun x st1 => (part T cf lo σ st1).bind fun l st2 => (part T cf hi σ st2).bind fun h st3 => slice m x l h st3 := by rw [ev]
@[simp] theorem ev_comp {m : Bool} {own : List Nat} {tg : Tg} {it : II} {c elt : IE} : ev T cf (.lc m own tg it c elt) σ st = (src T cf it σ st).bind fun s st1 => (compG s (stepC tg (forget σ own) (gate T cf c) (ev T cf elt)) turns 0 [] st1).bind (newL m) := by rw [ev_lc]
@[simp] theorem ev_isi {a : IE} {t : Ty} : ev T cf (.isi a t) σ st = (ev T cf a σ st).bind fun x st1 => blOut (tyIs (rd st1 x) t) st1 := by rw [ev]
@[simp] theorem evs_nil : evs T cf .nil σ st = .ok [] st := by rw [evs]
@[simp] theorem evs_cons {e : IE} {es : IEs} : evs T cf (.cons e es) σ st = (ev T cf e σ st).bind fun x st1 => (evs T cf es σ st1).bind fun xs st2 => .ok (x :: xs) st2 := by rw [evs]
/-! parts of a slice -/
def intK (st : Sto) : PV → Out (Option Int)
  | .int i => .ok (some i) st
  | _ => .stuck
@[simp] theorem intK_int {i : Int} : intK st (.int i) = .ok (some i) st := rfl
@[simp] theorem part_nop : part T cf .nop σ st = .ok none st := by rw [part]
@[simp] theorem part_var {i : Nat} : part T cf (.var i) σ st = (ev T cf (.var i) σ st).bind fun x st1 => intK st1 x := by
  rw [part]
  · rfl
  all_goals (intros; rename_i h; cases h)
@[simp] theorem part_con {v : PV} : part T cf (.con v) σ st = (ev T cf (.con v) σ st).bind fun x st1 => intK st1 x := by
  rw [part]
  · rfl
  all_goals (intros; rename_i h; cases h)
@[simp] theorem part_glo {c : Nat} : part T cf (.glo c) σ st = (ev T cf (.glo c) σ st).bind fun x st1 => intK st1 x := by
  rw [part]
  · rfl
  all_goals (intros; rename_i h; cases h)
@[simp] theorem part_bin {m : Bool} {op : PySem.Operator} {a b : IE} : part T cf (.bin m op a b) σ st = (ev T cf (.bin m op a b) σ st).bind fun x st1 => intK st1 x := by
  rw [part]
  · rfl
  all_goals (intros; rename_i h; cases h)
@[simp] theorem part_neg {a : IE} : part T cf (.neg a) σ st = (ev T cf (.neg a) σ st).bind fun x st1 => intK st1 x := by
  rw [part]
  · rfl
  all_goals (intros; rename_i h; cases h)
@[simp] theorem part_idx {a b : IE} : part T cf (.idx a b) σ st = (ev T cf (.idx a b) σ st).bind fun x st1 => intK st1 x := by
  rw [part]
  · rfl
  all_goals (intros; rename_i h; cases h)
@[simp] theorem part_dix {a b : IE} : part T cf (.dix a b) σ st = (ev T cf (.dix a b) σ st).bind fun x st1 => intK st1 x := by
  rw [part]
  · rfl
  all_goals (intros; rename_i h; cases h)
@[simp] theorem part_call {f : Nat} {p : Bool} {es : IEs} : part T cf (.call f p es) σ st = (ev T cf (.call f p es) σ st).bind fun x st1 => intK st1 x := by
  rw [part]
  · rfl
  all_goals (intros; rename_i h; cases h)
@[simp] theorem part_blt {b : Bt} {es : IEs} : part T cf (.blt b es) σ st = (ev T cf (.blt b es) σ st).bind fun x st1 => intK st1 x := by
  rw [part]
  · rfl
  all_goals (intros; rename_i h; cases h)
@[simp] theorem part_ife {c a b : IE} : part T cf (.ife c a b) σ st = (ev T cf (.ife c a b) σ st).bind fun x st1 => intK st1 x := by
  rw [part]
  · rfl
  all_goals (intros; rename_i h; cases h)
/-! tests -/
def truK (st : Sto) : Option Bool → Out Bool
  | some b => .ok b st
  | none => .stuck
@[simp] theorem truK_some {b : Bool} : truK st (some b) = .ok b st := rfl
@[simp] theorem test_not {a : IE} : test T cf (.not a) σ st = (test T cf a σ st).bind fun b st1 => .ok (!b) st1 := by rw [test]
@[simp] theorem test_ife {c a b : IE} : test T cf (.ife c a b) σ st = (test T cf c σ st).bind fun t st1 => if t then test T cf a σ st1 else test T cf b σ st1 := by rw [test]
noncomputable def tstK (T : Top) (cf : CallF) (σ : Env) (k : Bool) (es : IEs) (st : Sto) (b : Bool) : Out Bool := if b = k then tests T cf k es σ st else .ok b st
@[simp] theorem test_bop {k : Bool} {a : IE} {es : IEs} : test T cf (.bop k a es) σ st = (test T cf a σ st).bind fun b st1 => tstK T cf σ k es st1 b := by rw [test]; try rfl
@[simp] theorem tests_nil {k : Bool} : tests T cf k .nil σ st = .ok k st := by rw [tests]
@[simp] theorem tests_cons {k : Bool} {a : IE} {es : IEs} : tests T cf k (.cons a es) σ st = (test T cf a σ st).bind fun b st1 => tstK T cf σ k es st1 b := by rw [tests]; try rfl
@[simp] theorem tstK_t {a : IE} {es : IEs} {b : Bool} : tstK T cf σ true (.cons a es) st b = if b = true then tests T cf true (.cons a es) σ st else .ok false st := by cases b <;> rfl
@[simp] theorem tstK_f {a : IE} {es : IEs} {b : Bool} : tstK T cf σ false (.cons a es) st b = if b = true then .ok true st else tests T cf false (.cons a es) σ st := by cases b <;> rfl
@[simp] theorem tstK_nil {k b : Bool} : tstK T cf σ k .nil st b = .ok b st := by
  unfold tstK
  split
  · rename_i h; rw [tests, h]
  · rfl
theorem tst_and {es : IEs} {b d : Bool} (h : b = true → tests T cf true es σ st = .ok d st) : tstK T cf σ true es st b = .ok (b && d) st := by
  cases b with
  | true => show tests T cf true es σ st = _; rw [h rfl]; rfl
  | false => rfl
theorem tst_or {es : IEs} {b d : Bool} (h : b = false → tests T cf false es σ st = .ok d st) : tstK T cf σ false es st b = .ok (b || d) st := by
  cases b with
  | true => rfl
  | false => show tests T cf false es σ st = _; rw [h rfl]; rfl
@[simp] theorem test_var {i : Nat} : test T cf (.var i) σ st = (ev T cf (.var i) σ st).bind fun x st1 => truK st1 (truth (rd st1 x)) := by
  rw [test]
  · rfl
  all_goals (intros; rename_i h; cases h)
@[simp] theorem test_con {v : PV} : test T cf (.con v) σ st = (ev T cf (.con v) σ st).bind fun x st1 => truK st1 (truth (rd st1 x)) := by
  rw [test]
  · rfl
  all_goals (intros; rename_i h; cases h)
@[simp] theorem test_glo {c : Nat} : test T cf (.glo c) σ st = (ev T cf (.glo c) σ st).bind fun x st1 => truK st1 (truth (rd st1 x)) := by
  rw [test]
  · rfl
  all_goals (intros; rename_i h; cases h)
@[simp] theorem test_bin {m : Bool} {op : PySem.Operator} {a b : IE} : test T cf (.bin m op a b) σ st = (ev T cf (.bin m op a b) σ st).bind fun x st1 => truK st1 (truth (rd st1 x)) := by
  rw [test]
  · rfl
  all_goals (intros; rename_i h; cases h)
@[simp] theorem test_neg {a : IE} : test T cf (.neg a) σ st = (ev T cf (.neg a) σ st).bind fun x st1 => truK st1 (truth (rd st1 x)) := by
  rw [test]
  · rfl
  all_goals (intros; rename_i h; cases h)
@[simp] theorem test_idx {a b : IE} : test T cf (.idx a b) σ st = (ev T cf (.idx a b) σ st).bind fun x st1 => truK st1 (truth (rd st1 x)) := by
  rw [test]
  · rfl
  all_goals (intros; rename_i h; cases h)
@[simp] theorem test_dix {a b : IE} : test T cf (.dix a b) σ st = (ev T cf (.dix a b) σ st).bind fun x st1 => truK st1 (truth (rd st1 x)) := by
  rw [test]
  · rfl
  all_goals (intros; rename_i h; cases h)
@[simp] theorem test_call {f : Nat} {p : Bool} {es : IEs} : test T cf (.call f p es) σ st = (ev T cf (.call f p es) σ st).bind fun x st1 => truK st1 (truth (rd st1 x)) := by
  rw [test]
  · rfl
  all_goals (intros; rename_i h; cases h)
@[simp] theorem test_blt {b : Bt} {es : IEs} : test T cf (.blt b es) σ st = (ev T cf (.blt b es) σ st).bind fun x st1 => truK st1 (truth (rd st1 x)) := by
  rw [test]
  · rfl
  all_goals (intros; rename_i h; cases h)
@[simp] theorem test_cmp {op : PySem.CmpOp} {a b : IE} : test T cf (.cmp op a b) σ st = (ev T cf (.cmp op a b) σ st).bind fun x st1 => truK st1 (truth (rd st1 x)) := by
  rw [test]
  · rfl
  all_goals (intros; rename_i h; cases h)
@[simp] theorem test_chn {o1 o2 : PySem.CmpOp} {a b c : IE} : test T cf (.chn o1 o2 a b c) σ st = (ev T cf (.chn o1 o2 a b c) σ st).bind fun x st1 => truK st1 (truth (rd st1 x)) := by
  rw [test]
  · rfl
  all_goals (intros; rename_i h; cases h)
@[simp] theorem test_met {m : Mt} {o : IE} {es : IEs} : test T cf (.met m o es) σ st = (ev T cf (.met m o es) σ st).bind fun x st1 => truK st1 (truth (rd st1 x)) := by
  rw [test]
  · rfl
  all_goals (intros; rename_i h; cases h)
@[simp] theorem test_din {n : Bool} {a b : IE} : test T cf (.din n a b) σ st = (ev T cf (.din n a b) σ st).bind fun x st1 => truK st1 (truth (rd st1 x)) := by
  rw [test]
  · rfl
  all_goals (intros; rename_i h; cases h)
@[simp] theorem test_slc {m : Bool} {a lo hi : IE} : test T cf (.slc m a lo hi) σ st = (ev T cf (.slc m a lo hi) σ st).bind fun x st1 => truK st1 (truth (rd st1 x)) := by
  rw [test]
  · rfl
  all_goals (intros; rename_i h; cases h)
@[simp] theorem test_isi {a : IE} {t : Ty} : test T cf (.isi a t) σ st = (ev T cf (.isi a t) σ st).bind fun x st1 => truK st1 (truth (rd st1 x)) := by
  rw [test]
  · rfl
  all_goals (intros; rename_i h; cases h)
@[simp] theorem test_tup {es : IEs} : test T cf (.tup es) σ st = (ev T cf (.tup es) σ st).bind fun x st1 => truK st1 (truth (rd st1 x)) := by
  rw [test]
  · rfl
  all_goals (intros; rename_i h; cases h)
@[simp] theorem test_lst {m : Bool} {es : IEs} : test T cf (.lst m es) σ st = (ev T cf (.lst m es) σ st).bind fun x st1 => truK st1 (truth (rd st1 x)) := by
  rw [test]
  · rfl
  all_goals (intros; rename_i h; cases h)
@[simp] theorem test_lc {m : Bool} {own : List Nat} {tg : Tg} {it : II} {c elt : IE} : test T cf (.lc m own tg it c elt) σ st = (ev T cf (.lc m own tg it c elt) σ st).bind fun x st1 => truK st1 (truth (rd st1 x)) := by
  rw [test]
  · rfl
  all_goals (intros; rename_i h; cases h)
/-! what is walked -/
def srcK (st : Sto) : PV → Out Src
  | .tup xs | .lst xs => .ok (.items xs) st
  | .str x => .ok (.items (x.map fun c => .str [c])) st
  | .scr ns => .ok (.items (ns.map .int)) st
  | .ref n => if isRow st n then .ok (.live n) st else .stuck
  | _ => .stuck
@[simp] theorem srcK_tup {xs : List PV} : srcK st (.tup xs) = .ok (.items xs) st := rfl
@[simp] theorem srcK_lst {xs : List PV} : srcK st (.lst xs) = .ok (.items xs) st := rfl
@[simp] theorem srcK_str {x : List Nat} : srcK st (.str x) = .ok (.items (x.map fun c => .str [c])) st := rfl
@[simp] theorem srcK_ref {n : Nat} : srcK st (.ref n) = if isRow st n then .ok (.live n) st else .stuck := rfl
@[simp] theorem src_ev {e : IE} : src T cf (.ev e) σ st = (ev T cf e σ st).bind fun x st1 => srcK st1 x := by
  rw [src]
  try rfl
def rng1K (st : Sto) : PV → Out Src
  | .int j => if wide j then .ok (.items (rangeL 0 j.toNat)) st else .stuck
  | _ => .stuck
@[simp] theorem rng1K_int {j : Int} : rng1K st (.int j) = if wide j then .ok (.items (rangeL 0 j.toNat)) st else .stuck := rfl
@[simp] theorem src_rng1 {e : IE} : src T cf (.rng1 e) σ st = (ev T cf e σ st).bind fun x st1 => rng1K st1 x := by
  rw [src]
  try rfl
def rng2K (st : Sto) : PV → PV → Out Src
  | .int i, .int j => if wide i && wide j then .ok (.items (rangeL i (j - i).toNat)) st else .stuck
  | _, _ => .stuck
@[simp] theorem rng2K_int {i j : Int} : rng2K st (.int i) (.int j) = if wide i && wide j then .ok (.items (rangeL i (j - i).toNat)) st else .stuck := rfl
@[simp] theorem src_rng2 {a b : IE} : src T cf (.rng2 a b) σ st = (ev T cf a σ st).bind fun x st1 => (ev T cf b σ st1).bind fun y st2 => rng2K st2 x y := by
  rw [src]
  try rfl
def enmK (st : Sto) : PV → Out Src
  | .lst xs => .ok (.items (enumL xs 0)) st
  | .ref n => if isRow st n then .ok (.liveE n) st else .stuck
  | _ => .stuck
@[simp] theorem enmK_lst {xs : List PV} : enmK st (.lst xs) = .ok (.items (enumL xs 0)) st := rfl
@[simp] theorem enmK_ref {n : Nat} : enmK st (.ref n) = if isRow st n then .ok (.liveE n) st else .stuck := rfl
@[simp] theorem src_enm {e : IE} : src T cf (.enm e) σ st = (ev T cf e σ st).bind fun x st1 => enmK st1 x := by
  rw [src]
  try rfl
def zipK (st : Sto) : PV → PV → Out Src
  | .lst xs, .lst ys => .ok (.items (zipL xs ys)) st
  | .tup xs, .tup ys => .ok (.items (zipL xs ys)) st
  | _, _ => .stuck
@[simp] theorem zipK_lst {xs ys : List PV} : zipK st (.lst xs) (.lst ys) = .ok (.items (zipL xs ys)) st := rfl
@[simp] theorem zipK_tup {xs ys : List PV} : zipK st (.tup xs) (.tup ys) = .ok (.items (zipL xs ys)) st := rfl
@[simp] theorem src_zip {a b : IE} : src T cf (.zip a b) σ st = (ev T cf a σ st).bind fun x st1 => (ev T cf b σ st1).bind fun y st2 => zipK st2 x y := by
  rw [src]
  try rfl
/-! statements -/
/-- one after the other -/
noncomputable def kont (T : Top) (cf : CallF) (r : List IS) : Fl → Sto → Out Fl
  | .nx σ, st => exs T cf r σ st
  | .rt v, st => .ok (.rt v) st
@[simp] theorem kont_nx {r : List IS} : kont T cf r (.nx σ) st = exs T cf r σ st := rfl
@[simp] theorem kont_rt {r : List IS} {v : PV} : kont T cf r (.rt v) st = .ok (.rt v) st := rfl
theorem exs_kont {s : IS} {r : List IS} : exs T cf (s :: r) σ st = (ex T cf s σ st).bind (kont T cf r) := by
  rw [exs]
  cases ex T cf s σ st with
  | ok fl st1 => cases fl <;> rfl
  | exc => rfl
  | stuck => rfl
@[simp] theorem exs_nil : exs T cf [] σ st = .ok (.nx σ) st := by rw [exs]
theorem exs_app {r : List IS} : ∀ (l : List IS) (σ : Env) (st : Sto), exs T cf (l ++ r) σ st = (exs T cf l σ st).bind (kont T cf r)
  | [], σ, st => by simp
  | s :: l, σ, st => by
    rw [List.cons_append, exs_kont, exs_kont]
    cases ex T cf s σ st with
    | ok fl st1 => cases fl with
      | nx σ1 => simp [exs_app l]
      | rt v => rfl
    | exc => rfl
    | stuck => rfl
@[simp] theorem exs_set {t : Tg} {e : IE} {r : List IS} : exs T cf (.set t e :: r) σ st = (ev T cf e σ st).bind fun v st1 => (match assign t v σ with
      | some σ' => exs T cf r σ' st1
      | none => .stuck) := by
  rw [exs_kont, ex]
  cases ev T cf e σ st with
  | ok v st1 => simp only [bnd_ok]; cases assign t v σ <;> rfl
  | exc => rfl
  | stuck => rfl
@[simp] theorem exs_par {is : List Nat} {es : IEs} {r : List IS} : exs T cf (.par is es :: r) σ st = (evs T cf es σ st).bind fun vs st1 => (match pars is vs σ with
      | some σ' => exs T cf r σ' st1
      | none => .stuck) := by
  rw [exs_kont, ex]
  cases evs T cf es σ st with
  | ok v st1 => simp only [bnd_ok]; cases pars is v σ <;> rfl
  | exc => rfl
  | stuck => rfl
@[simp] theorem exs_expr {e : IE} {r : List IS} : exs T cf (.expr e :: r) σ st = (ev T cf e σ st).bind fun _ st1 => exs T cf r σ st1 := by
  rw [exs_kont, ex]
  cases ev T cf e σ st <;> rfl
@[simp] theorem exs_ret {e : IE} {r : List IS} : exs T cf (.ret e :: r) σ st = (ev T cf e σ st).bind fun v st1 => .ok (.rt v) st1 := by
  rw [exs_kont, ex]
  cases ev T cf e σ st <;> rfl
@[simp] theorem exs_retn {r : List IS} : exs T cf (.retn :: r) σ st = .ok (.rt .non) st := by rw [exs_kont, ex]; try rfl
@[simp] theorem exs_ife {c : IE} {a b r : List IS} : exs T cf (.ife c a b :: r) σ st = (test T cf c σ st).bind fun t st1 => if t then exs T cf (a ++ r) σ st1 else exs T cf (b ++ r) σ st1 := by
  rw [exs_kont, ex]
  cases test T cf c σ st with
  | ok t st1 => cases t <;> simp [exs_app]
  | exc => rfl
  | stuck => rfl
noncomputable def forS (T : Top) (cf : CallF) (t : Tg) (b : List IS) (x : PV) (σ : Env) (st : Sto) : Out Fl := match assign t x σ with
    | some σ2 => exs T cf b σ2 st
    | none => .stuck
@[simp] theorem exs_for {t : Tg} {it : II} {b r : List IS} : exs T cf (.for_ t it b :: r) σ st = (src T cf it σ st).bind fun s st1 => (forG s (forS T cf t b) turns 0 σ st1).bind (kont T cf r) := by
  rw [exs_kont, ex]
  cases src T cf it σ st with
  | ok s st1 =>
    simp only [bnd_ok]
    congr 2
  | exc => rfl
  | stuck => rfl
@[simp] theorem exs_while {c : IE} {b r : List IS} : exs T cf (.while_ c b :: r) σ st = (whileG (fun σ' st' => test T cf c σ' st') (fun σ' st' => exs T cf b σ' st') turns σ st).bind (kont T cf r) := by rw [exs_kont, ex]
@[simp] theorem exs_raise {c : Nat} {r : List IS} : exs T cf (.raise c :: r) σ st = .exc ⟨c, none⟩ st := by rw [exs_kont, ex]; try rfl
def limK (c : Nat) (st : Sto) : PV → Out Fl
  | .int i => if limOk i then .exc ⟨c, some (.int i)⟩ st else .stuck
  | _ => .stuck
@[simp] theorem limK_int {c : Nat} {i : Int} : limK c st (.int i) = if limOk i then .exc ⟨c, some (.int i)⟩ st else .stuck := rfl
@[simp] theorem exs_raiseA {c : Nat} {e : IE} {r : List IS} : exs T cf (.raiseA c e :: r) σ st = (ev T cf e σ st).bind fun v st1 => limK c st1 v := by
  rw [exs_kont, ex]
  cases ev T cf e σ st with
  | ok v st1 =>
    cases v with
    | int i =>
      simp only [bnd_ok, limK]
      split <;> rfl
    | _ => rfl
  | _ => rfl
@[simp] theorem exs_pass {r : List IS} : exs T cf (.pass :: r) σ st = exs T cf r σ st := by rw [exs_kont, ex]; try rfl
@[simp] theorem exs_setIx {o i e : IE} {r : List IS} : exs T cf (.setIx o i e :: r) σ st = (ev T cf e σ st).bind fun v st1 => (ev T cf o σ st1).bind fun x st2 => (ev T cf i σ st2).bind fun y st3 => (setL x y v st3).bind fun _ st4 => exs T cf r σ st4 := by
  rw [exs_kont, ex]
  cases ev T cf e σ st with
  | ok v st1 =>
    simp only [bnd_ok]
    cases ev T cf o σ st1 with
    | ok x st2 =>
      simp only [bnd_ok]
      cases ev T cf i σ st2 with
      | ok y st3 =>
        simp only [bnd_ok]
        cases setL x y v st3 <;> rfl
      | exc => rfl
      | stuck => rfl
    | exc => rfl
    | stuck => rfl
  | exc => rfl
  | stuck => rfl
@[simp] theorem exs_setD {o i e : IE} {r : List IS} : exs T cf (.setD o i e :: r) σ st = (ev T cf e σ st).bind fun v st1 => (ev T cf o σ st1).bind fun x st2 => (ev T cf i σ st2).bind fun y st3 => (setD T.kt x y v st3).bind fun _ st4 => exs T cf r σ st4 := by
  rw [exs_kont, ex]
  cases ev T cf e σ st with
  | ok v st1 =>
    simp only [bnd_ok]
    cases ev T cf o σ st1 with
    | ok x st2 =>
      simp only [bnd_ok]
      cases ev T cf i σ st2 with
      | ok y st3 =>
        simp only [bnd_ok]
        cases setD T.kt x y v st3 <;> rfl
      | exc => rfl
      | stuck => rfl
    | exc => rfl
    | stuck => rfl
  | exc => rfl
  | stuck => rfl
/-! calls -/
def fin : Out Fl → Out PV
  | .ok (.rt v) st => .ok v st
  | .ok (.nx _) st => .ok .non st
  | .exc e st => .exc e st
  | .stuck => .stuck
@[simp] theorem fin_rt {v : PV} : fin (.ok (.rt v) st) = .ok v st := rfl
@[simp] theorem fin_nx : fin (.ok (.nx σ) st) = .ok .non st := rfl
@[simp] theorem fin_ite {p : Prop} [Decidable p] {a b : Out Fl} : fin (if p then a else b) = if p then fin a else fin b := by split <;> rfl
@[simp] theorem bind_ite {α β : Type} {p : Prop} [Decidable p] {a b : Out α} {f : α → Sto → Out β} : (if p then a else b).bind f = if p then a.bind f else b.bind f := by split <;> rfl
@[simp] theorem fin_exc {e : Exn} : fin (.exc e st) = .exc e st := rfl
theorem runB_fin {d : Df} {vs : List PV} : runB T cf d vs st = if vs.length = d.ps then fin (exs T cf d.body (vs.map some ++ List.replicate (d.ns - d.ps) none) st) else .stuck := by
  unfold runB
  split
  · cases exs T cf d.body (vs.map some ++ List.replicate (d.ns - d.ps) none) st with
    | ok fl st1 => cases fl <;> rfl
    | exc => rfl
    | stuck => rfl
  · rfl
/-- a call, one level down -/
theorem call_at {n f ps ns : Nat} {body : List IS} {vs : List PV} (hn : 1 ≤ n) (h : D f = some ⟨ps, ns, body⟩) (hv : vs.length = ps) : callN T D n f vs st = fin (exs T (callN T D (n - 1)) body (vs.map some ++ List.replicate (ns - ps) none) st) := by
  obtain ⟨m, rfl⟩ : ∃ m, n = m + 1 := ⟨n - 1, by omega⟩
  rw [callN_succ h, runB_fin, if_pos hv]
  rfl
theorem pure_ok {f : Nat} {vs : List PV} {v : PV} {st2 : Sto} (hc : closeds vs = true) (h : cf f vs [] = .ok v st2) (hv : closed v = true) : pureCall f cf vs st = .ok v st := by
  simp only [pureCall, hc, h, hv, if_true]
@[simp] theorem assign_name {i : Nat} {v : PV} : assign (.name i) v σ = if i < σ.length then some (σ.set i (some v)) else none := by rw [assign]
/-! indices -/
theorem subs_nat {xs : List PV} {i : Nat} : subs (.tup xs) (.int i) st = may xs[i]? st := by
  by_cases h : i < xs.length
  · simp [subs, ixOf, h]
  · have : xs[i]? = none := List.getElem?_eq_none (by omega)
    simp [subs, ixOf, h, this]
theorem subs_natL {xs : List PV} {i : Nat} : subs (.lst xs) (.int i) st = may xs[i]? st := by
  by_cases h : i < xs.length
  · simp [subs, ixOf, h]
  · have : xs[i]? = none := List.getElem?_eq_none (by omega)
    simp [subs, ixOf, h, this]
theorem cut_at {α : Type} {xs : List α} {a b : Int} (i j : Nat) (ha : a = i) (hb : b = i + j) : cut xs (some a) (some b) = (xs.drop i).take j := by
  subst ha hb
  have e1 : ¬ ((i : Int) < 0) := by omega
  have e2 : ¬ ((i : Int) + j < 0) := by omega
  have e3 : ((i : Int) + j).toNat = i + j := by omega
  simp only [cut, cutIx, e1, e2, if_false, e3, Int.toNat_natCast]
  by_cases h : i ≤ xs.length
  · have : min i xs.length = i := by omega
    rw [this]
    by_cases h2 : i + j ≤ xs.length
    · have : min (i + j) xs.length - i = j := by omega
      rw [this]
    · have : min (i + j) xs.length - i = xs.length - i := by omega
      rw [this, List.take_of_length_le (by simp), List.take_of_length_le (by simp; omega)]
  · have : min i xs.length = xs.length := by omega
    rw [this]
    simp
    omega
theorem cut_from {α : Type} {xs : List α} {a : Int} (i : Nat) (ha : a = i) : cut xs (some a) none = xs.drop i := by
  subst ha
  have e1 : ¬ ((i : Int) < 0) := by omega
  simp only [cut, cutIx, e1, if_false, Int.toNat_natCast]
  by_cases h : i ≤ xs.length
  · have : min i xs.length = i := by omega
    rw [this, List.take_of_length_le (by simp)]
  · have : min i xs.length = xs.length := by omega
    rw [this]
    simp
    omega
theorem cut_to {α : Type} {xs : List α} {b : Int} (j : Nat) (hb : b = j) : cut xs none (some b) = xs.take j := by
  subst hb
  have e1 : ¬ ((j : Int) < 0) := by omega
  simp only [cut, cutIx, e1, if_false, Int.toNat_natCast, List.drop_zero, Nat.sub_zero]
  by_cases h : j ≤ xs.length
  · have : min j xs.length = j := by omega
    rw [this]
  · have : min j xs.length = xs.length := by omega
    rw [this, List.take_of_length_le (by simp), List.take_of_length_le (by omega)]
/-! data, == -/
@[simp] theorem eqv_non_non   : eqv (.non) (.non) = true := by first | rfl | rw [eqv]
@[simp] theorem eqv_non_bl  {b : Bool} : eqv (.non) (.bl b) = false := by first | rfl | rw [eqv]
@[simp] theorem eqv_non_int  {b : Int} : eqv (.non) (.int b) = false := by first | rfl | rw [eqv]
@[simp] theorem eqv_non_str  {b : List Nat} : eqv (.non) (.str b) = false := by first | rfl | rw [eqv]
@[simp] theorem eqv_non_tup  {b : List PV} : eqv (.non) (.tup b) = false := by first | rfl | rw [eqv]
@[simp] theorem eqv_non_lst  {b : List PV} : eqv (.non) (.lst b) = false := by first | rfl | rw [eqv]
@[simp] theorem eqv_bl_non {a : Bool}  : eqv (.bl a) (.non) = false := by first | rfl | rw [eqv]
@[simp] theorem eqv_bl_bl {a : Bool} {b : Bool} : eqv (.bl a) (.bl b) = (a == b) := by first | rfl | rw [eqv]
@[simp] theorem eqv_bl_int {a : Bool} {b : Int} : eqv (.bl a) (.int b) = ((if a then 1 else 0) == b) := by first | rfl | rw [eqv]
@[simp] theorem eqv_bl_str {a : Bool} {b : List Nat} : eqv (.bl a) (.str b) = false := by first | rfl | rw [eqv]
@[simp] theorem eqv_bl_tup {a : Bool} {b : List PV} : eqv (.bl a) (.tup b) = false := by first | rfl | rw [eqv]
@[simp] theorem eqv_bl_lst {a : Bool} {b : List PV} : eqv (.bl a) (.lst b) = false := by first | rfl | rw [eqv]
@[simp] theorem eqv_int_non {a : Int}  : eqv (.int a) (.non) = false := by first | rfl | rw [eqv]
@[simp] theorem eqv_int_bl {a : Int} {b : Bool} : eqv (.int a) (.bl b) = (a == (if b then 1 else 0)) := by first | rfl | rw [eqv]
@[simp] theorem eqv_int_int {a : Int} {b : Int} : eqv (.int a) (.int b) = (a == b) := by first | rfl | rw [eqv]
@[simp] theorem eqv_int_str {a : Int} {b : List Nat} : eqv (.int a) (.str b) = false := by first | rfl | rw [eqv]
@[simp] theorem eqv_int_tup {a : Int} {b : List PV} : eqv (.int a) (.tup b) = false := by first | rfl | rw [eqv]
@[simp] theorem eqv_int_lst {a : Int} {b : List PV} : eqv (.int a) (.lst b) = false := by first | rfl | rw [eqv]
@[simp] theorem eqv_str_non {a : List Nat}  : eqv (.str a) (.non) = false := by first | rfl | rw [eqv]
@[simp] theorem eqv_str_bl {a : List Nat} {b : Bool} : eqv (.str a) (.bl b) = false := by first | rfl | rw [eqv]
@[simp] theorem eqv_str_int {a : List Nat} {b : Int} : eqv (.str a) (.int b) = false := by first | rfl | rw [eqv]
@[simp] theorem eqv_str_str {a : List Nat} {b : List Nat} : eqv (.str a) (.str b) = (a == b) := by first | rfl | rw [eqv]
@[simp] theorem eqv_str_tup {a : List Nat} {b : List PV} : eqv (.str a) (.tup b) = false := by first | rfl | rw [eqv]
@[simp] theorem eqv_str_lst {a : List Nat} {b : List PV} : eqv (.str a) (.lst b) = false := by first | rfl | rw [eqv]
@[simp] theorem eqv_tup_non {a : List PV}  : eqv (.tup a) (.non) = false := by first | rfl | rw [eqv]
@[simp] theorem eqv_tup_bl {a : List PV} {b : Bool} : eqv (.tup a) (.bl b) = false := by first | rfl | rw [eqv]
@[simp] theorem eqv_tup_int {a : List PV} {b : Int} : eqv (.tup a) (.int b) = false := by first | rfl | rw [eqv]
@[simp] theorem eqv_tup_str {a : List PV} {b : List Nat} : eqv (.tup a) (.str b) = false := by first | rfl | rw [eqv]
@[simp] theorem eqv_tup_tup {a : List PV} {b : List PV} : eqv (.tup a) (.tup b) = eqvs a b := by first | rfl | rw [eqv]
@[simp] theorem eqv_tup_lst {a : List PV} {b : List PV} : eqv (.tup a) (.lst b) = false := by first | rfl | rw [eqv]
@[simp] theorem eqv_lst_non {a : List PV}  : eqv (.lst a) (.non) = false := by first | rfl | rw [eqv]
@[simp] theorem eqv_lst_bl {a : List PV} {b : Bool} : eqv (.lst a) (.bl b) = false := by first | rfl | rw [eqv]
@[simp] theorem eqv_lst_int {a : List PV} {b : Int} : eqv (.lst a) (.int b) = false := by first | rfl | rw [eqv]
@[simp] theorem eqv_lst_str {a : List PV} {b : List Nat} : eqv (.lst a) (.str b) = false := by first | rfl | rw [eqv]
@[simp] theorem eqv_lst_tup {a : List PV} {b : List PV} : eqv (.lst a) (.tup b) = false := by first | rfl | rw [eqv]
@[simp] theorem eqv_lst_lst {a : List PV} {b : List PV} : eqv (.lst a) (.lst b) = eqvs a b := by first | rfl | rw [eqv]
@[simp] theorem eqvs_nn : eqvs [] [] = true := rfl
@[simp] theorem eqvs_nc {a : PV} {xs : List PV} : eqvs [] (a :: xs) = false := rfl
@[simp] theorem eqvs_cn {a : PV} {xs : List PV} : eqvs (a :: xs) [] = false := rfl
@[simp] theorem eqvs_cc {a b : PV} {xs ys : List PV} : eqvs (a :: xs) (b :: ys) = (eqv a b && eqvs xs ys) := by rw [eqvs]
@[simp] theorem data_non : data .non = true := rfl
@[simp] theorem data_bl {a : Bool} : data (.bl a) = true := rfl
@[simp] theorem data_int {a : Int} : data (.int a) = true := rfl
@[simp] theorem data_str {a : List Nat} : data (.str a) = true := rfl
@[simp] theorem data_tup {a : List PV} : data (.tup a) = datas a := by rw [data]
@[simp] theorem data_lst {a : List PV} : data (.lst a) = datas a := by rw [data]
@[simp] theorem datas_nil : datas [] = true := rfl
@[simp] theorem datas_cons {a : PV} {xs : List PV} : datas (a :: xs) = (data a && datas xs) := by rw [datas]
@[simp] theorem dataN_non {n : Nat} : dataN n .non = true := by cases n <;> rfl
@[simp] theorem dataN_bl {n : Nat} {a : Bool} : dataN n (.bl a) = true := by cases n <;> rfl
@[simp] theorem dataN_int {n : Nat} {a : Int} : dataN n (.int a) = true := by cases n <;> rfl
@[simp] theorem dataN_str {n : Nat} {a : List Nat} : dataN n (.str a) = true := by cases n <;> rfl
@[simp] theorem dataN_tup {n : Nat} {a : List PV} : dataN (n + 1) (.tup a) = datasN n a := by rw [dataN]
@[simp] theorem dataN_lst {n : Nat} {a : List PV} : dataN (n + 1) (.lst a) = datasN n a := by rw [dataN]
@[simp] theorem datasN_nil {n : Nat} : datasN n [] = true := by cases n <;> rfl
@[simp] theorem datasN_cons {n : Nat} {a : PV} {xs : List PV} : datasN n (a :: xs) = (dataN n a && datasN n xs) := by rw [datasN]
theorem datas_all {xs : List PV} (h : ∀ x ∈ xs, data x = true) : datas xs = true := by
  induction xs with
  | nil => rfl
  | cons x xs ih => simp [h x, ih fun y hy => h y (List.mem_cons_of_mem _ hy)]
theorem datasN_all {n : Nat} {xs : List PV} (h : ∀ x ∈ xs, dataN n x = true) : datasN n xs = true := by
  induction xs with
  | nil => simp
  | cons x xs ih => simp [h x, ih fun y hy => h y (List.mem_cons_of_mem _ hy)]
@[simp] theorem ty_non_int  : tyIs (.non) .int = some false := rfl
@[simp] theorem ty_non_bool  : tyIs (.non) .bool = some false := rfl
@[simp] theorem ty_non_str  : tyIs (.non) .str = some false := rfl
@[simp] theorem ty_non_tuple  : tyIs (.non) .tuple = some false := rfl
@[simp] theorem ty_non_list  : tyIs (.non) .list = some false := rfl
@[simp] theorem ty_bl_int {b : Bool} : tyIs (.bl b) .int = some true := rfl
@[simp] theorem ty_bl_bool {b : Bool} : tyIs (.bl b) .bool = some true := rfl
@[simp] theorem ty_bl_str {b : Bool} : tyIs (.bl b) .str = some false := rfl
@[simp] theorem ty_bl_tuple {b : Bool} : tyIs (.bl b) .tuple = some false := rfl
@[simp] theorem ty_bl_list {b : Bool} : tyIs (.bl b) .list = some false := rfl
@[simp] theorem ty_int_int {b : Int} : tyIs (.int b) .int = some true := rfl
@[simp] theorem ty_int_bool {b : Int} : tyIs (.int b) .bool = some false := rfl
@[simp] theorem ty_int_str {b : Int} : tyIs (.int b) .str = some false := rfl
@[simp] theorem ty_int_tuple {b : Int} : tyIs (.int b) .tuple = some false := rfl
@[simp] theorem ty_int_list {b : Int} : tyIs (.int b) .list = some false := rfl
@[simp] theorem ty_str_int {b : List Nat} : tyIs (.str b) .int = some false := rfl
@[simp] theorem ty_str_bool {b : List Nat} : tyIs (.str b) .bool = some false := rfl
@[simp] theorem ty_str_str {b : List Nat} : tyIs (.str b) .str = some true := rfl
@[simp] theorem ty_str_tuple {b : List Nat} : tyIs (.str b) .tuple = some false := rfl
@[simp] theorem ty_str_list {b : List Nat} : tyIs (.str b) .list = some false := rfl
@[simp] theorem ty_tup_int {b : List PV} : tyIs (.tup b) .int = some false := rfl
@[simp] theorem ty_tup_bool {b : List PV} : tyIs (.tup b) .bool = some false := rfl
@[simp] theorem ty_tup_str {b : List PV} : tyIs (.tup b) .str = some false := rfl
@[simp] theorem ty_tup_tuple {b : List PV} : tyIs (.tup b) .tuple = some true := rfl
@[simp] theorem ty_tup_list {b : List PV} : tyIs (.tup b) .list = some false := rfl
@[simp] theorem ty_lst_int {b : List PV} : tyIs (.lst b) .int = some false := rfl
@[simp] theorem ty_lst_bool {b : List PV} : tyIs (.lst b) .bool = some false := rfl
@[simp] theorem ty_lst_str {b : List PV} : tyIs (.lst b) .str = some false := rfl
@[simp] theorem ty_lst_tuple {b : List PV} : tyIs (.lst b) .tuple = some false := rfl
@[simp] theorem ty_lst_list {b : List PV} : tyIs (.lst b) .list = some true := rfl
/-! built-ins -/
theorem slice_tup {xs : List PV} {lo hi : Option Int} : slice false (.tup xs) lo hi st = .ok (.tup (cut xs lo hi)) st := rfl
theorem slice_lst {m : Bool} {xs : List PV} {lo hi : Option Int} : slice m (.lst xs) lo hi st = newL m (cut xs lo hi) st := rfl
@[simp] theorem subs_3 {a b c : PV} {xs : List PV} : subs (.tup (a :: b :: c :: xs)) (.int 2) st = .ok c st := by
  have : (2 : Int) < (xs.length : Int) + 1 + 1 + 1 := by omega
  simp [subs, ixOf, this]
@[simp] theorem subs_2 {a b : PV} {xs : List PV} : subs (.tup (a :: b :: xs)) (.int 1) st = .ok b st := by
  have : (1 : Int) < (xs.length : Int) + 1 + 1 := by omega
  simp [subs, ixOf, this]
@[simp] theorem subs_1 {a : PV} {xs : List PV} : subs (.tup (a :: xs)) (.int 0) st = .ok a st := by
  have : (0 : Int) < (xs.length : Int) + 1 := by omega
  simp [subs, ixOf, this]
@[simp] theorem subs_l1 {a : PV} {xs : List PV} : subs (.lst (a :: xs)) (.int 0) st = .ok a st := by
  have : (0 : Int) < (xs.length : Int) + 1 := by omega
  simp [subs, ixOf, this]
@[simp] theorem add_ii {m : Bool} {i j : Int} : binop m .Add (.int i) (.int j) st = .ok (.int (i + j)) st := rfl
@[simp] theorem sub_ii {m : Bool} {i j : Int} : binop m .Sub (.int i) (.int j) st = .ok (.int (i - j)) st := rfl
@[simp] theorem add_tt {m : Bool} {i j : List PV} : binop m .Add (.tup i) (.tup j) st = newT (i ++ j) st := rfl
@[simp] theorem add_ll {m : Bool} {i j : List PV} : binop m .Add (.lst i) (.lst j) st = newL m (i ++ j) st := rfl
@[simp] theorem eq_str {x y : List Nat} : cmpop .Eq (.str x) (.str y) st = some (x == y) := rfl
@[simp] theorem ne_str {x y : List Nat} : cmpop .NotEq (.str x) (.str y) st = some (!(x == y)) := rfl
@[simp] theorem eq_int {x y : Int} : cmpop .Eq (.int x) (.int y) st = some (x == y) := by simp [cmpop, eqOk]
@[simp] theorem ne_int {x y : Int} : cmpop .NotEq (.int x) (.int y) st = some (!(x == y)) := by simp [cmpop, eqOk]
@[simp] theorem lt_int {x y : Int} : cmpop .Lt (.int x) (.int y) st = some (decide (x < y)) := rfl
@[simp] theorem le_int {x y : Int} : cmpop .LtE (.int x) (.int y) st = some (decide (x ≤ y)) := rfl
@[simp] theorem gt_int {x y : Int} : cmpop .Gt (.int x) (.int y) st = some (decide (y < x)) := rfl
@[simp] theorem ge_int {x y : Int} : cmpop .GtE (.int x) (.int y) st = some (decide (y ≤ x)) := rfl
@[simp] theorem lt_strs {x y : List Nat} : cmpop .Lt (.str x) (.str y) st = some (decide (x < y)) := rfl
@[simp] theorem gt_strs {x y : List Nat} : cmpop .Gt (.str x) (.str y) st = some (decide (y < x)) := rfl
@[simp] theorem sub_bb {m : Bool} {a b : Bool} : binop m .Sub (.bl a) (.bl b) st = .ok (.int ((if a then 1 else 0) - (if b then 1 else 0))) st := rfl
@[simp] theorem mul_ib {m : Bool} {i : Int} {b : Bool} : binop m .Mult (.int i) (.bl b) st = .ok (.int (i * (if b then 1 else 0))) st := rfl
@[simp] theorem is_non {x : PV} : cmpop .Is x .non st = isSame x .non := rfl
@[simp] theorem isnot_non {x : PV} : cmpop .IsNot x .non st = (isSame x .non).map (!·) := rfl
@[simp] theorem is_bl {a b : Bool} : cmpop .Is (.bl a) (.bl b) st = some (a == b) := rfl
@[simp] theorem isnot_bl {a b : Bool} : cmpop .IsNot (.bl a) (.bl b) st = some (!(a == b)) := rfl
/-- x in a row of data -/
theorem in_tup {x : PV} {xs : List PV} (h1 : dataN deep x = true) (h2 : datas xs = true) : cmpop .In x (.tup xs) st = some (xs.any fun z => eqv z x) := by simp [cmpop, isIn, isIn2, h1, h2]
theorem in_lst {x : PV} {xs : List PV} (h1 : dataN deep x = true) (h2 : datas xs = true) : cmpop .In x (.lst xs) st = some (xs.any fun z => eqv z x) := by simp [cmpop, isIn, isIn2, h1, h2]
theorem nin_tup {x : PV} {xs : List PV} (h1 : dataN deep x = true) (h2 : datas xs = true) : cmpop .NotIn x (.tup xs) st = some (!xs.any fun z => eqv z x) := by simp [cmpop, isIn, isIn2, h1, h2]
theorem nin_lst {x : PV} {xs : List PV} (h1 : dataN deep x = true) (h2 : datas xs = true) : cmpop .NotIn x (.lst xs) st = some (!xs.any fun z => eqv z x) := by simp [cmpop, isIn, isIn2, h1, h2]
@[simp] theorem in_strs {x : List Nat} {xs : List PV} (h2 : datas xs = true) : cmpop .In (.str x) (.tup xs) st = some (xs.any fun z => eqv z (.str x)) := in_tup (by simp) h2
@[simp] theorem nin_strs {x : List Nat} {xs : List PV} (h2 : datas xs = true) : cmpop .NotIn (.str x) (.tup xs) st = some (!xs.any fun z => eqv z (.str x)) := nin_tup (by simp) h2
@[simp] theorem in_sign {c : Nat} {t : List Nat} : cmpop .In (.str [c]) (.str t) st = some (t.elem c) := rfl
theorem eq_dat {a b : PV} (h1 : dataN deep (rd st a) = true) (h2 : data (rd st b) = true) : cmpop .Eq a b st = some (eqv (rd st a) (rd st b)) := by simp [cmpop, eqOk, h1, h2]
theorem ne_dat {a b : PV} (h1 : dataN deep (rd st a) = true) (h2 : data (rd st b) = true) : cmpop .NotEq a b st = some (!eqv (rd st a) (rd st b)) := by simp [cmpop, eqOk, h1, h2]
@[simp] theorem len_tup {xs : List PV} : builtin .len [.tup xs] st = .ok (.int xs.length) st := rfl
@[simp] theorem len_lst {xs : List PV} : builtin .len [.lst xs] st = .ok (.int xs.length) st := rfl
theorem len_str {x : List Nat} (h : x.length ≤ line) : builtin .len [.str x] st = .ok (.int x.length) st := by simp [builtin, bLen, h]
@[simp] theorem list_tup {m : Bool} {xs : List PV} : builtin (.list m) [.tup xs] st = newL m xs st := rfl
@[simp] theorem list_lst {m : Bool} {xs : List PV} : builtin (.list m) [.lst xs] st = newL m xs st := rfl
@[simp] theorem tuple_tup {xs : List PV} : builtin .tuple [.tup xs] st = .ok (.tup xs) st := rfl
@[simp] theorem tuple_lst {xs : List PV} : builtin .tuple [.lst xs] st = newT xs st := rfl
@[simp] theorem max_ii {i j : Int} : builtin .max2 [.int i, .int j] st = .ok (.int (if j > i then j else i)) st := rfl
@[simp] theorem min_ii {i j : Int} : builtin .min2 [.int i, .int j] st = .ok (.int (if j < i then j else i)) st := rfl
@[simp] theorem int_i {i : Int} : builtin .int [.int i] st = .ok (.int i) st := rfl
theorem newL_ok {xs : List PV} (h : xs.length ≤ line) : newL false xs st = .ok (.lst xs) st := by simp [newL, h]
theorem newT_ok {xs : List PV} (h : xs.length ≤ line) : newT xs st = .ok (.tup xs) st := by simp [newT, h]
theorem boolsOf_map {α : Type} {xs : List α} {f : α → Bool} : boolsOf (xs.map fun x => .bl (f x)) = some (xs.map f) := by
  induction xs with
  | nil => rfl
  | cons x xs ih => simp [boolsOf, ih]
@[simp] theorem all_map {α : Type} {xs : List α} {f : α → Bool} : builtin .all [.lst (xs.map fun x => .bl (f x))] st = .ok (.bl (xs.all f)) st := by
  show bAll st (.lst (xs.map fun x => .bl (f x))) = _
  simp only [bAll, boolsOf_map]
  congr 2
  rw [List.all_map]
  rfl
@[simp] theorem any_map {α : Type} {xs : List α} {f : α → Bool} : builtin .any [.lst (xs.map fun x => .bl (f x))] st = .ok (.bl (xs.any f)) st := by
  show bAny st (.lst (xs.map fun x => .bl (f x))) = _
  simp only [bAny, boolsOf_map]
  congr 2
  rw [List.any_map]
  rfl
theorem intsOf_map {α : Type} {xs : List α} {f : α → Int} : intsOf (xs.map fun x => .int (f x)) = some (xs.map f) := by
  induction xs with
  | nil => rfl
  | cons x xs ih => simp [intsOf, ih]
@[simp] theorem sum_map {α : Type} {xs : List α} {f : α → Int} : builtin .sum [.lst (xs.map fun x => .int (f x))] st = .ok (.int (xs.map f).sum) st := by
  show bSum st (.lst (xs.map fun x => .int (f x))) = _
  simp only [bSum, intsOf_map]
/-! over a row's image -/
theorem compG_of {α : Type} {step : PV → Sto → Out (Option PV)} {xs : List α} (e f : α → PV) (hl : xs.length < turns) (h : ∀ x ∈ xs, step (e x) st = .ok (some (f x)) st) : compG (.items (xs.map e)) step turns 0 [] st = .ok (xs.map f) st := by
  rw [compG_items (by simpa using hl)]
  clear hl
  induction xs with
  | nil => rfl
  | cons x xs ih => simp [compL, h x, ih fun y hy => h y (List.mem_cons_of_mem _ hy)]
theorem compG_ofF {α : Type} {step : PV → Sto → Out (Option PV)} {xs : List α} (e : α → PV) (f : α → Option PV) (hl : xs.length < turns) (h : ∀ x ∈ xs, step (e x) st = .ok (f x) st) : compG (.items (xs.map e)) step turns 0 [] st = .ok (xs.filterMap f) st := by
  rw [compG_items (by simpa using hl)]
  clear hl
  induction xs with
  | nil => rfl
  | cons x xs ih =>
    have ih' := ih fun y hy => h y (List.mem_cons_of_mem _ hy)
    cases hf : f x with
    | none => simp [compL, h x, ih', hf]
    | some y => simp [compL, h x, ih', hf]
theorem line_of {n : Nat} (h : n < turns) : n ≤ line := by
  have := turns_line
  omega
/-! what a loop comes to, by its value's name -/
theorem comp_eq {s : Src} {step : PV → Sto → Out (Option PV)} {xs : List PV} {o : Out (List PV)} (hX : compG s step turns 0 [] st = o) (I : Nat → List PV → Sto → Prop)
    (hget : ∀ i acc st, i ≤ xs.length → I i acc st → s.get st i = some xs[i]?)
    (hstep : ∀ i x acc st, xs[i]? = some x → I i acc st → ∃ o st', step x st = .ok o st' ∧ (match o with
      | some y => I (i + 1) (acc ++ [y]) st'
      | none => I (i + 1) acc st')) (hl : xs.length < turns) (h0 : I 0 [] st) : ∃ ys st', o = .ok ys st' ∧ I xs.length ys st' ∧ ys.length ≤ xs.length := by
  obtain ⟨ys, st', h1, h2, h3⟩ := comp_inv I hget hstep hl h0
  exact ⟨ys, st', hX.symm.trans h1, h2, h3⟩
/-- the same, the items standing still -/
theorem comp_eqI {step : PV → Sto → Out (Option PV)} {xs : List PV} {o : Out (List PV)} (hX : compG (.items xs) step turns 0 [] st = o) (I : Nat → List PV → Sto → Prop)
    (hstep : ∀ i x acc st, xs[i]? = some x → I i acc st → ∃ o st', step x st = .ok o st' ∧ (match o with
      | some y => I (i + 1) (acc ++ [y]) st'
      | none => I (i + 1) acc st')) (hl : xs.length < turns) (h0 : I 0 [] st) : ∃ ys st', o = .ok ys st' ∧ I xs.length ys st' ∧ ys.length ≤ xs.length :=
  comp_eq hX I (fun _ _ _ _ _ => rfl) hstep hl h0
theorem for_eq {s : Src} {step : PV → Env → Sto → Out Fl} {xs : List PV} {o : Out Fl} (hX : forG s step turns 0 σ st = o) (I : Nat → Env → Sto → Prop) (R : PV → Sto → Prop)
    (hget : ∀ i σ st, i ≤ xs.length → I i σ st → s.get st i = some xs[i]?)
    (hstep : ∀ i x σ st, xs[i]? = some x → I i σ st → ∃ fl st', step x σ st = .ok fl st' ∧ (match fl with
      | .nx σ' => I (i + 1) σ' st'
      | .rt v => R v st')) (hl : xs.length < turns) (h0 : I 0 σ st) :
    ∃ fl st', o = .ok fl st' ∧ (match fl with
      | .nx σ' => I xs.length σ' st'
      | .rt v => R v st') := by
  obtain ⟨fl, st', h1, h2⟩ := for_inv I R hget hstep hl h0
  exact ⟨fl, st', hX.symm.trans h1, h2⟩
theorem for_eqI {step : PV → Env → Sto → Out Fl} {xs : List PV} {o : Out Fl} (hX : forG (.items xs) step turns 0 σ st = o) (I : Nat → Env → Sto → Prop)
    (hstep : ∀ i x σ st, xs[i]? = some x → I i σ st → ∃ σ' st', step x σ st = .ok (.nx σ') st' ∧ I (i + 1) σ' st') (hl : xs.length < turns) (h0 : I 0 σ st) :
    ∃ σ' st', o = .ok (.nx σ') st' ∧ I xs.length σ' st' := by
  obtain ⟨σ', st', h1, h2⟩ := for_inv' (s := .items xs) (xs := xs) I (fun _ _ _ _ _ => rfl) hstep hl h0
  exact ⟨σ', st', hX.symm.trans h1, h2⟩
theorem while_eq {c : Env → Sto → Out Bool} {step : Env → Sto → Out Fl} {o : Out Fl} (hX : whileG c step turns σ st = o) (I : Nat → Env → Sto → Prop) (Q : Env → Sto → Prop)
    (h : ∀ m σ st, I m σ st → (∃ st1, c σ st = .ok false st1 ∧ Q σ st1) ∨ ∃ st1 σ' st', c σ st = .ok true st1 ∧ step σ st1 = .ok (.nx σ') st' ∧ ∃ m', m' < m ∧ I m' σ' st')
    (m : Nat) (hm : m < turns) (h0 : I m σ st) : ∃ σ' st', o = .ok (.nx σ') st' ∧ Q σ' st' := by
  obtain ⟨fl, st', h1, h2⟩ := while_inv I Q (fun _ _ => False) (fun m σ st hI => by
    rcases h m σ st hI with h | ⟨st1, σ', st', h1, h2, h3⟩
    · exact .inl h
    · exact .inr ⟨st1, _, st', h1, h2, h3⟩) turns m σ st hm h0
  cases fl with
  | nx σ' => exact ⟨σ', st', hX.symm.trans h1, h2⟩
  | rt v => exact h2.elim
@[simp] theorem rangeL_len {lo : Int} {n : Nat} : (rangeL lo n).length = n := by simp [rangeL]
theorem rangeL_get {lo : Int} {n i : Nat} {x : PV} (h : (rangeL lo n)[i]? = some x) : x = .int (lo + i) ∧ i < n := by
  unfold rangeL at h
  rw [List.getElem?_map, Option.map_eq_some_iff] at h
  obtain ⟨j, hj, rfl⟩ := h
  obtain ⟨h1, h2⟩ := List.getElem?_eq_some_iff.mp hj
  simp at h1 h2
  exact ⟨by rw [h2], h1⟩
theorem wide_of {i : Int} (h1 : -4611686018427387903 ≤ i) (h2 : i ≤ 4611686018427387903) : wide i = true := Nat.ble_eq_true_of_le (by omega)
theorem small_by {i : Int} (h1 : -18446744073709551615 ≤ i) (h2 : i ≤ 18446744073709551615) : small i = true := Nat.ble_eq_true_of_le (by omega)
@[simp] theorem assign_tup {ts : List Tg} {xs : List PV} : assign (.tup ts) (.tup xs) σ = assigns ts xs σ := by rw [assign]
@[simp] theorem assigns_nn : assigns [] [] σ = some σ := by rw [assigns]
@[simp] theorem assigns_cc {t : Tg} {ts : List Tg} {x : PV} {xs : List PV} : assigns (t :: ts) (x :: xs) σ = (assign t x σ).bind fun σ' => assigns ts xs σ' := by rw [assigns]
@[simp] theorem pars_nn : pars [] [] σ = some σ := rfl
@[simp] theorem pars_cc {i : Nat} {is : List Nat} {v : PV} {vs : List PV} : pars (i :: is) (v :: vs) σ = if i < σ.length then pars is vs (σ.set i (some v)) else none := rfl
@[simp] theorem forget_n : forget σ [] = σ := rfl
@[simp] theorem forget_c {i : Nat} {is : List Nat} : forget σ (i :: is) = (forget σ is).set i none := rfl
@[simp] theorem ex_ife {c : IE} {a b : List IS} : ex T cf (.ife c a b) σ st = (test T cf c σ st).bind fun t st1 => if t then exs T cf a σ st1 else exs T cf b σ st1 := by rw [ex]
/-- one statement, then the rest -/
theorem exs_step {s : IS} {r : List IS} {P Q : Env → Sto → Prop} (h1 : ∃ σ1 st1, ex T cf s σ st = .ok (.nx σ1) st1 ∧ Q σ1 st1) (h2 : ∀ σ1 st1, Q σ1 st1 → ∃ σ' st', exs T cf r σ1 st1 = .ok (.nx σ') st' ∧ P σ' st') : ∃ σ' st', exs T cf (s :: r) σ st = .ok (.nx σ') st' ∧ P σ' st' := by
  obtain ⟨σ1, st1, e, q⟩ := h1
  obtain ⟨σ', st', e2, p⟩ := h2 σ1 st1 q
  exact ⟨σ', st', by rw [exs_kont, e, bnd_ok, kont_nx, e2], p⟩
theorem ex_one {s : IS} {P : Env → Sto → Prop} (h1 : ∃ σ1 st1, ex T cf s σ st = .ok (.nx σ1) st1 ∧ P σ1 st1) : ∃ σ' st', exs T cf [s] σ st = .ok (.nx σ') st' ∧ P σ' st' := exs_step h1 fun σ1 st1 h => ⟨σ1, st1, by simp, h⟩
@[simp] theorem newT_0 : newT [] st = .ok (.tup []) st := rfl
@[simp] theorem newL_0 : newL false [] st = .ok (.lst []) st := rfl
@[simp] theorem newT_1 {a : PV} : newT [a] st = .ok (.tup [a]) st := rfl
@[simp] theorem newL_1 {a : PV} : newL false [a] st = .ok (.lst [a]) st := rfl
@[simp] theorem newT_2 {a b : PV} : newT [a, b] st = .ok (.tup [a, b]) st := rfl
@[simp] theorem newL_2 {a b : PV} : newL false [a, b] st = .ok (.lst [a, b]) st := rfl
@[simp] theorem newT_3 {a b c : PV} : newT [a, b, c] st = .ok (.tup [a, b, c]) st := rfl
@[simp] theorem newL_3 {a b c : PV} : newL false [a, b, c] st = .ok (.lst [a, b, c]) st := rfl
@[simp] theorem newT_4 {a b c d : PV} : newT [a, b, c, d] st = .ok (.tup [a, b, c, d]) st := rfl
@[simp] theorem newL_4 {a b c d : PV} : newL false [a, b, c, d] st = .ok (.lst [a, b, c, d]) st := rfl
@[simp] theorem newT_5 {a b c d e : PV} : newT [a, b, c, d, e] st = .ok (.tup [a, b, c, d, e]) st := rfl
@[simp] theorem newL_5 {a b c d e : PV} : newL false [a, b, c, d, e] st = .ok (.lst [a, b, c, d, e]) st := rfl
@[simp] theorem newT_6 {a b c d e f : PV} : newT [a, b, c, d, e, f] st = .ok (.tup [a, b, c, d, e, f]) st := rfl
@[simp] theorem newL_6 {a b c d e f : PV} : newL false [a, b, c, d, e, f] st = .ok (.lst [a, b, c, d, e, f]) st := rfl
@[simp] theorem newT_7 {a b c d e f g : PV} : newT [a, b, c, d, e, f, g] st = .ok (.tup [a, b, c, d, e, f, g]) st := rfl
@[simp] theorem newL_7 {a b c d e f g : PV} : newL false [a, b, c, d, e, f, g] st = .ok (.lst [a, b, c, d, e, f, g]) st := rfl
@[simp] theorem newT_8 {a b c d e f g h : PV} : newT [a, b, c, d, e, f, g, h] st = .ok (.tup [a, b, c, d, e, f, g, h]) st := rfl
@[simp] theorem newL_8 {a b c d e f g h : PV} : newL false [a, b, c, d, e, f, g, h] st = .ok (.lst [a, b, c, d, e, f, g, h]) st := rfl
@[simp] theorem newT_9 {a b c d e f g h i : PV} : newT [a, b, c, d, e, f, g, h, i] st = .ok (.tup [a, b, c, d, e, f, g, h, i]) st := rfl
@[simp] theorem newL_9 {a b c d e f g h i : PV} : newL false [a, b, c, d, e, f, g, h, i] st = .ok (.lst [a, b, c, d, e, f, g, h, i]) st := rfl
theorem ne_nilL {xs : List PV} (h : datas xs = true) : cmpop .NotEq (.lst xs) (.lst []) st = some (!xs.isEmpty) := by
  have e : eqv (.lst xs) (.lst []) = xs.isEmpty := by
    rw [eqv_lst_lst]
    cases xs <;> rfl
  simp [cmpop, eqOk, h, deep, e]
theorem eq_nilL {xs : List PV} (h : datas xs = true) : cmpop .Eq (.lst xs) (.lst []) st = some xs.isEmpty := by
  have e : eqv (.lst xs) (.lst []) = xs.isEmpty := by
    rw [eqv_lst_lst]
    cases xs <;> rfl
  simp [cmpop, eqOk, h, deep, e]
/-! one statement -/
@[simp] theorem ex_set {t : Tg} {e : IE} : ex T cf (.set t e) σ st = (ev T cf e σ st).bind fun v st1 => (match assign t v σ with
      | some σ' => .ok (.nx σ') st1
      | none => .stuck) := by rw [ex]; try rfl
@[simp] theorem ex_par {is : List Nat} {es : IEs} : ex T cf (.par is es) σ st = (evs T cf es σ st).bind fun vs st1 => (match pars is vs σ with
      | some σ' => .ok (.nx σ') st1
      | none => .stuck) := by rw [ex]; try rfl
@[simp] theorem ex_expr {e : IE} : ex T cf (.expr e) σ st = (ev T cf e σ st).bind fun _ st1 => .ok (.nx σ) st1 := by rw [ex]
@[simp] theorem ex_ret {e : IE} : ex T cf (.ret e) σ st = (ev T cf e σ st).bind fun v st1 => .ok (.rt v) st1 := by rw [ex]
@[simp] theorem ex_for {t : Tg} {it : II} {b : List IS} : ex T cf (.for_ t it b) σ st = (src T cf it σ st).bind fun s st1 => forG s (forS T cf t b) turns 0 σ st1 := by
  rw [ex]
  try rfl
@[simp] theorem ex_while {c : IE} {b : List IS} : ex T cf (.while_ c b) σ st = whileG (fun σ' st' => test T cf c σ' st') (fun σ' st' => exs T cf b σ' st') turns σ st := by rw [ex]
theorem exs_next {s : IS} {r : List IS} {σ1 : Env} {st1 : Sto} (h : ex T cf s σ st = .ok (.nx σ1) st1) : exs T cf (s :: r) σ st = exs T cf r σ1 st1 := by rw [exs_kont, h, bnd_ok, kont_nx]
/-- a call, its def shut -/
theorem call_sh {n f : Nat} {d : Df} {vs : List PV} (hn : 1 ≤ n) (h : D f = some d) (hv : vs.length = d.ps) : callN T D n f vs st = fin (exs T (callN T D (n - 1)) d.body (vs.map some ++ List.replicate (d.ns - d.ps) none) st) := by
  obtain ⟨m, rfl⟩ : ∃ m, n = m + 1 := ⟨n - 1, by omega⟩
  rw [callN_succ h, runB_fin, if_pos hv]
  rfl
/-- an env by its slots -/
theorem env_fn {n : Nat} {σ : Env} (h : σ.length = n) : ∃ f : Nat → Option PV, σ = (List.range n).map f := by
  refine ⟨fun i => (σ[i]?).getD none, ?_⟩
  apply List.ext_getElem
  · simp [h]
  · intro i h1 h2
    simp [h1]
@[simp] theorem eq_bl {a b : Bool} : cmpop .Eq (.bl a) (.bl b) st = some (a == b) := by simp [cmpop, eqOk]
@[simp] theorem ne_bl {a b : Bool} : cmpop .NotEq (.bl a) (.bl b) st = some (!(a == b)) := by simp [cmpop, eqOk]
end
end MQ

set_option linter.all false
set_option maxRecDepth 100000
namespace K52
open MP
def CS : List PV := [(.int 8), (.str [97,98,99,100,101,102,103,104,105,106,107,108,109,110,111,112,113,114,115,116,117,118,119,120,121,122,48,49,50,51,52,53,54,55,56,57]), (.str [97,98,99,100,101,102,103,104,105,106,107,108,109,110,111,112,113,114,115,116,117,118,119,120,121,122]), (.int 536870911), (.int (-536870912)), (.int 8), (.tup [(.str [112,97,105,114]), (.str [116,117,112,108,101])]), (.int 6), (.tup [(.str [97,116,111,109]), (.str [110,117,109,98,101,114]), (.str [112,114,111,99,101,115,115])]), (.int 120), (.int 16384), (.int 64), (.tup [(.int 64), (.int 128), (.int 256), (.int 512), (.int 1024), (.int 2048), (.int 4096), (.int 8192), (.int 16384)]), (.int 60), (.int 10000)]
def KT : List (List PV) := [[(.int 64), (.int 128), (.int 256), (.int 512), (.int 1024), (.int 2048), (.int 4096), (.int 8192), (.int 16384)], [(.str [112,97,105,114]), (.str [116,117,112,108,101])], [(.str [97,116,111,109]), (.str [110,117,109,98,101,114]), (.str [112,114,111,99,101,115,115])]]
def ERRS : Nat → List (Nat × Option (List Nat))
  | 0 => [(3, none), (4, some [104,101,97,112]), (5, some [119,111,114,100,115]), (2, some [118,97,108,117,101]), (1, some [110,117,109,98,101,114]), (6, some [114,111,111,109]), (0, some [111,116,104,101,114])]
  | _ => []
def UND : List (Nat × Nat) := [(0, 0), (1, 0), (1, 1), (2, 2), (2, 0), (3, 0), (3, 3), (4, 4), (4, 0), (5, 5), (5, 0), (6, 6), (6, 0)]
def T : Top := ⟨CS, KT, ERRS, fun a b => UND.elem (a, b)⟩
@[simp] theorem cs_0 : T.cs[0]? = some (.int 8) := rfl
@[simp] theorem cs_1 : T.cs[1]? = some (.str [97,98,99,100,101,102,103,104,105,106,107,108,109,110,111,112,113,114,115,116,117,118,119,120,121,122,48,49,50,51,52,53,54,55,56,57]) := rfl
@[simp] theorem cs_2 : T.cs[2]? = some (.str [97,98,99,100,101,102,103,104,105,106,107,108,109,110,111,112,113,114,115,116,117,118,119,120,121,122]) := rfl
@[simp] theorem cs_3 : T.cs[3]? = some (.int 536870911) := rfl
@[simp] theorem cs_4 : T.cs[4]? = some (.int (-536870912)) := rfl
@[simp] theorem cs_5 : T.cs[5]? = some (.int 8) := rfl
@[simp] theorem cs_6 : T.cs[6]? = some (.tup [(.str [112,97,105,114]), (.str [116,117,112,108,101])]) := rfl
@[simp] theorem cs_7 : T.cs[7]? = some (.int 6) := rfl
@[simp] theorem cs_8 : T.cs[8]? = some (.tup [(.str [97,116,111,109]), (.str [110,117,109,98,101,114]), (.str [112,114,111,99,101,115,115])]) := rfl
@[simp] theorem cs_9 : T.cs[9]? = some (.int 120) := rfl
@[simp] theorem cs_10 : T.cs[10]? = some (.int 16384) := rfl
@[simp] theorem cs_11 : T.cs[11]? = some (.int 64) := rfl
@[simp] theorem cs_12 : T.cs[12]? = some (.tup [(.int 64), (.int 128), (.int 256), (.int 512), (.int 1024), (.int 2048), (.int 4096), (.int 8192), (.int 16384)]) := rfl
@[simp] theorem cs_13 : T.cs[13]? = some (.int 60) := rfl
@[simp] theorem cs_14 : T.cs[14]? = some (.int 10000) := rfl
/-- is_whole -/
def d_0 : Df := ⟨3, 3, [(.ret (.bop true (.isi (.var 0) .int) (.cons (.not (.isi (.var 0) .bool)) (.cons (.chn .LtE .LtE (.var 1) (.var 0) (.var 2)) .nil))))]⟩
/-- is_tuple_of -/
def d_1 : Df := ⟨3, 3, [(.ret (.bop true (.isi (.var 0) .tuple) (.cons (.chn .LtE .LtE (.var 1) (.blt .len (.cons (.var 0) .nil)) (.var 2)) .nil)))]⟩
/-- is_text -/
def d_2 : Df := ⟨3, 4, [(.ife (.bop false (.not (.isi (.var 0) .str)) (.cons (.not (.chn .LtE .LtE (.con (.int 1)) (.blt .len (.cons (.var 0) .nil)) (.glo 0))) .nil)) [(.ret (.con (.bl false)))] []), (.ret (.bop true (.cmp .In (.idx (.var 0) (.con (.int 0))) (.var 1)) (.cons (.blt .all (.cons (.lc false [3] (.name 3) (.ev (.slc false (.var 0) (.con (.int 1)) .nop)) .nop (.cmp .In (.var 3) (.var 2))) .nil)) .nil)))]⟩
/-- is_word -/
def d_3 : Df := ⟨1, 1, [(.ret (.call 2 true (.cons (.var 0) (.cons (.glo 2) (.cons (.glo 1) .nil)))))]⟩
/-- is_headed -/
def d_4 : Df := ⟨3, 3, [(.ret (.bop true (.call 1 true (.cons (.var 0) (.cons (.var 1) (.cons (.var 2) .nil)))) (.cons (.isi (.idx (.var 0) (.con (.int 0))) .str) .nil)))]⟩
/-- fits_plain -/
def d_5 : Df := ⟨1, 1, [(.ife (.cmp .NotEq (.blt .len (.cons (.var 0) .nil)) (.con (.int 2))) [(.ret (.con (.bl false)))] []), (.ife (.cmp .Eq (.idx (.var 0) (.con (.int 0))) (.con (.str [110,117,109,98,101,114]))) [(.ret (.call 0 true (.cons (.idx (.var 0) (.con (.int 1))) (.cons (.glo 4) (.cons (.glo 3) .nil)))))] []), (.ife (.cmp .Eq (.idx (.var 0) (.con (.int 0))) (.con (.str [97,116,111,109]))) [(.ret (.call 3 true (.cons (.idx (.var 0) (.con (.int 1))) .nil)))] []), (.ret (.bop true (.cmp .Eq (.idx (.var 0) (.con (.int 0))) (.con (.str [112,114,111,99,101,115,115]))) (.cons (.call 0 true (.cons (.idx (.var 0) (.con (.int 1))) (.cons (.con (.int 0)) (.cons (.bin false .Sub (.glo 5) (.con (.int 1))) .nil)))) .nil)))]⟩
/-- need_whole -/
def d_6 : Df := ⟨3, 3, [(.ife (.not (.call 0 true (.cons (.var 0) (.cons (.var 1) (.cons (.var 2) .nil))))) [(.raise 1)] [])]⟩
/-- is_thing -/
def d_7 : Df := ⟨1, 1, [(.ret (.cmp .In (.idx (.var 0) (.con (.int 0))) (.glo 6)))]⟩
/-- is_count -/
def d_8 : Df := ⟨1, 1, [(.ret (.bop true (.call 4 true (.cons (.var 0) (.cons (.con (.int 2)) (.cons (.con (.int 2)) .nil)))) (.cons (.cmp .Eq (.idx (.var 0) (.con (.int 0))) (.con (.str [99,111,117,110,116]))) (.cons (.call 0 true (.cons (.idx (.var 0) (.con (.int 1))) (.cons (.con (.int 0)) (.cons (.glo 7) .nil)))) .nil))))]⟩
/-- long_at -/
def d_9 : Df := ⟨2, 2, [(.ret (.ife (.cmp .Eq (.idx (.var 1) (.con (.int 0))) (.con (.str [112,97,105,114]))) (.con (.int 2)) (.bin false .Add (.con (.int 1)) (.idx (.idx (.var 0) (.idx (.var 1) (.con (.int 1)))) (.con (.int 1))))))]⟩
/-- inner_at -/
def d_10 : Df := ⟨2, 2, [(.ife (.cmp .Eq (.idx (.var 1) (.con (.int 0))) (.con (.str [112,97,105,114]))) [(.ret (.slc false (.var 0) (.idx (.var 1) (.con (.int 1))) (.bin false .Add (.idx (.var 1) (.con (.int 1))) (.con (.int 2)))))] []), (.ret (.ife (.cmp .Eq (.idx (.var 1) (.con (.int 0))) (.con (.str [116,117,112,108,101]))) (.slc false (.var 0) (.bin false .Add (.idx (.var 1) (.con (.int 1))) (.con (.int 1))) (.bin false .Add (.bin false .Add (.idx (.var 1) (.con (.int 1))) (.con (.int 1))) (.idx (.idx (.var 0) (.idx (.var 1) (.con (.int 1)))) (.con (.int 1))))) (.tup .nil)))]⟩
/-- is_there -/
def d_11 : Df := ⟨2, 2, [(.ife (.not (.call 0 true (.cons (.idx (.var 1) (.con (.int 1))) (.cons (.con (.int 0)) (.cons (.bin false .Sub (.blt .len (.cons (.var 0) .nil)) (.con (.int 1))) .nil))))) [(.ret (.con (.bl false)))] []), (.ife (.cmp .Eq (.idx (.var 1) (.con (.int 0))) (.con (.str [112,97,105,114]))) [(.ret (.cmp .Lt (.bin false .Add (.idx (.var 1) (.con (.int 1))) (.con (.int 1))) (.blt .len (.cons (.var 0) .nil))))] []), (.ret (.bop true (.call 8 true (.cons (.idx (.var 0) (.idx (.var 1) (.con (.int 1)))) .nil)) (.cons (.cmp .Lt (.bin false .Add (.idx (.var 1) (.con (.int 1))) (.idx (.idx (.var 0) (.idx (.var 1) (.con (.int 1)))) (.con (.int 1)))) (.blt .len (.cons (.var 0) .nil))) .nil)))]⟩
/-- left_at -/
def d_12 : Df := ⟨3, 4, [(.ife (.not (.call 4 true (.cons (.var 1) (.cons (.con (.int 1)) (.cons (.con (.int 2)) .nil))))) [(.ret (.neg (.con (.int 1))))] []), (.ife (.cmp .Eq (.var 1) (.tup (.cons (.con (.str [110,105,108])) .nil))) [(.ret (.var 2))] []), (.ife (.cmp .In (.idx (.var 1) (.con (.int 0))) (.glo 8)) [(.ret (.ife (.call 5 true (.cons (.var 1) .nil)) (.var 2) (.neg (.con (.int 1)))))] []), (.ife (.bop false (.cmp .NotIn (.idx (.var 1) (.con (.int 0))) (.glo 6)) (.cons (.cmp .NotEq (.blt .len (.cons (.var 1) .nil)) (.con (.int 2))) (.cons (.not (.call 11 true (.cons (.var 0) (.cons (.var 1) .nil)))) .nil))) [(.ret (.neg (.con (.int 1))))] []), (.set (.name 2) (.bin false .Sub (.var 2) (.call 9 true (.cons (.var 0) (.cons (.var 1) .nil))))), (.for_ (.name 3) (.ev (.call 10 true (.cons (.var 0) (.cons (.var 1) .nil)))) [(.set (.name 2) (.ife (.cmp .GtE (.var 2) (.con (.int 0))) (.call 12 true (.cons (.var 0) (.cons (.var 3) (.cons (.var 2) .nil)))) (.neg (.con (.int 1)))))]), (.ret (.var 2))]⟩
/-- fits_word -/
def d_13 : Df := ⟨2, 2, [(.ret (.cmp .GtE (.call 12 true (.cons (.var 0) (.cons (.var 1) (.cons (.glo 9) .nil)))) (.con (.int 0))))]⟩
/-- fits_words -/
def d_14 : Df := ⟨3, 4, [(.ret (.bop true (.call 1 true (.cons (.var 1) (.cons (.con (.int 0)) (.cons (.var 2) .nil)))) (.cons (.blt .all (.cons (.lc false [3] (.name 3) (.ev (.var 1)) .nop (.call 13 true (.cons (.var 0) (.cons (.var 3) .nil)))) .nil)) .nil)))]⟩
/-- fits_room -/
def d_15 : Df := ⟨1, 1, [(.ret (.bop true (.call 0 true (.cons (.var 0) (.cons (.glo 11) (.cons (.glo 10) .nil)))) (.cons (.cmp .In (.var 0) (.glo 12)) .nil)))]⟩
/-- fits_heap -/
def d_16 : Df := ⟨1, 2, [(.ife (.bop false (.not (.call 1 true (.cons (.var 0) (.cons (.con (.int 2)) (.cons (.con (.int 2)) .nil))))) (.cons (.not (.call 15 true (.cons (.idx (.var 0) (.con (.int 1))) .nil))) (.cons (.not (.call 1 true (.cons (.idx (.var 0) (.con (.int 0))) (.cons (.con (.int 0)) (.cons (.idx (.var 0) (.con (.int 1))) .nil))))) .nil))) [(.ret (.con (.bl false)))] []), (.ret (.blt .all (.cons (.lc false [1] (.name 1) (.ev (.idx (.var 0) (.con (.int 0)))) .nop (.bop false (.call 8 true (.cons (.var 1) .nil)) (.cons (.call 13 true (.cons (.idx (.var 0) (.con (.int 0))) (.cons (.var 1) .nil))) .nil))) .nil)))]⟩
/-- room_for -/
def d_17 : Df := ⟨1, 2, [(.set (.name 1) (.glo 11)), (.while_ (.cmp .Lt (.var 1) (.var 0)) [(.set (.name 1) (.bin false .Mult (.con (.int 2)) (.var 1)))]), (.ret (.var 1))]⟩
/-- need_rooms -/
def d_18 : Df := ⟨1, 1, [(.ife (.cmp .Gt (.var 0) (.glo 10)) [(.raiseA 3 (.glo 10))] [])]⟩
/-- need_heap -/
def d_19 : Df := ⟨1, 1, [(.ife (.not (.call 16 true (.cons (.var 0) .nil))) [(.raise 4)] [])]⟩
/-- need_words -/
def d_20 : Df := ⟨3, 3, [(.ife (.not (.call 14 true (.cons (.idx (.var 0) (.con (.int 0))) (.cons (.var 1) (.cons (.var 2) .nil))))) [(.raise 5)] [])]⟩
/-- is_heap -/
def d_21 : Df := ⟨1, 1, [(.ret (.call 16 true (.cons (.var 0) .nil)))]⟩
/-- moved -/
def d_22 : Df := ⟨4, 4, [(.ife (.not (.call 7 true (.cons (.var 3) .nil))) [(.ret (.var 3))] []), (.ife (.din true (.var 3) (.var 1)) [(.setD (.var 1) (.var 3) (.blt .len (.cons (.var 2) .nil))), (.expr (.met .extend (.var 2) (.cons (.slc false (.var 0) (.idx (.var 3) (.con (.int 1))) (.bin false .Add (.idx (.var 3) (.con (.int 1))) (.call 9 true (.cons (.var 0) (.cons (.var 3) .nil))))) .nil)))] []), (.ret (.tup (.cons (.idx (.var 3) (.con (.int 0))) (.cons (.dix (.var 1) (.var 3)) .nil))))]⟩
/-- copied_with -/
def d_23 : Df := ⟨3, 8, [(.set (.tup [(.name 4), (.name 5), (.name 6)]) (.tup (.cons (.dct true) (.cons (.lst true .nil) (.cons (.con (.int 0)) .nil))))), (.set (.name 3) (.blt .tuple (.cons (.lc false [7] (.name 7) (.ev (.var 1)) .nop (.call 22 false (.cons (.idx (.var 0) (.con (.int 0))) (.cons (.var 4) (.cons (.var 5) (.cons (.var 7) .nil)))))) .nil))), (.while_ (.cmp .Lt (.var 6) (.blt .len (.cons (.var 5) .nil))) [(.ife (.cmp .NotEq (.idx (.idx (.var 5) (.var 6)) (.con (.int 0))) (.con (.str [99,111,117,110,116]))) [(.setIx (.var 5) (.var 6) (.call 22 false (.cons (.idx (.var 0) (.con (.int 0))) (.cons (.var 4) (.cons (.var 5) (.cons (.idx (.var 5) (.var 6)) .nil))))))] []), (.set (.name 6) (.bin false .Add (.var 6) (.con (.int 1))))]), (.ret (.tup (.cons (.tup (.cons (.blt .tuple (.cons (.var 5) .nil)) (.cons (.call 17 true (.cons (.bin false .Mult (.con (.int 2)) (.bin false .Add (.blt .len (.cons (.var 5) .nil)) (.var 2))) .nil)) .nil))) (.cons (.var 3) (.cons (.var 4) .nil)))))]⟩
/-- copied_in -/
def d_24 : Df := ⟨3, 3, [(.ret (.slc false (.call 23 false (.cons (.var 0) (.cons (.var 1) (.cons (.var 2) .nil)))) .nop (.con (.int 2))))]⟩
/-- need_copying -/
def d_25 : Df := ⟨3, 3, [(.expr (.call 19 true (.cons (.var 0) .nil))), (.expr (.call 20 true (.cons (.var 0) (.cons (.var 1) (.cons (.glo 13) .nil))))), (.expr (.call 6 true (.cons (.var 2) (.cons (.con (.int 0)) (.cons (.glo 14) .nil)))))]⟩
/-- copied -/
def d_26 : Df := ⟨3, 4, [(.expr (.call 25 true (.cons (.var 0) (.cons (.var 1) (.cons (.var 2) .nil))))), (.set (.name 3) (.call 24 true (.cons (.var 0) (.cons (.var 1) (.cons (.var 2) .nil))))), (.expr (.call 18 true (.cons (.idx (.idx (.var 3) (.con (.int 0))) (.con (.int 1))) .nil))), (.ret (.var 3))]⟩
/-- _law_cup -/
def d_27 : Df := ⟨1, 2, [(.set (.name 1) (.blt .abs (.cons (.idx (.bin false .Add (.blt (.list false) (.cons (.var 0) .nil)) (.lst false (.cons (.con (.int 0)) .nil))) (.con (.int 0))) .nil))), (.ret (.lst true (.cons (.ife (.cmp .GtE (.var 1) (.bin false .Pow (.con (.int 10)) (.con (.int 18)))) (.bin false .FloorDiv (.var 1) (.con (.int 109))) (.con (.int 0))) (.cons (.bin false .Add (.bin false .Mod (.blt .int (.cons (.bin false .Add (.bin false .Mult (.var 1) (.con (.int 347))) (.con (.int 2767))) .nil)) (.con (.int 2077503049))) (.con (.int 223))) .nil))))]⟩
/-- _law_roll -/
def d_28 : Df := ⟨2, 4, [(.ife (.cmp .Gt (.idx (.var 0) (.con (.int 0))) (.con (.int 0))) [(.set (.name 3) (.bin false .Mod (.blt .int (.cons (.idx (.var 0) (.con (.int 0))) .nil)) (.var 1))), (.setIx (.var 0) (.con (.int 0)) (.bin false .FloorDiv (.idx (.var 0) (.con (.int 0))) (.var 1))), (.ret (.var 3))] []), (.setIx (.var 0) (.con (.int 1)) (.bin false .Mod (.blt .int (.cons (.bin false .Add (.bin false .Mult (.idx (.var 0) (.con (.int 1))) (.con (.int 31153))) (.con (.int 8101))) .nil)) (.con (.int 2147483543)))), (.set (.name 2) (.bin false .Mod (.blt .int (.cons (.bin false .Mult (.idx (.var 0) (.con (.int 1))) (.bin false .Add (.idx (.var 0) (.con (.int 1))) (.con (.int 281)))) .nil)) (.con (.int 2147483587)))), (.ret (.bin false .Mod (.blt .int (.cons (.bin false .FloorDiv (.var 2) (.con (.int 881))) .nil)) (.var 1)))]⟩
/-- _law_some -/
def d_29 : Df := ⟨2, 2, [(.ret (.idx (.var 1) (.call 28 false (.cons (.var 0) (.cons (.blt .len (.cons (.var 1) .nil)) .nil)))))]⟩
/-- _law_words_in -/
def d_30 : Df := ⟨2, 2, [(.ife (.cmp .Eq (.idx (.var 1) (.con (.int 0))) (.con (.str [112,97,105,114]))) [(.ret (.blt (.list false) (.cons (.slc false (.var 0) (.idx (.var 1) (.con (.int 1))) (.bin false .Add (.idx (.var 1) (.con (.int 1))) (.con (.int 2)))) .nil)))] []), (.ret (.ife (.cmp .Eq (.idx (.var 1) (.con (.int 0))) (.con (.str [116,117,112,108,101]))) (.blt (.list false) (.cons (.slc false (.var 0) (.bin false .Add (.idx (.var 1) (.con (.int 1))) (.con (.int 1))) (.bin false .Add (.bin false .Add (.idx (.var 1) (.con (.int 1))) (.con (.int 1))) (.idx (.idx (.var 0) (.idx (.var 1) (.con (.int 1)))) (.con (.int 1))))) .nil)) (.lst false .nil)))]⟩
/-- _law_read -/
def d_31 : Df := ⟨2, 4, [(.set (.name 2) (.lc false [3] (.name 3) (.ev (.call 30 true (.cons (.var 0) (.cons (.var 1) .nil)))) .nop (.call 31 true (.cons (.var 0) (.cons (.var 3) .nil))))), (.ife (.cmp .Eq (.idx (.var 1) (.con (.int 0))) (.con (.str [116,117,112,108,101]))) [(.ret (.tup (.cons (.con (.str [116,117,112,108,101])) (.cons (.blt .tuple (.cons (.var 2) .nil)) .nil))))] []), (.ret (.ife (.cmp .Eq (.idx (.var 1) (.con (.int 0))) (.con (.str [112,97,105,114]))) (.tup (.cons (.con (.str [112,97,105,114])) (.cons (.idx (.var 2) (.con (.int 0))) (.cons (.idx (.var 2) (.con (.int 1))) .nil)))) (.var 1)))]⟩
/-- _law_long -/
def d_32 : Df := ⟨2, 2, [(.ret (.ife (.cmp .Eq (.idx (.var 1) (.con (.int 0))) (.con (.str [112,97,105,114]))) (.con (.int 2)) (.ife (.cmp .Eq (.idx (.var 1) (.con (.int 0))) (.con (.str [116,117,112,108,101]))) (.bin false .Add (.con (.int 1)) (.idx (.idx (.var 0) (.idx (.var 1) (.con (.int 1)))) (.con (.int 1)))) (.con (.int 0)))))]⟩
/-- _law_extent -/
def d_33 : Df := ⟨2, 3, [(.ret (.bin false .Add (.call 32 true (.cons (.var 0) (.cons (.var 1) .nil))) (.blt .sum (.cons (.lc false [2] (.name 2) (.ev (.call 30 true (.cons (.var 0) (.cons (.var 1) .nil)))) .nop (.call 33 true (.cons (.var 0) (.cons (.var 2) .nil)))) .nil))))]⟩
/-- _law_met -/
def d_34 : Df := ⟨2, 5, [(.par [2, 3] (.cons (.lst true .nil) (.cons (.blt (.list false) (.cons (.var 1) .nil)) .nil))), (.while_ (.cmp .NotEq (.var 3) (.lst false .nil)) [(.par [4, 3] (.cons (.idx (.var 3) (.con (.int 0))) (.cons (.slc false (.var 3) (.con (.int 1)) .nop) .nil))), (.ife (.bop true (.cmp .In (.idx (.var 4) (.con (.int 0))) (.tup (.cons (.con (.str [116,117,112,108,101])) (.cons (.con (.str [112,97,105,114])) .nil)))) (.cons (.cmp .NotIn (.var 4) (.var 2)) .nil)) [(.expr (.met .append (.var 2) (.cons (.var 4) .nil))), (.set (.name 3) (.bin false .Add (.var 3) (.call 30 true (.cons (.var 0) (.cons (.var 4) .nil)))))] [])]), (.ret (.var 2))]⟩
/-- _law_room -/
def d_35 : Df := ⟨1, 3, [(.set (.name 1) (.lc false [2] (.name 2) (.ev (.tup (.cons (.con (.int 64)) (.cons (.con (.int 128)) (.cons (.con (.int 256)) (.cons (.con (.int 512)) (.cons (.con (.int 1024)) (.cons (.con (.int 2048)) (.cons (.con (.int 4096)) (.cons (.con (.int 8192)) (.cons (.con (.int 16384)) .nil))))))))))) (.cmp .GtE (.var 2) (.var 0)) (.var 2))), (.ret (.idx (.bin false .Add (.var 1) (.lst false (.cons (.con .non) .nil))) (.con (.int 0))))]⟩
/-- _law_plain -/
def d_36 : Df := ⟨1, 2, [(.set (.name 1) (.lst false (.cons (.tup (.cons (.con (.str [110,117,109,98,101,114])) (.cons (.con (.int 0)) .nil))) (.cons (.tup (.cons (.con (.str [110,117,109,98,101,114])) (.cons (.con (.int 5)) .nil))) (.cons (.tup (.cons (.con (.str [110,117,109,98,101,114])) (.cons (.neg (.con (.int 7))) .nil))) (.cons (.tup (.cons (.con (.str [97,116,111,109])) (.cons (.con (.str [104,105])) .nil))) (.cons (.tup (.cons (.con (.str [97,116,111,109])) (.cons (.con (.str [97])) .nil))) (.cons (.tup (.cons (.con (.str [112,114,111,99,101,115,115])) (.cons (.con (.int 2)) .nil))) (.cons (.tup (.cons (.con (.str [110,105,108])) .nil)) .nil))))))))), (.ret (.call 29 false (.cons (.var 0) (.cons (.var 1) .nil))))]⟩
/-- _law_heap -/
def d_37 : Df := ⟨2, 10, [(.set (.tup [(.name 3), (.name 4)]) (.tup (.cons (.lst false .nil) (.cons (.lc false [2] (.name 2) (.rng1 (.con (.int 3))) .nop (.call 36 false (.cons (.var 0) .nil))) .nil)))), (.for_ (.name 2) (.rng1 (.var 1)) [(.par [5, 6] (.cons (.lc false [9] (.name 9) (.rng1 (.call 28 false (.cons (.var 0) (.cons (.con (.int 4)) .nil)))) .nop (.call 29 false (.cons (.var 0) (.cons (.bin false .Add (.slc false (.var 4) (.neg (.con (.int 6))) .nop) (.var 4)) .nil)))) (.cons (.blt .len (.cons (.var 3) .nil)) .nil))), (.ife (.bop false (.cmp .Eq (.call 28 false (.cons (.var 0) (.cons (.con (.int 3)) .nil))) (.con (.int 0))) (.cons (.cmp .Lt (.blt .len (.cons (.var 5) .nil)) (.con (.int 2))) .nil)) [(.set (.name 5) (.slc false (.bin false .Add (.var 5) (.lst false (.cons (.call 36 false (.cons (.var 0) .nil)) (.cons (.call 36 false (.cons (.var 0) .nil)) .nil)))) .nop (.con (.int 2)))), (.par [7, 8] (.cons (.tup (.cons (.con (.str [112,97,105,114])) (.cons (.var 6) .nil))) (.cons (.var 5) .nil)))] [(.par [7, 8] (.cons (.tup (.cons (.con (.str [116,117,112,108,101])) (.cons (.var 6) .nil))) (.cons (.bin false .Add (.lst false (.cons (.tup (.cons (.con (.str [99,111,117,110,116])) (.cons (.blt .len (.cons (.var 5) .nil)) .nil))) .nil)) (.var 5)) .nil)))]), (.ife (.cmp .LtE (.blt .sum (.cons (.lc false [9] (.name 9) (.ev (.var 5)) .nop (.call 33 true (.cons (.var 3) (.cons (.var 9) .nil)))) .nil)) (.con (.int 50))) [(.set (.tup [(.name 3), (.name 4)]) (.tup (.cons (.bin false .Add (.var 3) (.var 8)) (.cons (.bin false .Add (.var 4) (.lst false (.cons (.var 7) .nil))) .nil))))] []), (.ife (.cmp .Eq (.call 28 false (.cons (.var 0) (.cons (.con (.int 6)) .nil))) (.con (.int 0))) [(.set (.name 3) (.bin false .Add (.var 3) (.lst false (.cons (.call 29 false (.cons (.var 0) (.cons (.lst false (.cons (.tup (.cons (.con (.str [99,111,117,110,116])) (.cons (.con (.int 2)) .nil))) (.cons (.tup (.cons (.con (.str [110,105,108])) .nil)) (.cons (.idx (.var 4) (.neg (.con (.int 1)))) .nil)))) .nil))) .nil))))] [])]), (.ret (.tup (.cons (.tup (.cons (.blt .tuple (.cons (.var 3) .nil)) (.cons (.call 29 false (.cons (.var 0) (.cons (.lst false (.cons (.con (.int 256)) (.cons (.con (.int 512)) .nil))) .nil))) .nil))) (.cons (.var 4) .nil))))]⟩
/-- _law_roots -/
def d_38 : Df := ⟨2, 3, [(.ret (.blt .tuple (.cons (.lc false [2] (.name 2) (.rng1 (.call 28 false (.cons (.var 0) (.cons (.con (.int 5)) .nil)))) .nop (.call 29 false (.cons (.var 0) (.cons (.var 1) .nil)))) .nil)))]⟩
/-- _law_copy -/
def d_39 : Df := ⟨3, 12, [(.set (.tup [(.name 6), (.name 7), (.name 8), (.name 9)]) (.tup (.cons (.idx (.var 0) (.con (.int 0))) (.cons (.call 34 false (.cons (.idx (.var 0) (.con (.int 0))) (.cons (.var 1) .nil))) (.cons (.dct true) (.cons (.con (.int 0)) .nil)))))), (.for_ (.name 3) (.ev (.var 7)) [(.setD (.var 8) (.var 3) (.var 9)), (.set (.name 9) (.bin false .Add (.var 9) (.call 32 true (.cons (.var 6) (.cons (.var 3) .nil)))))]), (.set (.name 4) (.lst false .nil)), (.for_ (.name 3) (.ev (.var 7)) [(.set (.name 10) (.ife (.cmp .Eq (.idx (.var 3) (.con (.int 0))) (.con (.str [116,117,112,108,101]))) (.lst false (.cons (.idx (.var 6) (.idx (.var 3) (.con (.int 1)))) .nil)) (.lst false .nil))), (.set (.name 4) (.bin false .Add (.bin false .Add (.var 4) (.var 10)) (.lc false [11] (.name 11) (.ev (.call 30 true (.cons (.var 6) (.cons (.var 3) .nil)))) .nop (.ife (.din false (.var 11) (.var 8)) (.tup (.cons (.idx (.var 11) (.con (.int 0))) (.cons (.dix (.var 8) (.var 11)) .nil))) (.var 11)))))]), (.set (.name 5) (.blt .tuple (.cons (.lc false [11] (.name 11) (.ev (.var 1)) .nop (.ife (.din false (.var 11) (.var 8)) (.tup (.cons (.idx (.var 11) (.con (.int 0))) (.cons (.dix (.var 8) (.var 11)) .nil))) (.var 11))) .nil))), (.ret (.tup (.cons (.tup (.cons (.blt .tuple (.cons (.var 4) .nil)) (.cons (.call 35 true (.cons (.bin false .Mult (.con (.int 2)) (.bin false .Add (.blt .len (.cons (.var 4) .nil)) (.var 2))) .nil)) .nil))) (.cons (.var 5) (.cons (.var 8) .nil)))))]⟩
/-- _law_same -/
def d_40 : Df := ⟨2, 4, [(.ife (.bop false (.isi (.var 0) .bool) (.cons (.isi (.var 1) .bool) .nil)) [(.ret (.bop true (.isi (.var 0) .bool) (.cons (.isi (.var 1) .bool) (.cons (.cmp .Eq (.var 0) (.var 1)) .nil))))] []), (.ife (.bop true (.isi (.var 0) .tuple) (.cons (.isi (.var 1) .tuple) .nil)) [(.ret (.bop true (.cmp .Eq (.blt .len (.cons (.var 0) .nil)) (.blt .len (.cons (.var 1) .nil))) (.cons (.cmp .Eq (.lc false [2,3] (.tup [(.name 2), (.name 3)]) (.zip (.var 0) (.var 1)) (.not (.call 40 true (.cons (.var 2) (.cons (.var 3) .nil)))) (.con (.int 1))) (.lst false .nil)) .nil)))] []), (.ret (.bop true (.not (.isi (.var 0) .tuple)) (.cons (.not (.isi (.var 1) .tuple)) (.cons (.cmp .Eq (.var 0) (.var 1)) .nil))))]⟩
def law_0 : IS := (.set (.name 1) (.call 27 false (.cons (.var 0) .nil)))
def law_1_0 : IS := (.set (.tup [(.name 11), (.name 8)]) (.call 37 false (.cons (.var 1) (.cons (.bin false .Add (.con (.int 1)) (.call 28 false (.cons (.var 1) (.cons (.con (.int 16)) .nil)))) .nil))))
def law_1_1 : IS := (.set (.tup [(.name 6), (.name 12)]) (.tup (.cons (.call 38 false (.cons (.var 1) (.cons (.var 8) .nil))) (.cons (.call 29 false (.cons (.var 1) (.cons (.lst false (.cons (.con (.int 0)) (.cons (.con (.int 1)) (.cons (.con (.int 20)) (.cons (.con (.int 200)) (.cons (.con (.int 5000)) .nil)))))) .nil))) .nil))))
def law_1_2 : IS := (.set (.name 5) (.call 39 false (.cons (.var 11) (.cons (.var 6) (.cons (.var 12) .nil)))))
def law_1_3 : IS := (.set (.name 10) (.call 26 true (.cons (.var 11) (.cons (.var 6) (.cons (.var 12) .nil)))))
def law_1_4_0 : IS := (.ret (.con (.bl false)))
def law_1_4 : IS := (.ife (.bop false (.not (.call 40 true (.cons (.var 10) (.cons (.slc false (.var 5) .nop (.con (.int 2))) .nil)))) (.cons (.cmp .IsNot (.call 21 true (.cons (.idx (.var 10) (.con (.int 0))) .nil)) (.con (.bl true))) .nil)) [law_1_4_0] [])
def law_1 : IS := (.for_ (.name 2) (.rng1 (.con (.int 5))) [law_1_0, law_1_1, law_1_2, law_1_3, law_1_4])
def law_2 : IS := (.set (.name 3) (.tup (.cons (.con (.str [110,105,108])) .nil)))
def law_3 : IS := (.set (.name 4) (.tup (.cons (.tup (.cons (.con (.str [110,117,109,98,101,114])) (.cons (.con (.int 1)) .nil))) (.cons (.var 3) (.cons (.tup (.cons (.con (.str [99,111,117,110,116])) (.cons (.con (.int 1)) .nil))) (.cons (.tup (.cons (.con (.str [112,97,105,114])) (.cons (.con (.int 0)) .nil))) (.cons (.tup (.cons (.con (.str [99,111,117,110,116])) (.cons (.con (.int 2)) .nil))) (.cons (.tup (.cons (.con (.str [116,117,112,108,101])) (.cons (.con (.int 2)) .nil))) (.cons (.tup (.cons (.con (.str [112,97,105,114])) (.cons (.con (.int 0)) .nil))) (.cons (.tup (.cons (.con (.str [110,117,109,98,101,114])) (.cons (.con (.int 9)) .nil))) .nil))))))))))
def law_4 : IS := (.set (.name 5) (.tup (.cons (.tup (.cons (.con (.str [99,111,117,110,116])) (.cons (.con (.int 2)) .nil))) (.cons (.tup (.cons (.con (.str [116,117,112,108,101])) (.cons (.con (.int 5)) .nil))) (.cons (.tup (.cons (.con (.str [112,97,105,114])) (.cons (.con (.int 3)) .nil))) (.cons (.tup (.cons (.con (.str [110,117,109,98,101,114])) (.cons (.con (.int 1)) .nil))) (.cons (.var 3) (.cons (.tup (.cons (.con (.str [99,111,117,110,116])) (.cons (.con (.int 1)) .nil))) (.cons (.tup (.cons (.con (.str [112,97,105,114])) (.cons (.con (.int 3)) .nil))) .nil)))))))))
def law_5_0 : IS := (.ret (.con (.bl false)))
def law_5 : IS := (.ife (.cmp .NotEq (.call 26 true (.cons (.tup (.cons (.var 4) (.cons (.con (.int 64)) .nil))) (.cons (.tup (.cons (.tup (.cons (.con (.str [116,117,112,108,101])) (.cons (.con (.int 4)) .nil))) (.cons (.tup (.cons (.con (.str [112,97,105,114])) (.cons (.con (.int 0)) .nil))) .nil))) (.cons (.con (.int 0)) .nil)))) (.tup (.cons (.tup (.cons (.var 5) (.cons (.con (.int 64)) .nil))) (.cons (.tup (.cons (.tup (.cons (.con (.str [116,117,112,108,101])) (.cons (.con (.int 0)) .nil))) (.cons (.tup (.cons (.con (.str [112,97,105,114])) (.cons (.con (.int 3)) .nil))) .nil))) .nil)))) [law_5_0] [])
def law_6 : IS := (.set (.name 4) (.tup (.cons (.tup (.cons (.con (.str [99,111,117,110,116])) (.cons (.con (.int 2)) .nil))) (.cons (.tup (.cons (.con (.str [97,116,111,109])) (.cons (.con (.str [97])) .nil))) (.cons (.var 3) (.cons (.tup (.cons (.con (.str [112,97,105,114])) (.cons (.con (.int 1)) .nil))) .nil))))))
def law_7 : IS := (.set (.name 5) (.tup (.cons (.tup (.cons (.con (.str [99,111,117,110,116])) (.cons (.con (.int 2)) .nil))) (.cons (.tup (.cons (.con (.str [97,116,111,109])) (.cons (.con (.str [97])) .nil))) (.cons (.var 3) (.cons (.tup (.cons (.con (.str [97,116,111,109])) (.cons (.con (.str [97])) .nil))) (.cons (.var 3) .nil)))))))
def law_8 : IS := (.set (.name 6) (.tup (.cons (.tup (.cons (.con (.str [116,117,112,108,101])) (.cons (.con (.int 0)) .nil))) (.cons (.tup (.cons (.con (.str [112,97,105,114])) (.cons (.con (.int 1)) .nil))) (.cons (.tup (.cons (.con (.str [116,117,112,108,101])) (.cons (.con (.int 0)) .nil))) .nil)))))
def law_9_0 : IS := (.ret (.con (.bl false)))
def law_9 : IS := (.ife (.cmp .NotEq (.call 26 true (.cons (.tup (.cons (.var 4) (.cons (.con (.int 64)) .nil))) (.cons (.var 6) (.cons (.con (.int 0)) .nil)))) (.tup (.cons (.tup (.cons (.var 5) (.cons (.con (.int 64)) .nil))) (.cons (.tup (.cons (.tup (.cons (.con (.str [116,117,112,108,101])) (.cons (.con (.int 0)) .nil))) (.cons (.tup (.cons (.con (.str [112,97,105,114])) (.cons (.con (.int 3)) .nil))) (.cons (.tup (.cons (.con (.str [116,117,112,108,101])) (.cons (.con (.int 0)) .nil))) .nil)))) .nil)))) [law_9_0] [])
def law_10 : IS := (.set (.name 4) (.bin false .Add (.bin false .Add (.bin false .Add (.tup (.cons (.tup (.cons (.con (.str [99,111,117,110,116])) (.cons (.con (.int 6)) .nil))) .nil)) (.bin false .Mult (.tup (.cons (.var 3) .nil)) (.con (.int 6)))) (.tup (.cons (.tup (.cons (.con (.str [99,111,117,110,116])) (.cons (.con (.int 6)) .nil))) .nil))) (.bin false .Mult (.tup (.cons (.var 3) .nil)) (.con (.int 6)))))
def law_11 : IS := (.set (.name 6) (.tup (.cons (.tup (.cons (.con (.str [116,117,112,108,101])) (.cons (.con (.int 0)) .nil))) (.cons (.tup (.cons (.con (.str [116,117,112,108,101])) (.cons (.con (.int 7)) .nil))) .nil))))
def law_12 : IS := (.set (.name 7) (.lst false (.cons (.tup (.cons (.con (.int 0)) (.cons (.con (.int 64)) .nil))) (.cons (.tup (.cons (.con (.int 18)) (.cons (.con (.int 64)) .nil))) (.cons (.tup (.cons (.con (.int 19)) (.cons (.con (.int 128)) .nil))) (.cons (.tup (.cons (.con (.int 50)) (.cons (.con (.int 128)) .nil))) (.cons (.tup (.cons (.con (.int 51)) (.cons (.con (.int 256)) .nil))) (.cons (.tup (.cons (.con (.int 242)) (.cons (.con (.int 512)) .nil))) (.cons (.tup (.cons (.con (.int 243)) (.cons (.con (.int 1024)) .nil))) (.cons (.tup (.cons (.con (.int 1000)) (.cons (.con (.int 2048)) .nil))) (.cons (.tup (.cons (.con (.int 8178)) (.cons (.con (.int 16384)) .nil))) .nil)))))))))))
def law_13_0 : IS := (.ret (.con (.bl false)))
def law_13 : IS := (.ife (.cmp .NotEq (.lc false [12,14] (.tup [(.name 12), (.name 14)]) (.ev (.var 7)) .nop (.idx (.idx (.call 26 true (.cons (.tup (.cons (.var 4) (.cons (.con (.int 64)) .nil))) (.cons (.var 6) (.cons (.var 12) .nil)))) (.con (.int 0))) (.con (.int 1)))) (.lc false [12,14] (.tup [(.name 12), (.name 14)]) (.ev (.var 7)) .nop (.var 14))) [law_13_0] [])
def law_14_0 : IS := (.ret (.con (.bl false)))
def law_14 : IS := (.ife (.cmp .NotEq (.call 26 true (.cons (.tup (.cons (.var 4) (.cons (.con (.int 64)) .nil))) (.cons (.tup .nil) (.cons (.con (.int 32)) .nil)))) (.tup (.cons (.tup (.cons (.tup .nil) (.cons (.con (.int 64)) .nil))) (.cons (.tup .nil) .nil)))) [law_14_0] [])
def law_15_0 : IS := (.ret (.con (.bl false)))
def law_15 : IS := (.ife (.cmp .NotEq (.call 26 true (.cons (.tup (.cons (.var 4) (.cons (.con (.int 64)) .nil))) (.cons (.tup (.cons (.var 3) (.cons (.var 3) .nil))) (.cons (.con (.int 33)) .nil)))) (.tup (.cons (.tup (.cons (.tup .nil) (.cons (.con (.int 128)) .nil))) (.cons (.tup (.cons (.var 3) (.cons (.var 3) .nil))) .nil)))) [law_15_0] [])
def law_16 : IS := (.set (.name 8) (.lst false (.cons (.erl 0 (.call 26 true (.cons (.tup (.cons (.var 4) (.cons (.con (.int 64)) .nil))) (.cons (.var 6) (.cons (.con (.int 8179)) .nil))))) .nil)))
def law_17 : IS := (.set (.name 8) (.bin false .Add (.var 8) (.lc false [13] (.name 13) (.ev (.tup (.cons (.con .non) (.cons (.tup (.cons (.var 4) (.cons (.con (.int 8)) .nil))) .nil)))) .nop (.erl 0 (.call 26 true (.cons (.var 13) (.cons (.con .non) (.cons (.con .non) .nil))))))))
def law_18 : IS := (.set (.name 9) (.tup (.cons (.con .non) (.cons (.lst false .nil) (.cons (.bin false .Mult (.tup (.cons (.var 3) .nil)) (.con (.int 61))) (.cons (.tup (.cons (.tup (.cons (.con (.str [116,117,112,108,101])) (.cons (.con (.int 1)) .nil))) .nil)) .nil))))))
def law_19 : IS := (.set (.name 8) (.bin false .Add (.var 8) (.lc false [13] (.name 13) (.ev (.var 9)) .nop (.erl 0 (.call 26 true (.cons (.tup (.cons (.var 4) (.cons (.con (.int 64)) .nil))) (.cons (.var 13) (.cons (.con .non) .nil))))))))
def law_20 : IS := (.set (.name 8) (.bin false .Add (.var 8) (.lc false [13] (.name 13) (.ev (.tup (.cons (.con .non) (.cons (.neg (.con (.int 1))) (.cons (.con (.int 10001)) (.cons (.con (.bl true)) .nil)))))) .nop (.erl 0 (.call 26 true (.cons (.tup (.cons (.var 4) (.cons (.con (.int 64)) .nil))) (.cons (.bin false .Mult (.tup (.cons (.var 3) .nil)) (.con (.int 60))) (.cons (.var 13) .nil))))))))
def law_21 : IS := (.ret (.cmp .Eq (.var 8) (.bin false .Add (.bin false .Add (.bin false .Add (.lst false (.cons (.con (.str [109,97,110,121,32,49,54,51,56,52])) .nil)) (.bin false .Mult (.lst false (.cons (.con (.str [104,101,97,112])) .nil)) (.con (.int 2)))) (.bin false .Mult (.lst false (.cons (.con (.str [119,111,114,100,115])) .nil)) (.con (.int 4)))) (.bin false .Mult (.lst false (.cons (.con (.str [110,117,109,98,101,114])) .nil)) (.con (.int 4))))))
/-- law -/
def d_41 : Df := ⟨1, 15, [law_0, law_1, law_2, law_3, law_4, law_5, law_6, law_7, law_8, law_9, law_10, law_11, law_12, law_13, law_14, law_15, law_16, law_17, law_18, law_19, law_20, law_21]⟩
def D : Nat → Option Df
  | 0 => some d_0
  | 1 => some d_1
  | 2 => some d_2
  | 3 => some d_3
  | 4 => some d_4
  | 5 => some d_5
  | 6 => some d_6
  | 7 => some d_7
  | 8 => some d_8
  | 9 => some d_9
  | 10 => some d_10
  | 11 => some d_11
  | 12 => some d_12
  | 13 => some d_13
  | 14 => some d_14
  | 15 => some d_15
  | 16 => some d_16
  | 17 => some d_17
  | 18 => some d_18
  | 19 => some d_19
  | 20 => some d_20
  | 21 => some d_21
  | 22 => some d_22
  | 23 => some d_23
  | 24 => some d_24
  | 25 => some d_25
  | 26 => some d_26
  | 27 => some d_27
  | 28 => some d_28
  | 29 => some d_29
  | 30 => some d_30
  | 31 => some d_31
  | 32 => some d_32
  | 33 => some d_33
  | 34 => some d_34
  | 35 => some d_35
  | 36 => some d_36
  | 37 => some d_37
  | 38 => some d_38
  | 39 => some d_39
  | 40 => some d_40
  | 41 => some d_41
  | _ => none
end K52

set_option linter.all false
set_option maxRecDepth 100000
set_option maxHeartbeats 4000000
set_option Elab.async false
namespace K52
open MP MQ
/-! H1: words and cells of a heap: shapes, up to left_at. -/
inductive Wd where
  | num (i : Int) | atm (s : List Nat) | prc (i : Int) | nil | pr (i : Nat) | tp (i : Nat) | cnt (n : Nat)
  deriving DecidableEq, Inhabited
def enc : Wd → PV
  | .num i => .tup [.str [110,117,109,98,101,114], .int i]
  | .atm s => .tup [.str [97,116,111,109], .str s]
  | .prc i => .tup [.str [112,114,111,99,101,115,115], .int i]
  | .nil => .tup [.str [110,105,108]]
  | .pr i => .tup [.str [112,97,105,114], .int i]
  | .tp i => .tup [.str [116,117,112,108,101], .int i]
  | .cnt i => .tup [.str [99,111,117,110,116], .int i]
@[simp] theorem closed_enc (w : Wd) : closed (enc w) = true := by cases w <;> rfl
@[simp] theorem closeds_encs (cs : List Wd) : closeds (cs.map enc) = true := by
  induction cs with
  | nil => rfl
  | cons c cs ih => simp [closeds, ih]
@[simp] theorem data_enc (w : Wd) : data (enc w) = true := by cases w <;> rfl
@[simp] theorem datas_encs (cs : List Wd) : datas (cs.map enc) = true := datas_all fun x hx => by
  obtain ⟨w, _, rfl⟩ := List.mem_map.mp hx
  simp
theorem dataN_enc (w : Wd) (n : Nat) : dataN (n + 2) (enc w) = true := by cases w <;> simp [enc]
theorem is_whole (n : Nat) (i a b : Int) (st : Sto) (h : 1 ≤ n) : callN T D n 0 [.int i, .int a, .int b] st = .ok (.bl (decide (a ≤ i) && decide (i ≤ b))) st := by
  rw [call_at h rfl rfl]
  simp [tyIs]
theorem is_tuple_of (n : Nat) (xs : List PV) (a b : Int) (st : Sto) (h : 1 ≤ n) : callN T D n 1 [.tup xs, .int a, .int b] st = .ok (.bl (decide (a ≤ xs.length) && decide ((xs.length : Int) ≤ b))) st := by
  rw [call_at h rfl rfl]
  simp [builtin, bLen]
theorem is_headed (n : Nat) (w : Wd) (st : Sto) (h : 2 ≤ n) : callN T D n 4 [enc w, .int 1, .int 2] st = .ok (.bl true) st := by
  rw [call_at (by omega) rfl rfl]
  cases w <;> simp (disch := omega) [enc, is_tuple_of, pureCall, tyIs]
theorem is_headed2 (n : Nat) (w : Wd) (st : Sto) (h : 2 ≤ n) : callN T D n 4 [enc w, .int 2, .int 2] st = .ok (.bl (decide (w ≠ .nil))) st := by
  rw [call_at (by omega) rfl rfl]
  cases w <;> simp (disch := omega) [enc, is_tuple_of, pureCall, tyIs]
def isCnt : Wd → Bool
  | .cnt n => decide (n ≤ 6)
  | _ => false
theorem is_count (n : Nat) (w : Wd) (st : Sto) (h : 3 ≤ n) : callN T D n 8 [enc w] st = .ok (.bl (isCnt w)) st := by
  rw [call_at (by omega) rfl rfl]
  cases w <;> simp (disch := omega) [is_headed2, pureCall, isCnt] <;> simp (disch := omega) [enc, is_tuple_of, is_whole, pureCall, isCnt] <;> omega
/-! texts -/
def textOk (s first behind : List Nat) : Bool := match s with
  | [] => false
  | c :: r => decide (r.length + 1 ≤ 8) && (first.elem c && r.all fun d => behind.elem d)
theorem signIn_one {d : Nat} {b : List Nat} : signIn (.str [d]) b = some (b.elem d) := rfl
theorem is_text (n : Nat) (s f b : List Nat) (st : Sto) (h : 1 ≤ n) (hs : s.length ≤ line) : callN T D n 2 [.str s, .str f, .str b] st = .ok (.bl (textOk s f b)) st := by
  rw [call_at (by omega) rfl rfl]
  cases s with
  | nil => simp [len_str hs, textOk]
  | cons c r =>
    have hl : r.length + 1 ≤ line := by simpa using hs
    have h1 : (1 : Int) ≤ r.length + 1 := by omega
    by_cases hr : r.length + 1 ≤ 8
    · have h2 : (r.length : Int) + 1 ≤ 8 := by omega
      have hlc : ∀ cf : CallF, ev T cf (.lc false [3] (.name 3) (.ev (.slc false (.var 0) (.con (.int 1)) .nop)) .nop (.cmp .In (.var 3) (.var 2))) [some (.str (c :: r)), some (.str f), some (.str b), none] st = .ok (.lst (r.map fun d => .bl (b.elem d))) st := by
        intro cf
        simp [slice, cut_from 1]
        rw [compG_items (by simp [turns_eq]; omega), compL_map (f := fun x => .bl (match x with | .str [d] => b.elem d | _ => false)) (fun x hx => by
          obtain ⟨d, hd, rfl⟩ := List.mem_map.mp hx
          simp [stepC, gate, forget])]
        have hl2 : r.length ≤ line := by omega
        simp [newL, hl2, Function.comp_def]
      simp [-ev_comp, len_str hs, h1, h2, textOk, hr, subs, ixOf, hlc]
    · have h2 : ¬ (r.length : Int) + 1 ≤ 8 := by omega
      simp [len_str hs, h1, h2, textOk, hr]

end K52
namespace K52
open MP MQ
/-! H2: plain words, things, what is left of a size. -/
abbrev lettersV : List Nat := [97,98,99,100,101,102,103,104,105,106,107,108,109,110,111,112,113,114,115,116,117,118,119,120,121,122]
abbrev signsV : List Nat := [97,98,99,100,101,102,103,104,105,106,107,108,109,110,111,112,113,114,115,116,117,118,119,120,121,122,48,49,50,51,52,53,54,55,56,57]
def wordOk (s : List Nat) : Bool := textOk s lettersV signsV
theorem is_word (n : Nat) (s : List Nat) (st : Sto) (h : 2 ≤ n) (hs : s.length ≤ line) : callN T D n 3 [.str s] st = .ok (.bl (wordOk s)) st := by
  rw [call_at (by omega) rfl rfl]
  simp
  rw [pure_ok (by simp) (is_text (n - 1) s lettersV signsV [] (by omega) hs) (by simp)]
  simp [wordOk]
/-- a word's text is not too long -/
def lenOk : Wd → Prop
  | .atm s => s.length ≤ line
  | _ => True
def plainOk : Wd → Bool
  | .num i => decide (-536870912 ≤ i) && decide (i ≤ 536870911)
  | .atm s => wordOk s
  | .prc i => decide (0 ≤ i) && decide (i ≤ 7)
  | _ => false
theorem fits_plain (n : Nat) (w : Wd) (st : Sto) (h : 3 ≤ n) (hl : lenOk w) : callN T D n 5 [enc w] st = .ok (.bl (plainOk w)) st := by
  rw [call_at (by omega) rfl rfl]
  cases w with
  | atm s =>
    have hl : s.length ≤ line := hl
    simp (disch := first | omega | assumption) [enc, plainOk, pureCall, is_word]
  | _ => simp (disch := omega) [enc, plainOk, pureCall, is_whole, binop]
/-- things -/
def isTh : Wd → Bool
  | .pr _ | .tp _ => true
  | _ => false
theorem is_thing (n : Nat) (w : Wd) (st : Sto) (h : 1 ≤ n) : callN T D n 7 [enc w] st = .ok (.bl (isTh w)) st := by
  rw [call_at (by omega) rfl rfl]
  cases w <;> simp [enc, isTh]
def thereW (cs : List Wd) : Wd → Bool
  | .pr i => decide (i + 1 < cs.length)
  | .tp i => (match cs[i]? with
    | some (.cnt k) => decide (k ≤ 6) && decide (i + k < cs.length)
    | _ => false)
  | _ => false
def longW (cs : List Wd) : Wd → Nat
  | .pr _ => 2
  | .tp i => (match cs[i]? with
    | some (.cnt k) => 1 + k
    | _ => 0)
  | _ => 0
def innerW (cs : List Wd) : Wd → List Wd
  | .pr i => (cs.drop i).take 2
  | .tp i => (match cs[i]? with
    | some (.cnt k) => (cs.drop (i + 1)).take k
    | _ => [])
  | _ => []
theorem there_tp {cs : List Wd} {i : Nat} (h : thereW cs (.tp i) = true) : ∃ k, cs[i]? = some (.cnt k) ∧ k ≤ 6 ∧ i + k < cs.length := by
  simp only [thereW] at h
  split at h
  · rename_i k hk
    simp at h
    exact ⟨k, hk, h.1, h.2⟩
  · cases h
theorem there_pr {cs : List Wd} {i : Nat} (h : thereW cs (.pr i) = true) : i + 1 < cs.length := of_decide_eq_true h
theorem long_at (n : Nat) (cs : List Wd) (w : Wd) (st : Sto) (h : 1 ≤ n) (hw : thereW cs w = true) : callN T D n 9 [.tup (cs.map enc), enc w] st = .ok (.int (longW cs w)) st := by
  rw [call_at (by omega) rfl rfl]
  cases w with
  | pr i => simp [enc, longW]
  | tp i =>
    obtain ⟨k, hk, _, _⟩ := there_tp hw
    simp [enc, longW, hk, subs_nat]
  | _ => cases hw
theorem inner_at (n : Nat) (cs : List Wd) (w : Wd) (st : Sto) (h : 1 ≤ n) (hw : thereW cs w = true) : callN T D n 10 [.tup (cs.map enc), enc w] st = .ok (.tup ((innerW cs w).map enc)) st := by
  rw [call_at (by omega) rfl rfl]
  cases w with
  | pr i =>
    simp [enc, slice_tup, innerW]
    rw [cut_at i 2 rfl (by omega)]
  | tp i =>
    obtain ⟨k, hk, _, _⟩ := there_tp hw
    simp [enc, slice_tup, innerW, hk, subs_nat]
    rw [cut_at (i + 1) k (by omega) (by omega)]
  | _ => cases hw
theorem is_there (n : Nat) (cs : List Wd) (w : Wd) (st : Sto) (h : 4 ≤ n) (hw : isTh w = true) : callN T D n 11 [.tup (cs.map enc), enc w] st = .ok (.bl (thereW cs w)) st := by
  rw [call_at (by omega) rfl rfl]
  cases w with
  | pr i =>
    simp (disch := omega) [enc, pureCall, is_whole, thereW]
    split <;> simp <;> omega
  | tp i =>
    simp (disch := omega) [enc, pureCall, is_whole, thereW]
    by_cases hi : (i : Int) ≤ cs.length - 1
    · have hi' : i < cs.length := by omega
      have hg : cs[i]? = some cs[i] := List.getElem?_eq_getElem hi'
      have hn : ¬ ((cs.length : Int) - 1 < i) := by omega
      simp (disch := omega) only [hn, if_false, subs_nat, List.getElem?_map, hg, Option.map_some, may_some, bnd_ok, is_count]
      cases hc : cs[i] with
      | cnt k =>
        have hg' : cs[i]? = some (.cnt k) := by rw [hg, hc]
        by_cases hk : k ≤ 6
        · simp [isCnt, enc, subs_nat, hg', hk]; omega
        · simp [isCnt, hk]
      | _ => simp [isCnt]
    · have hg : cs[i]? = none := List.getElem?_eq_none (by omega)
      have hn : ((cs.length : Int) - 1 < i) := by omega
      simp [hi, hn, hg]
  | _ => cases hw
theorem inner_mem {cs : List Wd} {w p : Wd} (h : p ∈ innerW cs w) : p ∈ cs := by
  unfold innerW at h
  split at h
  · exact List.mem_of_mem_drop (List.mem_of_mem_take h)
  · split at h
    · exact List.mem_of_mem_drop (List.mem_of_mem_take h)
    · cases h
  · cases h
theorem inner_len {cs : List Wd} {w : Wd} : (innerW cs w).length ≤ longW cs w ∧ (innerW cs w).length ≤ cs.length := by
  unfold innerW longW
  split
  · simp; omega
  · split
    · simp; omega
    · simp
  · simp
/-- what is left of a size -/
def leftW (cs : List Wd) : Nat → Wd → Int → Int
  | 0, _, _ => -1
  | f + 1, w, m => match w with
    | .nil => m
    | .cnt _ => -1
    | .pr i => if thereW cs (.pr i) then (innerW cs (.pr i)).foldl (fun m p => if 0 ≤ m then leftW cs f p m else -1) (m - longW cs (.pr i)) else -1
    | .tp i => if thereW cs (.tp i) then (innerW cs (.tp i)).foldl (fun m p => if 0 ≤ m then leftW cs f p m else -1) (m - longW cs (.tp i)) else -1
    | w => if plainOk w then m else -1
theorem leftW_thing {cs : List Wd} {f : Nat} {w : Wd} {m : Int} (h : isTh w = true) : leftW cs (f + 1) w m = if thereW cs w then (innerW cs w).foldl (fun m p => if 0 ≤ m then leftW cs f p m else -1) (m - longW cs w) else -1 := by
  cases w <;> first | rfl | (cases h; done)
theorem leftW_le {cs : List Wd} : ∀ (f : Nat) (w : Wd) (m : Int), 0 ≤ m → leftW cs f w m ≤ m
  | 0, w, m, h => by simp [leftW]; omega
  | f + 1, w, m, h => by
    have hf : ∀ (l : List Wd) (m0 : Int), m0 ≤ m → l.foldl (fun m p => if 0 ≤ m then leftW cs f p m else -1) m0 ≤ m := by
      intro l
      induction l with
      | nil => intro m0 h0; exact h0
      | cons p l ih =>
        intro m0 h0
        rw [List.foldl_cons]
        refine ih _ ?_
        split
        · rename_i h1
          have := leftW_le (cs := cs) f p m0 h1
          omega
        · omega
    by_cases ht : isTh w = true
    · rw [leftW_thing ht]
      split
      · exact hf _ _ (by omega)
      · omega
    · cases w <;> first | (simp [isTh] at ht; done) | (simp [leftW]; try (split <;> omega)) <;> omega
theorem leftW_le' {cs : List Wd} (f : Nat) (w : Wd) (m : Int) (h : 0 ≤ m) : leftW cs f w m ≤ m := leftW_le f w m h
def LensOk (cs : List Wd) : Prop := ∀ w ∈ cs, lenOk w
theorem left_at {cs : List Wd} (hcs : LensOk cs) (hlen : cs.length < turns) : ∀ (f n : Nat) (w : Wd) (m : Int) (st : Sto), lenOk w → 0 ≤ m → m < 2 * f → f + 4 ≤ n → callN T D n 12 [.tup (cs.map enc), enc w, .int m] st = .ok (.int (leftW cs f w m)) st
  | 0, n, w, m, st, hw, h0, h1, hn => by omega
  | f + 1, n, w, m, st, hw, h0, h1, hn => by
    rw [call_at (by omega) rfl rfl]
    by_cases ht : isTh w = true
    · have hnil : ∀ st : Sto, cmpop .Eq (enc w) (.tup [.str [110,105,108]]) st = some false := by
        intro st
        cases w <;> first | (cases ht; done) | (rw [eq_dat (by simp [enc, deep]) (by simp)]; simp [enc])
      have hpl : ∀ st : Sto, ((subs (enc w) (.int 0) st).bind fun x st1 => blOut (cmpop .In x (.tup [.str [97,116,111,109], .str [110,117,109,98,101,114], .str [112,114,111,99,101,115,115]]) st1) st1) = .ok (.bl false) st := by
        intro st
        cases w <;> first | (cases ht; done) | simp [enc]
      have hth : ∀ st : Sto, ((subs (enc w) (.int 0) st).bind fun x st1 => blOut (cmpop .NotIn x (.tup [.str [112,97,105,114], .str [116,117,112,108,101]]) st1) st1) = .ok (.bl false) st := by
        intro st
        cases w <;> first | (cases ht; done) | simp [enc]
      have hln : ∀ st : Sto, builtin .len [enc w] st = .ok (.int 2) st := by
        intro st
        cases w <;> first | (cases ht; done) | simp [enc]
      simp (disch := first | omega | assumption) [pureCall, is_headed, hnil, hpl, hth, hln, is_there, newT, line]
      rw [leftW_thing ht]
      cases hthere : thereW cs w with
      | false => simp
      | true =>
        simp (disch := first | omega | assumption) [long_at, inner_at]
        have hil := inner_len (cs := cs) (w := w)
        have hl2 : (innerW cs w) ≠ [] → 2 ≤ longW cs w := by
          intro hne
          cases w with
          | pr i => simp [longW]
          | tp i =>
            obtain ⟨k, hk, _, _⟩ := there_tp hthere
            simp only [innerW, hk] at hne
            simp only [longW, hk]
            cases k with
            | zero => simp at hne
            | succ k => omega
          | _ => simp [isTh] at ht
        rw [forG_items (by simp; omega)]
        have hgo : ∀ (l : List Wd) (m0 : Int) (x0 : Option PV), (∀ p ∈ l, lenOk p) → (l ≠ [] → m0 < 2 * f) → ∃ x, forL (forS T (callN T D (n - 1)) (.name 3) [.set (.name 2) (.ife (.cmp .GtE (.var 2) (.con (.int 0))) (.call 12 true (.cons (.var 0) (.cons (.var 3) (.cons (.var 2) .nil)))) (.neg (.con (.int 1))))]) (l.map enc) [some (.tup (cs.map enc)), some (enc w), some (.int m0), x0] st =
            .ok (.nx [some (.tup (cs.map enc)), some (enc w), some (.int (l.foldl (fun m p => if 0 ≤ m then leftW cs f p m else -1) m0)), x]) st := by
          intro l
          induction l with
          | nil => intro m0 x0 _ _; exact ⟨x0, rfl⟩
          | cons p l ih =>
            intro m0 x0 hp hm
            have hm' := hm (by simp)
            by_cases h : 0 ≤ m0
            · have hle := leftW_le' (cs := cs) f p m0 h
              obtain ⟨x, hx⟩ := ih (leftW cs f p m0) (some (enc p)) (fun q hq => hp q (List.mem_cons_of_mem _ hq)) (fun _ => by omega)
              refine ⟨x, ?_⟩
              have hrec := left_at hcs hlen f (n - 1) p m0 [] (hp p (List.mem_cons_self ..)) h hm' (by omega)
              simp [forL, forS, h, pureCall, hrec, hx]
            · obtain ⟨x, hx⟩ := ih (-1) (some (enc p)) (fun q hq => hp q (List.mem_cons_of_mem _ hq)) (fun _ => by omega)
              exact ⟨x, by simp [forL, forS, h, hx]⟩
        obtain ⟨x, hx⟩ := hgo (innerW cs w) (m - longW cs w) none (fun p hp => hcs p (inner_mem hp)) (fun hne => by have := hl2 hne; omega)
        simp [hx]
    · cases w with
      | pr i => simp [isTh] at ht
      | tp i => simp [isTh] at ht
      | nil =>
        simp (disch := first | omega | assumption) [pureCall, is_headed, newT, line]
        simp [leftW, enc, cmpop, eqOk, deep]
      | cnt k =>
        simp (disch := first | omega | assumption) [pureCall, is_headed, newT, line]
        simp [leftW, enc, cmpop, eqOk, deep, isIn, isIn2]
      | _ =>
        simp (disch := first | omega | assumption) [pureCall, is_headed, newT, line, fits_plain]
        simp [leftW, enc, cmpop, eqOk, deep, isIn, isIn2]
        split <;> simp_all

end K52
namespace K52
open MP MQ
/-! H3: fits_word up to need_words. -/
def fitsW (cs : List Wd) (w : Wd) : Bool := decide (0 ≤ leftW cs 61 w 120)
theorem fits_word {cs : List Wd} (hcs : LensOk cs) (hlen : cs.length < turns) (n : Nat) (w : Wd) (st : Sto) (hw : lenOk w) (h : 66 ≤ n) : callN T D n 13 [.tup (cs.map enc), enc w] st = .ok (.bl (fitsW cs w)) st := by
  rw [call_at (by omega) rfl rfl]
  have hrec := left_at hcs hlen 61 (n - 1) w 120 [] hw (by omega) (by omega) (by omega)
  simp [pureCall, hrec, fitsW]
def fitsWs (cs ws : List Wd) (most : Int) : Bool := decide ((ws.length : Int) ≤ most) && ws.all (fitsW cs)
theorem fits_words {cs : List Wd} (hcs : LensOk cs) (hlen : cs.length < turns) (n : Nat) (ws : List Wd) (most : Int) (st : Sto) (hw : LensOk ws) (hws : ws.length < turns) (h : 67 ≤ n) : callN T D n 14 [.tup (cs.map enc), .tup (ws.map enc), .int most] st = .ok (.bl (fitsWs cs ws most)) st := by
  rw [call_at (by omega) rfl rfl]
  simp (disch := omega) [is_tuple_of, pureCall]
  rw [compG_of enc (fun w => .bl (fitsW cs w)) hws (fun w hm => by
    have := fits_word hcs hlen (n - 1) w [] (hw w hm) (by omega)
    simp [stepC, gate, forget, pureCall, this])]
  simp [newL_ok, line_of hws, fitsWs]
def roomsV : List Int := [64, 128, 256, 512, 1024, 2048, 4096, 8192, 16384]
theorem fits_room (n : Nat) (r : Int) (st : Sto) (h : 2 ≤ n) : callN T D n 15 [.int r] st = .ok (.bl (roomsV.elem r)) st := by
  rw [call_at (by omega) rfl rfl]
  simp (disch := first | omega | (simp [deep] <;> fail) | assumption) [is_whole, pureCall, in_tup, roomsV]
  by_cases h1 : 64 ≤ r ∧ r ≤ 16384
  · simp [h1]
    grind
  · have e : (decide (64 ≤ r) && decide (r ≤ 16384)) = false := by simpa using h1
    have e2 : (decide (r = 64) || (decide (r = 128) || (decide (r = 256) || (decide (r = 512) || (decide (r = 1024) || (decide (r = 2048) || (decide (r = 4096) || (decide (r = 8192) || decide (r = 16384))))))))) = false := by
      simp
      omega
    simp [h1, e, e2]
/-- a heap -/
def encH (cs : List Wd) (r : Int) : PV := .tup [.tup (cs.map enc), .int r]
@[simp] theorem closed_encH (cs : List Wd) (r : Int) : closed (encH cs r) = true := by simp [encH]
def heapOk (cs : List Wd) (r : Int) : Bool := roomsV.elem r && (decide ((cs.length : Int) ≤ r) && cs.all fun c => isCnt c || fitsW cs c)
theorem fits_heap {cs : List Wd} {r : Int} (hcs : LensOk cs) (hlen : cs.length < turns) (n : Nat) (st : Sto) (h : 67 ≤ n) : callN T D n 16 [encH cs r] st = .ok (.bl (heapOk cs r)) st := by
  rw [call_at (by omega) rfl rfl]
  simp (disch := first | omega | (simp [deep] <;> fail) | assumption) [encH, is_tuple_of, pureCall, fits_room, heapOk]
  rw [compG_of enc (fun w => .bl (isCnt w || fitsW cs w)) hlen (fun w hm => by
    have := fits_word hcs hlen (n - 1) w [] (hcs w hm) (by omega)
    simp (disch := first | omega | (simp [deep] <;> fail) | assumption) [stepC, gate, forget, pureCall, is_count, this])]
  simp [newL_ok, line_of hlen]
  by_cases h1 : r ∈ roomsV <;> simp [h1]
  by_cases h2 : (cs.length : Int) ≤ r <;> simp [h2] <;> omega
theorem is_heap {cs : List Wd} {r : Int} (hcs : LensOk cs) (hlen : cs.length < turns) (n : Nat) (st : Sto) (h : 68 ≤ n) : callN T D n 21 [encH cs r] st = .ok (.bl (heapOk cs r)) st := by
  rw [call_at (by omega) rfl rfl]
  have := fits_heap (r := r) hcs hlen (n - 1) [] (by omega)
  simp [pureCall, this]
theorem need_heap {cs : List Wd} {r : Int} (hcs : LensOk cs) (hlen : cs.length < turns) (n : Nat) (st : Sto) (h : 68 ≤ n) (hok : heapOk cs r = true) : callN T D n 19 [encH cs r] st = .ok .non st := by
  rw [call_at (by omega) rfl rfl]
  have := fits_heap (r := r) hcs hlen (n - 1) [] (by omega)
  simp [pureCall, this, hok]
theorem need_words {cs ws : List Wd} {r : Int} (hcs : LensOk cs) (hlen : cs.length < turns) (n : Nat) (most : Int) (st : Sto) (hw : LensOk ws) (hws : ws.length < turns) (h : 68 ≤ n) (hok : fitsWs cs ws most = true) : callN T D n 20 [encH cs r, .tup (ws.map enc), .int most] st = .ok .non st := by
  rw [call_at (by omega) rfl rfl]
  have := fits_words hcs hlen (n - 1) ws most [] hw hws (by omega)
  simp [encH, pureCall, this, hok]

end K52
namespace K52
open MP MQ
/-! L1: the law's cup and its rolls. -/
/-- the cup stands first in the store -/
def Cup (rest st : Sto) : Prop := ∃ a b : Int, st = .lst [.int a, .int b] :: rest ∧ 0 ≤ a ∧ 0 ≤ b ∧ b < 4294967296
theorem Cup.len {rest st : Sto} (h : Cup rest st) : st.length = rest.length + 1 := by
  obtain ⟨a, b, rfl, _⟩ := h
  rfl
theorem setL_0 {xs : List PV} {rest : Sto} {v : PV} {x : PV} : setL (.ref 0) (.int 0) v (.lst (x :: xs) :: rest) = .ok () (.lst (v :: xs) :: rest) := by
  have : (0 : Int) < (xs.length : Int) + 1 := by omega
  simp [setL, setLAt, ixOf, this]
theorem setL_1 {xs : List PV} {rest : Sto} {v : PV} {x y : PV} : setL (.ref 0) (.int 1) v (.lst (x :: y :: xs) :: rest) = .ok () (.lst (x :: v :: xs) :: rest) := by
  have : (1 : Int) < (xs.length : Int) + 1 + 1 := by omega
  simp [setL, setLAt, ixOf, this]
theorem subs_r0 {xs : List PV} {rest : Sto} {x : PV} : subs (.ref 0) (.int 0) (.lst (x :: xs) :: rest) = .ok x (.lst (x :: xs) :: rest) := by
  have : (0 : Int) < (xs.length : Int) + 1 := by omega
  simp [subs, rd, ixOf, this]
theorem subs_r1 {xs : List PV} {rest : Sto} {x y : PV} : subs (.ref 0) (.int 1) (.lst (x :: y :: xs) :: rest) = .ok y (.lst (x :: y :: xs) :: rest) := by
  have : (1 : Int) < (xs.length : Int) + 1 + 1 := by omega
  simp [subs, rd, ixOf, this]
theorem mod_ii {m : Bool} {i j : Int} {st : Sto} (h : 0 < j) : binop m .Mod (.int i) (.int j) st = .ok (.int (i % j)) st := by simp [binop, h]
theorem div_ii {m : Bool} {i j : Int} {st : Sto} (h : 0 < j) (h2 : j < 1073741824) : binop m .FloorDiv (.int i) (.int j) st = .ok (.int (i / j)) st := by simp [binop, h, h2]
theorem mul_ii {m : Bool} {i j : Int} {st : Sto} (h : small i = true ∨ small j = true) : binop m .Mult (.int i) (.int j) st = .ok (.int (i * j)) st := by
  rcases h with h | h <;> simp [binop, h]
theorem roll_ok {rest st : Sto} (n : Nat) (many : Int) (hc : Cup rest st) (h0 : 0 < many) (h1 : many < 1073741824) (hn : 1 ≤ n) : ∃ (r : Nat) (st' : Sto), callN T D n 28 [.ref 0, .int many] st = .ok (.int r) st' ∧ (r : Int) < many ∧ Cup rest st' := by
  obtain ⟨a, b, rfl, ha, hb, hb2⟩ := hc
  rw [call_at hn rfl rfl]
  by_cases hp : 0 < a
  · have e := Int.emod_nonneg a (by omega : many ≠ 0)
    have e2 := Int.emod_lt_of_pos a h0
    refine ⟨(a % many).toNat, .lst [.int (a / many), .int b] :: rest, ?_, by omega, a / many, b, rfl, Int.ediv_nonneg ha (by omega), hb, hb2⟩
    have e3 : ((a % many).toNat : Int) = a % many := by omega
    rw [e3]
    simp [subs_r0, setL_0, mod_ii h0, div_ii h0 h1, hp]
  · have s1 : small (31153 : Int) = true := rfl
    have s2 : small ((b * 31153 + 8101) % 2147483543) = true := by
      have := Int.emod_nonneg (b * 31153 + 8101) (by omega : (2147483543 : Int) ≠ 0)
      have := Int.emod_lt_of_pos (b * 31153 + 8101) (by omega : (0 : Int) < 2147483543)
      exact small_by (by omega) (by omega)
    have n1 := Int.emod_nonneg (b * 31153 + 8101) (by omega : (2147483543 : Int) ≠ 0)
    have n2 := Int.emod_lt_of_pos (b * 31153 + 8101) (by omega : (0 : Int) < 2147483543)
    generalize hbb : (b * 31153 + 8101) % 2147483543 = b' at *
    generalize hdd : b' * (b' + 281) % 2147483587 / 881 = d
    have e := Int.emod_nonneg d (by omega : many ≠ 0)
    have e2 := Int.emod_lt_of_pos d h0
    refine ⟨(d % many).toNat, .lst [.int a, .int b'] :: rest, ?_, by omega, a, b', rfl, ha, n1, by omega⟩
    have e3 : ((d % many).toNat : Int) = d % many := by omega
    rw [e3]
    have h31 : ∀ st : Sto, binop false .Mult (.int b) (.int 31153) st = .ok (.int (b * 31153)) st := fun st => mul_ii (.inr s1)
    have h32 : ∀ st : Sto, binop false .Mult (.int b') (.int (b' + 281)) st = .ok (.int (b' * (b' + 281))) st := fun st => mul_ii (.inl s2)
    have m1 : ∀ (x : Int) (st : Sto), binop false .Mod (.int x) (.int 2147483543) st = .ok (.int (x % 2147483543)) st := fun x st => mod_ii (by decide)
    have m2 : ∀ (x : Int) (st : Sto), binop false .Mod (.int x) (.int 2147483587) st = .ok (.int (x % 2147483587)) st := fun x st => mod_ii (by decide)
    have d1 : ∀ (x : Int) (st : Sto), binop false .FloorDiv (.int x) (.int 881) st = .ok (.int (x / 881)) st := fun x st => div_ii (by decide) (by decide)
    simp [subs_r0, subs_r1, setL_1, hp, h31, h32, m1, m2, d1, hbb, hdd, mod_ii h0]
theorem some_ok {rest st : Sto} (n : Nat) (xs : List PV) (hc : Cup rest st) (h0 : xs ≠ []) (h1 : xs.length < 1073741824) (hn : 2 ≤ n) : ∃ (x : PV) (st' : Sto), callN T D n 29 [.ref 0, .lst xs] st = .ok x st' ∧ x ∈ xs ∧ Cup rest st' := by
  have hl : 0 < xs.length := List.length_pos_iff.mpr h0
  obtain ⟨r, st', h, hr, hc'⟩ := roll_ok (n - 1) xs.length hc (by omega) (by omega) (by omega)
  have hr' : r < xs.length := by omega
  refine ⟨xs[r], st', ?_, List.getElem_mem hr', hc'⟩
  rw [call_at (by omega) rfl rfl]
  simp [h, subs_natL, hr']
theorem cup_ok (n : Nat) (v : PV) (ns : List Int) (hv : v = .scr ns ∨ v = .lst (ns.map .int)) (hn : ns.length ≤ 63) (h : 1 ≤ n) : ∃ st, callN T D n 27 [v] [] = .ok (.ref 0) st ∧ Cup [] st := by
  rw [call_at h rfl rfl]
  have hl : ns.length ≤ line := by unfold line; omega
  have hl1 : ns.length + 1 ≤ line := by unfold line; omega
  obtain ⟨x, hx⟩ : ∃ x : Int, ∀ st : Sto, subs (.lst (ns.map .int ++ [.int 0])) (.int 0) st = .ok (.int x) st := by
    cases ns with
    | nil => exact ⟨0, fun st => by simp⟩
    | cons n ns => exact ⟨n, fun st => by simp⟩
  have hli : ∀ st : Sto, builtin (.list false) [v] st = .ok (.lst (ns.map .int)) st := by
    intro st
    rcases hv with rfl | rfl
    · simp [builtin, bList, newL, hl]
    · simp [newL, hl]
  have hadd : ∀ st : Sto, newL false (ns.map PV.int ++ [.int 0]) st = .ok (.lst (ns.map .int ++ [.int 0])) st := by
    intro st
    simp [newL, hl1]
  have hab : ∀ st : Sto, builtin .abs [.int x] st = .ok (.int (if x < 0 then -x else x)) st := fun st => rfl
  have h1l : ∀ st : Sto, newL false [PV.int 0] st = .ok (.lst [.int 0]) st := fun st => rfl
  simp [hli, h1l, hadd, hx, hab]
  generalize hy : (if x < 0 then -x else x) = y
  have hy0 : 0 ≤ y := by rw [← hy]; split <;> omega
  have p1 : ∀ st : Sto, binop false .Pow (.int 10) (.int 18) st = .ok (.int 1000000000000000000) st := fun st => rfl
  have d1 : ∀ (x : Int) (st : Sto), binop false .FloorDiv (.int x) (.int 109) st = .ok (.int (x / 109)) st := fun x st => div_ii (by decide) (by decide)
  have m1 : ∀ (x : Int) (st : Sto), binop false .Mod (.int x) (.int 2077503049) st = .ok (.int (x % 2077503049)) st := fun x st => mod_ii (by decide)
  have h31 : ∀ (x : Int) (st : Sto), binop false .Mult (.int x) (.int 347) st = .ok (.int (x * 347)) st := fun x st => mul_ii (.inr rfl)
  have n1 := Int.emod_nonneg (y * 347 + 2767) (by omega : (2077503049 : Int) ≠ 0)
  have n2 := Int.emod_lt_of_pos (y * 347 + 2767) (by omega : (0 : Int) < 2077503049)
  have n3 : 0 ≤ y / 109 := Int.ediv_nonneg hy0 (by decide)
  simp [p1]
  by_cases hb : (1000000000000000000 : Int) ≤ y
  · refine ⟨[.lst [.int (y / 109), .int ((y * 347 + 2767) % 2077503049 + 223)]], ?_, y / 109, _, rfl, n3, by omega, by omega⟩
    simp [hb, d1, m1, h31, newL, line]
  · refine ⟨[.lst [.int 0, .int ((y * 347 + 2767) % 2077503049 + 223)]], ?_, 0, _, rfl, by omega, by omega, by omega⟩
    simp [hb, d1, m1, h31, newL, line]

end K52
namespace K52
open MP MQ
/-! L2: the law's own look at words; sizes. -/
def CellsOf (cs : List Wd) (C : PV) : Prop := C = .tup (cs.map enc) ∨ C = .lst (cs.map enc)
theorem CellsOf.closed {cs : List Wd} {C : PV} (h : CellsOf cs C) : closed C = true := by rcases h with rfl | rfl <;> simp
theorem law_words_in {cs : List Wd} {C : PV} (hC : CellsOf cs C) (hlen : cs.length < turns) (n : Nat) (w : Wd) (st : Sto) (h : 1 ≤ n) (hw : isTh w = true → thereW cs w = true) : callN T D n 30 [C, enc w] st = .ok (.lst ((innerW cs w).map enc)) st := by
  rw [call_at (by omega) rfl rfl]
  have hll : cs.length ≤ line := line_of hlen
  cases w with
  | pr i =>
    have e : (List.take 2 (List.drop i (cs.map enc))).length ≤ line := by simp; omega
    rcases hC with rfl | rfl
    · simp [enc, slice_tup, innerW]
      rw [cut_at i 2 rfl (by omega)]
      have : min 2 (cs.length - i) ≤ line := by omega
      simp [newL, this]
    · simp [enc, slice_lst, innerW]
      rw [cut_at i 2 rfl (by omega)]
      have : min 2 (cs.length - i) ≤ line := by omega
      simp [newL, this]
  | tp i =>
    obtain ⟨k, hk, _, _⟩ := there_tp (hw rfl)
    rcases hC with rfl | rfl
    · simp [enc, slice_tup, innerW, hk, subs_nat]
      rw [cut_at (i + 1) k (by omega) (by omega)]
      have : min k (cs.length - (i + 1)) ≤ line := by omega
      simp [newL, this]
    · simp [enc, slice_lst, innerW, hk, subs_natL]
      rw [cut_at (i + 1) k (by omega) (by omega)]
      have : min k (cs.length - (i + 1)) ≤ line := by omega
      simp [newL, this]
  | _ => simp [enc, innerW, newL]
theorem law_long {cs : List Wd} {C : PV} (hC : CellsOf cs C) (n : Nat) (w : Wd) (st : Sto) (h : 1 ≤ n) (hw : ∀ i, w = .tp i → ∃ k, cs[i]? = some (.cnt k)) : callN T D n 32 [C, enc w] st = .ok (.int (longW cs w)) st := by
  rw [call_at (by omega) rfl rfl]
  cases w with
  | tp i =>
    obtain ⟨k, hk⟩ := hw i rfl
    rcases hC with rfl | rfl <;> simp [enc, longW, hk, subs_nat, subs_natL]
  | _ => simp [enc, longW]
mutual
/-- a word whose value has a size -/
inductive Sz (cs : List Wd) : Wd → Nat → Prop
  | nil : Sz cs .nil 0
  | plain {w : Wd} (h : plainOk w = true) : Sz cs w 0
  | thing {w : Wd} {e : Nat} (h : isTh w = true) (ht : thereW cs w = true) (hs : Szs cs (innerW cs w) e) : Sz cs w (longW cs w + e)
inductive Szs (cs : List Wd) : List Wd → Nat → Prop
  | nil : Szs cs [] 0
  | cons {w : Wd} {ws : List Wd} {e e' : Nat} (h : Sz cs w e) (hs : Szs cs ws e') : Szs cs (w :: ws) (e + e')
end
theorem plain_not {w : Wd} (h : plainOk w = true) : isTh w = false := by cases w <;> first | rfl | (cases h; done)
theorem Sz.there {cs : List Wd} {w : Wd} {e : Nat} (h : Sz cs w e) (hw : isTh w = true) : thereW cs w = true := by
  cases h with
  | nil => cases hw
  | plain h => rw [plain_not h] at hw; cases hw
  | thing _ ht _ => exact ht
theorem Sz.inner {cs : List Wd} {w : Wd} {e : Nat} (h : Sz cs w e) (hw : isTh w = true) : ∃ e', e = longW cs w + e' ∧ Szs cs (innerW cs w) e' := by
  cases h with
  | nil => cases hw
  | plain h => rw [plain_not h] at hw; cases hw
  | thing _ ht hs => exact ⟨_, rfl, hs⟩
theorem Sz.none {cs : List Wd} {w : Wd} {e : Nat} (h : Sz cs w e) (hw : isTh w = false) : e = 0 ∧ (w = .nil ∨ plainOk w = true) := by
  cases h with
  | nil => exact ⟨rfl, .inl rfl⟩
  | plain h => exact ⟨rfl, .inr h⟩
  | thing h _ _ => rw [hw] at h; cases h
theorem long_two {cs : List Wd} {w : Wd} (ht : thereW cs w = true) (hne : innerW cs w ≠ []) : 2 ≤ longW cs w := by
  cases w with
  | pr i => simp [longW]
  | tp i =>
    obtain ⟨k, hk, _, _⟩ := there_tp ht
    simp only [innerW, hk] at hne
    simp only [longW, hk]
    cases k with
    | zero => simp at hne
    | succ k => omega
  | _ => cases ht
theorem Sz.left {cs : List Wd} : ∀ (f : Nat) (w : Wd) (e : Nat) (m : Int), Sz cs w e → (e : Int) ≤ m → m < 2 * f → leftW cs f w m = m - e
  | 0, w, e, m, h, h1, h2 => by omega
  | f + 1, w, e, m, h, h1, h2 => by
    cases hw : isTh w with
    | false =>
      obtain ⟨rfl, h3⟩ := h.none hw
      rcases h3 with rfl | h3
      · simp [leftW]
      · cases w <;> first | (cases hw; done) | (cases h3; done) | simp [leftW, h3]
    | true =>
      obtain ⟨e', rfl, hs⟩ := h.inner hw
      have ht := h.there hw
      rw [leftW_thing hw, if_pos ht]
      have go : ∀ (l : List Wd) (e2 : Nat) (m2 : Int), Szs cs l e2 → (e2 : Int) ≤ m2 → (l ≠ [] → m2 < 2 * f) → l.foldl (fun m p => if 0 ≤ m then leftW cs f p m else -1) m2 = m2 - e2 := by
        intro l
        induction l with
        | nil => intro e2 m2 hs h3 _; cases hs; simp
        | cons p l ih =>
          intro e2 m2 hs h3 h4
          cases hs with
          | @cons _ _ ep el hp hl =>
            have h4' := h4 (by simp)
            have e1 := Sz.left f p ep m2 hp (by omega) h4'
            rw [List.foldl_cons, if_pos (by omega), e1, ih el (m2 - ep) hl (by omega) (fun _ => by omega)]
            omega
      rw [go _ e' (m - longW cs w) hs (by omega) (fun hne => by have := long_two ht hne; omega)]
      omega
theorem Sz.uniq {cs : List Wd} {w : Wd} {x y : Nat} (h1 : Sz cs w x) (h2 : Sz cs w y) : x = y := by
  have a := h1.left (x + y + 1) w x (x + y : Nat) (by omega) (by omega)
  have b := h2.left (x + y + 1) w y (x + y : Nat) (by omega) (by omega)
  omega
theorem Szs.sum {cs : List Wd} {g : Wd → Nat} : ∀ {l : List Wd} {e : Nat}, Szs cs l e → (∀ p ∈ l, Sz cs p (g p)) → ((l.map fun p => (g p : Int)).sum) = e
  | [], _, hs, _ => by cases hs; simp
  | q :: l, _, hs, hgq => by
    cases hs with
    | @cons _ _ eq el hq hl =>
      have e1 := hq.uniq (hgq q (List.mem_cons_self ..))
      have e2 := Szs.sum hl (fun p hp => hgq p (List.mem_cons_of_mem _ hp))
      simp only [List.map_cons, List.sum_cons, e2]
      omega
theorem law_extent {cs : List Wd} {C : PV} (hC : CellsOf cs C) (hlen : cs.length < turns) : ∀ (f n : Nat) (w : Wd) (e : Nat) (st : Sto), Sz cs w e → e < 2 * f → f + 1 ≤ n → callN T D n 33 [C, enc w] st = .ok (.int e) st
  | 0, n, w, e, st, h, h1, h2 => by omega
  | f + 1, n, w, e, st, h, h1, h2 => by
    have hth := h.there
    have hcl := hC.closed
    have hil := (inner_len (cs := cs) (w := w)).2
    obtain ⟨g, hg⟩ : ∃ g : Wd → Nat, ∀ p, p ∈ innerW cs w → Sz cs p (g p) ∧ g p < 2 * f := by
      cases hw : isTh w with
      | false =>
        refine ⟨fun _ => 0, fun p hp => ?_⟩
        cases w <;> first | (cases hw; done) | (cases hp; done)
      | true =>
        obtain ⟨e', rfl, hs⟩ := h.inner hw
        have go : ∀ (l : List Wd) (e2 : Nat), Szs cs l e2 → ∀ p ∈ l, ∃ ep, Sz cs p ep ∧ ep ≤ e2 := by
          intro l
          induction l with
          | nil => intro e2 _ p hp; cases hp
          | cons q l ih =>
            intro e2 hs p hp
            cases hs with
            | @cons _ _ eq el hq hl =>
              rcases List.mem_cons.mp hp with rfl | hp
              · exact ⟨eq, hq, by omega⟩
              · obtain ⟨ep, h3, h4⟩ := ih el hl p hp
                exact ⟨ep, h3, by omega⟩
        have : ∀ p, ∃ ep, p ∈ innerW cs w → Sz cs p ep ∧ ep < 2 * f := by
          intro p
          by_cases hp : p ∈ innerW cs w
          · obtain ⟨ep, h3, h4⟩ := go _ _ hs p hp
            refine ⟨ep, fun _ => ⟨h3, ?_⟩⟩
            have := long_two (hth hw) (by intro hz; rw [hz] at hp; cases hp)
            omega
          · exact ⟨0, fun z => absurd z hp⟩
        exact ⟨fun p => (this p).choose, fun p hp => (this p).choose_spec hp⟩
    rw [call_at (by omega) rfl rfl]
    have h1' := law_long hC (n - 1) w [] (by omega) (fun i hi => by
      subst hi
      obtain ⟨k, hk, _⟩ := there_tp (hth rfl)
      exact ⟨k, hk⟩)
    have h2' := law_words_in hC hlen (n - 1) w [] (by omega) hth
    simp [pureCall, hcl, h1', h2']
    rw [compG_of enc (fun p => .int (g p)) (by omega) (fun p hp => by
      obtain ⟨h3, h4⟩ := hg p hp
      have := law_extent hC hlen f (n - 1) p (g p) [] h3 h4 (by omega)
      simp [stepC, gate, forget, pureCall, hcl, this])]
    have hl : (innerW cs w).length ≤ line := line_of (by omega)
    simp [newL_ok, hl]
    cases hw : isTh w with
    | false =>
      obtain ⟨rfl, h3⟩ := h.none hw
      cases w <;> first | (cases hw; done) | simp [innerW, longW]
    | true =>
      obtain ⟨e', rfl, hs⟩ := h.inner hw
      rw [hs.sum fun p hp => (hg p hp).1]
      simp
mutual
theorem Sz.app {cs : List Wd} (more : List Wd) : ∀ {w : Wd} {e : Nat}, Sz cs w e → Sz (cs ++ more) w e
  | _, _, .nil => .nil
  | _, _, .plain h => .plain h
  | w, _, .thing (e := e) h ht hs => by
    have h1 := Szs.app more hs
    have hg : ∀ (i : Nat) (c : Wd), cs[i]? = some c → (cs ++ more)[i]? = some c := fun i c hc => by
      rw [List.getElem?_append_left ((List.getElem?_eq_some_iff.mp hc).1)]
      exact hc
    have e1 : thereW (cs ++ more) w = true ∧ innerW (cs ++ more) w = innerW cs w ∧ longW (cs ++ more) w = longW cs w := by
      cases w with
      | pr i =>
        have := there_pr ht
        refine ⟨by simp [thereW]; omega, ?_, rfl⟩
        simp only [innerW]
        rw [List.drop_append_of_le_length (by omega), List.take_append_of_le_length (by simp; omega)]
      | tp i =>
        obtain ⟨k, hk, h2, h3⟩ := there_tp ht
        have hk' := hg i _ hk
        refine ⟨by simp [thereW, hk', h2]; omega, ?_, by simp [longW, hk, hk']⟩
        simp only [innerW, hk, hk']
        rw [List.drop_append_of_le_length (by omega), List.take_append_of_le_length (by simp; omega)]
      | _ => cases ht
    rw [← e1.2.2]
    exact .thing h e1.1 (by rw [e1.2.1]; exact h1)
theorem Szs.app {cs : List Wd} (more : List Wd) : ∀ {ws : List Wd} {e : Nat}, Szs cs ws e → Szs (cs ++ more) ws e
  | _, _, .nil => .nil
  | _, _, .cons h hs => .cons (h.app more) (hs.app more)
end

end K52
namespace K52
open MP MQ
/-! L3: random heaps. -/
def plainL : List Wd := [.num 0, .num 5, .num (-7), .atm [104,105], .atm [97], .prc 2, .nil]
theorem plainL_ok : ∀ w ∈ plainL, w = .nil ∨ plainOk w = true := by decide
theorem plainL_sz {cs : List Wd} {w : Wd} (h : w ∈ plainL) : Sz cs w 0 := by
  rcases plainL_ok w h with rfl | h
  · exact .nil
  · exact .plain h
theorem someE_ok {α : Type} {rest st : Sto} (e : α → PV) (n : Nat) (xs : List α) (hc : Cup rest st) (h0 : xs ≠ []) (h1 : xs.length < 1073741824) (hn : 2 ≤ n) : ∃ (x : α) (st' : Sto), callN T D n 29 [.ref 0, .lst (xs.map e)] st = .ok (e x) st' ∧ x ∈ xs ∧ Cup rest st' := by
  obtain ⟨x, st', h, hx, hc'⟩ := some_ok n (xs.map e) hc (by simpa using h0) (by simpa using h1) hn
  obtain ⟨y, hy, rfl⟩ := List.mem_map.mp hx
  exact ⟨y, st', h, hy, hc'⟩
theorem law_plain {rest st : Sto} (n : Nat) (hc : Cup rest st) (hn : 3 ≤ n) : ∃ (w : Wd) (st' : Sto), callN T D n 36 [.ref 0] st = .ok (enc w) st' ∧ w ∈ plainL ∧ Cup rest st' := by
  obtain ⟨x, st', h, hx, hc'⟩ := someE_ok enc (n - 1) plainL hc (by decide) (by decide) (by omega)
  refine ⟨x, st', ?_, hx, hc'⟩
  rw [call_at (by omega) rfl rfl]
  generalize enc x = y at h ⊢
  simp [plainL, enc] at h
  simp [newT, newL, line, h]
structure HeapOk (cs ws : List Wd) (t : Nat) : Prop where
  hw : ∀ w ∈ ws, ∃ e, e ≤ 57 ∧ Sz cs w e
  hc : ∀ c ∈ cs, (∃ k, k ≤ 6 ∧ c = .cnt k) ∨ ∃ e, e ≤ 57 ∧ Sz cs c e
  ne : ws ≠ []
  lc : cs.length ≤ 5 * t
  lw : ws.length ≤ 3 + t
theorem sz_len {cs : List Wd} {w : Wd} {e : Nat} (h : Sz cs w e) : lenOk w := by
  cases hw : isTh w with
  | false =>
    rcases (h.none hw).2 with rfl | h
    · trivial
    · cases w with
      | atm s =>
        have h : textOk s lettersV signsV = true := h
        show s.length ≤ line
        unfold textOk at h
        split at h
        · cases h
        · simp at h
          simp [line]
          omega
      | _ => trivial
  | true => cases w <;> first | trivial | (cases hw; done)
theorem HeapOk.lens {cs ws : List Wd} {t : Nat} (h : HeapOk cs ws t) : LensOk cs ∧ LensOk ws := by
  refine ⟨fun c hc => ?_, fun w hw => ?_⟩
  · rcases h.hc c hc with ⟨k, _, rfl⟩ | ⟨e, _, h⟩
    · trivial
    · exact sz_len h
  · obtain ⟨e, _, h⟩ := h.hw w hw
    exact sz_len h
theorem Szs.of {cs : List Wd} {g : Wd → Nat} : ∀ {l : List Wd}, (∀ p ∈ l, Sz cs p (g p)) → Szs cs l (l.map g).sum
  | [], _ => .nil
  | q :: l, h => by
    rw [List.map_cons, List.sum_cons]
    exact .cons (h q (List.mem_cons_self ..)) (Szs.of fun p hp => h p (List.mem_cons_of_mem _ hp))
/-- what is made of some words -/
def Made (cs own : List Wd) (w : Wd) (more : List Wd) : Prop := (w = .pr cs.length ∧ own.length = 2 ∧ more = own) ∨ (w = .tp cs.length ∧ 2 ≤ own.length ∧ own.length ≤ 3 ∧ more = .cnt own.length :: own)
theorem Made.sz {cs own more : List Wd} {w : Wd} {g : Wd → Nat} (h : Made cs own w more) (hg : ∀ p ∈ own, Sz cs p (g p)) : Sz (cs ++ more) w (longW (cs ++ more) w + (own.map g).sum) ∧ longW (cs ++ more) w ≤ 4 := by
  have hs := Szs.of hg
  have hs' := Szs.app more hs
  rcases h with ⟨rfl, h2, rfl⟩ | ⟨rfl, h2, h3, rfl⟩
  · refine ⟨.thing rfl (by simp [thereW]; omega) ?_, by simp [longW]⟩
    have : innerW (cs ++ more) (.pr cs.length) = more := by simp [innerW, List.take_of_length_le, h2]
    rw [this]
    exact hs'
  · have hk : (cs ++ Wd.cnt own.length :: own)[cs.length]? = some (.cnt own.length) := by simp
    refine ⟨.thing rfl (by simp [thereW, hk]; omega) ?_, by simp [longW, hk]; omega⟩
    have : innerW (cs ++ Wd.cnt own.length :: own) (.tp cs.length) = own := by
      simp only [innerW, hk]
      have : List.drop (cs.length + 1) cs = [] := List.drop_eq_nil_of_le (by omega)
      rw [List.drop_append, this]
      simp
    rw [this]
    exact hs'
theorem plain_no_atm {w : Wd} (h : w ∈ plainL) : ∀ k, w ≠ .cnt k := by
  intro k z
  subst z
  simp [plainL] at h
theorem sum_cast {g : Wd → Nat} : ∀ {l : List Wd}, ((l.map fun p => (g p : Int)).sum) = ((l.map g).sum : Nat)
  | [] => rfl
  | p :: l => by simp [sum_cast (l := l)]
theorem le_sum {g : Wd → Nat} {c : Wd} : ∀ {l : List Wd}, c ∈ l → g c ≤ (l.map g).sum
  | [], h => absurd h (by simp)
  | q :: l, h => by
    rw [List.map_cons, List.sum_cons]
    rcases List.mem_cons.mp h with rfl | h
    · omega
    · have := le_sum (g := g) h
      omega
/-- cells and words that grow -/
structure HeapP (cs ws : List Wd) (a b : Nat) : Prop where
  hw : ∀ w ∈ ws, ∃ e, e ≤ 57 ∧ Sz cs w e
  hc : ∀ c ∈ cs, (∃ k, k ≤ 6 ∧ c = .cnt k) ∨ ∃ e, e ≤ 57 ∧ Sz cs c e
  ne : ws ≠ []
  lc : cs.length ≤ a
  lw : ws.length ≤ b
theorem HeapP.grow {cs ws own more : List Wd} {w : Wd} {a b : Nat} {g : Wd → Nat} (h : HeapP cs ws a b) (hg : ∀ p ∈ own, Sz cs p (g p)) (hs : (own.map g).sum ≤ 50) (hm : Made cs own w more) : HeapP (cs ++ more) (ws ++ [w]) (a + 4) (b + 1) := by
  obtain ⟨hsz, hl⟩ := hm.sz hg
  refine ⟨fun v hv => ?_, fun c hc => ?_, by simp, ?_, by have := h.lw; simp; omega⟩
  · rcases List.mem_append.mp hv with hv | hv
    · obtain ⟨e, he, hz⟩ := h.hw v hv
      exact ⟨e, he, hz.app more⟩
    · rw [List.mem_singleton.mp hv]
      exact ⟨_, by omega, hsz⟩
  · rcases List.mem_append.mp hc with hc | hc
    · rcases h.hc c hc with h | ⟨e, he, hz⟩
      · exact .inl h
      · exact .inr ⟨e, he, hz.app more⟩
    · have ho : ∀ c ∈ own, ∃ e, e ≤ 57 ∧ Sz (cs ++ more) c e := fun c hc => by
        refine ⟨g c, ?_, (hg c hc).app more⟩
        have : g c ≤ (own.map g).sum := le_sum hc
        omega
      rcases hm with ⟨rfl, h2, rfl⟩ | ⟨rfl, h2, h3, rfl⟩
      · exact .inr (ho c hc)
      · rcases List.mem_cons.mp hc with rfl | hc
        · exact .inl ⟨_, by omega, rfl⟩
        · exact .inr (ho c hc)
  · have := h.lc
    rcases hm with ⟨rfl, h2, rfl⟩ | ⟨rfl, h2, h3, rfl⟩ <;> simp <;> omega
theorem HeapP.put {cs ws : List Wd} {c : Wd} {a b : Nat} (h : HeapP cs ws a b) (hc : c = .cnt 2 ∨ c = .nil ∨ c ∈ ws) : HeapP (cs ++ [c]) ws (a + 1) b := by
  refine ⟨fun v hv => ?_, fun d hd => ?_, h.ne, by have := h.lc; simp; omega, h.lw⟩
  · obtain ⟨e, he, hz⟩ := h.hw v hv
    exact ⟨e, he, hz.app _⟩
  · rcases List.mem_append.mp hd with hd | hd
    · rcases h.hc d hd with h | ⟨e, he, hz⟩
      · exact .inl h
      · exact .inr ⟨e, he, hz.app _⟩
    · rw [List.mem_singleton.mp hd]
      rcases hc with rfl | rfl | hc
      · exact .inl ⟨2, by omega, rfl⟩
      · exact .inr ⟨0, by omega, .nil⟩
      · obtain ⟨e, he, hz⟩ := h.hw c hc
        exact .inr ⟨e, he, hz.app _⟩
theorem HeapP.le {cs ws : List Wd} {a b a' b' : Nat} (h : HeapP cs ws a b) (ha : a ≤ a') (hb : b ≤ b') : HeapP cs ws a' b' := ⟨h.hw, h.hc, h.ne, Nat.le_trans h.lc ha, Nat.le_trans h.lw hb⟩
theorem HeapP.lens {cs ws : List Wd} {a b : Nat} (h : HeapP cs ws a b) : LensOk cs ∧ LensOk ws := by
  refine ⟨fun c hc => ?_, fun w hw => ?_⟩
  · rcases h.hc c hc with ⟨k, _, rfl⟩ | ⟨e, _, h⟩
    · trivial
    · exact sz_len h
  · obtain ⟨e, _, h⟩ := h.hw w hw
    exact sz_len h
theorem law_heap {rest st : Sto} (n : Nat) (many : Nat) (hc : Cup rest st) (hm : many ≤ 20) (hn : 40 ≤ n) : ∃ (cs ws : List Wd) (r : Int) (st' : Sto), callN T D n 37 [.ref 0, .int many] st = .ok (.tup [encH cs r, .lst (ws.map enc)]) st' ∧ HeapP cs ws (5 * many) (3 + many) ∧ (r = 256 ∨ r = 512) ∧ Cup rest st' := by
  rw [call_at (by omega) rfl rfl]
  have hwi : wide (many : Int) = true := wide_of (by omega) (by omega)
  simp [wide_of, newL, line]
  generalize hX : compG _ _ turns 0 [] _ = o
  obtain ⟨ys, st1, rfl, ⟨hc1, ws0, rfl, hws0, hwl⟩, _⟩ := comp_eqI hX (fun i acc st => Cup rest st ∧ ∃ ws : List Wd, acc = ws.map enc ∧ (∀ w ∈ ws, w ∈ plainL) ∧ ws.length = i) (fun i x acc st hx ⟨hc, ws, e, hw, hl⟩ => by
    obtain ⟨w, st', h, hw', hc'⟩ := law_plain (n - 1) hc (by omega)
    refine ⟨some (enc w), st', ?_, hc', ws ++ [w], by simp [e], fun v hv => ?_, by simp [hl]⟩
    · simp [stepC, gate, forget, h]
    · rcases List.mem_append.mp hv with hv | hv
      · exact hw v hv
      · rw [List.mem_singleton.mp hv]; exact hw') (by simp [turns_eq]) ⟨hc, [], rfl, fun _ h => absurd h (by simp), rfl⟩
  have hl0 : ws0.length = 3 := by simpa using hwl
  simp [newL, newT, line, hl0, hwi]
  generalize hY : forG _ _ turns 0 _ _ = o
  obtain ⟨σ', st2, rfl, cs, ws, x2, x5, x6, x7, x8, x9, rfl, hH, hc2⟩ := for_eqI hY (fun i σ st => ∃ (cs ws : List Wd) (x2 x5 x6 x7 x8 x9 : Option PV), σ = [some (.ref 0), some (.int many), x2, some (.lst (cs.map enc)), some (.lst (ws.map enc)), x5, x6, x7, x8, x9] ∧ HeapP cs ws (5 * i) (3 + i) ∧ Cup rest st) (fun i x σ st hx ⟨cs, ws, x2, x5, x6, x7, x8, x9, hσ, hH, hc⟩ => by
      obtain ⟨rfl, hi⟩ := rangeL_get hx
      subst hσ
      obtain ⟨k, st1, hr, hk, hc1⟩ := roll_ok (n - 1) 4 hc (by omega) (by omega) (by omega)
      have hwk : wide (k : Int) = true := wide_of (by omega) (by omega)
      simp [-exs_ife, forS, hr, hwk]
      generalize hX : compG _ _ turns 0 [] _ = o
      have hlw := hH.lw
      have hlc := hH.lc
      obtain ⟨ys, st2, rfl, ⟨hc2, own, rfl, how, hol⟩, _⟩ := comp_eqI hX (fun i acc st => Cup rest st ∧ ∃ ps : List Wd, acc = ps.map enc ∧ (∀ p ∈ ps, p ∈ ws) ∧ ps.length = i) (fun i x acc st hx ⟨hc, ps, e, hps, hl⟩ => by
        have hcut : ∃ us : List Wd, cut (ws.map enc) (some (-6)) none = us.map enc ∧ (∀ u ∈ us, u ∈ ws) ∧ us.length ≤ ws.length := by
          refine ⟨cut ws (some (-6)) none, ?_, fun u hu => ?_, ?_⟩
          · simp [cut, List.map_take, List.map_drop]
          · exact List.mem_of_mem_drop (List.mem_of_mem_take hu)
          · simp [cut]; omega
        obtain ⟨us, hus, hus2, hus3⟩ := hcut
        obtain ⟨w, st', h, hw', hc'⟩ := someE_ok enc (n - 1) (us ++ ws) hc (by simp [hH.ne]) (by simp; omega) (by omega)
        rw [List.map_append] at h
        have l1 : us.length ≤ line := by simp [line]; omega
        have l2 : us.length + ws.length ≤ line := by simp [line]; omega
        refine ⟨some (enc w), st', ?_, hc', ps ++ [w], by simp [e], fun v hv => ?_, by simp [hl]⟩
        · simp [stepC, gate, slice_lst, hus, newL, l1, l2, h]
        · rcases List.mem_append.mp hv with hv | hv
          · exact hps v hv
          · rw [List.mem_singleton.mp hv]
            rcases List.mem_append.mp hw' with h | h
            · exact hus2 w h
            · exact h) (by simp [turns_eq]; omega) ⟨hc1, [], rfl, fun _ h => absurd h (by simp), rfl⟩
      have hol : own.length = k := by simpa using hol
      have l3 : own.length ≤ line := by simp [line]; omega
      simp [-exs_ife, newL, l3]
      refine exs_step (Q := fun σ st => ∃ (own more : List Wd) (w : Wd) (y2 y9 : Option PV), σ = [some (.ref 0), some (.int many), y2, some (.lst (cs.map enc)), some (.lst (ws.map enc)), some (.lst (own.map enc)), some (.int cs.length), some (enc w), some (.lst (more.map enc)), y9] ∧ (∀ p ∈ own, p ∈ ws ∨ p ∈ plainL) ∧ Made cs own w more ∧ Cup rest st) ?_ ?_
      · obtain ⟨k3, st3, hr3, hk3, hc3⟩ := roll_ok (n - 1) 3 hc2 (by omega) (by omega) (by omega)
        have l7 : own.length ≤ 16777214 := by omega
        have l8 : own.length ≤ 16777215 := by omega
        by_cases hcond : k3 = 0 ∨ (own.length : Int) < 2
        · obtain ⟨p1, st4, hp1, hpm1, hc4⟩ := law_plain (n - 1) hc3 (by omega)
          obtain ⟨p2, st5, hp2, hpm2, hc5⟩ := law_plain (n - 1) hc4 (by omega)
          have hcut : cut (own.map enc ++ [enc p1, enc p2]) none (some 2) = (own.map enc ++ [enc p1, enc p2]).take 2 := cut_to (b := 2) 2 (by decide)
          have l6 : min 2 (own.length + 2) ≤ 16777216 := by omega
          refine ⟨[some (.ref 0), some (.int many), some (.int i), some (.lst (cs.map enc)), some (.lst (ws.map enc)), some (.lst (((own ++ [p1, p2]).take 2).map enc)), some (.int cs.length), some (enc (.pr cs.length)), some (.lst (((own ++ [p1, p2]).take 2).map enc)), x9], st5, ?_, _, _, .pr cs.length, some (.int i), x9, rfl, fun p hp => ?_, .inl ⟨rfl, by simp, rfl⟩, hc5⟩
          · simp [hr3, hp1, hp2, newL, newT, line, hcond, l7, slice_lst, hcut, l6, List.map_take]
            simp [enc]
          · have hp := List.mem_of_mem_take hp
            rcases List.mem_append.mp hp with hp | hp
            · exact .inl (how p hp)
            · simp at hp
              rcases hp with rfl | rfl
              · exact .inr hpm1
              · exact .inr hpm2
        · refine ⟨[some (.ref 0), some (.int many), some (.int i), some (.lst (cs.map enc)), some (.lst (ws.map enc)), some (.lst (own.map enc)), some (.int cs.length), some (enc (.tp cs.length)), some (.lst ((Wd.cnt own.length :: own).map enc)), x9], st3, ?_, own, _, .tp cs.length, some (.int i), x9, rfl, fun p hp => .inl (how p hp), .inr ⟨rfl, by omega, by omega, rfl⟩, hc3⟩
          simp [hr3, newL, newT, line, hcond, l8]
          simp [enc]
      · rintro σ1 st3 ⟨own2, more, w, y2, y9, rfl, how2, hmade, hc3⟩
        have hg0 : ∀ p, ∃ e, p ∈ own2 → e ≤ 57 ∧ Sz cs p e := fun p => by
          by_cases hp : p ∈ own2
          · rcases how2 p hp with h | h
            · obtain ⟨e, he, hz⟩ := hH.hw p h
              exact ⟨e, fun _ => ⟨he, hz⟩⟩
            · exact ⟨0, fun _ => ⟨by omega, plainL_sz h⟩⟩
          · exact ⟨0, fun z => absurd z hp⟩
        obtain ⟨g, hg⟩ : ∃ g : Wd → Nat, ∀ p, p ∈ own2 → g p ≤ 57 ∧ Sz cs p (g p) := ⟨fun p => (hg0 p).choose, fun p hp => (hg0 p).choose_spec hp⟩
        have hol2 : own2.length ≤ 3 ∧ more.length ≤ 4 := by rcases hmade with ⟨_, h2, rfl⟩ | ⟨_, _, h3, rfl⟩ <;> (try simp) <;> omega
        have l9 : own2.length ≤ 16777216 := by omega
        have l10 : cs.length + more.length ≤ 16777216 := by omega
        have l11 : ws.length + 1 ≤ 16777216 := by omega
        refine exs_step (Q := fun σ st => ∃ (cs ws : List Wd) (y2 y5 y6 y7 y8 y9 : Option PV), σ = [some (.ref 0), some (.int many), y2, some (.lst (cs.map enc)), some (.lst (ws.map enc)), y5, y6, y7, y8, y9] ∧ HeapP cs ws (5 * i + 4) (3 + i + 1) ∧ Cup rest st) ?_ ?_
        · have hsum := sum_cast (g := g) (l := own2)
          have hlc : ∀ (cf : CallF) (st : Sto), (∀ p ∈ own2, cf 33 [.lst (cs.map enc), enc p] [] = .ok (.int (g p)) []) → compG (.items (own2.map enc)) (stepC (.name 9) [some (.ref 0), some (.int many), y2, some (.lst (cs.map enc)), some (.lst (ws.map enc)), some (.lst (own2.map enc)), some (.int cs.length), some (enc w), some (.lst (more.map enc)), none] (gate T cf .nop) (ev T cf (.call 33 true (.cons (.var 3) (.cons (.var 9) .nil))))) turns 0 [] st = .ok (own2.map fun p => .int (g p)) st := by
            intro cf st hcf
            exact compG_of enc (fun p => .int (g p)) (by rw [turns_eq]; omega) (fun p hp => by simp [stepC, gate, pureCall, hcf p hp])
          have hext : ∀ p ∈ own2, callN T D (n - 1) 33 [.lst (cs.map enc), enc p] [] = .ok (.int (g p)) [] := fun p hp => law_extent (.inr rfl) (by rw [turns_eq]; omega) 30 (n - 1) p (g p) [] (hg p hp).2 (by have := (hg p hp).1; omega) (by omega)
          by_cases hle : ((own2.map g).sum : Int) ≤ 50
          · refine ⟨[some (.ref 0), some (.int many), y2, some (.lst ((cs ++ more).map enc)), some (.lst ((ws ++ [w]).map enc)), some (.lst (own2.map enc)), some (.int cs.length), some (enc w), some (.lst (more.map enc)), y9], st3, ?_, _, _, _, _, _, _, _, _, rfl, hH.grow (fun p hp => (hg p hp).2) (by omega) hmade, hc3⟩
            simp [hlc _ _ hext, newL, newT, line, l9, hsum, hle, l10, l11]
          · refine ⟨[some (.ref 0), some (.int many), y2, some (.lst (cs.map enc)), some (.lst (ws.map enc)), some (.lst (own2.map enc)), some (.int cs.length), some (enc w), some (.lst (more.map enc)), y9], st3, ?_, _, _, _, _, _, _, _, _, rfl, hH.le (by omega) (by omega), hc3⟩
            simp [hlc _ _ hext, newL, line, l9, hsum, hle]
        · rintro σ2 st4 ⟨cs2, ws2, z2, z5, z6, z7, z8, z9, rfl, hH2, hc4⟩
          have hlw2 := hH2.lw
          have hlc2 := hH2.lc
          obtain ⟨k6, st5, hr6, hk6, hc5⟩ := roll_ok (n - 1) 6 hc4 (by omega) (by omega) (by omega)
          refine ex_one ?_
          by_cases h6 : k6 = 0
          · obtain ⟨wl, hwl, hsub⟩ : ∃ wl ∈ ws2, ∀ st : Sto, subs (.lst (ws2.map enc)) (.int (-1)) st = .ok (enc wl) st := by
              refine ⟨ws2.getLast hH2.ne, List.getLast_mem _, fun st => ?_⟩
              have hp : 0 < ws2.length := List.length_pos_iff.mpr hH2.ne
              have h1 : -(ws2.length : Int) ≤ -1 := by omega
              have h2 : ((-1 : Int) + ws2.length).toNat = ws2.length - 1 := by omega
              have h3 : ws2[ws2.length - 1]? = some (ws2.getLast hH2.ne) := by rw [List.getLast_eq_getElem, List.getElem?_eq_getElem (by omega)]
              simp [subs, ixOf, h1, h2, h3]
            obtain ⟨c, st6, hsome, hcm, hc6⟩ := someE_ok enc (n - 1) [Wd.cnt 2, .nil, wl] hc5 (by simp) (by simp) (by omega)
            have hsome' : callN T D (n - 1) 29 [.ref 0, .lst [.tup [.str [99, 111, 117, 110, 116], .int 2], .tup [.str [110, 105, 108]], enc wl]] st5 = .ok (enc c) st6 := hsome
            have l12 : cs2.length + 1 ≤ 16777216 := by omega
            refine ⟨[some (.ref 0), some (.int many), z2, some (.lst ((cs2 ++ [c]).map enc)), some (.lst (ws2.map enc)), z5, z6, z7, z8, z9], st6, ?_, _, _, ⟨_, _, _, _, _, _, rfl⟩, (hH2.put (c := c) (by simp at hcm; rcases hcm with rfl | rfl | rfl <;> simp [hwl])).le (by omega) (by omega), hc6⟩
            simp [hr6, h6, newT, newL, line, hsub, hsome', l12]
          · refine ⟨[some (.ref 0), some (.int many), z2, some (.lst (cs2.map enc)), some (.lst (ws2.map enc)), z5, z6, z7, z8, z9], st5, ?_, _, _, ⟨_, _, _, _, _, _, rfl⟩, hH2.le (by omega) (by omega), hc5⟩
            simp [hr6, h6]
            ) (by simp [turns_eq]; omega) ⟨[], ws0, _, _, _, _, _, _, rfl, ⟨fun w hw => ⟨0, by omega, plainL_sz (hws0 w hw)⟩, fun c hc => absurd hc (by simp), by intro z; simp [z] at hl0, by simp, by omega⟩, hc1⟩
  simp at hH
  have hlc := hH.lc
  have l13 : cs.length ≤ 16777216 := by omega
  obtain ⟨r, st3, hr, hrm, hc3⟩ := someE_ok PV.int (n - 1) [256, 512] hc2 (by simp) (by simp) (by omega)
  have hr' : callN T D (n - 1) 29 [.ref 0, .lst [.int 256, .int 512]] st2 = .ok (.int r) st3 := hr
  refine ⟨cs, ws, r, st3, ?_, hH, by simpa using hrm, hc3⟩
  simp [newL, newT, line, l13, hr', encH]

end K52
namespace K52
open MP MQ
/-! S1: sorted things; going through what is reached. -/
theorem eqv_enc (u w : Wd) : eqv (enc u) (enc w) = decide (u = w) := by
  cases u <;> cases w <;> simp [enc]
  all_goals (rename_i a b; by_cases h : a = b <;> simp [h] <;> (try omega))
def k1 : Wd → Nat
  | .pr _ => 0
  | _ => 1
def k2 : Wd → Nat
  | .pr i | .tp i => i
  | _ => 0
def ltW (a b : Wd) : Bool := decide (k1 a < k1 b ∨ (k1 a = k1 b ∧ k2 a < k2 b))
theorem keys_eq {a b : Wd} (ha : isTh a = true) (hb : isTh b = true) (h1 : k1 a = k1 b) (h2 : k2 a = k2 b) : a = b := by
  cases a <;> cases b <;> simp [isTh, k1, k2] at * <;> assumption
theorem str_pt : decide (([112, 97, 105, 114] : List Nat) < [116, 117, 112, 108, 101]) = true := by decide
theorem str_tp : decide (([116, 117, 112, 108, 101] : List Nat) < [112, 97, 105, 114]) = false := by decide
theorem lt2_enc {a b : Wd} (ha : isTh a = true) (hb : isTh b = true) : lt2 (enc a) (enc b) = ltW a b := by
  cases a <;> first | (cases ha; done) | skip
  all_goals cases b <;> first | (cases hb; done) | skip
  all_goals simp [enc, lt2, lts, ltW, k1, k2, str_pt, str_tp]
  all_goals omega
def insW (x : Wd) : List Wd → List Wd
  | [] => [x]
  | y :: ys => if ltW y x then y :: insW x ys else x :: y :: ys
def sortW : List Wd → List Wd
  | [] => []
  | x :: xs => insW x (sortW xs)
theorem insW_mem {x z : Wd} : ∀ {l : List Wd}, z ∈ insW x l ↔ z = x ∨ z ∈ l
  | [] => by simp [insW]
  | y :: l => by
    unfold insW
    split
    · simp [insW_mem (l := l)]
      grind
    · simp
theorem sortW_mem {z : Wd} : ∀ {l : List Wd}, z ∈ sortW l ↔ z ∈ l
  | [] => Iff.rfl
  | y :: l => by simp [sortW, insW_mem, sortW_mem (l := l)]
theorem insP_enc {x : Wd} (hx : isTh x = true) : ∀ {l : List Wd}, (∀ w ∈ l, isTh w = true) → insP (enc x) (l.map enc) = (insW x l).map enc
  | [], _ => rfl
  | y :: l, h => by
    rw [List.map_cons, insP, insW, lt2_enc (h y (List.mem_cons_self ..)) hx]
    split
    · rw [insP_enc hx fun w hw => h w (List.mem_cons_of_mem _ hw)]; rfl
    · rfl
theorem sortP_enc : ∀ {l : List Wd}, (∀ w ∈ l, isTh w = true) → sortP (l.map enc) = (sortW l).map enc
  | [], _ => rfl
  | y :: l, h => by
    have h' : ∀ w ∈ l, isTh w = true := fun w hw => h w (List.mem_cons_of_mem _ hw)
    rw [List.map_cons, sortP, sortP_enc h', sortW, insP_enc (h y (List.mem_cons_self ..)) (fun w hw => h' w (sortW_mem.mp hw))]
theorem ltW_iff {a b : Wd} : ltW a b = true ↔ (k1 a < k1 b ∨ (k1 a = k1 b ∧ k2 a < k2 b)) := by simp [ltW]
theorem ltW_niff {a b : Wd} : ltW a b = false ↔ ¬ (k1 a < k1 b ∨ (k1 a = k1 b ∧ k2 a < k2 b)) := by simp [ltW]
theorem insW_comm {x y : Wd} (hx : isTh x = true) (hy : isTh y = true) : ∀ l : List Wd, insW x (insW y l) = insW y (insW x l) := by
  intro l
  by_cases he : k1 x = k1 y ∧ k2 x = k2 y
  · rw [keys_eq hx hy he.1 he.2]
  have tot : ltW x y = !ltW y x := by
    cases h : ltW y x with
    | true => rw [ltW_iff] at h; exact ltW_niff.mpr (by omega)
    | false => rw [ltW_niff] at h; exact ltW_iff.mpr (by omega)
  have tr : ∀ {a b z : Wd}, ltW z b = false → ltW z a = true → ltW b a = true := by
    intro a b z h1 h2
    rw [ltW_niff] at h1
    rw [ltW_iff] at h2
    exact ltW_iff.mpr (by omega)
  induction l with
  | nil => cases h : ltW y x <;> simp [insW, h, tot]
  | cons z l ih =>
    cases h1 : ltW z x with
    | true =>
      cases h2 : ltW z y with
      | true => simp [insW, h1, h2, ih]
      | false =>
        have h3 := tr h2 h1
        simp [insW, h1, h2, h3]
    | false =>
      cases h2 : ltW z y with
      | true =>
        have h3 := tr h1 h2
        simp [insW, h1, h2, h3]
      | false => cases h : ltW y x <;> simp [insW, h1, h2, h, tot]
theorem sortW_perm {a b : List Wd} (h : a.Perm b) (ha : ∀ w ∈ a, isTh w = true) : sortW a = sortW b := by
  induction h with
  | nil => rfl
  | cons x _ ih => rw [sortW, sortW, ih fun w hw => ha w (List.mem_cons_of_mem _ hw)]
  | swap x y l => rw [sortW, sortW, sortW, sortW, insW_comm (ha _ (by simp)) (ha _ (by simp))]
  | trans h1 h2 ih1 ih2 => rw [ih1 ha, ih2 fun w hw => ha w (h1.mem_iff.mpr hw)]
/-! what is reached -/
inductive Rch (cs roots : List Wd) : Wd → Prop
  | root {w : Wd} (h : w ∈ roots) : Rch cs roots w
  | step {w p : Wd} (hw : isTh w = true) (hr : Rch cs roots w) (hp : p ∈ innerW cs w) : Rch cs roots p
/-- what has been found, what stands in line -/
structure Walk (cs roots F L : List Wd) : Prop where
  nd : F.Nodup
  th : ∀ w ∈ F, isTh w = true
  rf : ∀ w ∈ F, Rch cs roots w
  rl : ∀ w ∈ L, Rch cs roots w
  ro : ∀ w ∈ roots, isTh w = true → w ∈ F ∨ w ∈ L
  cl : ∀ w ∈ F, ∀ p ∈ innerW cs w, isTh p = true → p ∈ F ∨ p ∈ L
theorem Walk.start {cs roots : List Wd} {L : List Wd} (h : ∀ w, w ∈ L ↔ w ∈ roots) : Walk cs roots [] L :=
  ⟨List.nodup_nil, fun _ z => absurd z (by simp), fun _ z => absurd z (by simp), fun w hw => .root ((h w).mp hw), fun w hw _ => .inr ((h w).mpr hw), fun _ z => absurd z (by simp)⟩
theorem Walk.skip {cs roots F L L' : List Wd} {w : Wd} (h : Walk cs roots F L) (hL : ∀ x, x ∈ L ↔ x = w ∨ x ∈ L') (hw : isTh w = false ∨ w ∈ F) : Walk cs roots F L' := by
  refine ⟨h.nd, h.th, h.rf, fun x hx => h.rl x ((hL x).mpr (.inr hx)), fun x hx ht => ?_, fun v hv p hp ht => ?_⟩
  · rcases h.ro x hx ht with h1 | h1
    · exact .inl h1
    · rcases (hL x).mp h1 with rfl | h2
      · rcases hw with hw | hw
        · rw [hw] at ht; cases ht
        · exact .inl hw
      · exact .inr h2
  · rcases h.cl v hv p hp ht with h1 | h1
    · exact .inl h1
    · rcases (hL p).mp h1 with rfl | h2
      · rcases hw with hw | hw
        · rw [hw] at ht; cases ht
        · exact .inl hw
      · exact .inr h2
theorem Walk.take {cs roots F L L' L'' : List Wd} {w : Wd} (h : Walk cs roots F L) (hL : ∀ x, x ∈ L ↔ x = w ∨ x ∈ L') (hw : isTh w = true) (hn : w ∉ F) (hL2 : ∀ x, x ∈ L'' ↔ x ∈ L' ∨ x ∈ innerW cs w) : Walk cs roots (F ++ [w]) L'' := by
  have hwL : Rch cs roots w := h.rl w ((hL w).mpr (.inl rfl))
  have mv : ∀ x, x ∈ F ∨ x ∈ L → x ∈ F ++ [w] ∨ x ∈ L'' := fun x hx => by
    rcases hx with hx | hx
    · exact .inl (by simp [hx])
    · rcases (hL x).mp hx with rfl | hx
      · exact .inl (by simp)
      · exact .inr ((hL2 x).mpr (.inl hx))
  refine ⟨?_, fun x hx => ?_, fun x hx => ?_, fun x hx => ?_, fun x hx ht => mv x (h.ro x hx ht), fun v hv p hp ht => ?_⟩
  · rw [List.nodup_append]
    refine ⟨h.nd, by simp, fun a ha b hb => ?_⟩
    rw [List.mem_singleton.mp hb]
    intro z
    subst z
    exact hn ha
  · rcases List.mem_append.mp hx with hx | hx
    · exact h.th x hx
    · rw [List.mem_singleton.mp hx]; exact hw
  · rcases List.mem_append.mp hx with hx | hx
    · exact h.rf x hx
    · rw [List.mem_singleton.mp hx]; exact hwL
  · rcases (hL2 x).mp hx with hx | hx
    · exact h.rl x ((hL x).mpr (.inr hx))
    · exact .step hw hwL hx
  · rcases List.mem_append.mp hv with hv | hv
    · exact mv p (h.cl v hv p hp ht)
    · rw [List.mem_singleton.mp hv] at hp
      exact .inr ((hL2 p).mpr (.inr hp))
theorem Walk.all {cs roots F : List Wd} (h : Walk cs roots F []) : ∀ w, w ∈ F ↔ (isTh w = true ∧ Rch cs roots w) := fun w => by
  refine ⟨fun hw => ⟨h.th w hw, h.rf w hw⟩, fun ⟨ht, hr⟩ => ?_⟩
  induction hr with
  | root hm => rcases h.ro _ hm ht with h1 | h1
               · exact h1
               · cases h1
  | step hw hr hp ih => rcases h.cl _ (ih ⟨hw, hr⟩ hw) _ hp ht with h1 | h1
                        · exact h1
                        · cases h1
theorem nodup_le {α : Type} [DecidableEq α] : ∀ {F U : List α}, F.Nodup → (∀ x ∈ F, x ∈ U) → F.length ≤ U.length
  | [], _, _, _ => Nat.zero_le _
  | x :: F, U, hn, hs => by
    have hx : x ∈ U := hs x (List.mem_cons_self ..)
    have hn' := List.nodup_cons.mp hn
    have ih := nodup_le (F := F) (U := U.erase x) hn'.2 fun y hy => by
      have hne : y ≠ x := fun z => hn'.1 (z ▸ hy)
      exact (List.mem_erase_of_ne hne).mpr (hs y (List.mem_cons_of_mem _ hy))
    rw [List.length_erase_of_mem hx] at ih
    have : 0 < U.length := List.length_pos_of_mem hx
    simp
    omega
theorem Rch.mem {cs roots : List Wd} {w : Wd} (h : Rch cs roots w) : w ∈ roots ++ cs := by
  cases h with
  | root h => exact List.mem_append_left _ h
  | step _ _ hp => exact List.mem_append_right _ (inner_mem hp)
theorem Walk.len {cs roots F L : List Wd} (h : Walk cs roots F L) : F.length ≤ roots.length + cs.length := by
  have := nodup_le h.nd fun x hx => (h.rf x hx).mem
  simpa using this
theorem Walk.perm {cs roots F G : List Wd} (h : Walk cs roots F []) (h2 : Walk cs roots G []) : F.Perm G := by
  rw [List.perm_ext_iff_of_nodup h.nd h2.nd]
  intro w
  rw [h.all, h2.all]
theorem Walk.sort {cs roots F G : List Wd} (h : Walk cs roots F []) (h2 : Walk cs roots G []) : sortP (F.map enc) = sortP (G.map enc) := by
  rw [sortP_enc h.th, sortP_enc h2.th, sortW_perm (h.perm h2) h.th]
/-- sizes of all that is reached -/
theorem Rch.sz {cs roots : List Wd} {w : Wd} (hr : ∀ r ∈ roots, ∃ e, Sz cs r e) (h : Rch cs roots w) : ∃ e, Sz cs w e := by
  induction h with
  | root h => exact hr _ h
  | step hw _ hp ih =>
    obtain ⟨e, he⟩ := ih
    obtain ⟨e', rfl, hs⟩ := he.inner hw
    have go : ∀ (l : List Wd) (e2 : Nat), Szs cs l e2 → ∀ p ∈ l, ∃ ep, Sz cs p ep := by
      intro l
      induction l with
      | nil => intro e2 _ p hp; cases hp
      | cons q l ih =>
        intro e2 hs p hp
        cases hs with
        | @cons _ _ eq el hq hl =>
          rcases List.mem_cons.mp hp with rfl | hp
          · exact ⟨eq, hq⟩
          · exact ih el hl p hp
    exact go _ _ hs _ hp
theorem inner_six {cs : List Wd} {w : Wd} (h : isTh w = true → thereW cs w = true) : (innerW cs w).length ≤ 6 := by
  cases w with
  | pr i => simp [innerW]; omega
  | tp i =>
    obtain ⟨k, hk, h6, _⟩ := there_tp (h rfl)
    simp [innerW, hk]
    omega
  | _ => simp [innerW]
theorem sortOk_enc {F : List Wd} (h : ∀ w ∈ F, isTh w = true) : sortOk (F.map enc) = true := by
  unfold sortOk
  simp only [Bool.and_eq_true, Bool.or_eq_true, List.all_eq_true]
  refine ⟨⟨fun x hx y hy => ?_, .inl fun x hx => ?_⟩, datasN_all fun x hx => ?_⟩
  · obtain ⟨a, ha, rfl⟩ := List.mem_map.mp hx
    obtain ⟨b, hb, rfl⟩ := List.mem_map.mp hy
    have h1 := h a ha
    have h2 := h b hb
    cases a <;> first | (cases h1; done) | skip
    all_goals cases b <;> first | (cases h2; done) | rfl
  · obtain ⟨a, ha, rfl⟩ := List.mem_map.mp hx
    cases a <;> rfl
  · obtain ⟨a, ha, rfl⟩ := List.mem_map.mp hx
    exact dataN_enc a 148

end K52
namespace K52
open MP MQ
/-! G1: going on, thing by thing, in the order of meeting. -/
inductive Goes (cs : List Wd) : List Wd → List Wd → List Wd → Prop
  | done {F : List Wd} : Goes cs F [] F
  | skip {F L G : List Wd} {w : Wd} (h : isTh w = false ∨ w ∈ F) (g : Goes cs F L G) : Goes cs F (w :: L) G
  | take {F L G : List Wd} {w : Wd} (h : isTh w = true) (hn : w ∉ F) (g : Goes cs (F ++ [w]) (L ++ innerW cs w) G) : Goes cs F (w :: L) G
theorem Goes.uniq {cs F L G1 G2 : List Wd} (h1 : Goes cs F L G1) (h2 : Goes cs F L G2) : G1 = G2 := by
  induction h1 with
  | done => cases h2; rfl
  | skip h g ih =>
    cases h2 with
    | skip _ g2 => exact ih g2
    | take h3 h4 _ =>
      rcases h with h | h
      · rw [h] at h3; cases h3
      · exact absurd h h4
  | take h hn g ih =>
    cases h2 with
    | skip h3 _ =>
      rcases h3 with h3 | h3
      · rw [h] at h3; cases h3
      · exact absurd h3 hn
    | take _ _ g2 => exact ih g2

end K52
namespace K52
open MP MQ
/-! L4: roots; the law's own look at a heap. -/
theorem law_roots {rest st : Sto} (n : Nat) (ws : List Wd) (hc : Cup rest st) (hne : ws ≠ []) (hl : ws.length < 1000) (hn : 3 ≤ n) : ∃ (rs : List Wd) (st' : Sto), callN T D n 38 [.ref 0, .lst (ws.map enc)] st = .ok (.tup (rs.map enc)) st' ∧ (∀ r ∈ rs, r ∈ ws) ∧ rs.length < 5 ∧ Cup rest st' := by
  rw [call_at (by omega) rfl rfl]
  obtain ⟨k, st1, hr, hk, hc1⟩ := roll_ok (n - 1) 5 hc (by omega) (by omega) (by omega)
  have hwk : wide (k : Int) = true := wide_of (by omega) (by omega)
  simp [hr, hwk]
  generalize hX : compG _ _ turns 0 [] _ = o
  obtain ⟨ys, st2, rfl, ⟨hc2, rs, rfl, hrs, hrl⟩, _⟩ := comp_eqI hX (fun i acc st => Cup rest st ∧ ∃ rs : List Wd, acc = rs.map enc ∧ (∀ w ∈ rs, w ∈ ws) ∧ rs.length = i) (fun i x acc st hx ⟨hc, rs, e, hw, hl'⟩ => by
    obtain ⟨w, st', h, hw', hc'⟩ := someE_ok enc (n - 1) ws hc hne (by omega) (by omega)
    refine ⟨some (enc w), st', ?_, hc', rs ++ [w], by simp [e], fun v hv => ?_, by simp [hl']⟩
    · simp [stepC, gate, forget, h]
    · rcases List.mem_append.mp hv with hv | hv
      · exact hw v hv
      · rw [List.mem_singleton.mp hv]; exact hw') (by simp [turns_eq]; omega) ⟨hc1, [], rfl, fun _ h => absurd h (by simp), rfl⟩
  have hrl : rs.length = k := by simpa using hrl
  have l1 : rs.length ≤ 16777216 := by omega
  refine ⟨rs, st2, ?_, hrs, by omega, hc2⟩
  simp [newL, newT, line, l1]
/-- a word that is no count is right as it stands -/
def wordGood (w : Wd) : Prop := isTh w = true ∨ w = .nil ∨ plainOk w = true
def CellsGood (cs : List Wd) : Prop := ∀ c ∈ cs, (∃ k, k ≤ 6 ∧ c = .cnt k) ∨ wordGood c
theorem CellsGood.lens {cs : List Wd} (h : CellsGood cs) : LensOk cs := fun c hc => by
  rcases h c hc with ⟨k, _, rfl⟩ | h | rfl | h
  · trivial
  · cases c <;> first | trivial | (cases h; done)
  · trivial
  · exact sz_len (cs := []) (.plain h)
end K52
namespace K52
open MP MQ
/-! L5: the law's own going through what is reached. -/
theorem get_last {st : Sto} {o : MO} : (st ++ [o])[st.length]? = some o := by simp
theorem set_last {st : Sto} {o p : MO} : (st ++ [o]).set st.length p = st ++ [p] := by simp
theorem any_enc {w : Wd} : ∀ {F : List Wd}, ((F.map enc).any fun z => eqv z (enc w)) = decide (w ∈ F)
  | [] => rfl
  | u :: F => by
    rw [List.map_cons, List.any_cons, any_enc (F := F), eqv_enc]
    by_cases h : u = w
    · simp [h]
    · have : ¬ w = u := fun z => h z.symm
      simp [h, this]
theorem law_metG {cs rs : List Wd} (hlen : cs.length ≤ 1000) (hrl : rs.length ≤ 1000) (hsz : ∀ w ∈ rs, ∃ e, Sz cs w e) (n : Nat) (st : Sto) (hn : 3 ≤ n) :
    ∃ F, callN T D n 34 [.tup (cs.map enc), .tup (rs.map enc)] st = .ok (.ref st.length) (st ++ [.lst (F.map enc)]) ∧ Walk cs rs F [] ∧ Goes cs [] rs F := by
  rw [call_at (by omega) rfl rfl]
  have hl1 : rs.length ≤ 16777216 := by omega
  have hnl : newL true [] st = .ok (.ref st.length) (st ++ [.lst []]) := rfl
  simp [-exs_ret, newL_ok (xs := rs.map enc) (by simp [line]; omega), hnl]
  generalize hX : whileG _ _ turns _ _ = o
  have hmeas : 7 * (rs.length + cs.length) + rs.length < turns := by rw [turns_eq]; omega
  obtain ⟨σ', st', rfl, F, x4, rfl, rfl, hW, hG⟩ := while_eq hX (fun m σ st2 => ∃ (F L : List Wd) (x4 : Option PV), σ = [some (.tup (cs.map enc)), some (.tup (rs.map enc)), some (.ref st.length), some (.lst (L.map enc)), x4] ∧ st2 = st ++ [.lst (F.map enc)] ∧ Walk cs rs F L ∧ (∀ G, Goes cs F L G → Goes cs [] rs G) ∧ m ≤ 7 * (rs.length + cs.length) + rs.length ∧ m = 7 * (rs.length + cs.length - F.length) + L.length)
    (fun σ st2 => ∃ (F : List Wd) (x4 : Option PV), σ = [some (.tup (cs.map enc)), some (.tup (rs.map enc)), some (.ref st.length), some (.lst []), x4] ∧ st2 = st ++ [.lst (F.map enc)] ∧ Walk cs rs F [] ∧ Goes cs [] rs F)
    (fun m σ st2 ⟨F, L, x4, hσ, hst, hW, hG, hm0, hm⟩ => by
      subst hσ hst
      cases L with
      | nil =>
        left
        refine ⟨st ++ [.lst (F.map enc)], ?_, F, x4, rfl, rfl, hW, hG _ .done⟩
        have : ∀ st : Sto, cmpop .NotEq (.lst []) (.lst []) st = some false := fun st => ne_nilL rfl
        simp [this]
      | cons w L' =>
        right
        have hmem : ∀ x, x ∈ w :: L' ↔ x = w ∨ x ∈ L' := fun x => by simp
        have hFl := hW.len
        have hne : ∀ st : Sto, cmpop .NotEq (.lst ((w :: L').map enc)) (.lst []) st = some true := fun st => by
          rw [ne_nilL (datas_encs _)]
          rfl
        have hl7 : (w :: L').length ≤ 7 * (rs.length + cs.length) + rs.length := by omega
        simp at hl7 hm
        have hszw := hW.rl w (by simp)
        obtain ⟨e, hsz'⟩ := hszw.sz hsz
        have hs0 : ∀ st : Sto, subs (.lst ((w :: L').map enc)) (.int 0) st = .ok (enc w) st := fun st => by simp
        have hs1 : ∀ st : Sto, slice false (.lst ((w :: L').map enc)) (some 1) none st = .ok (.lst (L'.map enc)) st := fun st => by
          rw [slice_lst, cut_from (a := 1) 1 (by decide)]
          simp
          rw [newL_ok (by simp [line]; omega)]
        have hin0 : ∀ st : Sto, ((subs (enc w) (.int 0) st).bind fun x st1 => blOut (cmpop .In x (.tup [.str [116, 117, 112, 108, 101], .str [112, 97, 105, 114]]) st1) st1) = .ok (.bl (isTh w)) st := by
          intro st
          cases hth : isTh w with
          | true => cases w <;> first | (cases hth; done) | simp [enc]
          | false =>
            rcases hsz'.none hth with ⟨_, rfl | h⟩
            · simp [enc]
            · cases w <;> first | (cases hth; done) | (cases h; done) | simp [enc]
        have hnin : cmpop .NotIn (enc w) (.ref st.length) (st ++ [.lst (F.map enc)]) = some (!decide (w ∈ F)) := by
          have h1 : rd (st ++ [.lst (F.map enc)]) (.ref st.length) = .lst (F.map enc) := by simp [rd]
          have h2 : dataN deep (enc w) = true := dataN_enc w 148
          have h3 := any_enc (F := F) (w := w)
          simp only [cmpop, isIn, isIn2, h1, h2, datas_encs, Bool.and_self, if_true, Option.map_some, h3]
        generalize (w :: L').map enc = ls at hne hs0 hs1 ⊢
        cases hth : isTh w with
        | false =>
          rw [hth] at hin0
          refine ⟨st ++ [.lst (F.map enc)], [some (.tup (cs.map enc)), some (.tup (rs.map enc)), some (.ref st.length), some (.lst (L'.map enc)), some (enc w)], st ++ [.lst (F.map enc)], ?_, ?_, 7 * (rs.length + cs.length - F.length) + L'.length, by omega, F, L', _, rfl, rfl, hW.skip hmem (.inl hth), fun G g => hG G (.skip (.inl hth) g), by omega, rfl⟩
          · simp [hne]
          · simp [hs0, hs1, hin0]
        | true =>
          rw [hth] at hin0
          by_cases hF : w ∈ F
          · refine ⟨st ++ [.lst (F.map enc)], [some (.tup (cs.map enc)), some (.tup (rs.map enc)), some (.ref st.length), some (.lst (L'.map enc)), some (enc w)], st ++ [.lst (F.map enc)], ?_, ?_, 7 * (rs.length + cs.length - F.length) + L'.length, by omega, F, L', _, rfl, rfl, hW.skip hmem (.inr hF), fun G g => hG G (.skip (.inr hF) g), by omega, rfl⟩
            · simp [hne]
            · simp [hs0, hs1, hin0, hnin, hF]
          · have hthere := hsz'.there hth
            have hin := law_words_in (cs := cs) (.inl rfl) (by rw [turns_eq]; omega) (n - 1) w [] (by omega) (fun _ => hthere)
            have hW' := hW.take (L'' := L' ++ innerW cs w) hmem hth hF (fun x => by simp)
            have h6 := inner_six (cs := cs) (w := w) (fun _ => hthere)
            have hFl' := hW'.len
            simp at hFl'
            have happ : method .append (.ref st.length) [enc w] (st ++ [.lst (F.map enc)]) = .ok .non (st ++ [.lst ((F ++ [w]).map enc)]) := by
              have : F.length < line := by simp [line]; omega
              simp [method, methodAt, this]
            have hrl2 : isLst (rd (st ++ [.lst (F.map enc)]) (.ref st.length)) = true := by simp [rd, isLst]
            have hl8 : (L'.map enc ++ (innerW cs w).map enc).length ≤ line := by simp [line]; omega
            refine ⟨st ++ [.lst (F.map enc)], [some (.tup (cs.map enc)), some (.tup (rs.map enc)), some (.ref st.length), some (.lst ((L' ++ innerW cs w).map enc)), some (enc w)], st ++ [.lst ((F ++ [w]).map enc)], ?_, ?_, 7 * (rs.length + cs.length - (F ++ [w]).length) + (L' ++ innerW cs w).length, by simp; omega, F ++ [w], L' ++ innerW cs w, _, rfl, rfl, hW', fun G g => hG G (.take hth hF g), by simp; omega, rfl⟩
            · simp [hne]
            · simp [hs0, hs1, hin0, hnin, hF, hrl2, happ, pureCall, hin, newL_ok hl8]) _ hmeas ⟨[], rs, none, rfl, rfl, Walk.start fun w => Iff.rfl, fun _ g => g, by omega, by simp⟩
  exact ⟨F, by simp, hW, hG⟩
theorem law_met {cs rs : List Wd} (hlen : cs.length ≤ 1000) (hrl : rs.length ≤ 1000) (hsz : ∀ w ∈ rs, ∃ e, Sz cs w e) (n : Nat) (st : Sto) (hn : 3 ≤ n) :
    ∃ F, callN T D n 34 [.tup (cs.map enc), .tup (rs.map enc)] st = .ok (.ref st.length) (st ++ [.lst (F.map enc)]) ∧ Walk cs rs F [] := by
  obtain ⟨F, h1, h2, _⟩ := law_metG hlen hrl hsz n st hn
  exact ⟨F, h1, h2⟩

end K52
namespace K52
open MP MQ
/-! V1: values; reading them from a heap. -/
inductive Vl where
  | num (i : Int) | atm (s : List Nat) | prc (i : Int) | nil | tp (vs : List Vl) | pr (a b : Vl)
  deriving Inhabited
mutual
def encV : Vl → PV
  | .num i => .tup [.str [110,117,109,98,101,114], .int i]
  | .atm s => .tup [.str [97,116,111,109], .str s]
  | .prc i => .tup [.str [112,114,111,99,101,115,115], .int i]
  | .nil => .tup [.str [110,105,108]]
  | .tp vs => .tup [.str [116,117,112,108,101], .tup (encVs vs)]
  | .pr a b => .tup [.str [112,97,105,114], encV a, encV b]
def encVs : List Vl → List PV
  | [] => []
  | v :: vs => encV v :: encVs vs
end
theorem encVs_map : ∀ vs : List Vl, encVs vs = vs.map encV
  | [] => by rw [encVs]; rfl
  | v :: vs => by rw [encVs, encVs_map vs]; rfl
mutual
theorem closed_encV : ∀ v : Vl, closed (encV v) = true
  | .num _ | .atm _ | .prc _ | .nil => by simp [encV]
  | .tp vs => by simp [encV, closeds_encVs vs]
  | .pr a b => by simp [encV, closed_encV a, closed_encV b]
theorem closeds_encVs : ∀ vs : List Vl, closeds (encVs vs) = true
  | [] => by simp [encVs]
  | v :: vs => by simp [encVs, closed_encV v, closeds_encVs vs]
end
def valW (cs : List Wd) : Nat → Wd → Vl
  | 0, _ => .nil
  | f + 1, w => match w with
    | .num i => .num i
    | .atm s => .atm s
    | .prc i => .prc i
    | .nil | .cnt _ => .nil
    | .tp i => .tp ((innerW cs (.tp i)).map (valW cs f))
    | .pr i => match innerW cs (.pr i) with
      | [a, b] => .pr (valW cs f a) (valW cs f b)
      | _ => .nil
theorem inner_two {cs : List Wd} {i : Nat} (h : thereW cs (.pr i) = true) : ∃ a b, innerW cs (.pr i) = [a, b] := by
  have h := there_pr h
  have hl : (innerW cs (.pr i)).length = 2 := by simp [innerW]; omega
  generalize innerW cs (.pr i) = l at hl ⊢
  match l, hl with
  | [a, b], _ => exact ⟨a, b, rfl⟩
/-- the parts' sizes -/
theorem Sz.parts {cs : List Wd} {w : Wd} {e : Nat} (h : Sz cs w e) (hw : isTh w = true) {f : Nat} (hf : e < 2 * (f + 1)) : ∀ p ∈ innerW cs w, ∃ ep, Sz cs p ep ∧ ep < 2 * f := by
  obtain ⟨e', rfl, hs⟩ := h.inner hw
  have go : ∀ (l : List Wd) (e2 : Nat), Szs cs l e2 → ∀ p ∈ l, ∃ ep, Sz cs p ep ∧ ep ≤ e2 := by
    intro l
    induction l with
    | nil => intro e2 _ p hp; cases hp
    | cons q l ih =>
      intro e2 hs p hp
      cases hs with
      | @cons _ _ eq el hq hl =>
        rcases List.mem_cons.mp hp with rfl | hp
        · exact ⟨eq, hq, by omega⟩
        · obtain ⟨ep, h3, h4⟩ := ih el hl p hp
          exact ⟨ep, h3, by omega⟩
  intro p hp
  obtain ⟨ep, h3, h4⟩ := go _ _ hs p hp
  refine ⟨ep, h3, ?_⟩
  have := long_two (h.there hw) (by intro hz; rw [hz] at hp; cases hp)
  omega
theorem law_read {cs : List Wd} {C : PV} (hC : CellsOf cs C) (hlen : cs.length < turns) : ∀ (f n : Nat) (w : Wd) (e : Nat) (st : Sto), Sz cs w e → e < 2 * f → f + 1 ≤ n → callN T D n 31 [C, enc w] st = .ok (encV (valW cs f w)) st
  | 0, n, w, e, st, h, h1, h2 => by omega
  | f + 1, n, w, e, st, h, h1, h2 => by
    rw [call_at (by omega) rfl rfl]
    have hcl := hC.closed
    have hil := (inner_len (cs := cs) (w := w)).2
    have hll : cs.length ≤ line := line_of hlen
    have hin := law_words_in hC hlen (n - 1) w [] (by omega) h.there
    simp [pureCall, hcl, hin]
    rw [compG_of enc (fun p => encV (valW cs f p)) (by omega) (fun p hp => by
      have hw : isTh w = true := by cases hw : isTh w with
        | true => rfl
        | false => cases w <;> first | (cases hw; done) | (cases hp; done)
      obtain ⟨ep, h3, h4⟩ := h.parts hw h1 p hp
      have := law_read hC hlen f (n - 1) p ep [] h3 h4 (by omega)
      simp [stepC, gate, pureCall, hcl, this, closed_encV])]
    have hl : (innerW cs w).length ≤ line := by omega
    simp [newL_ok, hl]
    cases w with
    | tp i => simp [enc, newT_ok, hl, valW, encV, encVs_map, Function.comp_def]
    | pr i =>
      obtain ⟨a, b, hab⟩ := inner_two (h.there rfl)
      have s1 : ∀ (x y : PV) (st : Sto), subs (.lst [x, y]) (.int 1) st = .ok y st := fun x y st => rfl
      simp [enc, hab, valW, encV, s1]
    | _ => simp [enc, valW, encV] <;> (first | rfl | (cases h with | plain h => cases h | thing h _ _ => cases h))

end K52
namespace K52
open MP MQ
/-! V2: the order of values. -/
def rankV : Vl → Int
  | .num _ => 0 | .atm _ => 1 | .prc _ => 2 | .tp _ => 3 | .nil => 4 | .pr _ _ => 5
def sgnI (i j : Int) : Int := (if j < i then 1 else 0) - (if i < j then 1 else 0)
def sgnS (i j : List Nat) : Int := (if j < i then 1 else 0) - (if i < j then 1 else 0)
mutual
def cmpV : Vl → Vl → Int
  | .num i, .num j => sgnI i j
  | .atm i, .atm j => sgnS i j
  | .prc i, .prc j => sgnI i j
  | .tp xs, .tp ys => if xs.length ≠ ys.length then (if xs.length < ys.length then -1 else 1) else cmpVs xs ys
  | .pr a b, .pr c d => if cmpV a c ≠ 0 then cmpV a c else cmpV b d
  | .nil, .nil => 0
  | a, b => if rankV a < rankV b then -1 else 1
def cmpVs : List Vl → List Vl → Int
  | x :: xs, y :: ys => if cmpV x y ≠ 0 then cmpV x y else cmpVs xs ys
  | _, _ => 0
end
theorem sgnI_refl (i : Int) : sgnI i i = 0 := by simp [sgnI]
theorem sgnS_refl (i : List Nat) : sgnS i i = 0 := by simp [sgnS]
mutual
theorem cmpV_refl : ∀ v : Vl, cmpV v v = 0
  | .num i => by rw [cmpV]; exact sgnI_refl i
  | .atm i => by rw [cmpV]; exact sgnS_refl i
  | .prc i => by rw [cmpV]; exact sgnI_refl i
  | .nil => by rw [cmpV]
  | .tp vs => by rw [cmpV]; simp [cmpVs_refl vs]
  | .pr a b => by rw [cmpV]; simp [cmpV_refl a, cmpV_refl b]
theorem cmpVs_refl : ∀ vs : List Vl, cmpVs vs vs = 0
  | [] => by simp [cmpVs]
  | v :: vs => by rw [cmpVs]; simp [cmpV_refl v, cmpVs_refl vs]
end
theorem cmpV_rank {a b : Vl} (h : rankV a ≠ rankV b) : cmpV a b = if rankV a < rankV b then -1 else 1 := by
  cases a <;> cases b <;> first | (exact absurd rfl h) | (rw [cmpV] <;> first | rfl | (intros; rename_i h1 h2; first | (cases h1; done) | (cases h2; done)))
/-- a plain word or nil -/
def plainW (w : Wd) : Prop := w = .nil ∨ plainOk w = true
@[simp] theorem isTup_tup {xs : List PV} : isTup (some (.tup xs)) = true := rfl
def rankS (w : Wd) : Int := match w with
  | .num _ => 0 | .atm _ => 1 | .prc _ => 2 | .tp _ => 3 | .nil => 4 | .pr _ => 5 | .cnt _ => 6
def sortsP : List PV := [.str [110,117,109,98,101,114], .str [97,116,111,109], .str [112,114,111,99,101,115,115], .str [116,117,112,108,101], .str [110,105,108], .str [112,97,105,114]]
def hdW : Wd → List Nat
  | .num _ => [110,117,109,98,101,114] | .atm _ => [97,116,111,109] | .prc _ => [112,114,111,99,101,115,115] | .tp _ => [116,117,112,108,101] | .nil => [110,105,108] | .pr _ => [112,97,105,114] | .cnt _ => [99,111,117,110,116]
theorem hd_enc (w : Wd) (st : Sto) : subs (enc w) (.int 0) st = .ok (.str (hdW w)) st := by cases w <;> simp [enc, hdW]
theorem pos_hd {w : Wd} (h : ∀ k, w ≠ .cnt k) : posT (.tup sortsP) (.str (hdW w)) = some (.int (rankS w)) := by
  cases w <;> first | (exact absurd rfl (h _)) | rfl
theorem hd_eq {v w : Wd} : (hdW v == hdW w) = decide (rankS v = rankS w) := by cases v <;> cases w <;> rfl
theorem rank_val {cs : List Wd} {f : Nat} {w : Wd} {e : Nat} (h : Sz cs w e) : rankV (valW cs (f + 1) w) = rankS w := by
  cases w with
  | pr i =>
    obtain ⟨a, b, hab⟩ := inner_two (h.there rfl)
    simp [valW, hab, rankV, rankS]
  | cnt k => cases h with | plain h => cases h | thing h _ _ => cases h
  | _ => rfl
theorem sz_ncnt {cs : List Wd} {w : Wd} {e : Nat} (h : Sz cs w e) : ∀ k, w ≠ .cnt k := fun k z => by
  subst z
  cases h with | plain h => cases h | thing h _ _ => cases h

end K52
namespace K52
open MP MQ
/-! C1: copies, pure. -/
/-- the place of a thing's copy -/
def plc (cs : List Wd) : List Wd → Wd → Nat
  | [], _ => 0
  | x :: F, w => if x = w then 0 else longW cs x + plc cs F w
def lenC (cs F : List Wd) : Nat := (F.map (longW cs)).sum
theorem plc_app {cs : List Wd} {w : Wd} : ∀ {F : List Wd} (G : List Wd), w ∈ F → plc cs (F ++ G) w = plc cs F w
  | x :: F, G, h => by
    by_cases e : x = w
    · simp [plc, e]
    · have h' : w ∈ F := by
        rcases List.mem_cons.mp h with rfl | h
        · exact absurd rfl e
        · exact h
      simp [plc, e, plc_app G h']
theorem plc_new {cs : List Wd} {w : Wd} : ∀ {F : List Wd}, w ∉ F → plc cs (F ++ [w]) w = lenC cs F
  | [], _ => by simp [plc, lenC]
  | x :: F, h => by
    have e : ¬ x = w := fun z => h (by simp [z])
    have h' : w ∉ F := fun z => h (by simp [z])
    have := plc_new (cs := cs) h'
    simp [plc, e, this, lenC]
theorem lenC_app {cs F G : List Wd} : lenC cs (F ++ G) = lenC cs F + lenC cs G := by simp [lenC]
def mvW (cs F : List Wd) (w : Wd) : Wd := if w ∈ F then (match w with
  | .pr _ => .pr (plc cs F w)
  | .tp _ => .tp (plc cs F w)
  | w => w) else w
theorem mvW_out {cs F : List Wd} {w : Wd} (h : w ∉ F) : mvW cs F w = w := if_neg h
theorem mvW_plain {cs F : List Wd} {w : Wd} (h : isTh w = false) : mvW cs F w = w := by
  unfold mvW
  split
  · cases w <;> first | rfl | (cases h; done)
  · rfl
theorem mvW_app {cs F : List Wd} {w : Wd} (G : List Wd) (h : w ∈ F ∨ isTh w = false) : mvW cs (F ++ G) w = mvW cs F w := by
  rcases h with h | h
  · unfold mvW
    rw [if_pos h, if_pos (List.mem_append_left _ h), plc_app G h]
  · rw [mvW_plain h, mvW_plain h]
/-- a thing's cells as they stand -/
def rawT (cs : List Wd) : Wd → List Wd
  | .pr i => innerW cs (.pr i)
  | .tp i => (match cs[i]? with
    | some (.cnt k) => .cnt k :: innerW cs (.tp i)
    | _ => [])
  | _ => []
theorem raw_len {cs : List Wd} {w : Wd} (h : thereW cs w = true) : (rawT cs w).length = longW cs w := by
  cases w with
  | pr i =>
    have := there_pr h
    simp [rawT, innerW, longW]
    omega
  | tp i =>
    obtain ⟨k, hk, _, h3⟩ := there_tp h
    simp [rawT, innerW, longW, hk]
    omega
  | _ => cases h
theorem raw_cut {cs : List Wd} {w : Wd} (h : thereW cs w = true) : ∀ i, (w = .pr i ∨ w = .tp i) → (cs.drop i).take (longW cs w) = rawT cs w := by
  intro i hi
  rcases hi with rfl | rfl
  · simp [rawT, innerW, longW]
  · obtain ⟨k, hk, _, h3⟩ := there_tp h
    simp only [rawT, innerW, longW, hk]
    have hi : i < cs.length := by omega
    rw [List.drop_eq_getElem_cons hi, Nat.add_comm 1 k, List.take_succ_cons]
    congr 1
    exact Option.some.inj ((List.getElem?_eq_getElem hi).symm.trans hk)
def ncnt : Wd → Bool
  | .cnt _ => false
  | _ => true
/-- inner words are no counts -/
theorem raw_words {cs : List Wd} {w : Wd} (hi : ∀ p ∈ innerW cs w, ncnt p = true) (h : isTh w = true) (ht : thereW cs w = true) : (rawT cs w).filter ncnt = innerW cs w := by
  have hf : (innerW cs w).filter ncnt = innerW cs w := List.filter_eq_self.mpr hi
  cases w with
  | pr i => exact hf
  | tp i =>
    obtain ⟨k, hk, _, h3⟩ := there_tp ht
    simp only [rawT, hk]
    rw [List.filter_cons]
    simpa [ncnt] using hf
  | _ => cases h
theorem raw_mem {cs : List Wd} {w c : Wd} (h : c ∈ rawT cs w) (ht : thereW cs w = true) : (∃ k, k ≤ 6 ∧ c = .cnt k) ∨ c ∈ innerW cs w := by
  cases w with
  | pr i => exact .inr h
  | tp i =>
    obtain ⟨k, hk, h6, h3⟩ := there_tp ht
    simp only [rawT, hk] at h
    rcases List.mem_cons.mp h with rfl | h
    · exact .inl ⟨k, h6, rfl⟩
    · exact .inr h
  | _ => cases ht
def rawA (cs F : List Wd) : List Wd := F.flatMap (rawT cs)
theorem rawA_app {cs F G : List Wd} : rawA cs (F ++ G) = rawA cs F ++ rawA cs G := by simp [rawA]
theorem rawA_one {cs : List Wd} {w : Wd} : rawA cs [w] = rawT cs w := by simp [rawA]
theorem rawA_len {cs : List Wd} : ∀ {F : List Wd}, (∀ w ∈ F, thereW cs w = true) → (rawA cs F).length = lenC cs F
  | [], _ => rfl
  | x :: F, h => by
    have h1 := raw_len (h x (List.mem_cons_self ..))
    have h2 := rawA_len (F := F) fun w hw => h w (List.mem_cons_of_mem _ hw)
    simp only [rawA, List.flatMap_cons, List.length_append, lenC, List.map_cons, List.sum_cons] at h2 ⊢
    rw [h1, h2]
/-- the copy's cells -/
def copyC (cs G : List Wd) : List Wd := (rawA cs G).map (mvW cs G)
/-- where each thing went -/
def pl (cs : List Wd) : Nat → List Wd → List (PV × PV)
  | _, [] => []
  | e, w :: F => (enc w, .int e) :: pl cs (e + longW cs w) F
theorem pl_app {cs : List Wd} {w : Wd} : ∀ {F : List Wd} {e : Nat}, pl cs e (F ++ [w]) = pl cs e F ++ [(enc w, .int (e + lenC cs F : Nat))]
  | [], e => by simp [pl, lenC]
  | x :: F, e => by simp [pl, pl_app (F := F), lenC]; omega
theorem pl_len {cs : List Wd} : ∀ {F : List Wd} {e : Nat}, (pl cs e F).length = F.length
  | [], _ => rfl
  | x :: F, e => by simp [pl, pl_len (F := F)]
theorem pl_keys {cs : List Wd} : ∀ {F : List Wd} {e : Nat}, (pl cs e F).map (·.1) = F.map enc
  | [], _ => rfl
  | x :: F, e => by simp [pl, pl_keys (F := F)]
theorem look_pl {cs : List Wd} {w : Wd} : ∀ {F : List Wd} {e : Nat}, look (enc w) (pl cs e F) = if w ∈ F then some (.int (e + plc cs F w : Nat)) else none
  | [], _ => rfl
  | x :: F, e => by
    rw [pl, look, eqv_enc, look_pl (F := F)]
    by_cases h : x = w
    · simp [h, plc]
    · have h' : ¬ w = x := fun z => h z.symm
      by_cases hw : w ∈ F
      · simp [h, h', hw, plc]
        omega
      · simp [h, h', hw]
theorem put_pl {cs F : List Wd} {w : Wd} (h : w ∉ F) : put (enc w) (.int (lenC cs F)) (pl cs 0 F) = pl cs 0 (F ++ [w]) := by
  have e : (pl cs 0 F).any (fun p => eqv p.1 (enc w)) = false := by
    rw [List.any_eq_false]
    intro p hp
    have : p.1 ∈ (pl cs 0 F).map (·.1) := List.mem_map_of_mem hp
    rw [pl_keys] at this
    obtain ⟨u, hu, e⟩ := List.mem_map.mp this
    rw [← e, eqv_enc]
    simp
    intro z
    subst z
    exact h hu
  rw [pl_app, put, e]
  simp
/-! where a thing's cells stand in the copy -/
theorem copy_at {cs : List Wd} {w : Wd} : ∀ {G : List Wd}, (∀ x ∈ G, thereW cs x = true) → w ∈ G → ∃ A B, rawA cs G = A ++ (rawT cs w ++ B) ∧ A.length = plc cs G w
  | x :: G, ht, h => by
    by_cases e : x = w
    · subst e
      exact ⟨[], rawA cs G, by simp [rawA], by simp [plc]⟩
    · have h' : w ∈ G := by
        rcases List.mem_cons.mp h with rfl | h
        · exact absurd rfl e
        · exact h
      obtain ⟨A, B, h1, h2⟩ := copy_at (G := G) (fun y hy => ht y (List.mem_cons_of_mem _ hy)) h'
      refine ⟨rawT cs x ++ A, B, ?_, ?_⟩
      · simp [rawA] at h1 ⊢
        exact h1
      · simp [plc, e, raw_len (ht x (List.mem_cons_self ..)), h2]
theorem copy_thing {cs G : List Wd} {w : Wd} (ht : ∀ x ∈ G, thereW cs x = true) (hw : w ∈ G) (hi : isTh w = true) : isTh (mvW cs G w) = true ∧ thereW (copyC cs G) (mvW cs G w) = true ∧ longW (copyC cs G) (mvW cs G w) = longW cs w ∧ innerW (copyC cs G) (mvW cs G w) = (innerW cs w).map (mvW cs G) := by
  obtain ⟨A, B, h1, h2⟩ := copy_at ht hw
  have hc : copyC cs G = A.map (mvW cs G) ++ ((rawT cs w).map (mvW cs G) ++ B.map (mvW cs G)) := by rw [copyC, h1]; simp
  have hl := raw_len (ht w hw)
  have ht' := ht w hw
  unfold mvW
  rw [if_pos hw]
  cases w with
  | pr i =>
    obtain ⟨a, b, hab⟩ := inner_two ht'
    have hr : rawT cs (.pr i) = [a, b] := hab
    rw [hr] at hc
    refine ⟨rfl, ?_, rfl, ?_⟩
    · rw [hc]
      simp [thereW]
      omega
    · rw [hc, hab, ← h2]
      simp [innerW, mvW]
  | tp i =>
    obtain ⟨k, hk, h6, h3⟩ := there_tp ht'
    have hr : rawT cs (.tp i) = .cnt k :: innerW cs (.tp i) := by simp [rawT, hk]
    rw [hr] at hc
    have hil : (innerW cs (.tp i)).length = k := by
      rw [hr] at hl
      simp [longW, hk] at hl
      omega
    have hm : mvW cs G (.cnt k) = .cnt k := mvW_plain rfl
    have hg : (copyC cs G)[plc cs G (.tp i)]? = some (.cnt k) := by
      rw [hc, ← h2]
      simp [hm]
    refine ⟨rfl, ?_, by simp [longW, hg, hk], ?_⟩
    · simp only [thereW, hg]
      have : plc cs G (.tp i) + k < (copyC cs G).length := by
        rw [hc, ← h2]
        simp
        omega
      simp [h6, this]
    · show (match (copyC cs G)[plc cs G (.tp i)]? with
        | some (.cnt k) => ((copyC cs G).drop (plc cs G (.tp i) + 1)).take k
        | _ => []) = _
      rw [hg]
      simp only []
      rw [hc, ← h2]
      have e : (A.map (mvW cs G)).length + 1 = A.length + 1 := by simp
      simp [List.drop_append, List.drop_eq_nil_of_le]
      rw [← hil]
      simp [List.take_append_of_le_length, mvW]
  | _ => cases hi
mutual
theorem Sz.copy {cs G : List Wd} (ht : ∀ x ∈ G, thereW cs x = true) (hcl : ∀ x ∈ G, ∀ p ∈ innerW cs x, isTh p = true → p ∈ G) : ∀ {w : Wd} {e : Nat}, Sz cs w e → (isTh w = true → w ∈ G) → Sz (copyC cs G) (mvW cs G w) e
  | _, _, .nil, _ => by rw [mvW_plain rfl]; exact .nil
  | _, _, .plain h, _ => by rw [mvW_plain (plain_not h)]; exact .plain h
  | w, _, .thing (e := e) h h2 hs, hg => by
    have hw := hg h
    obtain ⟨c1, c2, c3, c4⟩ := copy_thing ht hw h
    rw [← c3]
    refine .thing c1 c2 ?_
    rw [c4]
    exact Szs.copy ht hcl hs fun p hp => hcl w hw p hp
theorem Szs.copy {cs G : List Wd} (ht : ∀ x ∈ G, thereW cs x = true) (hcl : ∀ x ∈ G, ∀ p ∈ innerW cs x, isTh p = true → p ∈ G) : ∀ {l : List Wd} {e : Nat}, Szs cs l e → (∀ p ∈ l, isTh p = true → p ∈ G) → Szs (copyC cs G) (l.map (mvW cs G)) e
  | _, _, .nil, _ => .nil
  | _, _, .cons h hs, hg => .cons (h.copy ht hcl (hg _ (List.mem_cons_self ..))) (hs.copy ht hcl fun p hp => hg p (List.mem_cons_of_mem _ hp))
end
theorem Szs.each {cs : List Wd} : ∀ {l : List Wd} {e : Nat}, Szs cs l e → ∀ p ∈ l, ∃ ep, ep ≤ e ∧ Sz cs p ep
  | [], _, _, p, hp => absurd hp (by simp)
  | q :: l, _, hs, p, hp => by
    cases hs with
    | @cons _ _ eq el hq hl =>
      rcases List.mem_cons.mp hp with rfl | hp
      · exact ⟨eq, by omega, hq⟩
      · obtain ⟨ep, h3, h4⟩ := hl.each p hp
        exact ⟨ep, by omega, h4⟩
theorem Rch.szB {cs roots : List Wd} {w : Wd} {b : Nat} (hr : ∀ r ∈ roots, ∃ e, e ≤ b ∧ Sz cs r e) (h : Rch cs roots w) : ∃ e, e ≤ b ∧ Sz cs w e := by
  induction h with
  | root h => exact hr _ h
  | step hw _ hp ih =>
    obtain ⟨e, hb, he⟩ := ih
    obtain ⟨e', rfl, hs⟩ := he.inner hw
    obtain ⟨ep, h1, h2⟩ := hs.each _ hp
    exact ⟨ep, by omega, h2⟩

end K52
namespace K52
open MP MQ
/-! C2: the program's copying. -/
theorem tkey_enc {w : Wd} (h : isTh w = true) : isTKey T.kt (enc w) = true := by
  cases w <;> first | (cases h; done) | simp [enc, T, KT, isTKey, isKey]
def roomF (m : Int) : Int := if m ≤ 64 then 64 else if m ≤ 128 then 128 else if m ≤ 256 then 256 else if m ≤ 512 then 512 else if m ≤ 1024 then 1024 else if m ≤ 2048 then 2048 else if m ≤ 4096 then 4096 else if m ≤ 8192 then 8192 else 16384
theorem roomF_mem (m : Int) : roomF m ∈ roomsV := by
  unfold roomF
  repeat' split
  all_goals simp [roomsV]
theorem roomF_le {m : Int} (h : m ≤ 16384) : m ≤ roomF m := by
  unfold roomF
  repeat' split
  all_goals omega
theorem roomF_double {m r : Int} (hr : r ∈ roomsV) (h : r < m) (hm : m ≤ 16384) (hle : r ≤ roomF m) : 2 * r ∈ roomsV ∧ 2 * r ≤ roomF m := by
  simp only [roomsV, List.mem_cons, List.not_mem_nil, or_false] at hr ⊢
  unfold roomF at hle ⊢
  rcases hr with rfl | rfl | rfl | rfl | rfl | rfl | rfl | rfl | rfl <;> simp <;> repeat' split
  all_goals omega
theorem roomF_done {m r : Int} (hr : r ∈ roomsV) (h : ¬ r < m) (hle : r ≤ roomF m) : r = roomF m := by
  simp only [roomsV, List.mem_cons, List.not_mem_nil, or_false] at hr
  unfold roomF at hle ⊢
  rcases hr with rfl | rfl | rfl | rfl | rfl | rfl | rfl | rfl | rfl <;> repeat' split
  all_goals (repeat' split at hle) <;> omega
theorem room_for (n : Nat) (m : Int) (st : Sto) (hn : 1 ≤ n) (hm : m ≤ 16384) : callN T D n 17 [.int m] st = .ok (.int (roomF m)) st := by
  rw [call_at (by omega) rfl rfl]
  simp
  generalize hX : whileG _ _ turns _ _ = o
  have hl64 : (64 : Int) ≤ roomF m := by
    unfold roomF
    repeat' split
    all_goals omega
  have hm2 : roomF m ≤ 16384 := by
    unfold roomF
    repeat' split
    all_goals omega
  obtain ⟨σ', st', rfl, rfl, rfl⟩ := while_eq hX (fun k σ st2 => ∃ r ∈ roomsV, σ = [some (.int m), some (.int r)] ∧ st2 = st ∧ 64 ≤ r ∧ r ≤ roomF m ∧ k = (roomF m - r).toNat)
    (fun σ st2 => σ = [some (.int m), some (.int (roomF m))] ∧ st2 = st)
    (fun k σ st2 ⟨r, hr, hσ, hst, h64, hle, hk⟩ => by
      subst hσ hst
      by_cases h : r < m
      · right
        obtain ⟨h1, h2⟩ := roomF_double hr h hm hle
        have hmul : ∀ st : Sto, binop false .Mult (.int 2) (.int r) st = .ok (.int (2 * r)) st := fun st => mul_ii (.inl rfl)
        exact ⟨st2, [some (.int m), some (.int (2 * r))], st2, by simp [h], by simp [hmul], _, by omega, 2 * r, h1, rfl, rfl, by omega, h2, rfl⟩
      · left
        exact ⟨st2, by simp [h], by rw [roomF_done hr h hle], rfl⟩) (roomF m - 64).toNat (by rw [turns_eq]; omega) ⟨64, by simp [roomsV], rfl, rfl, by omega, hl64, rfl⟩
  simp
theorem dget_pl {cs F : List Wd} {w : Wd} {X : MO} (h : isTh w = true) : dget T.kt (.ref 0) (enc w) [.dT (pl cs 0 F), X] = some (if w ∈ F then some (.int (plc cs F w)) else none) := by
  simp [dget, tkey_enc h, look_pl]
theorem mv_enc {cs F : List Wd} {w : Wd} (h : isTh w = true) (hF : w ∈ F) : enc (mvW cs F w) = .tup [.str (hdW w), .int (plc cs F w)] := by
  unfold mvW
  rw [if_pos hF]
  cases w <;> first | (cases h; done) | rfl
theorem moved_plain {cs : List Wd} {w : Wd} (n : Nat) (v u : PV) (st : Sto) (hn : 2 ≤ n) (h : isTh w = false) : callN T D n 22 [.tup (cs.map enc), v, u, enc w] st = .ok (enc w) st := by
  rw [call_at (by omega) rfl rfl]
  have hth := is_thing (n - 1) w [] (by omega)
  simp [pureCall, hth, h]
theorem moved_old {cs F : List Wd} {w : Wd} {X : MO} (n : Nat) (hn : 2 ≤ n) (h : isTh w = true) (hF : w ∈ F) : callN T D n 22 [.tup (cs.map enc), .ref 0, .ref 1, enc w] [.dT (pl cs 0 F), X] = .ok (enc (mvW cs F w)) [.dT (pl cs 0 F), X] := by
  rw [call_at (by omega) rfl rfl, mv_enc h hF]
  have hth := is_thing (n - 1) w [] (by omega)
  simp [pureCall, hth, h, dget_pl h, hF, hd_enc]
theorem moved_new {cs F X : List Wd} {w : Wd} (n : Nat) (hn : 2 ≤ n) (h : isTh w = true) (hF : w ∉ F) (ht : thereW cs w = true) (hX : X.length = lenC cs F) (hb : X.length ≤ 100000) (hFl : F.length ≤ 10000) :
    callN T D n 22 [.tup (cs.map enc), .ref 0, .ref 1, enc w] [.dT (pl cs 0 F), .lst (X.map enc)] = .ok (enc (mvW cs (F ++ [w]) w)) [.dT (pl cs 0 (F ++ [w])), .lst ((X ++ rawT cs w).map enc)] := by
  rw [call_at (by omega) rfl rfl, mv_enc h (by simp)]
  have hth := is_thing (n - 1) w [] (by omega)
  have hla := long_at (n - 1) cs w [] (by omega) ht
  have hlen : builtin .len [.ref 1] [MO.dT (pl cs 0 F), .lst (X.map enc)] = .ok (.int (lenC cs F)) [MO.dT (pl cs 0 F), .lst (X.map enc)] := by
    simp [builtin, rd, bLen, hX]
  have hset : setD T.kt (.ref 0) (enc w) (.int (lenC cs F)) [MO.dT (pl cs 0 F), .lst (X.map enc)] = .ok () [.dT (pl cs 0 (F ++ [w])), .lst (X.map enc)] := by
    have : (pl cs 0 F).length < line := by simp [pl_len, line]; omega
    simp [setD, setDAt, tkey_enc h, this, put_pl hF]
  have hrl := raw_len ht
  have h7 : longW cs w ≤ 7 := by
    cases w with
    | pr i => simp [longW]
    | tp i =>
      obtain ⟨k, hk, h6, _⟩ := there_tp ht
      simp [longW, hk]
      omega
    | _ => cases h
  have hext : ∀ Y : MO, method .extend (.ref 1) [.tup ((rawT cs w).map enc)] [Y, .lst (X.map enc)] = .ok .non [Y, .lst ((X ++ rawT cs w).map enc)] := by
    intro Y
    have : X.length + (rawT cs w).length ≤ line := by simp [line]; omega
    simp [method, methodAt, this]
  obtain ⟨i, hi, hsub⟩ : ∃ i : Nat, (w = .pr i ∨ w = .tp i) ∧ ∀ st : Sto, subs (enc w) (.int 1) st = .ok (.int i) st := by
    cases w with
    | pr i => exact ⟨i, .inl rfl, fun st => by simp [enc]⟩
    | tp i => exact ⟨i, .inr rfl, fun st => by simp [enc]⟩
    | _ => cases h
  have hcut : ∀ st : Sto, slice false (.tup (cs.map enc)) (some (i : Int)) (some ((i : Int) + (longW cs w : Nat))) st = .ok (.tup ((rawT cs w).map enc)) st := fun st => by
    rw [slice_tup, cut_at i (longW cs w) rfl rfl, ← raw_cut ht i hi, List.map_take, List.map_drop]
  have hrl2 : ∀ Y : MO, isLst (rd [Y, .lst (X.map enc)] (.ref 1)) = true := fun Y => rfl
  simp [-List.map_append, pureCall, hth, h, dget_pl h, hF, hlen, hset, hrl2, hsub, hla, hcut, hext, hd_enc]

end K52
namespace K52
open MP MQ
/-! C3: the program's copying, the whole of it. -/
/-- what stands at each turn of the copying: found F, in line L -/
structure Cpy (cs rs F L : List Wd) : Prop where
  w : Walk cs rs F L
  g : ∀ G, Goes cs F L G → Goes cs [] rs G
theorem Cpy.there {cs rs F L : List Wd} (h : Cpy cs rs F L) (hsz : ∀ w ∈ rs, ∃ e, Sz cs w e) : ∀ w ∈ F, thereW cs w = true := fun w hw => by
  obtain ⟨e, he⟩ := (h.w.rf w hw).sz hsz
  exact he.there (h.w.th w hw)
theorem Cpy.words {cs rs F L : List Wd} (h : Cpy cs rs F L) (hsz : ∀ w ∈ rs, ∃ e, Sz cs w e) : ∀ w ∈ F, ∀ p ∈ innerW cs w, ncnt p = true := fun w hw p hp => by
  obtain ⟨e, he⟩ := (Rch.step (h.w.th w hw) (h.w.rf w hw) hp).sz hsz
  have := sz_ncnt he
  cases p with
  | cnt k => exact absurd rfl (this k)
  | _ => rfl
theorem lenC_le {cs F : List Wd} : (∀ w ∈ F, thereW cs w = true) → lenC cs F ≤ 7 * F.length := by
  induction F with
  | nil => intro _; simp [lenC]
  | cons x F ih =>
    intro h
    have h1 := ih fun w hw => h w (List.mem_cons_of_mem _ hw)
    have h2 : longW cs x ≤ 7 := by
      have ht := h x (List.mem_cons_self ..)
      cases x with
      | pr i => simp [longW]
      | tp i =>
        obtain ⟨k, hk, h6, _⟩ := there_tp ht
        simp [longW, hk]
        omega
      | _ => cases ht
    simp only [lenC, List.map_cons, List.sum_cons, List.length_cons] at h1 ⊢
    omega
theorem Cpy.skip {cs rs F L : List Wd} {w : Wd} (h : Cpy cs rs F (w :: L)) (hw : isTh w = false ∨ w ∈ F) : Cpy cs rs F L :=
  ⟨h.w.skip (fun x => by simp) hw, fun G g => h.g G (.skip hw g)⟩
theorem Cpy.take {cs rs F L : List Wd} {w : Wd} (h : Cpy cs rs F (w :: L)) (hw : isTh w = true) (hn : w ∉ F) : Cpy cs rs (F ++ [w]) (L ++ innerW cs w) :=
  ⟨h.w.take (L' := L) (fun x => by simp) hw hn (fun x => by simp), fun G g => h.g G (.take hw hn g)⟩
theorem Cpy.room {cs rs F L : List Wd} (h : Cpy cs rs F L) (hsz : ∀ w ∈ rs, ∃ e, Sz cs w e) (hl : cs.length ≤ 1000) (hrl : rs.length ≤ 1000) : (rawA cs F).length = lenC cs F ∧ (rawA cs F).length ≤ 7 * (rs.length + cs.length) ∧ F.length ≤ rs.length + cs.length := by
  have h1 := h.there hsz
  have h2 := lenC_le h1
  have h3 := h.w.len
  have h4 := rawA_len h1
  exact ⟨h4, by omega, h3⟩
theorem map_mv {cs F : List Wd} {w : Wd} {l : List Wd} (h : ∀ p ∈ l, isTh p = true → p ∈ F) : l.map (fun p => enc (mvW cs (F ++ [w]) p)) = l.map (fun p => enc (mvW cs F p)) := by
  apply List.map_congr_left
  intro p hp
  rw [mvW_app]
  cases ht : isTh p with
  | true => exact .inl (h p hp ht)
  | false => exact .inr rfl
theorem copied_with {cs rs : List Wd} {r : Int} {many : Int} (hsz : ∀ w ∈ rs, ∃ e, Sz cs w e) (hl : cs.length ≤ 200) (hrl : rs.length ≤ 60) (hm0 : 0 ≤ many) (hm : many ≤ 5000) (n : Nat) (hn : 5 ≤ n) :
    ∃ G, callN T D n 23 [encH cs r, .tup (rs.map enc), .int many] [] = .ok (.tup [.tup [.tup ((copyC cs G).map enc), .int (roomF (2 * ((copyC cs G).length + many)))], .tup (rs.map fun p => enc (mvW cs G p)), .ref 0]) [.dT (pl cs 0 G), .lst ((copyC cs G).map enc)] ∧ Cpy cs rs G [] := by
  rw [call_at (by omega) rfl rfl]
  have hsub0 : ∀ st : Sto, subs (encH cs r) (.int 0) st = .ok (.tup (cs.map enc)) st := fun st => by simp [encH]
  have hnl : newL true [] [MO.dT []] = .ok (.ref 1) [MO.dT [], .lst []] := rfl
  simp [hnl]
  generalize hX : compG _ _ turns 0 [] _ = o
  obtain ⟨ys, st1, rfl, ⟨F, rfl, rfl, hC, hin⟩, _⟩ := comp_eqI hX (fun i acc st => ∃ F : List Wd, st = [.dT (pl cs 0 F), .lst ((rawA cs F).map enc)] ∧ acc = (rs.take i).map (fun p => enc (mvW cs F p)) ∧ Cpy cs rs F (rs.drop i ++ (rawA cs F).filter ncnt) ∧ ∀ p ∈ rs.take i, isTh p = true → p ∈ F) (fun i x acc st hx ⟨F, hst, hacc, hC, hin⟩ => by
    subst hst hacc
    rw [List.getElem?_map, Option.map_eq_some_iff] at hx
    obtain ⟨w, hw, rfl⟩ := hx
    obtain ⟨hi, hwi⟩ := List.getElem?_eq_some_iff.mp hw
    have hdrop : rs.drop i = w :: rs.drop (i + 1) := by rw [List.drop_eq_getElem_cons hi, hwi]
    have htake : rs.take (i + 1) = rs.take i ++ [w] := by rw [List.take_succ, hw]; rfl
    rw [hdrop, List.cons_append] at hC
    obtain ⟨b1, b2, b3⟩ := hC.room hsz (by omega) (by omega)
    have hwm : w ∈ rs := by rw [← hwi]; exact List.getElem_mem hi
    obtain ⟨e, hez⟩ := hsz w hwm
    by_cases hth : isTh w = true
    · by_cases hF : w ∈ F
      · have hm := moved_old (cs := cs) (F := F) (w := w) (X := .lst ((rawA cs F).map enc)) (n - 1) (by omega) hth hF
        refine ⟨some (enc (mvW cs F w)), _, by simp [stepC, gate, hsub0, hm], F, rfl, by rw [htake]; simp, hC.skip (.inr hF), fun p hp ht => ?_⟩
        rw [htake] at hp
        rcases List.mem_append.mp hp with hp | hp
        · exact hin p hp ht
        · rw [List.mem_singleton.mp hp]; exact hF
      · have ht := hez.there hth
        have hm := moved_new (cs := cs) (F := F) (w := w) (X := rawA cs F) (n - 1) (by omega) hth hF ht b1 (by omega) (by omega)
        have hC' := hC.take hth hF
        have hws := raw_words (hC'.words hsz w (by simp)) hth ht
        refine ⟨some (enc (mvW cs (F ++ [w]) w)), [.dT (pl cs 0 (F ++ [w])), .lst ((rawA cs F ++ rawT cs w).map enc)], by simp [-List.map_append, stepC, gate, hsub0, hm], F ++ [w], by rw [rawA_app, rawA_one], ?_, ?_, fun p hp ht => ?_⟩
        · rw [htake, List.map_append, map_mv hin]
          simp
        · rw [rawA_app, rawA_one, List.filter_append, hws, ← List.append_assoc]
          exact hC'
        · rw [htake] at hp
          rcases List.mem_append.mp hp with hp | hp
          · exact List.mem_append_left _ (hin p hp ht)
          · exact List.mem_append_right _ hp
    · have hth' : isTh w = false := by simpa using hth
      have hm := moved_plain (cs := cs) (n - 1) (.ref 0) (.ref 1) [.dT (pl cs 0 F), .lst ((rawA cs F).map enc)] (by omega) hth'
      refine ⟨some (enc w), _, by simp [stepC, gate, hsub0, hm], F, rfl, by rw [htake]; simp [mvW_plain hth'], hC.skip (.inl hth'), fun p hp ht => ?_⟩
      rw [htake] at hp
      rcases List.mem_append.mp hp with hp | hp
      · exact hin p hp ht
      · rw [List.mem_singleton.mp hp] at ht
        exact absurd ht hth) (by simp [turns_eq]; omega) ⟨[], rfl, rfl, ⟨by
          have : rs.drop 0 ++ (rawA cs []).filter ncnt = rs := by simp [rawA]
          rw [this]
          exact Walk.start fun w => Iff.rfl, fun G g => by simpa [rawA] using g⟩, fun p hp => absurd hp (by simp)⟩
  have htk : rs.take (rs.map enc).length = rs := by simp
  have hdk : rs.drop (rs.map enc).length = [] := by simp
  rw [hdk, List.nil_append] at hC
  rw [htk] at hin ⊢
  have hlw : rs.length ≤ 16777216 := by omega
  simp [newL, newT, line, hlw]
  generalize hY : whileG _ _ turns _ _ = o
  obtain ⟨σ', st2, rfl, G, x7, rfl, rfl, hG, hinG⟩ := while_eq hY (fun m σ st => ∃ (F : List Wd) (a : Nat) (x7 : Option PV), σ = [some (encH cs r), some (.tup (rs.map enc)), some (.int many), some (.tup (rs.map fun p => enc (mvW cs F p))), some (.ref 0), some (.ref 1), some (.int a), x7] ∧ st = [.dT (pl cs 0 F), .lst ((((rawA cs F).take a).map (mvW cs F) ++ (rawA cs F).drop a).map enc)] ∧ Cpy cs rs F (((rawA cs F).drop a).filter ncnt) ∧ (∀ p ∈ rs ++ (rawA cs F).take a, isTh p = true → p ∈ F) ∧ a ≤ (rawA cs F).length ∧ a ≤ 7 * (rs.length + cs.length) ∧ m = 7 * (rs.length + cs.length) - a)
    (fun σ st => ∃ (G : List Wd) (x7 : Option PV), σ = [some (encH cs r), some (.tup (rs.map enc)), some (.int many), some (.tup (rs.map fun p => enc (mvW cs G p))), some (.ref 0), some (.ref 1), some (.int (rawA cs G).length), x7] ∧ st = [.dT (pl cs 0 G), .lst ((copyC cs G).map enc)] ∧ Cpy cs rs G [] ∧ ∀ p ∈ rs, isTh p = true → p ∈ G)
    (fun m σ st ⟨F, a, x7, hσ, hst, hC, hin, ha, ha2, hm⟩ => by
      subst hσ hst
      obtain ⟨b1, b2, b3⟩ := hC.room hsz (by omega) (by omega)
      have hlen : ∀ (l : List PV) (X : MO), builtin .len [.ref 1] [X, .lst l] = .ok (.int l.length) [X, .lst l] := fun l X => rfl
      by_cases hlt : a < (rawA cs F).length
      · right
        have hc : (rawA cs F)[a]? = some (rawA cs F)[a] := List.getElem?_eq_getElem hlt
        have hdrop : (rawA cs F).drop a = (rawA cs F)[a] :: (rawA cs F).drop (a + 1) := List.drop_eq_getElem_cons hlt
        have htake : (rawA cs F).take (a + 1) = (rawA cs F).take a ++ [(rawA cs F)[a]] := by rw [List.take_succ, hc]; rfl
        generalize (rawA cs F)[a] = c at hc hdrop htake
        have hal : (((rawA cs F).take a).map (mvW cs F)).length = a := by simp; omega
        have hcond : ((a : Int) < (((((rawA cs F).take a).map (mvW cs F) ++ (rawA cs F).drop a).map enc).length : Int)) := by
          simp only [List.length_map, List.length_append, List.length_take, List.length_drop]
          omega
        have hlist : ((((rawA cs F).take a).map (mvW cs F) ++ (rawA cs F).drop a).map enc) = (((rawA cs F).take a).map (mvW cs F)).map enc ++ enc c :: ((rawA cs F).drop (a + 1)).map enc := by
          rw [hdrop]; simp
        have hsub : ∀ (A B : List PV) (X : MO), A.length = a → subs (.ref 1) (.int a) [X, .lst (A ++ enc c :: B)] = .ok (enc c) [X, .lst (A ++ enc c :: B)] := fun A B X hA => by
          have h1 : (a : Int) < ((A ++ enc c :: B).length : Int) := by simp; omega
          have h2 : (A ++ enc c :: B)[a]? = some (enc c) := by rw [← hA]; simp
          have e : subs (.ref 1) (.int a) [X, .lst (A ++ enc c :: B)] = subs (.lst (A ++ enc c :: B)) (.int a) [X, .lst (A ++ enc c :: B)] := rfl
          rw [e, subs_natL, h2]
          rfl
        have hset : ∀ (A B : List PV) (X : MO) (v : PV), A.length = a → setL (.ref 1) (.int a) v [X, .lst (A ++ enc c :: B)] = .ok () [X, .lst (A ++ v :: B)] := fun A B X v hA => by
          have h1 : (a : Int) < (A.length : Int) + ((B.length : Int) + 1) := by omega
          simp [setL, setLAt, ixOf, h1]
          rw [← hA]
          simp
        have hA : ((((rawA cs F).take a).map (mvW cs F)).map enc).length = a := by simp; omega
        rw [hlist] at hcond ⊢
        have hinT : ∀ p ∈ (rawA cs F).take a, isTh p = true → p ∈ F := fun p hp => hin p (List.mem_append_right _ hp)
        have hinR : ∀ p ∈ rs, isTh p = true → p ∈ F := fun p hp => hin p (List.mem_append_left _ hp)
        generalize hAA : (((rawA cs F).take a).map (mvW cs F)).map enc = A at hA hcond ⊢
        generalize hBB : ((rawA cs F).drop (a + 1)).map enc = B at hcond ⊢
        have hcm : c ∈ rawA cs F := List.mem_of_getElem? hc
        obtain ⟨u, huF, hcu⟩ : ∃ u ∈ F, c ∈ rawT cs u := by
          obtain ⟨u, hu, h⟩ := List.mem_flatMap.mp hcm
          exact ⟨u, hu, h⟩
        have hut := hC.there hsz u huF
        by_cases hcnt : ∃ k, c = .cnt k
        · obtain ⟨k, rfl⟩ := hcnt
          refine ⟨[.dT (pl cs 0 F), .lst (A ++ enc (.cnt k) :: B)], [some (encH cs r), some (.tup (rs.map enc)), some (.int many), some (.tup (rs.map fun p => enc (mvW cs F p))), some (.ref 0), some (.ref 1), some (.int (a + 1 : Nat)), x7], [.dT (pl cs 0 F), .lst (A ++ enc (.cnt k) :: B)], by simp [hlen]; simpa using hcond, ?_, 7 * (rs.length + cs.length) - (a + 1), by omega, F, a + 1, x7, rfl, ?_, ?_, fun p hp ht => ?_, by omega, by omega, rfl⟩
          · simp [hsub A B _ hA, hd_enc, hdW]
          · rw [htake, List.map_append, List.map_append, List.map_append, hAA, hBB]
            simp [mvW_plain]
            rw [mvW_plain rfl]
          · rw [hdrop] at hC
            simpa [ncnt] using hC
          · rw [htake] at hp
            rcases List.mem_append.mp hp with hp | hp
            · exact hinR p hp ht
            · rcases List.mem_append.mp hp with hp | hp
              · exact hinT p hp ht
              · rw [List.mem_singleton.mp hp] at ht; cases ht
        · have hcu' : c ∈ innerW cs u := by
            rcases raw_mem hcu hut with ⟨k, _, h⟩ | h
            · exact absurd ⟨k, h⟩ hcnt
            · exact h
          obtain ⟨e, hez⟩ := (Rch.step (hC.w.th u huF) (hC.w.rf u huF) hcu').sz hsz
          have hne : (hdW c == [99, 111, 117, 110, 116]) = false := by
            cases c <;> first | rfl | exact absurd ⟨_, rfl⟩ hcnt
          have hnc : ncnt c = true := by
            cases c <;> first | rfl | exact absurd ⟨_, rfl⟩ hcnt
          have hne' : ¬ hdW c = [99, 111, 117, 110, 116] := by simpa using hne
          rw [hdrop, List.filter_cons, if_pos hnc] at hC
          by_cases hth : isTh c = true
          · by_cases hF : c ∈ F
            · have hm := moved_old (cs := cs) (F := F) (w := c) (X := .lst (A ++ enc c :: B)) (n - 1) (by omega) hth hF
              refine ⟨[.dT (pl cs 0 F), .lst (A ++ enc c :: B)], [some (encH cs r), some (.tup (rs.map enc)), some (.int many), some (.tup (rs.map fun p => enc (mvW cs F p))), some (.ref 0), some (.ref 1), some (.int (a + 1 : Nat)), x7], [.dT (pl cs 0 F), .lst (A ++ enc (mvW cs F c) :: B)], by simp [hlen]; simpa using hcond, by simp [hsub A B _ hA, hd_enc, hne', hsub0, hm, hset A B _ _ hA], 7 * (rs.length + cs.length) - (a + 1), by omega, F, a + 1, x7, rfl, ?_, hC.skip (.inr hF), fun p hp ht => ?_, by omega, by omega, rfl⟩
              · rw [htake, List.map_append, List.map_append, List.map_append, hAA, hBB]
                simp
              · rw [htake] at hp
                rcases List.mem_append.mp hp with hp | hp
                · exact hinR p hp ht
                · rcases List.mem_append.mp hp with hp | hp
                  · exact hinT p hp ht
                  · rw [List.mem_singleton.mp hp]; exact hF
            · have ht := hez.there hth
              have hX : (((rawA cs F).take a).map (mvW cs F) ++ (rawA cs F).drop a).length = lenC cs F := by
                rw [← b1]
                simp only [List.length_append, List.length_map, List.length_take, List.length_drop]
                omega
              have hm := moved_new (cs := cs) (F := F) (w := c) (X := ((rawA cs F).take a).map (mvW cs F) ++ (rawA cs F).drop a) (n - 1) (by omega) hth hF ht hX (by rw [hX, ← b1]; omega) (by omega)
              have e2 : ((((rawA cs F).take a).map (mvW cs F) ++ (rawA cs F).drop a) ++ rawT cs c).map enc = A ++ enc c :: (B ++ (rawT cs c).map enc) := by
                rw [List.map_append, hlist, hAA, hBB, List.append_assoc, List.cons_append]
              rw [e2, hlist, hAA, hBB] at hm
              have hC' := hC.take hth hF
              have hws := raw_words (hC'.words hsz c (by simp)) hth ht
              have hrl := raw_len ht
              have hlt' : a ≤ (rawA cs F).length := ha
              have et : (rawA cs (F ++ [c])).take (a + 1) = (rawA cs F).take a ++ [c] := by
                rw [rawA_app, List.take_append_of_le_length (by omega), htake]
              have ed : (rawA cs (F ++ [c])).drop (a + 1) = (rawA cs F).drop (a + 1) ++ rawT cs c := by
                rw [rawA_app, rawA_one, List.drop_append_of_le_length (by omega)]
              refine ⟨[.dT (pl cs 0 F), .lst (A ++ enc c :: B)], [some (encH cs r), some (.tup (rs.map enc)), some (.int many), some (.tup (rs.map fun p => enc (mvW cs F p))), some (.ref 0), some (.ref 1), some (.int (a + 1 : Nat)), x7], [.dT (pl cs 0 (F ++ [c])), .lst (A ++ enc (mvW cs (F ++ [c]) c) :: (B ++ (rawT cs c).map enc))], by simp [hlen]; simpa using hcond, by simp [hsub A B _ hA, hd_enc, hne', hsub0, hm, hset A (B ++ (rawT cs c).map enc) _ _ hA], 7 * (rs.length + cs.length) - (a + 1), by omega, F ++ [c], a + 1, x7, ?_, ?_, ?_, fun p hp ht => ?_, ?_, by omega, rfl⟩
              · rw [map_mv hinR]
              · rw [et, ed, List.map_append, List.map_append, List.map_append, List.map_append, ← hAA, ← hBB]
                have : ((rawA cs F).take a).map (mvW cs (F ++ [c])) = ((rawA cs F).take a).map (mvW cs F) := List.map_congr_left fun p hp => by
                  rw [mvW_app]
                  cases h0 : isTh p with
                  | true => exact .inl (hinT p hp h0)
                  | false => exact .inr rfl
                rw [this]
                simp
              · rw [ed, List.filter_append, hws]
                exact hC'
              · rw [et] at hp
                rcases List.mem_append.mp hp with hp | hp
                · exact List.mem_append_left _ (hinR p hp ht)
                · rcases List.mem_append.mp hp with hp | hp
                  · exact List.mem_append_left _ (hinT p hp ht)
                  · exact List.mem_append_right _ hp
              · rw [rawA_app, List.length_append]
                omega
          · have hth' : isTh c = false := by simpa using hth
            have hm := moved_plain (cs := cs) (w := c) (n - 1) (.ref 0) (.ref 1) [.dT (pl cs 0 F), .lst (A ++ enc c :: B)] (by omega) hth'
            refine ⟨[.dT (pl cs 0 F), .lst (A ++ enc c :: B)], [some (encH cs r), some (.tup (rs.map enc)), some (.int many), some (.tup (rs.map fun p => enc (mvW cs F p))), some (.ref 0), some (.ref 1), some (.int (a + 1 : Nat)), x7], [.dT (pl cs 0 F), .lst (A ++ enc (mvW cs F c) :: B)], by simp [hlen]; simpa using hcond, by rw [mvW_plain hth']; simp [hsub A B _ hA, hd_enc, hne', hsub0, hm, hset A B _ _ hA], 7 * (rs.length + cs.length) - (a + 1), by omega, F, a + 1, x7, rfl, ?_, hC.skip (.inl hth'), fun p hp ht => ?_, by omega, by omega, rfl⟩
            · rw [htake, List.map_append, List.map_append, List.map_append, hAA, hBB]
              simp
            · rw [htake] at hp
              rcases List.mem_append.mp hp with hp | hp
              · exact hinR p hp ht
              · rcases List.mem_append.mp hp with hp | hp
                · exact hinT p hp ht
                · rw [List.mem_singleton.mp hp] at ht
                  exact absurd ht hth
      · left
        have hae : a = (rawA cs F).length := by omega
        subst hae
        have hcond : ¬ (((rawA cs F).length : Int) < (((((rawA cs F).take (rawA cs F).length).map (mvW cs F) ++ (rawA cs F).drop (rawA cs F).length).map enc).length : Int)) := by simp
        refine ⟨[.dT (pl cs 0 F), .lst ((((rawA cs F).take (rawA cs F).length).map (mvW cs F) ++ (rawA cs F).drop (rawA cs F).length).map enc)], by simp [hlen], F, x7, rfl, ?_, ?_, fun p hp => hin p (List.mem_append_left _ hp)⟩
        · simp [copyC]
        · simpa using hC) (7 * (rs.length + cs.length)) (by rw [turns_eq]; omega) ⟨F, 0, none, rfl, by simp, by simpa using hC, by simpa using hin, by omega, by omega, by omega⟩
  obtain ⟨c1, c2, c3⟩ := hG.room hsz (by omega) (by omega)
  have hcl : (copyC cs G).length = (rawA cs G).length := by simp [copyC]
  refine ⟨G, ?_, hG⟩
  have htup : builtin .tuple [.ref 1] [MO.dT (pl cs 0 G), .lst ((copyC cs G).map enc)] = .ok (.tup ((copyC cs G).map enc)) [.dT (pl cs 0 G), .lst ((copyC cs G).map enc)] := by
    have : (copyC cs G).length ≤ line := by rw [hcl]; simp [line]; omega
    simp [builtin, rd, bTuple, newT, this]
  have hlen : builtin .len [.ref 1] [MO.dT (pl cs 0 G), .lst ((copyC cs G).map enc)] = .ok (.int (copyC cs G).length) [.dT (pl cs 0 G), .lst ((copyC cs G).map enc)] := by
    simp [builtin, rd, bLen]
  have hmul : ∀ st : Sto, binop false .Mult (.int 2) (.int ((copyC cs G).length + many)) st = .ok (.int (2 * ((copyC cs G).length + many))) st := fun st => mul_ii (.inl rfl)
  have hroom := room_for (n - 1) (2 * ((copyC cs G).length + many)) [] (by omega) (by rw [hcl]; omega)
  simp [htup, hlen, hmul, pureCall, hroom]

end K52
namespace K52
open MP MQ
/-! C4: copied; the copy is a heap; the law's own copying. -/
theorem need_whole (n : Nat) (i a b : Int) (st : Sto) (hn : 2 ≤ n) (h1 : a ≤ i) (h2 : i ≤ b) : callN T D n 6 [.int i, .int a, .int b] st = .ok .non st := by
  rw [call_at (by omega) rfl rfl]
  have := is_whole (n - 1) i a b [] (by omega)
  simp [pureCall, this, h1, h2]
theorem copied_in {cs rs : List Wd} {r : Int} {many : Int} (hsz : ∀ w ∈ rs, ∃ e, Sz cs w e) (hl : cs.length ≤ 200) (hrl : rs.length ≤ 60) (hm0 : 0 ≤ many) (hm : many ≤ 5000) (n : Nat) (hn : 6 ≤ n) :
    ∃ G st, callN T D n 24 [encH cs r, .tup (rs.map enc), .int many] [] = .ok (.tup [encH (copyC cs G) (roomF (2 * ((copyC cs G).length + many))), .tup (rs.map fun p => enc (mvW cs G p))]) st ∧ Cpy cs rs G [] := by
  obtain ⟨G, h, hC⟩ := copied_with (r := r) hsz hl hrl hm0 hm (n - 1) (by omega)
  refine ⟨G, [.dT (pl cs 0 G), .lst ((copyC cs G).map enc)], ?_, hC⟩
  rw [call_at (by omega) rfl rfl]
  have hcut : ∀ a b c : PV, cut [a, b, c] none (some 2) = [a, b] := fun a b c => by rw [cut_to (b := 2) 2 (by decide)]; rfl
  simp only [encH] at h ⊢
  simp [h, slice_tup, hcut]
theorem need_copying {cs rs : List Wd} {r : Int} {many : Int} (hcs : LensOk cs) (hrs : LensOk rs) (hl : cs.length ≤ 1000) (hrl : rs.length ≤ 1000) (hok : heapOk cs r = true) (hfit : fitsWs cs rs 60 = true) (hm0 : 0 ≤ many) (hm : many ≤ 10000) (n : Nat) (st : Sto) (hn : 70 ≤ n) :
    callN T D n 25 [encH cs r, .tup (rs.map enc), .int many] st = .ok .non st := by
  rw [call_at (by omega) rfl rfl]
  have h1 := need_heap hcs (by rw [turns_eq]; omega) (n - 1) [] (by omega) hok
  have h2 := need_words (r := r) hcs (by rw [turns_eq]; omega) (n - 1) 60 [] hrs (by rw [turns_eq]; omega) (by omega) hfit
  have h3 := need_whole (n - 1) many 0 10000 [] (by omega) hm0 hm
  simp [pureCall, h1, h2, h3]
theorem copied {cs rs : List Wd} {r : Int} {many : Int} (hsz : ∀ w ∈ rs, ∃ e, Sz cs w e) (hcs : LensOk cs) (hl : cs.length ≤ 200) (hrl : rs.length ≤ 60) (hok : heapOk cs r = true) (hfit : fitsWs cs rs 60 = true) (hm0 : 0 ≤ many) (hm : many ≤ 5000) (n : Nat) (st : Sto) (hn : 71 ≤ n) :
    ∃ G, callN T D n 26 [encH cs r, .tup (rs.map enc), .int many] st = .ok (.tup [encH (copyC cs G) (roomF (2 * ((copyC cs G).length + many))), .tup (rs.map fun p => enc (mvW cs G p))]) st ∧ Cpy cs rs G [] := by
  obtain ⟨G, st1, h, hC⟩ := copied_in (r := r) hsz hl hrl hm0 hm (n - 1) (by omega)
  refine ⟨G, ?_, hC⟩
  have hrs : LensOk rs := fun w hw => by
    obtain ⟨e, he⟩ := hsz w hw
    exact sz_len he
  have h1 := need_copying hcs hrs (by omega) (by omega) hok hfit hm0 (by omega) (n - 1) [] (by omega)
  have hcl : closeds (rs.map fun p => enc (mvW cs G p)) = true := by
    apply closeds_of
    intro x hx
    obtain ⟨p, _, rfl⟩ := List.mem_map.mp hx
    simp
  rw [call_at (by omega) rfl rfl]
  have hroom : roomF (2 * ((copyC cs G).length + many)) ≤ 16384 := by
    unfold roomF
    repeat' split
    all_goals omega
  have hrooms : ∀ st : Sto, callN T D (n - 1) 18 [.int (roomF (2 * ((copyC cs G).length + many)))] st = .ok .non st := fun st => by
    rw [call_at (by omega) rfl rfl]
    have : ¬ (16384 : Int) < roomF (2 * ((copyC cs G).length + many)) := by omega
    simp [this]
  simp [pureCall, h1, h, hcl]
  simp [encH, hrooms]
/-! the copy is a heap -/
theorem Cpy.ends {cs rs G : List Wd} (h : Cpy cs rs G []) : ∀ x ∈ G, ∀ p ∈ innerW cs x, isTh p = true → p ∈ G := fun x hx p hp ht => by
  rcases h.w.cl x hx p hp ht with h | h
  · exact h
  · cases h
theorem Cpy.roots {cs rs G : List Wd} (h : Cpy cs rs G []) : ∀ p ∈ rs, isTh p = true → p ∈ G := fun p hp ht => by
  rcases h.w.ro p hp ht with h | h
  · exact h
  · cases h
theorem copy_cells {cs rs G : List Wd} {b : Nat} (h : Cpy cs rs G []) (hsz : ∀ w ∈ rs, ∃ e, e ≤ b ∧ Sz cs w e) : ∀ c ∈ copyC cs G, (∃ k, k ≤ 6 ∧ c = .cnt k) ∨ ∃ e, e ≤ b ∧ Sz (copyC cs G) c e := fun c hc => by
  have hsz' : ∀ w ∈ rs, ∃ e, Sz cs w e := fun w hw => by
    obtain ⟨e, _, h⟩ := hsz w hw
    exact ⟨e, h⟩
  have ht := h.there hsz'
  obtain ⟨d, hd, rfl⟩ := List.mem_map.mp hc
  obtain ⟨u, hu, hdu⟩ := List.mem_flatMap.mp hd
  rcases raw_mem hdu (ht u hu) with ⟨k, hk, rfl⟩ | hi
  · exact .inl ⟨k, hk, mvW_plain rfl⟩
  · obtain ⟨e, he, hz⟩ := (Rch.step (h.w.th u hu) (h.w.rf u hu) hi).szB hsz
    exact .inr ⟨e, he, hz.copy ht h.ends (h.ends u hu d hi)⟩
theorem copy_heap {cs rs G : List Wd} {r : Int} (h : Cpy cs rs G []) (hsz : ∀ w ∈ rs, ∃ e, e ≤ 57 ∧ Sz cs w e) (hr : r ∈ roomsV) (hl : ((copyC cs G).length : Int) ≤ r) : heapOk (copyC cs G) r = true ∧ LensOk (copyC cs G) := by
  have hc := copy_cells h hsz
  refine ⟨?_, fun c hcm => ?_⟩
  · simp only [heapOk, Bool.and_eq_true, List.all_eq_true, Bool.or_eq_true, decide_eq_true_eq]
    refine ⟨List.elem_iff.mpr hr, hl, fun c hcm => ?_⟩
    rcases hc c hcm with ⟨k, hk, rfl⟩ | ⟨e, he, hz⟩
    · exact .inl (by simp [isCnt, hk])
    · refine .inr ?_
      have := hz.left 61 c e 120 (by omega) (by omega)
      simp [fitsW, this]
      omega
  · rcases hc c hcm with ⟨k, _, rfl⟩ | ⟨e, _, hz⟩
    · trivial
    · exact sz_len hz
/-! the law's own copying -/
theorem tkey_all (w : Wd) : isTKey T.kt (enc w) = true := by
  cases w <;> simp [enc, T, KT, isTKey, isKey]
theorem law_room (n : Nat) (m : Int) (st : Sto) (hn : 1 ≤ n) (hm : m ≤ 16384) : callN T D n 35 [.int m] st = .ok (.int (roomF m)) st := by
  rw [call_at (by omega) rfl rfl]
  have hl : ∀ st : Sto, newT [PV.int 64, .int 128, .int 256, .int 512, .int 1024, .int 2048, .int 4096, .int 8192, .int 16384] st = .ok (.tup (roomsV.map .int)) st := fun st => rfl
  simp [hl]
  rw [compG_ofF PV.int (fun r => if m ≤ r then some (.int r) else none) (by simp [roomsV, turns_eq]) (fun r _ => by
    by_cases h : m ≤ r <;> simp [stepC, gate, h])]
  have hfl : (roomsV.filterMap fun r => if m ≤ r then some (PV.int r) else none).length ≤ 9 := by
    have := List.length_filterMap_le (fun r => if m ≤ r then some (PV.int r) else none) roomsV
    simpa [roomsV] using this
  obtain ⟨rest, hr⟩ : ∃ rest, (roomsV.filterMap fun r => if m ≤ r then some (PV.int r) else none) = .int (roomF m) :: rest := by
    unfold roomF
    by_cases h1 : m ≤ 64
    · exact ⟨_, by simp [roomsV, h1]; rfl⟩
    by_cases h2 : m ≤ 128
    · exact ⟨_, by simp [roomsV, h1, h2]; rfl⟩
    by_cases h3 : m ≤ 256
    · exact ⟨_, by simp [roomsV, h1, h2, h3]; rfl⟩
    by_cases h4 : m ≤ 512
    · exact ⟨_, by simp [roomsV, h1, h2, h3, h4]; rfl⟩
    by_cases h5 : m ≤ 1024
    · exact ⟨_, by simp [roomsV, h1, h2, h3, h4, h5]; rfl⟩
    by_cases h6 : m ≤ 2048
    · exact ⟨_, by simp [roomsV, h1, h2, h3, h4, h5, h6]; rfl⟩
    by_cases h7 : m ≤ 4096
    · exact ⟨_, by simp [roomsV, h1, h2, h3, h4, h5, h6, h7]; rfl⟩
    by_cases h8 : m ≤ 8192
    · exact ⟨_, by simp [roomsV, h1, h2, h3, h4, h5, h6, h7, h8]; rfl⟩
    · exact ⟨_, by simp [roomsV, h1, h2, h3, h4, h5, h6, h7, h8, hm]; rfl⟩
  rw [hr] at hfl ⊢
  simp only [List.length_cons] at hfl
  have l1 : rest.length + 1 ≤ 16777216 := by omega
  have l2 : rest.length + 1 + 1 ≤ 16777216 := by omega
  simp [newL, line, l1, l2]
theorem mv_place {cs G : List Wd} {w : Wd} (hth : ∀ x ∈ G, isTh x = true) : enc (mvW cs G w) = if w ∈ G then .tup [.str (hdW w), .int (plc cs G w)] else enc w := by
  by_cases h : w ∈ G
  · rw [if_pos h, mv_enc (hth w h) h]
  · rw [if_neg h, mvW_out h]
theorem law_copy {cs rs : List Wd} {r many : Int} (hsz : ∀ w ∈ rs, ∃ e, Sz cs w e) (hl : cs.length ≤ 200) (hrl : rs.length ≤ 60) (hm0 : 0 ≤ many) (hm : many ≤ 5000) (n : Nat) (st : Sto) (hn : 5 ≤ n) :
    ∃ G, callN T D n 39 [encH cs r, .tup (rs.map enc), .int many] st = .ok (.tup [encH (copyC cs G) (roomF (2 * ((copyC cs G).length + many))), .tup (rs.map fun p => enc (mvW cs G p)), .ref (st.length + 1)]) (st ++ [.lst (G.map enc), .dT (pl cs 0 G)]) ∧ Walk cs rs G [] ∧ Goes cs [] rs G := by
  obtain ⟨G, hmet, hW, hGo⟩ := law_metG (cs := cs) (rs := rs) (by omega) (by omega) hsz (n - 1) st (by omega)
  have hC : Cpy cs rs G [] := ⟨hW, fun G' g => by cases g; exact hGo⟩
  obtain ⟨b1, b2, b3⟩ := hC.room hsz (by omega) (by omega)
  have ht := hC.there hsz
  refine ⟨G, ?_, hW, hGo⟩
  rw [call_at (by omega) rfl rfl]
  have hsub0 : ∀ st : Sto, subs (encH cs r) (.int 0) st = .ok (.tup (cs.map enc)) st := fun st => by simp [encH]
  have hrow : isRow (st ++ [.lst (G.map enc), .dT []]) st.length = true := by simp [isRow]
  simp [hsub0, hmet, hrow]
  generalize hX : forG _ _ turns 0 _ _ = o
  obtain ⟨fl, st2, rfl, hfl⟩ := for_eq (xs := G.map enc) hX (fun i σ st2 => ∃ x3 : Option PV, σ = [some (encH cs r), some (.tup (rs.map enc)), some (.int many), x3, none, none, some (.tup (cs.map enc)), some (.ref st.length), some (.ref (st.length + 1)), some (.int (lenC cs (G.take i))), none, none] ∧ st2 = st ++ [.lst (G.map enc), .dT (pl cs 0 (G.take i))]) (fun _ _ => False)
    (fun i σ st2 _ ⟨x3, _, hst⟩ => by subst hst; simp [Src.get])
    (fun i x σ st2 hx ⟨x3, hσ, hst⟩ => by
      subst hσ hst
      rw [List.getElem?_map, Option.map_eq_some_iff] at hx
      obtain ⟨w, hw, rfl⟩ := hx
      obtain ⟨hi, hwi⟩ := List.getElem?_eq_some_iff.mp hw
      have htake : G.take (i + 1) = G.take i ++ [w] := by rw [List.take_succ, hw]; rfl
      have hwm : w ∈ G := by rw [← hwi]; exact List.getElem_mem hi
      have hnin : w ∉ G.take i := fun z => by
        have nd := hW.nd
        rw [← List.take_append_drop i G, List.nodup_append] at nd
        exact nd.2.2 w z w (by rw [List.drop_eq_getElem_cons hi, hwi]; simp) rfl
      have hlong := law_long (cs := cs) (.inl rfl) (n - 1) w [] (by omega) (fun j hj => by
        subst hj
        obtain ⟨k, hk, _⟩ := there_tp (ht _ hwm)
        exact ⟨k, hk⟩)
      have hset : setD T.kt (.ref (st.length + 1)) (enc w) (.int (lenC cs (G.take i))) (st ++ [.lst (G.map enc), .dT (pl cs 0 (G.take i))]) = .ok () (st ++ [.lst (G.map enc), .dT (pl cs 0 (G.take (i + 1)))]) := by
        have h1 : (pl cs 0 (G.take i)).length < line := by simp [pl_len, line]; omega
        have h2 : (st ++ [MO.lst (G.map enc), .dT (pl cs 0 (G.take i))])[st.length + 1]? = some (.dT (pl cs 0 (G.take i))) := by
          rw [List.getElem?_append_right (by omega)]
          simp
        simp only [setD, h2, setDAt, tkey_all, h1, decide_true, Bool.and_self, if_true, put_pl hnin, htake]
        congr 1
        rw [List.set_append_right _ _ (by omega)]
        simp
      refine ⟨.nx [some (encH cs r), some (.tup (rs.map enc)), some (.int many), some (enc w), none, none, some (.tup (cs.map enc)), some (.ref st.length), some (.ref (st.length + 1)), some (.int (lenC cs (G.take (i + 1)))), none, none], _, ?_, some (enc w), rfl, rfl⟩
      have hle : (lenC cs (G.take (i + 1)) : Int) = lenC cs (G.take i) + longW cs w := by rw [htake, lenC_app]; simp [lenC]
      simp [forS, hset, pureCall, hlong, hle]) (by simp [turns_eq]; omega) ⟨none, by simp [lenC], by simp [pl]⟩
  cases fl with
  | rt v => exact hfl.elim
  | nx σ' =>
  obtain ⟨x3, rfl, rfl⟩ := hfl
  have htk : G.take (G.map enc).length = G := by simp
  rw [htk]
  have hrow2 : isRow (st ++ [.lst (G.map enc), .dT (pl cs 0 G)]) st.length = true := by simp [isRow]
  have hdg : ∀ w : Wd, dget T.kt (.ref (st.length + 1)) (enc w) (st ++ [.lst (G.map enc), .dT (pl cs 0 G)]) = some (if w ∈ G then some (.int (plc cs G w)) else none) := fun w => by
    have h2 : (st ++ [MO.lst (G.map enc), .dT (pl cs 0 G)])[st.length + 1]? = some (.dT (pl cs 0 G)) := by
      rw [List.getElem?_append_right (by omega)]
      simp
    simp [dget, h2, tkey_all, look_pl]
  simp [hrow2]
  generalize hY : forG _ _ turns 0 _ _ = o
  obtain ⟨fl, st3, rfl, hfl⟩ := for_eq (xs := G.map enc) hY (fun i σ st2 => ∃ x3 x10 : Option PV, σ = [some (encH cs r), some (.tup (rs.map enc)), some (.int many), x3, some (.lst (((rawA cs (G.take i)).map (mvW cs G)).map enc)), none, some (.tup (cs.map enc)), some (.ref st.length), some (.ref (st.length + 1)), some (.int (lenC cs G)), x10, none] ∧ st2 = st ++ [.lst (G.map enc), .dT (pl cs 0 G)]) (fun _ _ => False)
    (fun i σ st2 _ ⟨x3, x10, _, hst⟩ => by subst hst; simp [Src.get])
    (fun i x σ st2 hx ⟨x3, x10, hσ, hst⟩ => by
      subst hσ hst
      rw [List.getElem?_map, Option.map_eq_some_iff] at hx
      obtain ⟨w, hw, rfl⟩ := hx
      obtain ⟨hi, hwi⟩ := List.getElem?_eq_some_iff.mp hw
      have htake : G.take (i + 1) = G.take i ++ [w] := by rw [List.take_succ, hw]; rfl
      have hwm : w ∈ G := by rw [← hwi]; exact List.getElem_mem hi
      have hwt := ht w hwm
      have hin := law_words_in (cs := cs) (.inl rfl) (by rw [turns_eq]; omega) (n - 1) w [] (by omega) (fun _ => hwt)
      have h6 := inner_six (cs := cs) (w := w) (fun _ => hwt)
      have hcomp : ∀ (x0 x1 x2 x3 x4 x5 x6 x7 x9 x10 : Option PV), compG (.items ((innerW cs w).map enc)) (stepC (.name 11) [x0, x1, x2, x3, x4, x5, x6, x7, some (.ref (st.length + 1)), x9, x10, none] (gate T (callN T D (n - 1)) .nop) (ev T (callN T D (n - 1)) (.ife (.din false (.var 11) (.var 8)) (.tup (.cons (.idx (.var 11) (.con (.int 0))) (.cons (.dix (.var 8) (.var 11)) .nil))) (.var 11)))) turns 0 [] (st ++ [.lst (G.map enc), .dT (pl cs 0 G)]) = .ok ((innerW cs w).map fun p => enc (mvW cs G p)) (st ++ [.lst (G.map enc), .dT (pl cs 0 G)]) := fun x0 x1 x2 x3 x4 x5 x6 x7 x9 x10 => by
        refine compG_of enc (fun p => enc (mvW cs G p)) (by rw [turns_eq]; omega) (fun p hp => ?_)
        rw [mv_place hW.th]
        by_cases hpG : p ∈ G <;> simp [stepC, gate, hdg, hpG, hd_enc]
      have hnl : ∀ (xs : List PV) (st : Sto), xs.length ≤ 16000 → newL false xs st = .ok (.lst xs) st := fun xs st h => newL_ok (by simp [line]; omega)
      have hraw : (rawA cs (G.take i)).length ≤ 7 * (rs.length + cs.length) := by
        have e : rawA cs G = rawA cs (G.take i) ++ rawA cs (G.drop i) := by rw [← rawA_app, List.take_append_drop]
        have : (rawA cs G).length = (rawA cs (G.take i)).length + (rawA cs (G.drop i)).length := by rw [e, List.length_append]
        omega
      have hgoal : ((rawA cs (G.take (i + 1))).map (mvW cs G)).map enc = ((rawA cs (G.take i)).map (mvW cs G)).map enc ++ ((rawT cs w).map (mvW cs G)).map enc := by rw [htake, rawA_app, rawA_one]; simp
      have hAl : (((rawA cs (G.take i)).map (mvW cs G)).map enc).length ≤ 2000 := by simp; omega
      have hthw := hW.th w hwm
      generalize hA : ((rawA cs (G.take i)).map (mvW cs G)).map enc = A at hAl hgoal ⊢
      have hcut : ((innerW cs w).map fun p => enc (mvW cs G p)).length ≤ 6 := by simpa using h6
      have key : ∀ (front : List PV) (_ : front.length ≤ 1), newL false (A ++ front) (st ++ [MO.lst (G.map enc), .dT (pl cs 0 G)]) = .ok (.lst (A ++ front)) (st ++ [.lst (G.map enc), .dT (pl cs 0 G)]) ∧ newL false (A ++ front ++ (innerW cs w).map fun p => enc (mvW cs G p)) (st ++ [MO.lst (G.map enc), .dT (pl cs 0 G)]) = .ok (.lst (A ++ front ++ (innerW cs w).map fun p => enc (mvW cs G p))) (st ++ [.lst (G.map enc), .dT (pl cs 0 G)]) := fun front hf => ⟨hnl _ _ (by rw [List.length_append]; omega), hnl _ _ (by rw [List.length_append, List.length_append]; omega)⟩
      have hni : newL false ((innerW cs w).map fun p => enc (mvW cs G p)) (st ++ [MO.lst (G.map enc), .dT (pl cs 0 G)]) = .ok (.lst ((innerW cs w).map fun p => enc (mvW cs G p))) (st ++ [.lst (G.map enc), .dT (pl cs 0 G)]) := hnl _ _ (by omega)
      cases w with
      | pr j =>
        obtain ⟨k1, k2⟩ := key [] (by simp)
        simp only [List.append_nil] at k1 k2
        have hr : rawT cs (.pr j) = innerW cs (.pr j) := rfl
        rw [hr] at hgoal
        have hgoal' : ((rawA cs (G.take (i + 1))).map (mvW cs G)).map enc = A ++ (innerW cs (.pr j)).map fun p => enc (mvW cs G p) := by rw [hgoal]; simp
        refine ⟨.nx [some (encH cs r), some (.tup (rs.map enc)), some (.int many), some (enc (.pr j)), some (.lst (((rawA cs (G.take (i + 1))).map (mvW cs G)).map enc)), none, some (.tup (cs.map enc)), some (.ref st.length), some (.ref (st.length + 1)), some (.int (lenC cs G)), some (.lst []), none], _, ?_, _, _, rfl, rfl⟩
        rw [hgoal']
        generalize (innerW cs (.pr j)).map (fun p => enc (mvW cs G p)) = M at *
        simp only [enc] at hin ⊢
        simp [forS, pureCall, hin, hcomp, hni, k1, k2]
      | tp j =>
        obtain ⟨k, hk, h6', _⟩ := there_tp hwt
        obtain ⟨k1, k2⟩ := key [enc (.cnt k)] (by simp)
        have hr : rawT cs (.tp j) = .cnt k :: innerW cs (.tp j) := by simp [rawT, hk]
        rw [hr] at hgoal
        have hgoal' : ((rawA cs (G.take (i + 1))).map (mvW cs G)).map enc = A ++ [enc (.cnt k)] ++ (innerW cs (.tp j)).map fun p => enc (mvW cs G p) := by
          rw [hgoal]
          simp
          rw [mvW_plain rfl]
        refine ⟨.nx [some (encH cs r), some (.tup (rs.map enc)), some (.int many), some (enc (.tp j)), some (.lst (((rawA cs (G.take (i + 1))).map (mvW cs G)).map enc)), none, some (.tup (cs.map enc)), some (.ref st.length), some (.ref (st.length + 1)), some (.int (lenC cs G)), some (.lst [enc (.cnt k)]), none], _, ?_, _, _, rfl, rfl⟩
        rw [hgoal']
        generalize (innerW cs (.tp j)).map (fun p => enc (mvW cs G p)) = M at *
        have hsub : ∀ st : Sto, subs (.tup (cs.map enc)) (.int j) st = .ok (enc (.cnt k)) st := fun st => by simp [subs_nat, hk]
        generalize enc (.cnt k) = ck at hsub k1 k2 ⊢
        simp only [enc] at hin ⊢
        simp [-List.append_assoc, forS, pureCall, hin, hcomp, hni, k1, k2, hsub]
      | _ => cases hthw) (by simp [turns_eq]; omega) ⟨_, none, by simp [rawA]; rfl, rfl⟩
  cases fl with
  | rt v => exact hfl.elim
  | nx σ' =>
  obtain ⟨x3, x10, rfl, rfl⟩ := hfl
  rw [htk]
  simp
  rw [compG_of enc (fun p => enc (mvW cs G p)) (by rw [turns_eq]; omega) (fun p hp => by
    rw [mv_place hW.th]
    by_cases hpG : p ∈ G <;> simp [stepC, gate, hdg, hpG, hd_enc])]
  have hcl : (copyC cs G).length = (rawA cs G).length := by simp [copyC]
  have e : (rawA cs G).map (enc ∘ mvW cs G) = (copyC cs G).map enc := by simp [copyC]
  rw [e]
  have l1 : rs.length ≤ 16777216 := by omega
  have l2 : (copyC cs G).length ≤ 16777216 := by omega
  have l3 : (rawA cs G).length ≤ 16777216 := by omega
  have hmul : ∀ st : Sto, binop false .Mult (.int 2) (.int ((copyC cs G).length + many)) st = .ok (.int (2 * ((copyC cs G).length + many))) st := fun st => mul_ii (.inl rfl)
  have hroom := law_room (n - 1) (2 * ((copyC cs G).length + many)) [] (by omega) (by rw [hcl]; omega)
  rw [hcl] at hmul hroom
  simp [newL, newT, line, l1, l2, l3, hmul, pureCall, hroom, encH, hcl]

end K52
namespace K52
open MP MQ
/-! V4: the law's own looks at values. -/
mutual
def dpP : PV → Nat
  | .tup xs => dpPs xs + 1
  | _ => 0
def dpPs : List PV → Nat
  | [] => 0
  | x :: xs => max (dpP x) (dpPs xs)
end
theorem dpPs_mem : ∀ {xs : List PV} {x : PV}, x ∈ xs → dpP x ≤ dpPs xs
  | y :: ys, x, h => by
    rw [dpPs]
    rcases List.mem_cons.mp h with rfl | h
    · exact Nat.le_max_left _ _
    · exact Nat.le_trans (dpPs_mem h) (Nat.le_max_right _ _)
mutual
/-- ints and texts in tuples -/
def flatP : PV → Bool
  | .int _ | .str _ => true
  | .tup xs => decide (xs.length < 1000000) && flatPs xs
  | _ => false
def flatPs : List PV → Bool
  | [] => true
  | x :: xs => flatP x && flatPs xs
end
theorem flatPs_mem : ∀ {xs : List PV}, flatPs xs = true → ∀ {x : PV}, x ∈ xs → flatP x = true
  | y :: ys, hf, x, h => by
    rw [flatPs, Bool.and_eq_true] at hf
    rcases List.mem_cons.mp h with rfl | h
    · exact hf.1
    · exact flatPs_mem hf.2 h
mutual
theorem flat_closed : ∀ p : PV, flatP p = true → closed p = true
  | .int _, _ | .str _, _ => rfl
  | .tup xs, h => by rw [closed_tup]; exact flats_closed xs (by rw [flatP, Bool.and_eq_true] at h; exact h.2)
  | .non, h | .bl _, h | .lst _, h | .ref _, h | .fn _, h | .scr _, h => by simp [flatP] at h
theorem flats_closed : ∀ ps : List PV, flatPs ps = true → closeds ps = true
  | [], _ => rfl
  | p :: ps, h => by
    rw [flatPs, Bool.and_eq_true] at h
    rw [closeds_cons, flat_closed p h.1, flats_closed ps h.2]; rfl
end
theorem zip_self {α β : Type} (g : α → α → β) : ∀ xs : List α, (xs.zip xs).map (fun p => g p.1 p.2) = xs.map fun x => g x x
  | [] => rfl
  | x :: xs => by simp [zip_self g xs]
theorem law_same : ∀ (f n : Nat) (p : PV) (st : Sto), flatP p = true → dpP p ≤ f → f + 1 ≤ n → callN T D n 40 [p, p] st = .ok (.bl true) st
  | 0, n, p, st, hp, hd, hn => by
    rw [call_at (by omega) rfl rfl]
    cases p with
    | int i => simp
    | str s => simp
    | tup xs => rw [dpP] at hd; omega
    | _ => cases hp
  | f + 1, n, p, st, hp, hd, hn => by
    rw [call_at (by omega) rfl rfl]
    cases p with
    | int i => simp
    | str s => simp
    | tup xs =>
      rw [dpP] at hd
      rw [flatP, Bool.and_eq_true, decide_eq_true_eq] at hp
      have hz : zipL xs xs = xs.map fun x => .tup [x, x] := zip_self (fun a b => PV.tup [a, b]) xs
      simp [hz]
      rw [compG_ofF (fun x => .tup [x, x]) (fun _ => none) (by rw [turns_eq]; exact hp.1) (fun x hx => by
        have hx1 := flatPs_mem hp.2 hx
        have hrec := law_same f (n - 1) x [] hx1 (by have := dpPs_mem hx; omega) (by omega)
        simp [stepC, gate, pureCall, flat_closed x hx1, hrec])]
      have h0 : List.filterMap (fun _ : PV => (none : Option PV)) xs = [] := by simp
      have h1 : ∀ st : Sto, cmpop .Eq (.lst []) (.lst []) st = some true := fun st => eq_nilL rfl
      simp [h0, h1]
    | _ => cases hp

end K52
namespace K52
open MP MQ
/-! CV: a copy's value, as the law looks at it. -/
theorem flat_enc (w : Wd) : flatP (enc w) = true ∧ dpP (enc w) = 1 := by
  cases w <;> simp [enc, flatP, flatPs, dpP, dpPs]
theorem flat_all {α : Type} {e : α → PV} : ∀ {l : List α}, (∀ x ∈ l, flatP (e x) = true ∧ dpP (e x) ≤ 1) → flatPs (l.map e) = true ∧ dpPs (l.map e) ≤ 1
  | [], _ => by simp [flatPs, dpPs]
  | x :: l, h => by
    obtain ⟨h1, h2⟩ := h x (List.mem_cons_self ..)
    obtain ⟨h3, h4⟩ := flat_all fun y hy => h y (List.mem_cons_of_mem _ hy)
    simp [flatPs, dpPs, h1, h3]
    omega
theorem flat_pair {cs ws : List Wd} {r : Int} (h1 : cs.length < 1000000) (h2 : ws.length < 1000000) : flatP (.tup [encH cs r, .tup (ws.map enc)]) = true ∧ dpP (.tup [encH cs r, .tup (ws.map enc)]) ≤ 5 := by
  obtain ⟨a1, a2⟩ := flat_all (e := enc) (l := cs) fun x _ => ⟨(flat_enc x).1, by rw [(flat_enc x).2]; omega⟩
  obtain ⟨b1, b2⟩ := flat_all (e := enc) (l := ws) fun x _ => ⟨(flat_enc x).1, by rw [(flat_enc x).2]; omega⟩
  simp [encH, flatP, flatPs, dpP, dpPs, a1, b1, h1, h2]
  omega

end K52
namespace K52
open MP MQ
/-! HP: what a random heap keeps. -/
theorem HeapP.fits {cs ws : List Wd} {a b : Nat} (h : HeapP cs ws a b) : ∀ w ∈ ws, fitsW cs w = true := fun w hw => by
  obtain ⟨e, he, hz⟩ := h.hw w hw
  have := hz.left 61 w e 120 (by omega) (by omega)
  simp [fitsW, this]
  omega
theorem HeapP.heapOk {cs ws : List Wd} {a b : Nat} {r : Int} (h : HeapP cs ws a b) (hr : r = 256 ∨ r = 512) (ha : a ≤ 256) : heapOk cs r = true := by
  have hlc := h.lc
  simp only [K52.heapOk, Bool.and_eq_true, List.all_eq_true, Bool.or_eq_true, decide_eq_true_eq]
  refine ⟨by rcases hr with rfl | rfl <;> decide, by rcases hr with rfl | rfl <;> omega, fun c hc => ?_⟩
  rcases h.hc c hc with ⟨k, hk, rfl⟩ | ⟨e, he, hz⟩
  · exact .inl (by simp [isCnt, hk])
  · refine .inr ?_
    have := hz.left 61 c e 120 (by omega) (by omega)
    simp [fitsW, this]
    omega

end K52
namespace K52
open MP MQ
/-! LAW52: the law of k52. -/
theorem list15 {σ : Env} (h : σ.length = 15) : ∃ f : Nat → Option PV, σ = [f 0, f 1, f 2, f 3, f 4, f 5, f 6, f 7, f 8, f 9, f 10, f 11, f 12, f 13, f 14] := by
  obtain ⟨f, rfl⟩ := env_fn h
  exact ⟨f, rfl⟩
def Inv1 (i : Nat) (σ : Env) (st : Sto) : Prop := ∃ rest : Sto, σ.length = 15 ∧ σ[1]? = some (some (.ref 0)) ∧ Cup rest st ∧ rest.length = 2 * i
theorem turn_ok {n i : Nat} {x : PV} {σ : Env} {st : Sto} (hn : 75 ≤ n) (hI : Inv1 i σ st) : ∃ σ' st', forS T (callN T D n) (.name 2) [law_1_0, law_1_1, law_1_2, law_1_3, law_1_4] x σ st = .ok (.nx σ') st' ∧ Inv1 (i + 1) σ' st' ∧ σ'[0]? = σ[0]? := by
  obtain ⟨rest, hl, h1, hc, hrl⟩ := hI
  obtain ⟨f, rfl⟩ := list15 hl
  have h1 : f 1 = some (.ref 0) := by simpa using h1
  obtain ⟨k, st1, hr, hk, hc1⟩ := roll_ok n 16 hc (by omega) (by omega) (by omega)
  obtain ⟨cs, ws, r, st2, hheap, hH, hrr, hc2⟩ := law_heap n (1 + k) hc1 (by omega) (by omega)
  have hcast : ((1 : Int) + k) = ((1 + k : Nat) : Int) := by omega
  rw [← hcast] at hheap
  have hlc := hH.lc
  have hlw := hH.lw
  have hlen : cs.length < turns := by rw [turns_eq]; omega
  have hok := hH.heapOk hrr (by omega)
  obtain ⟨rs, st3, hroots, hrs, hrsl, hc3⟩ := law_roots n ws hc2 hH.ne (by omega) (by omega)
  obtain ⟨mv, st4, hsome, hmv, hc4⟩ := someE_ok PV.int n [0, 1, 20, 200, 5000] hc3 (by simp) (by simp) (by omega)
  have hm : 0 ≤ mv ∧ mv ≤ 5000 := by
    simp at hmv
    omega
  simp only [List.map] at hsome
  have hszB : ∀ w ∈ rs, ∃ e, e ≤ 57 ∧ Sz cs w e := fun w hw => hH.hw w (hrs w hw)
  have hrsz : ∀ w ∈ rs, ∃ e, Sz cs w e := fun w hw => by
    obtain ⟨e, _, hz⟩ := hszB w hw
    exact ⟨e, hz⟩
  have hfit : fitsWs cs rs 60 = true := by
    simp only [fitsWs, Bool.and_eq_true, decide_eq_true_eq, List.all_eq_true]
    exact ⟨by omega, fun w hw => hH.fits w (hrs w hw)⟩
  obtain ⟨G, hdue, hW, hGo⟩ := law_copy (r := r) hrsz (by omega) (by omega) hm.1 hm.2 n st4 (by omega)
  obtain ⟨G2, htold, hC⟩ := copied (r := r) hrsz hH.lens.1 (by omega) (by omega) hok hfit hm.1 hm.2 n [] (by omega)
  obtain rfl : G2 = G := (hC.g _ .done).uniq hGo
  obtain ⟨b1, b2, b3⟩ := hC.room hrsz (by omega) (by omega)
  have hcl : (copyC cs G2).length = (rawA cs G2).length := by simp [copyC]
  have hle := roomF_le (m := 2 * ((copyC cs G2).length + mv)) (by rw [hcl]; omega)
  obtain ⟨hok2, hlens2⟩ := copy_heap hC hszB (roomF_mem (2 * ((copyC cs G2).length + mv))) (by omega)
  have hish := is_heap (r := roomF (2 * ((copyC cs G2).length + mv))) hlens2 (by rw [turns_eq, hcl]; omega) n [] (by omega)
  rw [hok2] at hish
  have hmm : (rs.map fun p => enc (mvW cs G2 p)) = (rs.map (mvW cs G2)).map enc := by simp
  rw [hmm] at hdue htold
  obtain ⟨fl1, fl2⟩ := flat_pair (cs := copyC cs G2) (ws := rs.map (mvW cs G2)) (r := roomF (2 * ((copyC cs G2).length + mv))) (by rw [hcl]; omega) (by simp; omega)
  have hsame := law_same 5 n _ [] fl1 fl2 (by omega)
  generalize roomF (2 * ((copyC cs G2).length + mv)) = rm at *
  have hcw : closeds ((rs.map (mvW cs G2)).map enc) = true := closeds_encs _
  generalize (rs.map (mvW cs G2)).map enc = W at *
  generalize hHH : encH (copyC cs G2) rm = H at *
  have hcH : closed H = true := by rw [← hHH]; simp
  have hcut : ∀ a b c : PV, cut [a, b, c] none (some 2) = [a, b] := fun a b c => by rw [cut_to (b := 2) 2 (by decide)]; rfl
  have e0 : forS T (callN T D n) (.name 2) [law_1_0, law_1_1, law_1_2, law_1_3, law_1_4] x [f 0, f 1, f 2, f 3, f 4, f 5, f 6, f 7, f 8, f 9, f 10, f 11, f 12, f 13, f 14] st = exs T (callN T D n) [law_1_0, law_1_1, law_1_2, law_1_3, law_1_4] [f 0, some (.ref 0), some (x), f 3, f 4, f 5, f 6, f 7, f 8, f 9, f 10, f 11, f 12, f 13, f 14] st := by rw [h1]; rfl
  rw [e0]
  rw [exs_next (σ1 := [f 0, some (.ref 0), some (x), f 3, f 4, f 5, f 6, f 7, some (.lst (ws.map enc)), f 9, f 10, some (encH cs r), f 12, f 13, f 14]) (st1 := st2) (by simp [law_1_0, hr, hheap])]
  rw [exs_next (σ1 := [f 0, some (.ref 0), some (x), f 3, f 4, f 5, some (.tup (rs.map enc)), f 7, some (.lst (ws.map enc)), f 9, f 10, some (encH cs r), some (.int mv), f 13, f 14]) (st1 := st4) (by simp [law_1_1, hroots, hsome])]
  rw [exs_next (σ1 := [f 0, some (.ref 0), some (x), f 3, f 4, some (.tup [H, .tup W, .ref (st4.length + 1)]), some (.tup (rs.map enc)), f 7, some (.lst (ws.map enc)), f 9, f 10, some (encH cs r), some (.int mv), f 13, f 14]) (st1 := st4 ++ [.lst (G2.map enc), .dT (pl cs 0 G2)]) (by simp [law_1_2, hdue])]
  rw [exs_next (σ1 := [f 0, some (.ref 0), some (x), f 3, f 4, some (.tup [H, .tup W, .ref (st4.length + 1)]), some (.tup (rs.map enc)), f 7, some (.lst (ws.map enc)), f 9, some (.tup [H, .tup W]), some (encH cs r), some (.int mv), f 13, f 14]) (st1 := st4 ++ [.lst (G2.map enc), .dT (pl cs 0 G2)]) (by simp [law_1_3, pureCall, htold, hcH, hcw])]
  rw [exs_next (σ1 := [f 0, some (.ref 0), some (x), f 3, f 4, some (.tup [H, .tup W, .ref (st4.length + 1)]), some (.tup (rs.map enc)), f 7, some (.lst (ws.map enc)), f 9, some (.tup [H, .tup W]), some (encH cs r), some (.int mv), f 13, f 14]) (st1 := st4 ++ [.lst (G2.map enc), .dT (pl cs 0 G2)]) (by simp [law_1_4, pureCall, slice_tup, hcut, hcH, hcw, hsame, hish])]
  obtain ⟨a0, b0, rfl, ha0, hb0, hb1⟩ := hc4
  exact ⟨_, _, exs_nil, ⟨rest ++ [.lst (G2.map enc), .dT (pl cs 0 G2)], rfl, rfl, ⟨a0, b0, rfl, ha0, hb0, hb1⟩, by simp [hrl]; omega⟩, rfl⟩

end K52
namespace K52
open MP MQ
/-! END52: the law of k52, joined. -/
def tail52 : List IS := [law_2, law_3, law_4, law_5, law_6, law_7, law_8, law_9, law_10, law_11, law_12, law_13, law_14, law_15, law_16, law_17, law_18, law_19, law_20, law_21]
theorem tail_true (v : PV) (f : Nat → Option PV) (a b c d e g h i j k l : MO) : isTr (exsF T (callF T D 70) 400 400 tail52 [some (v), some (.ref 0), f 2, f 3, f 4, f 5, f 6, f 7, f 8, f 9, f 10, f 11, f 12, f 13, f 14] [a, b, c, d, e, g, h, i, j, k, l]) = true := by kernel_rfl
theorem law_true (v : PV) (ns : List Int) (hv : v = .scr ns ∨ v = .lst (ns.map .int)) (hn : ns.length ≤ 63) : ∃ st, callN T D 76 41 [v] [] = .ok (.bl true) st := by
  rw [call_sh (d := d_41) (by omega) rfl rfl]
  obtain ⟨st0, hcup, hc0⟩ := cup_ok 75 v ns hv hn (by omega)
  show ∃ st, fin (exs T (callN T D 75) (law_0 :: law_1 :: tail52) [some v, none, none, none, none, none, none, none, none, none, none, none, none, none, none] []) = _
  rw [exs_next (σ1 := [some v, some (.ref 0), none, none, none, none, none, none, none, none, none, none, none, none, none]) (st1 := st0) (by simp [law_0, hcup])]
  have h1 : ∃ σ' st', ex T (callN T D 75) law_1 [some v, some (.ref 0), none, none, none, none, none, none, none, none, none, none, none, none, none] st0 = .ok (.nx σ') st' ∧ Inv1 5 σ' st' ∧ σ'[0]? = some (some v) := by
    simp [law_1, wide_of]
    generalize hX : forG _ _ turns 0 _ _ = o
    obtain ⟨σ', st', rfl, hI, h0⟩ := for_eqI hX (fun i σ st => Inv1 i σ st ∧ σ[0]? = some (some v)) (fun j x σ st _ hI => by
      obtain ⟨σ', st', h, hI', h0⟩ := turn_ok (n := 75) (x := x) (by omega) hI.1
      exact ⟨σ', st', h, hI', by rw [h0]; exact hI.2⟩) (by simp [turns_eq]) ⟨⟨[], rfl, rfl, hc0, rfl⟩, rfl⟩
    exact ⟨σ', st', rfl, by simpa using hI, h0⟩
  obtain ⟨σ', st', he, ⟨rest, hl, h1, hc, hrl⟩, h0⟩ := h1
  rw [exs_next he]
  obtain ⟨f, rfl⟩ := list15 hl
  have h1 : f 1 = some (.ref 0) := by simpa using h1
  have h0 : f 0 = some v := by simpa using h0
  rw [h0, h1]
  obtain ⟨a, b, rfl, _⟩ := hc
  obtain ⟨o1, o2, o3, o4, o5, o6, o7, o8, o9, o10, rfl⟩ : ∃ o1 o2 o3 o4 o5 o6 o7 o8 o9 o10, rest = [o1, o2, o3, o4, o5, o6, o7, o8, o9, o10] := by
    match rest, hrl with
    | [o1, o2, o3, o4, o5, o6, o7, o8, o9, o10], _ => exact ⟨o1, o2, o3, o4, o5, o6, o7, o8, o9, o10, rfl⟩
  obtain ⟨st2, h2⟩ := exsF_true (n := 75) (tail_true v f (.lst [.int a, .int b]) o1 o2 o3 o4 o5 o6 o7 o8 o9 o10) (by omega)
  refine ⟨st2, ?_⟩
  have h2' : exs T (callN T D 75) tail52 [some (v), some (.ref 0), f 2, f 3, f 4, f 5, f 6, f 7, f 8, f 9, f 10, f 11, f 12, f 13, f 14] [.lst [.int a, .int b], o1, o2, o3, o4, o5, o6, o7, o8, o9, o10] = .ok (.rt (.bl true)) st2 := h2
  rw [h2']
  rfl

end K52
set_option Elab.async false
set_option linter.all false
set_option maxRecDepth 100000
set_option maxHeartbeats 0
namespace K52
open PySem PySem.Spec PyProof.Rows L2 MP
def top (i : Nat) : Stmt := PySem.Challenge.pw_messagehouse_k52_whole_copies.main.body.getD i (.Pass ⟨0, 0, 0, 0⟩)
def tx (i : Nat) (N ps : List PySem.Str) : DefT := ⟨defArgs (top i), defBody (top i), defScope (top i), N, ps⟩
def t_0 : DefT := tx 12 ([("value" : PySem.Str), ("low" : PySem.Str), ("high" : PySem.Str)]) ([("value" : PySem.Str), ("low" : PySem.Str), ("high" : PySem.Str)])
def t_1 : DefT := tx 13 ([("value" : PySem.Str), ("low" : PySem.Str), ("high" : PySem.Str)]) ([("value" : PySem.Str), ("low" : PySem.Str), ("high" : PySem.Str)])
def t_2 : DefT := tx 14 ([("value" : PySem.Str), ("first" : PySem.Str), ("behind" : PySem.Str), ("sign" : PySem.Str)]) ([("value" : PySem.Str), ("first" : PySem.Str), ("behind" : PySem.Str)])
def t_3 : DefT := tx 15 ([("value" : PySem.Str)]) ([("value" : PySem.Str)])
def t_4 : DefT := tx 16 ([("value" : PySem.Str), ("low" : PySem.Str), ("high" : PySem.Str)]) ([("value" : PySem.Str), ("low" : PySem.Str), ("high" : PySem.Str)])
def t_5 : DefT := tx 23 ([("value" : PySem.Str)]) ([("value" : PySem.Str)])
def t_6 : DefT := tx 24 ([("value" : PySem.Str), ("low" : PySem.Str), ("high" : PySem.Str)]) ([("value" : PySem.Str), ("low" : PySem.Str), ("high" : PySem.Str)])
def t_7 : DefT := tx 32 ([("word" : PySem.Str)]) ([("word" : PySem.Str)])
def t_8 : DefT := tx 33 ([("value" : PySem.Str)]) ([("value" : PySem.Str)])
def t_9 : DefT := tx 34 ([("cells" : PySem.Str), ("word" : PySem.Str)]) ([("cells" : PySem.Str), ("word" : PySem.Str)])
def t_10 : DefT := tx 35 ([("cells" : PySem.Str), ("word" : PySem.Str)]) ([("cells" : PySem.Str), ("word" : PySem.Str)])
def t_11 : DefT := tx 36 ([("cells" : PySem.Str), ("word" : PySem.Str)]) ([("cells" : PySem.Str), ("word" : PySem.Str)])
def t_12 : DefT := tx 37 ([("cells" : PySem.Str), ("value" : PySem.Str), ("many" : PySem.Str), ("part" : PySem.Str)]) ([("cells" : PySem.Str), ("value" : PySem.Str), ("many" : PySem.Str)])
def t_13 : DefT := tx 38 ([("cells" : PySem.Str), ("value" : PySem.Str)]) ([("cells" : PySem.Str), ("value" : PySem.Str)])
def t_14 : DefT := tx 39 ([("cells" : PySem.Str), ("value" : PySem.Str), ("most" : PySem.Str), ("own" : PySem.Str)]) ([("cells" : PySem.Str), ("value" : PySem.Str), ("most" : PySem.Str)])
def t_15 : DefT := tx 40 ([("value" : PySem.Str)]) ([("value" : PySem.Str)])
def t_16 : DefT := tx 41 ([("value" : PySem.Str), ("cell" : PySem.Str)]) ([("value" : PySem.Str)])
def t_17 : DefT := tx 42 ([("many" : PySem.Str), ("room" : PySem.Str)]) ([("many" : PySem.Str)])
def t_18 : DefT := tx 43 ([("room" : PySem.Str)]) ([("room" : PySem.Str)])
def t_19 : DefT := tx 44 ([("value" : PySem.Str)]) ([("value" : PySem.Str)])
def t_20 : DefT := tx 45 ([("heap" : PySem.Str), ("value" : PySem.Str), ("most" : PySem.Str)]) ([("heap" : PySem.Str), ("value" : PySem.Str), ("most" : PySem.Str)])
def t_21 : DefT := tx 46 ([("value" : PySem.Str)]) ([("value" : PySem.Str)])
def t_22 : DefT := tx 49 ([("cells" : PySem.Str), ("found" : PySem.Str), ("fresh" : PySem.Str), ("word" : PySem.Str)]) ([("cells" : PySem.Str), ("found" : PySem.Str), ("fresh" : PySem.Str), ("word" : PySem.Str)])
def t_23 : DefT := tx 50 ([("heap" : PySem.Str), ("roots" : PySem.Str), ("many" : PySem.Str), ("words" : PySem.Str), ("found" : PySem.Str), ("fresh" : PySem.Str), ("at" : PySem.Str), ("word" : PySem.Str)]) ([("heap" : PySem.Str), ("roots" : PySem.Str), ("many" : PySem.Str)])
def t_24 : DefT := tx 51 ([("heap" : PySem.Str), ("roots" : PySem.Str), ("many" : PySem.Str)]) ([("heap" : PySem.Str), ("roots" : PySem.Str), ("many" : PySem.Str)])
def t_25 : DefT := tx 52 ([("heap" : PySem.Str), ("roots" : PySem.Str), ("many" : PySem.Str)]) ([("heap" : PySem.Str), ("roots" : PySem.Str), ("many" : PySem.Str)])
def t_26 : DefT := tx 53 ([("heap" : PySem.Str), ("roots" : PySem.Str), ("many" : PySem.Str), ("found" : PySem.Str)]) ([("heap" : PySem.Str), ("roots" : PySem.Str), ("many" : PySem.Str)])
def t_27 : DefT := tx 55 ([("script" : PySem.Str), ("cell" : PySem.Str)]) ([("script" : PySem.Str)])
def t_28 : DefT := tx 56 ([("cup" : PySem.Str), ("many" : PySem.Str), ("deep" : PySem.Str), ("found" : PySem.Str)]) ([("cup" : PySem.Str), ("many" : PySem.Str)])
def t_29 : DefT := tx 57 ([("cup" : PySem.Str), ("things" : PySem.Str)]) ([("cup" : PySem.Str), ("things" : PySem.Str)])
def t_30 : DefT := tx 58 ([("cells" : PySem.Str), ("word" : PySem.Str)]) ([("cells" : PySem.Str), ("word" : PySem.Str)])
def t_31 : DefT := tx 59 ([("cells" : PySem.Str), ("word" : PySem.Str), ("parts" : PySem.Str), ("own" : PySem.Str)]) ([("cells" : PySem.Str), ("word" : PySem.Str)])
def t_32 : DefT := tx 60 ([("cells" : PySem.Str), ("word" : PySem.Str)]) ([("cells" : PySem.Str), ("word" : PySem.Str)])
def t_33 : DefT := tx 61 ([("cells" : PySem.Str), ("word" : PySem.Str), ("own" : PySem.Str)]) ([("cells" : PySem.Str), ("word" : PySem.Str)])
def t_34 : DefT := tx 62 ([("cells" : PySem.Str), ("roots" : PySem.Str), ("found" : PySem.Str), ("line" : PySem.Str), ("word" : PySem.Str)]) ([("cells" : PySem.Str), ("roots" : PySem.Str)])
def t_35 : DefT := tx 63 ([("many" : PySem.Str), ("found" : PySem.Str), ("room" : PySem.Str)]) ([("many" : PySem.Str)])
def t_36 : DefT := tx 64 ([("cup" : PySem.Str), ("some" : PySem.Str)]) ([("cup" : PySem.Str)])
def t_37 : DefT := tx 65 ([("cup" : PySem.Str), ("many" : PySem.Str), ("turn" : PySem.Str), ("cells" : PySem.Str), ("words" : PySem.Str), ("own" : PySem.Str), ("place" : PySem.Str), ("word" : PySem.Str), ("more" : PySem.Str), ("part" : PySem.Str)]) ([("cup" : PySem.Str), ("many" : PySem.Str)])
def t_38 : DefT := tx 66 ([("cup" : PySem.Str), ("words" : PySem.Str), ("turn" : PySem.Str)]) ([("cup" : PySem.Str), ("words" : PySem.Str)])
def t_39 : DefT := tx 67 ([("heap" : PySem.Str), ("roots" : PySem.Str), ("many" : PySem.Str), ("word" : PySem.Str), ("found" : PySem.Str), ("words" : PySem.Str), ("cells" : PySem.Str), ("order" : PySem.Str), ("places" : PySem.Str), ("end" : PySem.Str), ("front" : PySem.Str), ("own" : PySem.Str)]) ([("heap" : PySem.Str), ("roots" : PySem.Str), ("many" : PySem.Str)])
def t_40 : DefT := tx 68 ([("one" : PySem.Str), ("other" : PySem.Str), ("a" : PySem.Str), ("b" : PySem.Str)]) ([("one" : PySem.Str), ("other" : PySem.Str)])
def e_0 : DefT := tx 69 ([("call" : PySem.Str), ("e" : PySem.Str)]) ([("call" : PySem.Str)])
def t_law : DefT := tx 70 ([("script" : PySem.Str), ("cup" : PySem.Str), ("turn" : PySem.Str), ("nil" : PySem.Str), ("cells" : PySem.Str), ("due" : PySem.Str), ("roots" : PySem.Str), ("rows" : PySem.Str), ("words" : PySem.Str), ("odds" : PySem.Str), ("told" : PySem.Str), ("heap" : PySem.Str), ("many" : PySem.Str), ("odd" : PySem.Str), ("room" : PySem.Str)]) ([("script" : PySem.Str)])
def FN : List PySem.Str := [("is_whole" : PySem.Str), ("is_tuple_of" : PySem.Str), ("is_text" : PySem.Str), ("is_word" : PySem.Str), ("is_headed" : PySem.Str), ("fits_plain" : PySem.Str), ("need_whole" : PySem.Str), ("is_thing" : PySem.Str), ("is_count" : PySem.Str), ("long_at" : PySem.Str), ("inner_at" : PySem.Str), ("is_there" : PySem.Str), ("left_at" : PySem.Str), ("fits_word" : PySem.Str), ("fits_words" : PySem.Str), ("fits_room" : PySem.Str), ("fits_heap" : PySem.Str), ("room_for" : PySem.Str), ("need_rooms" : PySem.Str), ("need_heap" : PySem.Str)] ++ [("need_words" : PySem.Str), ("is_heap" : PySem.Str), ("moved" : PySem.Str), ("copied_with" : PySem.Str), ("copied_in" : PySem.Str), ("need_copying" : PySem.Str), ("copied" : PySem.Str), ("_law_cup" : PySem.Str), ("_law_roll" : PySem.Str), ("_law_some" : PySem.Str), ("_law_words_in" : PySem.Str), ("_law_read" : PySem.Str), ("_law_long" : PySem.Str), ("_law_extent" : PySem.Str), ("_law_met" : PySem.Str), ("_law_room" : PySem.Str), ("_law_plain" : PySem.Str), ("_law_heap" : PySem.Str), ("_law_roots" : PySem.Str), ("_law_copy" : PySem.Str)] ++ [("_law_same" : PySem.Str)]
def CN : List PySem.Str := [("LONGEST" : PySem.Str), ("SIGNS" : PySem.Str), ("LETTERS" : PySem.Str), ("HIGH" : PySem.Str), ("LOW" : PySem.Str), ("PROCESSES" : PySem.Str), ("THINGS" : PySem.Str), ("ITEMS" : PySem.Str), ("PLAIN" : PySem.Str), ("SIZE" : PySem.Str), ("ROOM" : PySem.Str), ("LEAST" : PySem.Str), ("ROOMS" : PySem.Str), ("ROOTS" : PySem.Str), ("MANY" : PySem.Str)]
def XN : List PySem.Str := [("HouseError" : PySem.Str), ("InvalidNumber" : PySem.Str), ("InvalidValue" : PySem.Str), ("TooMany" : PySem.Str), ("InvalidHeap" : PySem.Str), ("InvalidWords" : PySem.Str), ("NoRoom" : PySem.Str)]
def EN : List PySem.Str := [("_law_error" : PySem.Str)]
def FR : List PySem.Str := [("abs" : PySem.Str), ("all" : PySem.Str), ("bool" : PySem.Str), ("int" : PySem.Str), ("isinstance" : PySem.Str), ("len" : PySem.Str), ("list" : PySem.Str), ("range" : PySem.Str), ("str" : PySem.Str), ("sum" : PySem.Str), ("super" : PySem.Str), ("tuple" : PySem.Str), ("zip" : PySem.Str)]
def RZ : List Nat := [0, 1, 2, 4, 5, 6]
def DT : Nat → DefT
  | 0 => t_0
  | 1 => t_1
  | 2 => t_2
  | 3 => t_3
  | 4 => t_4
  | 5 => t_5
  | 6 => t_6
  | 7 => t_7
  | 8 => t_8
  | 9 => t_9
  | 10 => t_10
  | 11 => t_11
  | 12 => t_12
  | 13 => t_13
  | 14 => t_14
  | 15 => t_15
  | 16 => t_16
  | 17 => t_17
  | 18 => t_18
  | 19 => t_19
  | 20 => t_20
  | 21 => t_21
  | 22 => t_22
  | 23 => t_23
  | 24 => t_24
  | 25 => t_25
  | 26 => t_26
  | 27 => t_27
  | 28 => t_28
  | 29 => t_29
  | 30 => t_30
  | 31 => t_31
  | 32 => t_32
  | 33 => t_33
  | 34 => t_34
  | 35 => t_35
  | 36 => t_36
  | 37 => t_37
  | 38 => t_38
  | 39 => t_39
  | 40 => t_40
  | _ => t_law
def ET : Nat → DefT
  | 0 => e_0
  | _ => t_law
def inn (s : Stmt) (i : Nat) : Stmt := match s with
  | .ClassDef (body := b) .. => b.getD i (.Pass ⟨0, 0, 0, 0⟩)
  | s => s
def LD : Nat → LimD
  | 3 => ⟨"TooMany.__init__", "more than ", (PySem.Challenge.pw_messagehouse_k52_whole_copies.main.file : PySem.Str), defArgs (inn (top 4) 0), defBody (inn (top 4) 0), defScope (inn (top 4) 0)⟩
  | _ => ⟨"", "", "", defArgs (top 0), [], defScope (top 0)⟩
def pg : Pg := ⟨FN, CN, XN, RZ, EN, FR, CS, KT, ERRS, UND, D, DT, ET, t_law, "law", [3], LD⟩
theorem bind : ∀ (i : Nat) (x : PySem.Str), FN[i]? = some x → ∀ (kV doc pm : Value) (an : Option Addr) (cdv ct : Value) (us : List Value), us.length = (DT i).ps.length → bindArgs (PySem.W.fnOf x x (DT i).args (DT i).body (DT i).scope .none kV doc pm an cdv ct) ⟨us, []⟩ = pure ((DT i).ps.zip us)
  | 0, x, h => by
    cases h
    exact fun kV doc pm an cdv ct us hl => match us, hl with | [_, _, _], _ => rfl
  | 1, x, h => by
    cases h
    exact fun kV doc pm an cdv ct us hl => match us, hl with | [_, _, _], _ => rfl
  | 2, x, h => by
    cases h
    exact fun kV doc pm an cdv ct us hl => match us, hl with | [_, _, _], _ => rfl
  | 3, x, h => by
    cases h
    exact fun kV doc pm an cdv ct us hl => match us, hl with | [_], _ => rfl
  | 4, x, h => by
    cases h
    exact fun kV doc pm an cdv ct us hl => match us, hl with | [_, _, _], _ => rfl
  | 5, x, h => by
    cases h
    exact fun kV doc pm an cdv ct us hl => match us, hl with | [_], _ => rfl
  | 6, x, h => by
    cases h
    exact fun kV doc pm an cdv ct us hl => match us, hl with | [_, _, _], _ => rfl
  | 7, x, h => by
    cases h
    exact fun kV doc pm an cdv ct us hl => match us, hl with | [_], _ => rfl
  | 8, x, h => by
    cases h
    exact fun kV doc pm an cdv ct us hl => match us, hl with | [_], _ => rfl
  | 9, x, h => by
    cases h
    exact fun kV doc pm an cdv ct us hl => match us, hl with | [_, _], _ => rfl
  | 10, x, h => by
    cases h
    exact fun kV doc pm an cdv ct us hl => match us, hl with | [_, _], _ => rfl
  | 11, x, h => by
    cases h
    exact fun kV doc pm an cdv ct us hl => match us, hl with | [_, _], _ => rfl
  | 12, x, h => by
    cases h
    exact fun kV doc pm an cdv ct us hl => match us, hl with | [_, _, _], _ => rfl
  | 13, x, h => by
    cases h
    exact fun kV doc pm an cdv ct us hl => match us, hl with | [_, _], _ => rfl
  | 14, x, h => by
    cases h
    exact fun kV doc pm an cdv ct us hl => match us, hl with | [_, _, _], _ => rfl
  | 15, x, h => by
    cases h
    exact fun kV doc pm an cdv ct us hl => match us, hl with | [_], _ => rfl
  | 16, x, h => by
    cases h
    exact fun kV doc pm an cdv ct us hl => match us, hl with | [_], _ => rfl
  | 17, x, h => by
    cases h
    exact fun kV doc pm an cdv ct us hl => match us, hl with | [_], _ => rfl
  | 18, x, h => by
    cases h
    exact fun kV doc pm an cdv ct us hl => match us, hl with | [_], _ => rfl
  | 19, x, h => by
    cases h
    exact fun kV doc pm an cdv ct us hl => match us, hl with | [_], _ => rfl
  | 20, x, h => by
    cases h
    exact fun kV doc pm an cdv ct us hl => match us, hl with | [_, _, _], _ => rfl
  | 21, x, h => by
    cases h
    exact fun kV doc pm an cdv ct us hl => match us, hl with | [_], _ => rfl
  | 22, x, h => by
    cases h
    exact fun kV doc pm an cdv ct us hl => match us, hl with | [_, _, _, _], _ => rfl
  | 23, x, h => by
    cases h
    exact fun kV doc pm an cdv ct us hl => match us, hl with | [_, _, _], _ => rfl
  | 24, x, h => by
    cases h
    exact fun kV doc pm an cdv ct us hl => match us, hl with | [_, _, _], _ => rfl
  | 25, x, h => by
    cases h
    exact fun kV doc pm an cdv ct us hl => match us, hl with | [_, _, _], _ => rfl
  | 26, x, h => by
    cases h
    exact fun kV doc pm an cdv ct us hl => match us, hl with | [_, _, _], _ => rfl
  | 27, x, h => by
    cases h
    exact fun kV doc pm an cdv ct us hl => match us, hl with | [_], _ => rfl
  | 28, x, h => by
    cases h
    exact fun kV doc pm an cdv ct us hl => match us, hl with | [_, _], _ => rfl
  | 29, x, h => by
    cases h
    exact fun kV doc pm an cdv ct us hl => match us, hl with | [_, _], _ => rfl
  | 30, x, h => by
    cases h
    exact fun kV doc pm an cdv ct us hl => match us, hl with | [_, _], _ => rfl
  | 31, x, h => by
    cases h
    exact fun kV doc pm an cdv ct us hl => match us, hl with | [_, _], _ => rfl
  | 32, x, h => by
    cases h
    exact fun kV doc pm an cdv ct us hl => match us, hl with | [_, _], _ => rfl
  | 33, x, h => by
    cases h
    exact fun kV doc pm an cdv ct us hl => match us, hl with | [_, _], _ => rfl
  | 34, x, h => by
    cases h
    exact fun kV doc pm an cdv ct us hl => match us, hl with | [_, _], _ => rfl
  | 35, x, h => by
    cases h
    exact fun kV doc pm an cdv ct us hl => match us, hl with | [_], _ => rfl
  | 36, x, h => by
    cases h
    exact fun kV doc pm an cdv ct us hl => match us, hl with | [_], _ => rfl
  | 37, x, h => by
    cases h
    exact fun kV doc pm an cdv ct us hl => match us, hl with | [_, _], _ => rfl
  | 38, x, h => by
    cases h
    exact fun kV doc pm an cdv ct us hl => match us, hl with | [_, _], _ => rfl
  | 39, x, h => by
    cases h
    exact fun kV doc pm an cdv ct us hl => match us, hl with | [_, _, _], _ => rfl
  | 40, x, h => by
    cases h
    exact fun kV doc pm an cdv ct us hl => match us, hl with | [_, _], _ => rfl
  | i + 41, x, h => absurd h (by intro z; have z2 : (none : Option PySem.Str) = some x := z; cases z2)
theorem scope : ∀ (i : Nat) (x : PySem.Str), FN[i]? = some x → FnScope (DT i).N (DT i).ps (DT i).scope
  | 0, x, h => by
    cases h
    exact ⟨rfl, rfl, rfl, by decide +kernel, rfl, by decide +kernel, by decide +kernel⟩
  | 1, x, h => by
    cases h
    exact ⟨rfl, rfl, rfl, by decide +kernel, rfl, by decide +kernel, by decide +kernel⟩
  | 2, x, h => by
    cases h
    exact ⟨rfl, rfl, rfl, by decide +kernel, rfl, by decide +kernel, by decide +kernel⟩
  | 3, x, h => by
    cases h
    exact ⟨rfl, rfl, rfl, by decide +kernel, rfl, by decide +kernel, by decide +kernel⟩
  | 4, x, h => by
    cases h
    exact ⟨rfl, rfl, rfl, by decide +kernel, rfl, by decide +kernel, by decide +kernel⟩
  | 5, x, h => by
    cases h
    exact ⟨rfl, rfl, rfl, by decide +kernel, rfl, by decide +kernel, by decide +kernel⟩
  | 6, x, h => by
    cases h
    exact ⟨rfl, rfl, rfl, by decide +kernel, rfl, by decide +kernel, by decide +kernel⟩
  | 7, x, h => by
    cases h
    exact ⟨rfl, rfl, rfl, by decide +kernel, rfl, by decide +kernel, by decide +kernel⟩
  | 8, x, h => by
    cases h
    exact ⟨rfl, rfl, rfl, by decide +kernel, rfl, by decide +kernel, by decide +kernel⟩
  | 9, x, h => by
    cases h
    exact ⟨rfl, rfl, rfl, by decide +kernel, rfl, by decide +kernel, by decide +kernel⟩
  | 10, x, h => by
    cases h
    exact ⟨rfl, rfl, rfl, by decide +kernel, rfl, by decide +kernel, by decide +kernel⟩
  | 11, x, h => by
    cases h
    exact ⟨rfl, rfl, rfl, by decide +kernel, rfl, by decide +kernel, by decide +kernel⟩
  | 12, x, h => by
    cases h
    exact ⟨rfl, rfl, rfl, by decide +kernel, rfl, by decide +kernel, by decide +kernel⟩
  | 13, x, h => by
    cases h
    exact ⟨rfl, rfl, rfl, by decide +kernel, rfl, by decide +kernel, by decide +kernel⟩
  | 14, x, h => by
    cases h
    exact ⟨rfl, rfl, rfl, by decide +kernel, rfl, by decide +kernel, by decide +kernel⟩
  | 15, x, h => by
    cases h
    exact ⟨rfl, rfl, rfl, by decide +kernel, rfl, by decide +kernel, by decide +kernel⟩
  | 16, x, h => by
    cases h
    exact ⟨rfl, rfl, rfl, by decide +kernel, rfl, by decide +kernel, by decide +kernel⟩
  | 17, x, h => by
    cases h
    exact ⟨rfl, rfl, rfl, by decide +kernel, rfl, by decide +kernel, by decide +kernel⟩
  | 18, x, h => by
    cases h
    exact ⟨rfl, rfl, rfl, by decide +kernel, rfl, by decide +kernel, by decide +kernel⟩
  | 19, x, h => by
    cases h
    exact ⟨rfl, rfl, rfl, by decide +kernel, rfl, by decide +kernel, by decide +kernel⟩
  | 20, x, h => by
    cases h
    exact ⟨rfl, rfl, rfl, by decide +kernel, rfl, by decide +kernel, by decide +kernel⟩
  | 21, x, h => by
    cases h
    exact ⟨rfl, rfl, rfl, by decide +kernel, rfl, by decide +kernel, by decide +kernel⟩
  | 22, x, h => by
    cases h
    exact ⟨rfl, rfl, rfl, by decide +kernel, rfl, by decide +kernel, by decide +kernel⟩
  | 23, x, h => by
    cases h
    exact ⟨rfl, rfl, rfl, by decide +kernel, rfl, by decide +kernel, by decide +kernel⟩
  | 24, x, h => by
    cases h
    exact ⟨rfl, rfl, rfl, by decide +kernel, rfl, by decide +kernel, by decide +kernel⟩
  | 25, x, h => by
    cases h
    exact ⟨rfl, rfl, rfl, by decide +kernel, rfl, by decide +kernel, by decide +kernel⟩
  | 26, x, h => by
    cases h
    exact ⟨rfl, rfl, rfl, by decide +kernel, rfl, by decide +kernel, by decide +kernel⟩
  | 27, x, h => by
    cases h
    exact ⟨rfl, rfl, rfl, by decide +kernel, rfl, by decide +kernel, by decide +kernel⟩
  | 28, x, h => by
    cases h
    exact ⟨rfl, rfl, rfl, by decide +kernel, rfl, by decide +kernel, by decide +kernel⟩
  | 29, x, h => by
    cases h
    exact ⟨rfl, rfl, rfl, by decide +kernel, rfl, by decide +kernel, by decide +kernel⟩
  | 30, x, h => by
    cases h
    exact ⟨rfl, rfl, rfl, by decide +kernel, rfl, by decide +kernel, by decide +kernel⟩
  | 31, x, h => by
    cases h
    exact ⟨rfl, rfl, rfl, by decide +kernel, rfl, by decide +kernel, by decide +kernel⟩
  | 32, x, h => by
    cases h
    exact ⟨rfl, rfl, rfl, by decide +kernel, rfl, by decide +kernel, by decide +kernel⟩
  | 33, x, h => by
    cases h
    exact ⟨rfl, rfl, rfl, by decide +kernel, rfl, by decide +kernel, by decide +kernel⟩
  | 34, x, h => by
    cases h
    exact ⟨rfl, rfl, rfl, by decide +kernel, rfl, by decide +kernel, by decide +kernel⟩
  | 35, x, h => by
    cases h
    exact ⟨rfl, rfl, rfl, by decide +kernel, rfl, by decide +kernel, by decide +kernel⟩
  | 36, x, h => by
    cases h
    exact ⟨rfl, rfl, rfl, by decide +kernel, rfl, by decide +kernel, by decide +kernel⟩
  | 37, x, h => by
    cases h
    exact ⟨rfl, rfl, rfl, by decide +kernel, rfl, by decide +kernel, by decide +kernel⟩
  | 38, x, h => by
    cases h
    exact ⟨rfl, rfl, rfl, by decide +kernel, rfl, by decide +kernel, by decide +kernel⟩
  | 39, x, h => by
    cases h
    exact ⟨rfl, rfl, rfl, by decide +kernel, rfl, by decide +kernel, by decide +kernel⟩
  | 40, x, h => by
    cases h
    exact ⟨rfl, rfl, rfl, by decide +kernel, rfl, by decide +kernel, by decide +kernel⟩
  | i + 41, x, h => absurd h (by intro z; have z2 : (none : Option PySem.Str) = some x := z; cases z2)
theorem chk : ∀ (i : Nat) (x : PySem.Str), FN[i]? = some x → ∃ d, D i = some d ∧ (DT i).chk pg.S d false = true
  | 0, x, h => by
    cases h
    exact ⟨d_0, rfl, by decide +kernel⟩
  | 1, x, h => by
    cases h
    exact ⟨d_1, rfl, by decide +kernel⟩
  | 2, x, h => by
    cases h
    exact ⟨d_2, rfl, by decide +kernel⟩
  | 3, x, h => by
    cases h
    exact ⟨d_3, rfl, by decide +kernel⟩
  | 4, x, h => by
    cases h
    exact ⟨d_4, rfl, by decide +kernel⟩
  | 5, x, h => by
    cases h
    exact ⟨d_5, rfl, by decide +kernel⟩
  | 6, x, h => by
    cases h
    exact ⟨d_6, rfl, by decide +kernel⟩
  | 7, x, h => by
    cases h
    exact ⟨d_7, rfl, by decide +kernel⟩
  | 8, x, h => by
    cases h
    exact ⟨d_8, rfl, by decide +kernel⟩
  | 9, x, h => by
    cases h
    exact ⟨d_9, rfl, by decide +kernel⟩
  | 10, x, h => by
    cases h
    exact ⟨d_10, rfl, by decide +kernel⟩
  | 11, x, h => by
    cases h
    exact ⟨d_11, rfl, by decide +kernel⟩
  | 12, x, h => by
    cases h
    exact ⟨d_12, rfl, by decide +kernel⟩
  | 13, x, h => by
    cases h
    exact ⟨d_13, rfl, by decide +kernel⟩
  | 14, x, h => by
    cases h
    exact ⟨d_14, rfl, by decide +kernel⟩
  | 15, x, h => by
    cases h
    exact ⟨d_15, rfl, by decide +kernel⟩
  | 16, x, h => by
    cases h
    exact ⟨d_16, rfl, by decide +kernel⟩
  | 17, x, h => by
    cases h
    exact ⟨d_17, rfl, by decide +kernel⟩
  | 18, x, h => by
    cases h
    exact ⟨d_18, rfl, by decide +kernel⟩
  | 19, x, h => by
    cases h
    exact ⟨d_19, rfl, by decide +kernel⟩
  | 20, x, h => by
    cases h
    exact ⟨d_20, rfl, by decide +kernel⟩
  | 21, x, h => by
    cases h
    exact ⟨d_21, rfl, by decide +kernel⟩
  | 22, x, h => by
    cases h
    exact ⟨d_22, rfl, by decide +kernel⟩
  | 23, x, h => by
    cases h
    exact ⟨d_23, rfl, by decide +kernel⟩
  | 24, x, h => by
    cases h
    exact ⟨d_24, rfl, by decide +kernel⟩
  | 25, x, h => by
    cases h
    exact ⟨d_25, rfl, by decide +kernel⟩
  | 26, x, h => by
    cases h
    exact ⟨d_26, rfl, by decide +kernel⟩
  | 27, x, h => by
    cases h
    exact ⟨d_27, rfl, by decide +kernel⟩
  | 28, x, h => by
    cases h
    exact ⟨d_28, rfl, by decide +kernel⟩
  | 29, x, h => by
    cases h
    exact ⟨d_29, rfl, by decide +kernel⟩
  | 30, x, h => by
    cases h
    exact ⟨d_30, rfl, by decide +kernel⟩
  | 31, x, h => by
    cases h
    exact ⟨d_31, rfl, by decide +kernel⟩
  | 32, x, h => by
    cases h
    exact ⟨d_32, rfl, by decide +kernel⟩
  | 33, x, h => by
    cases h
    exact ⟨d_33, rfl, by decide +kernel⟩
  | 34, x, h => by
    cases h
    exact ⟨d_34, rfl, by decide +kernel⟩
  | 35, x, h => by
    cases h
    exact ⟨d_35, rfl, by decide +kernel⟩
  | 36, x, h => by
    cases h
    exact ⟨d_36, rfl, by decide +kernel⟩
  | 37, x, h => by
    cases h
    exact ⟨d_37, rfl, by decide +kernel⟩
  | 38, x, h => by
    cases h
    exact ⟨d_38, rfl, by decide +kernel⟩
  | 39, x, h => by
    cases h
    exact ⟨d_39, rfl, by decide +kernel⟩
  | 40, x, h => by
    cases h
    exact ⟨d_40, rfl, by decide +kernel⟩
  | i + 41, x, h => absurd h (by intro z; have z2 : (none : Option PySem.Str) = some x := z; cases z2)
theorem ebind : ∀ (i : Nat) (x : PySem.Str), EN[i]? = some x → ∀ (kV doc pm : Value) (an : Option Addr) (cdv ct : Value) (us : List Value), us.length = (ET i).ps.length → bindArgs (PySem.W.fnOf x x (ET i).args (ET i).body (ET i).scope .none kV doc pm an cdv ct) ⟨us, []⟩ = pure ((ET i).ps.zip us)
  | 0, x, h => by
    cases h
    exact fun kV doc pm an cdv ct us hl => match us, hl with | [_], _ => rfl
  | i + 1, x, h => absurd h (by intro z; have z2 : (none : Option PySem.Str) = some x := z; cases z2)
theorem escope : ∀ (i : Nat) (x : PySem.Str), EN[i]? = some x → FnScope (ET i).N (ET i).ps (ET i).scope
  | 0, x, h => by
    cases h
    exact ⟨rfl, rfl, rfl, by decide +kernel, rfl, by decide +kernel, by decide +kernel⟩
  | i + 1, x, h => absurd h (by intro z; have z2 : (none : Option PySem.Str) = some x := z; cases z2)
theorem echk : ∀ (i : Nat) (x : PySem.Str), EN[i]? = some x → ∃ a, (ET i).ps = [a] ∧ (ET i).N[0]? = some a ∧ visB (ET i).scope a = true ∧ dbgB a = true ∧ (x == ("__debug__" : PySem.Str)) = false ∧ tellB pg.S (ET i).scope (ET i).N (ERRS i) a (ET i).body = true
  | 0, x, h => by
    cases h
    exact ⟨"call", rfl, rfl, by decide +kernel, by decide +kernel, by decide +kernel, by decide +kernel⟩
  | i + 1, x, h => absurd h (by intro z; have z2 : (none : Option PySem.Str) = some x := z; cases z2)
theorem okay : pg.Okay where
  bind := bind
  scope := scope
  chk := chk
  ebind := ebind
  escope := escope
  echk := echk
  lbind := fun kV doc pm an cdv ct us hl => match us, hl with | [_], _ => rfl
  lscope := ⟨rfl, rfl, rfl, by decide +kernel, rfl, by decide +kernel, by decide +kernel⟩
  lps := rfl
  lchk := ⟨d_41, rfl, by decide +kernel⟩
  len := rfl
  ltx := fun c hc => by
    obtain rfl : c = 3 := List.mem_singleton.mp hc
    exact ⟨rfl, rfl, rfl, by decide +kernel, by decide +kernel, rfl, rfl, rfl, rfl, rfl, ⟨_, rfl, rfl⟩, ⟨_, _, _, _, _, _, _, _, _, _, _, _, _, _, _, rfl, rfl⟩, by decide +kernel⟩
  lbd := fun c hc => by
    obtain rfl : c = 3 := List.mem_singleton.mp hc
    exact fun cc kV doc pm an cdv ct us hl => match us, hl with | [_, _], _ => rfl
  lfr := by decide +kernel
def nms : List PySem.Str := [("HouseError" : PySem.Str), ("InvalidNumber" : PySem.Str), ("InvalidValue" : PySem.Str), ("TooMany" : PySem.Str), ("InvalidHeap" : PySem.Str), ("InvalidWords" : PySem.Str), ("NoRoom" : PySem.Str), ("LETTERS" : PySem.Str), ("SIGNS" : PySem.Str), ("LONGEST" : PySem.Str), ("is_whole" : PySem.Str), ("is_tuple_of" : PySem.Str), ("is_text" : PySem.Str), ("is_word" : PySem.Str), ("is_headed" : PySem.Str), ("LOW" : PySem.Str), ("HIGH" : PySem.Str), ("PROCESSES" : PySem.Str), ("ITEMS" : PySem.Str), ("SIZE" : PySem.Str)] ++ [("fits_plain" : PySem.Str), ("need_whole" : PySem.Str), ("LEAST" : PySem.Str), ("ROOM" : PySem.Str), ("ROOMS" : PySem.Str), ("ROOTS" : PySem.Str), ("THINGS" : PySem.Str), ("PLAIN" : PySem.Str), ("is_thing" : PySem.Str), ("is_count" : PySem.Str), ("long_at" : PySem.Str), ("inner_at" : PySem.Str), ("is_there" : PySem.Str), ("left_at" : PySem.Str), ("fits_word" : PySem.Str), ("fits_words" : PySem.Str), ("fits_room" : PySem.Str), ("fits_heap" : PySem.Str), ("room_for" : PySem.Str), ("need_rooms" : PySem.Str)] ++ [("need_heap" : PySem.Str), ("need_words" : PySem.Str), ("is_heap" : PySem.Str), ("MANY" : PySem.Str), ("moved" : PySem.Str), ("copied_with" : PySem.Str), ("copied_in" : PySem.Str), ("need_copying" : PySem.Str), ("copied" : PySem.Str), ("_law_cup" : PySem.Str), ("_law_roll" : PySem.Str), ("_law_some" : PySem.Str), ("_law_words_in" : PySem.Str), ("_law_read" : PySem.Str), ("_law_long" : PySem.Str), ("_law_extent" : PySem.Str), ("_law_met" : PySem.Str), ("_law_room" : PySem.Str), ("_law_plain" : PySem.Str), ("_law_heap" : PySem.Str)] ++ [("_law_roots" : PySem.Str), ("_law_copy" : PySem.Str), ("_law_same" : PySem.Str), ("_law_error" : PySem.Str)]
abbrev R : PySem.W.OpenRow := PySem.W.OpenLaw.row PySem.Challenge.rw_messagehouse_k52_whole_copies
abbrev hk : PySem.W.Hook := MP.hookM 4 pg.fn [("law", none)] (pg.LZ.map pg.lx) (pg.LZ.map pg.LD) pg.ex
def ob (s : PySem.W.SharedT) : MP.AlM := MP.lookM 4 pg.fn [("law", none)] (pg.LZ.map pg.lx) pg.ex (HandSHeadRun.getT s)
theorem ob_eq (s : PySem.W.SharedT) : ob s = hk.obs s.abs := MP.lookM_eq (HandSHeadRun.getT_eq s)
end K52

set_option Elab.async false
set_option linter.all false
set_option maxRecDepth 100000
set_option maxHeartbeats 0
namespace K52
open PySem PySem.Spec PyProof.Rows L2 MP
theorem run (w : World) : HandSHeadRun.RunEq R (PySem.W.view R.prog [70]) hk ob 8000 nms w := by
  intro os
  kernel_rfl
end K52

set_option Elab.async false
set_option linter.all false
set_option maxRecDepth 100000
set_option maxHeartbeats 0
namespace K52
open PySem PySem.Spec PyProof.Rows L2 MP
def Law : Prop := ∀ (v : PV) (ns : List Int), (v = .scr ns ∨ v = .lst (ns.map .int)) → ns.length ≤ 63 → (∀ z ∈ ns, Builtin.Int.intBits z ≤ 1048576) → ∃ st, callN pg.T pg.D (75 + 1) pg.FN.length [v] [] = .ok (.bl true) st
end K52
open PySem PySem.W PySem.Calls PyProof.Rows
theorem holds_of (hlaw : K52.Law) : PySem.Challenge.rw_messagehouse_k52_whole_copies.Holds := by
  w_on; o_law
  refine HandSHeadRun.head_any (r := OpenLaw.row PySem.Challenge.rw_messagehouse_k52_whole_copies) (q := view (OpenLaw.row PySem.Challenge.rw_messagehouse_k52_whole_copies).prog [70]) (H := K52.hk) (ob := K52.ob) (M := 8000) (loose := K52.nms) (d := HandSHeadRun.topDef (OpenLaw.row PySem.Challenge.rw_messagehouse_k52_whole_copies).prog 70) (kwd := []) K52.ob_eq
    (by kernel_rfl) (fun s => by kernel_rfl) K52.run (by kernel_rfl) (by kernel_rfl) (by kernel_rfl) (by rfl) (by first | assumption | decide +kernel) (by decide +kernel) ⟨rfl, rfl, rfl, rfl, rfl, by decide +kernel⟩ ?hw ?hc
  case hw => w_witness2
  case hc =>
    refine LamX.walk_ofTsE (l := PySem.Challenge.rw_messagehouse_k52_whole_copies) (n := 63) (k := 230) (x := "script") (CX := fun w => L2.CX (PySem.Challenge.rw_messagehouse_k52_whole_copies).prog w) rfl (by decide) (by kernel_rfl) ⟨rfl, by decide, by decide⟩ ?F ?E
    case E =>
      intro w H s e s' z
      obtain ⟨_, _, _, _, _, _, _, _, _, _, _, _, q⟩ := z
      exact q
    case F =>
      intro w mg fa h Y N hmg0
      obtain ⟨K, KX, c⟩ := Y
      have hmg : mg ("law" : PySem.Str) = some (.ref fa) := by
        have e : (HandSHeadRun.topDef (OpenLaw.row PySem.Challenge.rw_messagehouse_k52_whole_copies).prog 70).name = ("law" : PySem.Str) := by kernel_rfl
        rw [← e]
        exact hmg0
      exact ⟨K, KX, MP.Pg.law_at (p := K52.pg) K52.okay 75 KX N c hmg ⟨fun c hc => by
        obtain rfl : c = 3 := List.mem_singleton.mp hc
        kernel_rfl, by kernel_rfl⟩ hlaw⟩

theorem PySem.Challenge.cw_messagehouse_k52_whole_copies_holds : PySem.Challenge.rw_messagehouse_k52_whole_copies.Holds := by
  exact holds_of fun v ns hv hn _ => K52.law_true v ns hv hn
