import PyProof.Rows.All
import Wide.All
import OpenK.AllK
import Wide.FinOn
import HandS.ForMost
import HandS.Deep
import HandS.Gcd
import HandS.Wide
import HandS.WideMore
import HandS.IsInst
import HandS.TupAny
import HandS.TupLe
import HandS.TupSets
import HandS.Walk
import HandS.Zip
import HandS.Rev
import HandS.Flow
import HandS.Strs
import HandS.ForExc
import PyProof.ReprRoads
import KE.GoesNew
import KE.GoesMore
import KE.KDictZip
import PyProof.ListNew
import KE.KDictKeyed
import KE.GoesNewDict
import KE.GoesDict
import HandS.WideBits
import HandS.Style
import HandS.Defaults
import HandS.EndBits
import HandS.HeadHook4
import HandS.HeadEnd
import HandS.HeadHook1
import HandS.HeadHook2
import HandS.HeadHook3
import HandS.Head0
import HandS.Head1
import HandS.Head2
import KE.KStateDown
import HandS.Ends
import PySem.Challenge.RW_switchbook_k52_whole_spread_folds_and_pr
section
set_option Elab.async false
set_option linter.all false
/-! Iv: a deterministic reading of the Python that laws and program are written in: data as trees, changed objects in a store. -/
namespace Iv
open PySem L2

/-- data: tuples and lists as trees; frl: a list that nobody changes (the script); loc: an object of the store -/
inductive D where
  | non | bl (b : Bool) | int (i : Int) | str (x : Str) | ty (n : String) | fn (f : Nat)
  | tup (ds : List D) | lst (ds : List D) | frl (ds : List D) | loc (n : Nat)
  /-- a dict that nobody changes, its keys tuples of ints -/
  | dt (ks : List (List Int)) (ds : List D)

/-- an object of the store; dead: given away as data -/
inductive Ob where
  | lst (ds : List D) | dct (kvs : List (Key × D)) | dead

abbrev Sto := List Ob
/-- an end: a value, a refusal (its class, what it carries), nothing known -/
inductive Res (α : Type) where
  | ok (a : α) (M : Sto)
  | exc (c : String) (p : D) (M : Sto)
  | bad
abbrev Mo (α : Type) := Sto → Res α
@[reducible] def Mo.pure {α : Type} (a : α) : Mo α := fun M => .ok a M
def Mo.bind {α β : Type} (m : Mo α) (f : α → Mo β) : Mo β := fun M => match m M with
  | .ok a M' => f a M'
  | .exc c p M' => .exc c p M'
  | .bad => .bad
instance : Monad Mo where
  pure := Mo.pure
  bind := Mo.bind
def bad {α : Type} : Mo α := fun _ => .bad
def ofO {α : Type} : Option α → Mo α
  | some a => fun M => .ok a M
  | none => fun _ => .bad

/-! ### data as the library's data -/
mutual
def D.py : D → PyData
  | .bl b => .bool b
  | .int i => .int i
  | .str x => .str x
  | .tup ds => .tuple (pys ds)
  | .lst ds => .list (pys ds)
  | .frl ds => .list (pys ds)
  | _ => .none
def pys : List D → List PyData
  | [] => []
  | d :: ds => d.py :: pys ds
end
mutual
/-- nothing of the store, no class, no function in it -/
def D.pu : D → Bool
  | .non => true
  | .bl _ => true
  | .int _ => true
  | .str _ => true
  | .tup ds => pus ds
  | .lst ds => pus ds
  | .frl ds => pus ds
  | _ => false
def pus : List D → Bool
  | [] => true
  | d :: ds => d.pu && pus ds
end
mutual
/-- every object of the store in it is below n -/
def D.blw (n : Nat) : D → Bool
  | .loc m => decide (m < n)
  | .tup ds => blws n ds
  | .lst ds => blws n ds
  | .frl ds => blws n ds
  | .dt _ ds => blws n ds
  | _ => true
def blws (n : Nat) : List D → Bool
  | [] => true
  | d :: ds => d.blw n && blws n ds
end
def Ob.blw (n : Nat) : Ob → Bool
  | .lst ds => blws n ds
  | .dct kvs => blws n (kvs.map (·.2))
  | .dead => true
/-- a list that stands in the store, as data -/
def D.get (M : Sto) : D → D
  | .loc n => match M[n]? with
    | some (.lst ds) => .lst ds
    | _ => .loc n
  | d => d
def D.okE (d : D) : Bool := d.pu && SeqAt.shaped d.py
/-- == -/
def eqD (a b : D) : Option Bool := if a.okE && b.okE then some (PyData.eqv a.py b.py) else none

/-- the items of a list -/
def lstOf (M : Sto) : D → Option (List D)
  | .lst ds => some ds
  | .frl ds => some ds
  | .loc n => match M[n]? with
    | some (.lst ds) => some ds
    | _ => none
  | _ => none
def tupOf : D → Option (List D)
  | .tup ds => some ds
  | _ => none
def seqOf (M : Sto) (d : D) : Option (List D) := match d with
  | .tup ds => some ds
  | d => lstOf M d

/-! ### operators -/
inductive Bop where
  | add | sub | mul | mod | fdiv | pow
def binop : Bop → D → D → Option D
  | .add, .int i, .int j => some (.int (i + j))
  | .add, .str x, .str y => if x.length + y.length ≤ sizeLine then some (.str (x ++ y)) else none
  | .add, .tup xs, .tup ys => if xs.length + ys.length ≤ sizeLine then some (.tup (xs ++ ys)) else none
  | .add, .lst xs, .lst ys => if xs.length + ys.length ≤ sizeLine then some (.lst (xs ++ ys)) else none
  | .sub, .int i, .int j => some (.int (i - j))
  | .mul, .int i, .int j => if (-(2 ^ 64) < i ∧ i < 2 ^ 64) ∨ (-(2 ^ 64) < j ∧ j < 2 ^ 64) ∨ i.natAbs.log2 + j.natAbs.log2 < 1000000 then some (.int (i * j)) else none
  | .mul, .lst xs, .int k => if -(2 ^ 63) ≤ k ∧ k < 2 ^ 63 ∧ xs.length * k.toNat ≤ sizeLine then some (.lst (List.replicate k.toNat xs).flatten) else none
  | .mod, .int i, .int j => if 0 < j then some (.int (i % j)) else if j ≠ 0 then some (.int (i.fmod j)) else none
  | .fdiv, .int i, .int j => if 0 < j ∧ (j.natAbs.log2 < 9000 ∨ j < 1073741824) then some (.int (i / j)) else if j ≠ 0 ∧ (j.natAbs.log2 < 9000 ∨ j.natAbs < 1073741824) then some (.int (i.fdiv j)) else none
  | .pow, .int i, .int j => if 0 ≤ j ∧ j ≤ 1000000 ∧ i.natAbs < 2 ^ 64 then some (.int (i ^ j.toNat)) else none
  | _, _, _ => none

inductive Cop where
  | eq | ne | lt | le | gt | ge | is | isnot | isin | notin
def isNon : D → Bool
  | .non => true
  | _ => false
def intsOf : List D → Option (List Int)
  | [] => some []
  | .int i :: r => (intsOf r).map (i :: ·)
  | _ => none
/-- x in xs, by == -/
def inD (x : D) : List D → Option Bool
  | [] => some false
  | y :: r => match eqD y x with
    | some true => some true
    | some false => inD x r
    | none => none
def cmpop (M : Sto) : Cop → D → D → Option Bool
  | .isin, .tup k, .dt ks _ => (intsOf k).map ks.contains
  | .notin, .tup k, .dt ks _ => (intsOf k).map fun k => !ks.contains k
  | .eq, a, b => eqD (a.get M) (b.get M)
  | .ne, a, b => (eqD (a.get M) (b.get M)).map (!·)
  | .lt, .int i, .int j => some (decide (i < j))
  | .le, .int i, .int j => some (decide (i ≤ j))
  | .gt, .int i, .int j => some (decide (j < i))
  | .ge, .int i, .int j => some (decide (j ≤ i))
  | .is, a, .non => some (isNon a)
  | .isnot, a, .non => some (!isNon a)
  | .isin, x, d => match seqOf M d with
    | some ds => if x.okE && pus ds && SeqAt.shaped (.list (pys ds)) then some (ds.any fun y => PyData.eqv y.py x.py) else none
    | none => none
  | .notin, x, d => match seqOf M d with
    | some ds => if x.okE && pus ds && SeqAt.shaped (.list (pys ds)) then some (!ds.any fun y => PyData.eqv y.py x.py) else none
    | none => none
  | _, _, _ => none

/-- truth -/
def tru (M : Sto) : D → Option Bool
  | .non => some false
  | .bl b => some b
  | .int i => some (i != 0)
  | .str x => if x.length ≤ sizeLine then some ((x.length : Int) != 0) else none
  | .tup ds => some !ds.isEmpty
  | .ty _ => none
  | .fn _ => none
  | d => match lstOf M d with
    | some ds => some !ds.isEmpty
    | none => match d with
      | .loc n => match M[n]? with
        | some (.dct kvs) => some !kvs.isEmpty
        | _ => none
      | _ => none

/-! ### items, slices -/
def lookD : List (List Int) → List D → List Int → Option D
  | k :: ks, d :: ds, x => if k = x then some d else lookD ks ds x
  | _, _, _ => none
def idx (M : Sto) : D → D → Option D
  | .dt ks ds, .tup k => (intsOf k).bind (lookD ks ds)
  | .str z, .int i => if z.length ≤ sizeLine then (atI z.cps.toList i).map fun c => .str ⟨#[c]⟩ else none
  | .tup ds, .int i => atI ds i
  | .loc n, .int i => match M[n]? with
    | some (.lst ds) => atI ds i
    | some (.dct kvs) => (kvs.find? fun p => decide (p.1 = Sum.inl i)).map (·.2)
    | _ => none
  | .loc n, .str x => match M[n]? with
    | some (.dct kvs) => (kvs.find? fun p => decide (p.1 = Sum.inr x)).map (·.2)
    | _ => none
  | d, .int i => match lstOf M d with
    | some ds => atI ds i
    | none => none
  | _, _ => none
def cutD (xs : List D) (lo hi : Option Int) : List D := (xs.drop (HT.sIx xs.length 0 lo)).take (HT.sIx xs.length xs.length hi - HT.sIx xs.length 0 lo)
def slc (M : Sto) (d : D) (lo hi : Option Int) : Option D := match d with
  | .str z => if z.length ≤ sizeLine then some (.str (cutS z lo hi)) else none
  | .tup ds => some (.tup (cutD ds lo hi))
  | d => match lstOf M d with
    | some ds => some (.lst (cutD ds lo hi))
    | none => none

/-! ### built-ins -/
/-- a value's class -/
def tyOf (M : Sto) : D → Option String
  | .non => some "NoneType"
  | .bl _ => some "bool"
  | .int _ => some "int"
  | .str _ => some "str"
  | .tup _ => some "tuple"
  | .lst _ => some "list"
  | .frl _ => some "list"
  | .loc n => match M[n]? with
    | some (.lst _) => some "list"
    | some (.dct _) => some "dict"
    | _ => none
  | _ => none
/-- T is C or below it, of the classes that are asked for -/
def isSub (t c : String) : Bool := decide (t = c) || (decide (t = "bool") && decide (c = "int"))
def okCls (c : String) : Bool := ["int", "bool", "str", "tuple", "list", "dict"].contains c
def tysOf : List D → Option (List String)
  | [] => some []
  | .ty c :: r => (tysOf r).map (c :: ·)
  | _ => none
def boolsOf : List D → Option (List Bool)
  | [] => some []
  | .bl b :: r => (boolsOf r).map (b :: ·)
  | _ => none
/-- lists of ints by places, the shorter one first -/
def leI : List Int → List Int → Bool
  | [], _ => true
  | _ :: _, [] => false
  | a :: r, b :: q => decide (a < b) || (decide (a = b) && leI r q)
def tupInts : D → Option (List Int)
  | .tup ds => intsOf ds
  | _ => none
def tupsOf : List D → Option (List (List Int))
  | [] => some []
  | d :: r => match tupInts d, tupsOf r with
    | some x, some y => some (x :: y)
    | _, _ => none
def insI (x : List Int) : List (List Int) → List (List Int)
  | [] => [x]
  | y :: r => if leI x y then x :: y :: r else y :: insI x r
def sortI : List (List Int) → List (List Int)
  | [] => []
  | x :: r => insI x (sortI r)
def bdI (d : Nat) (l : List Int) : Bool := decide (l.length = d) && l.all fun i => decide (0 ≤ i ∧ i < 1048576)
/-- sorted of lists of tuples of as many ints in [0, 2^20) -/
def sorted (ds : List D) : Option (List D) := match ds with
  | [] => some []
  | [d] => if d.pu then some [d] else none
  | _ => match tupsOf ds with
    | some (l :: ls) => if ls.length < 63 && decide (1 ≤ l.length) && (l :: ls).all (bdI l.length) then some ((sortI (l :: ls)).map fun l => .tup (l.map .int)) else none
    | _ => none
def sumI (ds : List D) : Option D := (intsOf ds).map fun is => .int is.sum
def maxI : List Int → Option Int
  | [] => none
  | a :: r => some (r.foldl (fun m x => if m < x then x else m) a)
def minI : List Int → Option Int
  | [] => none
  | a :: r => some (r.foldl (fun m x => if x < m then x else m) a)

/-- what is built in, called by its name -/
inductive Bf where
  | len | isi | tuple | list | int | abs | min2 | max2 | maxL | minL | sum | all | any | sorted | gcd | repr
  deriving DecidableEq
def okR (d : D) : Bool := d.pu && d.py.showable && decide (d.py.shown.length ≤ sizeLine) && decide (d.py.depth ≤ 64)
def isWhole (d : D) : Option Int := match d with
  | .int i => some i
  | .bl b => some (if b then 1 else 0)
  | _ => none
def lenD (M : Sto) (d : D) : Option D := match d with
  | .str x => if x.length ≤ sizeLine then some (.int x.length) else none
  | .loc n => match M[n]? with
    | some (.lst ds) => some (.int ds.length)
    | some (.dct kvs) => some (.int kvs.length)
    | _ => none
  | d => (seqOf M d).map fun ds => .int ds.length
def isiD (M : Sto) (d c : D) : Option D := match c with
  | .ty c => match tyOf M d with
    | some t => if okCls c then some (.bl (isSub t c)) else none
    | none => none
  | .tup cs => match tyOf M d, tysOf cs with
    | some t, some cs => if cs.all okCls then some (.bl (cs.any (isSub t))) else none
    | _, _ => none
  | _ => none
def int2 (f : Int → Int → Int) (d e : D) : Option D := match d with
  | .int i => match e with
    | .int j => some (.int (f i j))
    | _ => none
  | _ => none
def absD (d : D) : Option D := match d with
  | .int i => some (.int (if i < 0 then -i else i))
  | _ => none
def onL (M : Sto) (f : List D → Option D) (d : D) : Option D := match lstOf M d with
  | some ds => f ds
  | none => none
def blt1 (M : Sto) (f : Bf) (d : D) : Option D := match f with
  | .len => lenD M d
  | .tuple => (seqOf M d).map .tup
  | .list => (seqOf M d).map .lst
  | .int => (isWhole d).map .int
  | .abs => absD d
  | .sum => onL M sumI d
  | .maxL => onL M (fun ds => ((intsOf ds).bind maxI).map .int) d
  | .minL => onL M (fun ds => ((intsOf ds).bind minI).map .int) d
  | .all => onL M (fun ds => (boolsOf ds).map fun bs => .bl (bs.all id)) d
  | .any => onL M (fun ds => (boolsOf ds).map fun bs => .bl (bs.any id)) d
  | .sorted => onL M (fun ds => (Iv.sorted ds).map .lst) d
  | .repr => if okR (d.get M) then some (.str (d.get M).py.shown) else none
  | _ => none
def blt2 (M : Sto) (f : Bf) (d e : D) : Option D := match f with
  | .isi => isiD M d e
  | .min2 => int2 (fun i j => if j < i then j else i) d e
  | .max2 => int2 (fun i j => if j > i then j else i) d e
  | .gcd => int2 (fun i j => ((Nat.gcd i.natAbs j.natAbs : Nat) : Int)) d e
  | _ => none
def blt (M : Sto) (f : Bf) (ds : List D) : Option D := match ds with
  | [d] => blt1 M f d
  | [d, e] => blt2 M f d e
  | _ => none

/-! ### forms of one part -/
inductive P1 where
  | bits
  deriving DecidableEq
def p1op (p : P1) (d : D) : Option D := match p with
  | .bits => match d with
    | .int i => some (.int (Builtin.Int.intBits i : Nat))
    | _ => none

/-! ### forms of two parts -/
inductive P2 where
  | dzip | dlz
  deriving DecidableEq
/-- the dict of some keys and values, the keys unlike -/
def dtOf (ks : Option (List (List Int))) (ds : List D) : Option D := match ks with
  | some ks => if ks.Nodup ∧ ks.length ≤ sizeLine ∧ ks.length = ds.length then some (.dt ks ds) else none
  | none => none
def p2op (p : P2) (M : Sto) (a b : D) : Option D := match seqOf M a, seqOf M b with
  | some xs, some ys => dtOf (tupsOf ((xs.zip ys).map (·.1))) ((xs.zip ys).map (·.2))
  | _, _ => none
/-- what a walk over a dict meets -/
def keysD : D → Option (List D)
  | .dt ks _ => some (ks.map fun k => .tup (k.map .int))
  | _ => none

def itemsD : D → Option (List D)
  | .dt ks ds => some ((ks.zip ds).map fun p => .tup [.tup (p.1.map .int), p.2])
  | _ => none

/-! ### methods of what is built in -/
inductive Mt where
  | append | pop | popAt | index | tindex | extend
  deriving DecidableEq
/-- the first place of x, by == -/
def whereD (x : D) : List D → Option Nat
  | [] => none
  | y :: r => if PyData.eqv y.py x.py then some 0 else (whereD x r).map (· + 1)
/-- a change of a list of the store -/
def onS (d : D) (f : List D → Option (D × List D)) : Mo D := fun M => match d with
  | .loc n => match M[n]? with
    | some (.lst ds) => match f ds with
      | some (z, es) => .ok z (M.set n (.lst es))
      | none => .bad
    | _ => .bad
  | _ => .bad
def indexD (x : D) (ds : List D) : Option D := if x.okE && pus ds && SeqAt.shaped (.list (pys ds)) then (whereD x ds).map fun k => .int (k : Nat) else none
def mth0 (m : Mt) (o : D) : Mo D := match m with
  | .pop => onS o fun ds => (ds[ds.length - 1]?).map fun d => (d, ds.dropLast)
  | _ => bad
def mth1 (m : Mt) (o x : D) : Mo D := match m with
  | .append => onS o fun ds => if ds.length < sizeLine then some (.non, ds ++ [x]) else none
  | .popAt => match x with
    | .int i => onS o fun ds => if -(2 ^ 63) ≤ i ∧ i < 2 ^ 63 then (seqIndex? i ds.length).bind fun k => (ds[k]?).map fun d => (d, ds.eraseIdx k) else none
    | _ => bad
  | .index => fun M => match lstOf M o with
    | some ds => ofO (indexD x ds) M
    | none => .bad
  | .tindex => match o with
    | .tup ds => ofO (indexD x ds)
    | _ => bad
  | .extend => match x with
    | .lst es => onS o fun ds => if ds.length + es.length ≤ sizeLine then some (.non, ds ++ es) else none
    | _ => bad
  | _ => bad
def mth (m : Mt) (o : D) (xs : List D) : Mo D := match xs with
  | [] => mth0 m o
  | [x] => mth1 m o x
  | _ => bad

/-- what a method is called of -/
def recv (M : Sto) (m : Mt) (x : D) : Bool := match m with
  | .tindex => true
  | _ => (lstOf M x).isSome

/-! ### the tree -/
/-- how a call's values come to the parameters: np by place, the keywords' names, each parameter's source -/
structure Shape where
  np : Nat
  ks : List Str
  out : List (Sum Nat D)
def Shape.place (sh : Shape) (vs : List D) : Option (List D) := sh.out.mapM fun
  | .inl i => vs[i]?
  | .inr d => some d

mutual
inductive Ex where
  | var (i : Nat)
  | lit (d : D)
  /-- a constant of the module -/
  | glob (x : Nat)
  | bin (o : Bop) (a b : Ex)
  | neg (a : Ex)
  | nt (a : Ex)
  | conj (a b : Ex)
  | disj (a b : Ex)
  | cmp (o : Cop) (a b : Ex)
  /-- 0 ≤ a < b and the like -/
  | chn (o o' : Cop) (a b c : Ex)
  | ite (c a b : Ex)
  | tup (es : Exs)
  /-- a list as it is written; m: an object of the store -/
  | lst (m : Bool) (es : Exs)
  | idx (a b : Ex)
  | slc (a : Ex) (lo hi : Ox)
  | call (f : Nat) (sh : Nat) (es ks : Exs)
  | blt (m : Bool) (f : Bf) (es : Exs)
  | mth (m : Mt) (o : Ex) (es : Exs)
  /-- [e for t in it if c] -/
  | comp (m : Bool) (own : List Nat) (t : Tg) (it : It) (c : Ox) (e : Ex)
  /-- [e for t in it for t1 in it1 if c]; own1: the names of the second target -/
  | comp2 (m : Bool) (own own1 : List Nat) (t : Tg) (it : It) (t1 : Tg) (it1 : It) (c : Ox) (e : Ex)
  /-- { .. } with keys that are words -/
  | dsp (ks : List Str) (es : Exs)
  /-- a list of the store given away as data -/
  | frz (a : Ex)
  | p1 (p : P1) (a : Ex)
  | p2 (p : P2) (a b : Ex)
inductive Exs where
  | nil
  | cons (e : Ex) (es : Exs)
inductive Ox where
  | non
  | som (e : Ex)
/-- what is walked -/
inductive It where
  | seq (e : Ex)
  | rng (e : Ex)
  | rng2 (a b : Ex)
  | zip (a b : Ex)
  | enum (e : Ex)
  /-- a dict by its keys -/
  | dks (e : Ex)
  /-- e.items() -/
  | dits (e : Ex)
  | zip3 (a b c : Ex)
inductive Tg where
  | nm (i : Nat)
  | tp (ts : Tgs)
inductive Tgs where
  | nil
  | cons (t : Tg) (ts : Tgs)
end
mutual
inductive St where
  | ex (e : Ex)
  | asg (t : Tg) (e : Ex)
  /-- a, b = x, y with plain names -/
  | par (i j : Nat) (a b : Ex)
  | par3 (i j l : Nat) (a b c : Ex)
  /-- o[i] = e -/
  | sub (o i e : Ex)
  /-- o[i], p[j] = (a, b) -/
  | sub2 (o i p j : Ex) (e : Ex)
  | aug (i : Nat) (o : Bop) (e : Ex)
  | ret (e : Ex)
  | retN
  | iff (c : Ex) (a b : Sts)
  | whl (c : Ex) (b : Sts)
  | fr (t : Tg) (it : It) (b : Sts)
  | brk
  | cnt
  | pas
  /-- a statement that is not come to -/
  | nev
inductive Sts where
  | nil
  | cons (s : St) (ss : Sts)
end

abbrev Env := List (Option D)
/-- a flow: on, returned, out of the loop, the loop's next turn -/
inductive Fl where
  | nx | rt (d : D) | bk | ct
inductive SR where
  | ok (f : Fl) (ρ : Env) (M : Sto)
  | exc (c : String) (p : D) (ρ : Env) (M : Sto)
  | bad
def wipeE (ρ : Env) : List Nat → Env
  | [] => ρ
  | i :: r => (wipeE ρ r).set i none

mutual
def bindT : Tg → D → Env → Option Env
  | .nm i, d, ρ => some (ρ.set i (some d))
  | .tp ts, d, ρ => match d with
    | .tup ds => bindTs ts ds ρ
    | _ => none
def bindTs : Tgs → List D → Env → Option Env
  | .nil, [], ρ => some ρ
  | .cons t ts, d :: ds, ρ => match bindT t d ρ with
    | some ρ1 => bindTs ts ds ρ1
    | none => none
  | _, _, _ => none
end
/-- what is walked: its items; the object of the store that must not change meanwhile -/
structure Wk where
  items : List D
  src : List (Nat × List D) := []
def Wk.same (w : Wk) (M : Sto) : Prop := ∀ p ∈ w.src, M[p.1]? = some (.lst p.2)
def srcOf (M : Sto) : D → List (Nat × List D)
  | .loc n => match M[n]? with
    | some (.lst ds) => [(n, ds)]
    | _ => []
  | _ => []
open Classical in
noncomputable def compL (w : Wk) (t : Tg) (c : Env → Mo Bool) (e : Env → Mo D) (ρ : Env) : List D → Mo (List D)
  | [] => fun M => .ok [] M
  | d :: ds => fun M => match bindT t d ρ with
    | none => .bad
    | some ρ1 => match c ρ1 M with
      | .ok b M1 => if b then match e ρ1 M1 with
          | .ok x M2 => if w.same M2 then match compL w t c e ρ ds M2 with
            | .ok xs M3 => .ok (x :: xs) M3
            | _ => .bad
            else .bad
          | _ => .bad
        else if w.same M1 then compL w t c e ρ ds M1 else .bad
      | _ => .bad
open Classical in
noncomputable def compL2 (w : Wk) (t : Tg) (i1 : Env → Mo Wk) (own1 : List Nat) (t1 : Tg) (c : Env → Mo Bool) (e : Env → Mo D) (ρ : Env) : List D → Mo (List D)
  | [] => fun M => .ok [] M
  | d :: ds => fun M => match bindT t d ρ with
    | none => .bad
    | some ρ1 => match i1 ρ1 M with
      | .ok k M1 => match compL k t1 c e (wipeE ρ1 own1) k.items M1 with
        | .ok xs M2 => if w.same M2 then match compL2 w t i1 own1 t1 c e ρ ds M2 with
          | .ok ys M3 => .ok (xs ++ ys) M3
          | _ => .bad
          else .bad
        | _ => .bad
      | _ => .bad
open Classical in
noncomputable def forL (w : Wk) (t : Tg) (b : Env → Sto → SR) : List D → Env → Sto → SR
  | [], ρ, M => .ok .nx ρ M
  | d :: ds, ρ, M => match bindT t d ρ with
    | none => .bad
    | some ρ1 => match b ρ1 M with
      | .ok .nx ρ2 M2 => if w.same M2 then forL w t b ds ρ2 M2 else .bad
      | .ok .ct ρ2 M2 => if w.same M2 then forL w t b ds ρ2 M2 else .bad
      | .ok .bk ρ2 M2 => .ok .nx ρ2 M2
      | r => r
/-- a while of at most n turns -/
def whileN (c : Env → Mo Bool) (b : Env → Sto → SR) : Nat → Env → Sto → Option SR
  | 0, _, _ => none
  | n + 1, ρ, M => match c ρ M with
    | .ok true M1 => match b ρ M1 with
      | .ok .nx ρ2 M2 => whileN c b n ρ2 M2
      | .ok .ct ρ2 M2 => whileN c b n ρ2 M2
      | .ok .bk ρ2 M2 => some (.ok .nx ρ2 M2)
      | r => some r
    | .ok false M1 => some (.ok .nx ρ M1)
    | .exc x p M1 => some (.exc x p ρ M1)
    | .bad => some .bad
open Classical in
noncomputable def whileC (c : Env → Mo Bool) (b : Env → Sto → SR) (ρ : Env) (M : Sto) : SR :=
  if h : ∃ n r, whileN c b n ρ M = some r then h.choose_spec.choose else .bad

/-- what a def is, to its callers -/
structure Fd where
  /-- how many names, how many parameters -/
  n : Nat
  np : Nat
  shapes : List Shape
  body : Sts

/-- the text's defs and constants by names of ours; their names there; whether gcd is math's -/
structure Lp where
  fd : Nat → Option Fd
  gv : Nat → Option D
  nm : Nat → Str
  free : List Str
  gcd : Bool
  /-- constants that are tuples of the library's plain kind -/
  tix : List Nat
section
variable (T : Lp) (cl : Nat → List D → Mo D)
mutual
noncomputable def ev : Ex → Env → Mo D
  | .var i, ρ => ofO (ρ[i]?.join)
  | .lit d, _ => fun M => .ok d M
  | .glob x, _ => ofO (T.gv x)
  | .bin o a b, ρ => (ev a ρ).bind fun x => (ev b ρ).bind fun y => ofO (binop o x y)
  | .neg a, ρ => (ev a ρ).bind fun x => match x with
    | .int i => fun M => .ok (.int (-i)) M
    | _ => bad
  | .nt a, ρ => (ev a ρ).bind fun x => fun M => ofO ((tru M x).map fun b => .bl (!b)) M
  | .conj a b, ρ => (ev a ρ).bind fun x => fun M => match tru M x with
    | some true => ev b ρ M
    | some false => .ok x M
    | none => .bad
  | .disj a b, ρ => (ev a ρ).bind fun x => fun M => match tru M x with
    | some true => .ok x M
    | some false => ev b ρ M
    | none => .bad
  | .cmp o a b, ρ => (ev a ρ).bind fun x => (ev b ρ).bind fun y => fun M => ofO ((cmpop M o x y).map .bl) M
  | .chn o o' a b c, ρ => (ev a ρ).bind fun x => (ev b ρ).bind fun y => fun M => match cmpop M o x y with
    | some true => ((ev c ρ).bind fun z => fun M => ofO ((cmpop M o' y z).map .bl) M) M
    | some false => .ok (.bl false) M
    | none => .bad
  | .ite c a b, ρ => (evt c ρ).bind fun k => if k then ev a ρ else ev b ρ
  | .tup es, ρ => (evs es ρ).bind fun ds => if ds.length ≤ sizeLine then fun M => .ok (.tup ds) M else bad
  | .lst m es, ρ => (evs es ρ).bind fun ds => if ds.length ≤ sizeLine then (if m then fun M => .ok (.loc M.length) (M ++ [.lst ds]) else fun M => .ok (.lst ds) M) else bad
  | .idx a b, ρ => (ev a ρ).bind fun x => (ev b ρ).bind fun y => fun M => ofO (idx M x y) M
  | .slc a lo hi, ρ => (ev a ρ).bind fun x => (evo lo ρ).bind fun l => (evo hi ρ).bind fun h => fun M => ofO (slc M x l h) M
  | .call f sh es ks, ρ => (evs es ρ).bind fun ds => (evs ks ρ).bind fun zs => match T.fd f with
    | some fd => match fd.shapes[sh]? with
      | some s => if ds.length = s.np ∧ zs.length = s.ks.length then match s.place (ds ++ zs) with
        | some vs => cl f vs
        | none => bad
        else bad
      | none => bad
    | none => bad
  | .blt m f es, ρ => (evs es ρ).bind fun ds => fun M => match blt M f ds with
    | some d => match m, d with
      | true, .lst xs => .ok (.loc M.length) (M ++ [.lst xs])
      | true, _ => .bad
      | false, d => .ok d M
    | none => .bad
  | .mth m o es, ρ => (ev o ρ).bind fun x => fun M => if recv M m x then ((evs es ρ).bind fun ds => mth m x ds) M else .bad
  | .comp m own t it c e, ρ => (evi it ρ).bind fun w => (compL w t (evc c) (ev e) (wipeE ρ own) w.items).bind fun ds =>
      if ds.length ≤ sizeLine then (if m then fun M => .ok (.loc M.length) (M ++ [.lst ds]) else fun M => .ok (.lst ds) M) else bad
  | .comp2 m own own1 t it t1 it1 c e, ρ => (evi it ρ).bind fun w => (compL2 w t (evi it1) own1 t1 (evc c) (ev e) (wipeE ρ own) w.items).bind fun ds =>
      if ds.length ≤ sizeLine then (if m then fun M => .ok (.loc M.length) (M ++ [.lst ds]) else fun M => .ok (.lst ds) M) else bad
  | .dsp ks es, ρ => (evs es ρ).bind fun ds => if ks.length = ds.length ∧ ks.length ≤ 15 ∧ ks.Nodup then fun M => .ok (.loc M.length) (M ++ [.dct ((ks.map Sum.inr).zip ds)]) else bad
  | .frz a, ρ => (ev a ρ).bind fun x => fun M => match x with
    | .loc n => match M[n]? with
      | some (.lst ds) => .ok (.lst ds) (M.set n .dead)
      | _ => .bad
    | _ => .bad
  | .p1 p a, ρ => (ev a ρ).bind fun x => ofO (p1op p x)
  | .p2 p a b, ρ => (ev a ρ).bind fun x => (ev b ρ).bind fun y => fun M => ofO (p2op p M x y) M
noncomputable def evt : Ex → Env → Mo Bool
  | .conj a b, ρ => (evt a ρ).bind fun k => if k then evt b ρ else fun M => .ok false M
  | .disj a b, ρ => (evt a ρ).bind fun k => if k then fun M => .ok true M else evt b ρ
  | .nt a, ρ => (evt a ρ).bind fun k => fun M => .ok (!k) M
  | .var i, ρ => (ofO (ρ[i]?.join)).bind fun x => fun M => ofO (tru M x) M
  | .lit d, _ => fun M => ofO (tru M d) M
  | .glob x, _ => (ofO (T.gv x)).bind fun d => fun M => ofO (tru M d) M
  | .bin o a b, ρ => (ev a ρ).bind fun x => (ev b ρ).bind fun y => (ofO (binop o x y)).bind fun z => fun M => ofO (tru M z) M
  | .cmp o a b, ρ => (ev a ρ).bind fun x => (ev b ρ).bind fun y => fun M => ofO (cmpop M o x y) M
  | .chn o o' a b c, ρ => (ev a ρ).bind fun x => (ev b ρ).bind fun y => fun M => match cmpop M o x y with
    | some true => ((ev c ρ).bind fun z => fun M => ofO (cmpop M o' y z) M) M
    | some false => .ok false M
    | none => .bad
  | .idx a b, ρ => (ev a ρ).bind fun x => (ev b ρ).bind fun y => fun M => (ofO (idx M x y)).bind (fun z => fun M => ofO (tru M z) M) M
  | .call f sh es ks, ρ => (evs es ρ).bind fun ds => (evs ks ρ).bind fun zs => match T.fd f with
    | some fd => match fd.shapes[sh]? with
      | some s => if ds.length = s.np ∧ zs.length = s.ks.length then match s.place (ds ++ zs) with
        | some vs => (cl f vs).bind fun z => fun M => ofO (tru M z) M
        | none => bad
        else bad
      | none => bad
    | none => bad
  | .blt false f es, ρ => (evs es ρ).bind fun ds => fun M => match blt M f ds with
    | some d => ofO (tru M d) M
    | none => .bad
  | _, _ => bad
noncomputable def evs : Exs → Env → Mo (List D)
  | .nil, _ => fun M => .ok [] M
  | .cons e es, ρ => (ev e ρ).bind fun d => (evs es ρ).bind fun ds => fun M => .ok (d :: ds) M
noncomputable def evo : Ox → Env → Mo (Option Int)
  | .non, _ => fun M => .ok none M
  | .som e, ρ => (ev e ρ).bind fun x => match x with
    | .int i => fun M => .ok (some i) M
    | _ => bad
/-- the tests of a comprehension -/
noncomputable def evc : Ox → Env → Mo Bool
  | .non, _ => fun M => .ok true M
  | .som e, ρ => evt e ρ
noncomputable def evi : It → Env → Mo Wk
  | .seq e, ρ => (ev e ρ).bind fun x => fun M => match seqOf M x with
    | some ds => .ok ⟨ds, srcOf M x⟩ M
    | none => .bad
  | .rng e, ρ => (ev e ρ).bind fun x => match x with
    | .int j => if -(2 ^ 62) ≤ j ∧ j < 2 ^ 62 then fun M => .ok ⟨(List.range j.toNat).map fun i => .int (i : Nat), []⟩ M else bad
    | _ => bad
  | .rng2 a b, ρ => (ev a ρ).bind fun x => (ev b ρ).bind fun y => match x, y with
    | .int i, .int j => if -(2 ^ 62) ≤ i ∧ i < 2 ^ 62 ∧ -(2 ^ 62) ≤ j ∧ j < 2 ^ 62 then fun M => .ok ⟨(List.range (j - i).toNat).map fun k => .int (i + (k : Nat)), []⟩ M else bad
    | _, _ => bad
  | .zip a b, ρ => (ev a ρ).bind fun x => (ev b ρ).bind fun y => fun M => match seqOf M x, seqOf M y with
    | some xs, some ys => .ok ⟨(xs.zip ys).map fun p => .tup [p.1, p.2], srcOf M x ++ srcOf M y⟩ M
    | _, _ => .bad
  | .enum e, ρ => (ev e ρ).bind fun x => fun M => match lstOf M x with
    | some xs => .ok ⟨xs.zipIdx.map fun p => .tup [.int (p.2 : Nat), p.1], srcOf M x⟩ M
    | none => .bad
  | .dks e, ρ => (ev e ρ).bind fun x => fun M => match keysD x with
    | some ds => .ok ⟨ds, []⟩ M
    | none => .bad
  | .dits e, ρ => (ev e ρ).bind fun x => fun M => match itemsD x with
    | some ds => .ok ⟨ds, []⟩ M
    | none => .bad
  | .zip3 a b c, ρ => (ev a ρ).bind fun x => (ev b ρ).bind fun y => (ev c ρ).bind fun z => fun M => match seqOf M x, seqOf M y, seqOf M z with
    | some xs, some ys, some zs => .ok ⟨(xs.zip (ys.zip zs)).map fun p => .tup [p.1, p.2.1, p.2.2], srcOf M x ++ (srcOf M y ++ srcOf M z)⟩ M
    | _, _, _ => .bad
end
def keyD : D → Option Key
  | .int i => some (Sum.inl i)
  | .str x => some (Sum.inr x)
  | _ => none
def putD (kvs : List (Key × D)) (k : Key) (v : D) : List (Key × D) := if kvs.any (fun p => decide (p.1 = k)) then kvs.map fun p => if p.1 = k then (p.1, v) else p else kvs ++ [(k, v)]
/-- a store: o[i] = v -/
def setItem (o i v : D) : Mo Unit := fun M => match o with
  | .loc n => match M[n]? with
    | some (.lst ds) => match i with
      | .int k => match ixN ds.length k with
        | some j => .ok () (M.set n (.lst (ds.set j v)))
        | none => .bad
      | _ => .bad
    | some (.dct kvs) => match keyD i with
      | some k => if kvs.length < sizeLine then .ok () (M.set n (.dct (putD kvs k v))) else .bad
      | none => .bad
    | _ => .bad
  | _ => .bad
def SR.bd {α : Type} (ρ : Env) (r : Res α) (f : α → Sto → SR) : SR := match r with
  | .ok a M => f a M
  | .exc c p M => .exc c p ρ M
  | .bad => .bad
def SR.sq (r : SR) (f : Env → Sto → SR) : SR := match r with
  | .ok .nx ρ M => f ρ M
  | r => r
def augD : Bop → D → D → Option D
  | .add, .int a, .int b => some (.int (a + b))
  | .sub, .int a, .int b => some (.int (a - b))
  | _, _, _ => none
mutual
noncomputable def xs : St → Env → Sto → SR
  | .ex e, ρ, M => .bd ρ (ev T cl e ρ M) fun _ M' => .ok .nx ρ M'
  | .asg t e, ρ, M => .bd ρ (ev T cl e ρ M) fun d M' => match bindT t d ρ with
    | some ρ' => .ok .nx ρ' M'
    | none => .bad
  | .par i j a b, ρ, M => .bd ρ (evs T cl (.cons a (.cons b .nil)) ρ M) fun ds M' => match ds with
    | [x, y] => .ok .nx ((ρ.set i (some x)).set j (some y)) M'
    | _ => .bad
  | .par3 i j l a b c, ρ, M => .bd ρ (evs T cl (.cons a (.cons b (.cons c .nil))) ρ M) fun ds M' => match ds with
    | [x, y, z] => .ok .nx (((ρ.set i (some x)).set j (some y)).set l (some z)) M'
    | _ => .bad
  | .sub o i e, ρ, M => .bd ρ (ev T cl e ρ M) fun v M1 => .bd ρ (ev T cl o ρ M1) fun x M2 => .bd ρ (ev T cl i ρ M2) fun y M3 => .bd ρ (setItem x y v M3) fun _ M4 => .ok .nx ρ M4
  | .sub2 o i p j e, ρ, M => .bd ρ (ev T cl e ρ M) fun z M0 => match z with
    | .tup [v, w] => .bd ρ (ev T cl o ρ M0) fun x M1 => .bd ρ (ev T cl i ρ M1) fun y M2 => .bd ρ (setItem x y v M2) fun _ M3 => .bd ρ (ev T cl p ρ M3) fun x' M4 => .bd ρ (ev T cl j ρ M4) fun y' M5 => .bd ρ (setItem x' y' w M5) fun _ M6 => .ok .nx ρ M6
    | _ => .bad
  | .aug i o e, ρ, M => match ρ[i]?.join with
    | some x => .bd ρ (ev T cl e ρ M) fun y M' => match augD o x y with
      | some z => .ok .nx (ρ.set i (some z)) M'
      | none => .bad
    | none => .bad
  | .ret e, ρ, M => .bd ρ (ev T cl e ρ M) fun d M' => .ok (.rt d) ρ M'
  | .retN, ρ, M => .ok (.rt .non) ρ M
  | .iff c a b, ρ, M => .bd ρ (evt T cl c ρ M) fun k M' => if k then xss a ρ M' else xss b ρ M'
  | .whl c b, ρ, M => whileC (evt T cl c) (xss b) ρ M
  | .fr t it b, ρ, M => .bd ρ (evi T cl it ρ M) fun w M' => forL w t (xss b) w.items ρ M'
  | .brk, ρ, M => .ok .bk ρ M
  | .cnt, ρ, M => .ok .ct ρ M
  | .pas, ρ, M => .ok .nx ρ M
  | .nev, _, _ => .bad
noncomputable def xss : Sts → Env → Sto → SR
  | .nil, ρ, M => .ok .nx ρ M
  | .cons s ss, ρ, M => .sq (xs s ρ M) (xss ss)
end
end
/-- what was made meanwhile is let go where nothing names it -/
def trim (n : Nat) (d : D) (M : Sto) : Res D := if d.blw n && (M.take n).all (Ob.blw n) then .ok d (M.take n) else .ok d M
noncomputable def callF (T : Lp) : Nat → Nat → List D → Mo D
  | 0, _, _ => bad
  | k + 1, f, vs => fun M => match T.fd f with
    | none => .bad
    | some fd => if vs.length = fd.np then match xss T (callF T k) fd.body (vs.map some ++ List.replicate (fd.n - fd.np) none) M with
      | .ok (.rt d) _ M' => trim M.length d M'
      | .ok .nx _ M' => trim M.length .non M'
      | .exc c p _ M' => .exc c p M'
      | _ => .bad
      else .bad
end Iv
end

section
set_option Elab.async false
set_option linter.all false
set_option maxHeartbeats 1000000
/-! IvRep: how the data stand in HandS's heap. -/
namespace Iv
open PySem PySem.Spec PyProof.Rows L2

def Ob.live : Ob → Bool
  | .dead => false
  | _ => true
/-- the heap, the store, where the store's objects stand, what is kept apart -/
structure Wd where
  Z : List Addr
  ι : List Addr
  M : Sto
  H : Hp
def Own (w : Wd) (a : Addr) : Prop := ∃ (n : Nat) (ob : Ob), w.ι[n]? = some a ∧ w.M[n]? = some ob ∧ ob.live = true

/-- a list that nobody changes -/
def SqF (K : PySem.W.Frag) (H : Hp) (a : Addr) (vs : List V) : Prop := (∃ o, H a = some (.frz o (.lst vs))) ∨
  ∃ (o : Obj) (its : Array Value) (n : Nat), K.lookup a = some o ∧ o.cls = .type "list" ∧ o.dict = none ∧ o.data = .seq its n ∧ its.size ≤ sizeLine ∧ Vals vs its.toList
theorem SqF.sqL {K : PySem.W.Frag} {H : Hp} {a : Addr} {vs : List V} (h : SqF K H a vs) : SqL K H a vs := by
  rcases h with ⟨o, h⟩ | h
  · exact .inl (.inr ⟨o, h⟩)
  · exact .inr h
/-- an entry of a dict whose keys are tuples of ints -/
def entI (x : List Int × Addr × Value) : DictEntry := ⟨reduceHash (Builtin.Tuple.tupleHashOf (x.1.map hashInt)), .ref x.2.1, x.2.2⟩
def DtP (a : Addr) (o : Obj) : Heap → Prop := fun h => h.get? a = some o
structure DtOk (a : Addr) (o : Obj) (xs : List (List Int × Addr × Value)) : Prop where
  ex : o.ExactDict
  dat : ∃ es ep, o.data = .dict es ep ∧ es.toList = xs.map entI
  sys : (a == sysModules) = false
  few : xs.length ≤ sizeLine
  nd : (xs.map (·.1)).Nodup
section
variable (K : PySem.W.Frag)
mutual
inductive Rep (w : Wd) : D → V → Prop where
  | non : Rep w .non .non
  | bl (b : Bool) : Rep w (.bl b) (.bl b)
  | int (i : Int) : Rep w (.int i) (.int i)
  | str (x : Str) : Rep w (.str x) (.str x)
  | ty (n : String) : Rep w (.ty n) (.ty n)
  | tup {a : Addr} {ds : List D} {vs : List V} : SqT K w.H a vs → Reps w ds vs → Rep w (.tup ds) (.ref a)
  | lst {a : Addr} {ds : List D} {vs : List V} : w.H a = some (.lst vs) → ¬ Own w a → a ∉ w.Z → Reps w ds vs → Rep w (.lst ds) (.ref a)
  | frl {a : Addr} {ds : List D} {vs : List V} : SqF K w.H a vs → Reps w ds vs → Rep w (.frl ds) (.ref a)
  | loc {a : Addr} {n : Nat} : w.ι[n]? = some a → Rep w (.loc n) (.ref a)
  | dt {a : Addr} {o : Obj} {ks : List (List Int)} {ds : List D} {vs : List V} {xs : List (List Int × Addr × Value)} : w.H a = some (.ext (DtP a o)) → DtOk a o xs → xs.map (·.1) = ks → (∀ x ∈ xs, SqT K w.H x.2.1 (x.1.map V.int)) → Vals vs (xs.map (·.2.2)) → Reps w ds vs → Rep w (.dt ks ds) (.ref a)
inductive Reps (w : Wd) : List D → List V → Prop where
  | nil : Reps w [] []
  | cons {d : D} {v : V} {ds : List D} {vs : List V} : Rep w d v → Reps w ds vs → Reps w (d :: ds) (v :: vs)
end
/-- the store's object stands at its place -/
inductive ObR (w : Wd) (a : Addr) : Ob → Prop where
  | lst {ds : List D} {vs : List V} : w.H a = some (.lst vs) → Reps K w ds vs → ObR w a (.lst ds)
  | dct {kvs : List (Key × D)} {kws : List (Key × V)} : w.H a = some (.dK kws) → kvs.map (·.1) = kws.map (·.1) → Reps K w (kvs.map (·.2)) (kws.map (·.2)) → ObR w a (.dct kvs)
structure Good (w : Wd) : Prop where
  len : w.ι.length = w.M.length
  inj : ∀ (n m : Nat) (a : Addr) (p q : Ob), w.ι[n]? = some a → w.ι[m]? = some a → w.M[n]? = some p → w.M[m]? = some q → p.live = true → q.live = true → n = m
  obj : ∀ (n : Nat) (ob : Ob) (a : Addr), w.M[n]? = some ob → w.ι[n]? = some a → ob.live = true → ObR K w a ob
  z : ∀ a ∈ w.Z, (∃ o, w.H a = some o) ∧ ¬ Own w a
end

/-- what may come of a world: nothing but the store's own objects is changed -/
structure Ext (w w' : Wd) : Prop where
  z : w'.Z = w.Z
  pre : ∀ (n : Nat) (a : Addr), w.ι[n]? = some a → w'.ι[n]? = some a
  keep : ∀ (a : Addr) (o : HO), w.H a = some o → ¬ Own w a → (∀ ps, o ≠ .tbl ps) → w'.H a = some o
  own : ∀ (a : Addr) (o : HO), w.H a = some o → ¬ Own w a → ¬ Own w' a
  dom : ∀ (a : Addr) (o : HO), w.H a = some o → ∃ o', w'.H a = some o'
theorem Ext.refl (w : Wd) : Ext w w := ⟨rfl, fun _ _ h => h, fun _ _ h _ _ => h, fun _ _ _ h => h, fun _ o h => ⟨o, h⟩⟩
theorem Ext.trans {w w1 w2 : Wd} (a : Ext w w1) (b : Ext w1 w2) : Ext w w2 where
  z := b.z.trans a.z
  pre := fun n x h => b.pre n x (a.pre n x h)
  keep := fun x o h n t => b.keep x o (a.keep x o h n t) (a.own x o h n) t
  own := fun x o h n => by
    obtain ⟨o', h'⟩ := a.dom x o h
    exact b.own x o' h' (a.own x o h n)
  dom := fun x o h => by
    obtain ⟨o', h'⟩ := a.dom x o h
    exact b.dom x o' h'
theorem Ext.free {w w' : Wd} (e : Ext w w') {p : Addr} (h : w'.H p = none) : w.H p = none := by
  cases q : w.H p with
  | none => rfl
  | some o =>
    obtain ⟨o', h'⟩ := e.dom p o q
    rw [h] at h'; cases h'

section
variable {K : PySem.W.Frag} {w w' : Wd}
theorem Good.own_obj (g : Good K w) {a : Addr} (h : Own w a) : (∃ vs, w.H a = some (.lst vs)) ∨ ∃ kws, w.H a = some (.dK kws) := by
  obtain ⟨n, ob, h1, h2, h3⟩ := h
  cases g.obj n ob a h2 h1 h3 with
  | lst h _ => exact .inl ⟨_, h⟩
  | dct h _ _ => exact .inr ⟨_, h⟩
theorem Good.own_some (g : Good K w) {a : Addr} (h : Own w a) : ∃ o, w.H a = some o := by
  rcases g.own_obj h with ⟨_, h⟩ | ⟨_, h⟩ <;> exact ⟨_, h⟩
theorem Good.not_own (g : Good K w) {p : Addr} (h : w.H p = none) : ¬ Own w p := fun o => by
  obtain ⟨x, e⟩ := g.own_some o
  rw [h] at e; cases e
theorem Good.tup_own (g : Good K w) {a : Addr} {vs : List V} (h : w.H a = some (.tup vs)) : ¬ Own w a := fun o => by
  rcases g.own_obj o with ⟨_, e⟩ | ⟨_, e⟩ <;> (rw [h] at e; cases e)
theorem Good.frz_own (g : Good K w) {a : Addr} {o : Obj} {u : HO} (h : w.H a = some (.frz o u)) : ¬ Own w a := fun o => by
  rcases g.own_obj o with ⟨_, e⟩ | ⟨_, e⟩ <;> (rw [h] at e; cases e)
theorem Good.ext_own (g : Good K w) {a : Addr} {φ : Heap → Prop} (h : w.H a = some (.ext φ)) : ¬ Own w a := fun o => by
  rcases g.own_obj o with ⟨_, e⟩ | ⟨_, e⟩ <;> (rw [h] at e; cases e)
theorem sqT_mono (g : Good K w) (e : Ext w w') {a : Addr} {vs : List V} (h : SqT K w.H a vs) : SqT K w'.H a vs := by
  rcases h with (h | ⟨o, h⟩) | h
  · exact .inl (.inl (e.keep a _ h (g.tup_own h) fun _ z => nomatch z))
  · exact .inl (.inr ⟨o, e.keep a _ h (g.frz_own h) fun _ z => nomatch z⟩)
  · exact .inr h
theorem sqF_mono (g : Good K w) (e : Ext w w') {a : Addr} {vs : List V} (h : SqF K w.H a vs) : SqF K w'.H a vs := by
  rcases h with ⟨q, h⟩ | h
  · exact .inl ⟨q, e.keep a _ h (g.frz_own h) fun _ z => nomatch z⟩
  · exact .inr h
mutual
theorem Rep.mono (g : Good K w) (e : Ext w w') : ∀ {d : D} {v : V}, Rep K w d v → Rep K w' d v
  | _, _, .non => .non
  | _, _, .bl b => .bl b
  | _, _, .int i => .int i
  | _, _, .str x => .str x
  | _, _, .ty n => .ty n
  | _, _, .tup h r => .tup (sqT_mono g e h) (Reps.mono g e r)
  | _, _, .lst h n z r => .lst (e.keep _ _ h n fun _ q => nomatch q) (e.own _ _ h n) (by rw [e.z]; exact z) (Reps.mono g e r)
  | _, _, .frl h r => .frl (sqF_mono g e h) (Reps.mono g e r)
  | _, _, .loc h => .loc (e.pre _ _ h)
  | _, _, .dt h ok k sq v r => .dt (e.keep _ _ h (g.ext_own h) fun _ q => nomatch q) ok k (fun x hx => sqT_mono g e (sq x hx)) v (Reps.mono g e r)
theorem Reps.mono (g : Good K w) (e : Ext w w') : ∀ {ds : List D} {vs : List V}, Reps K w ds vs → Reps K w' ds vs
  | _, _, .nil => .nil
  | _, _, .cons r t => .cons (Rep.mono g e r) (Reps.mono g e t)
end
theorem Reps.length : ∀ {ds : List D} {vs : List V}, Reps K w ds vs → ds.length = vs.length
  | _, _, .nil => rfl
  | _, _, .cons _ t => congrArg Nat.succ (Reps.length t)
theorem Reps.get : ∀ {ds : List D} {vs : List V} {i : Nat} {d : D}, Reps K w ds vs → ds[i]? = some d → ∃ v, vs[i]? = some v ∧ Rep K w d v
  | _, _, _, _, .nil, h => by simp at h
  | _, _, 0, _, .cons r _, h => by simp at h; subst h; exact ⟨_, rfl, r⟩
  | _, _, i + 1, d, .cons _ t, h => by
    obtain ⟨v, h1, h2⟩ := Reps.get (i := i) (d := d) t (by simpa using h)
    exact ⟨v, by simpa using h1, h2⟩
theorem Reps.get' : ∀ {ds : List D} {vs : List V} {i : Nat} {v : V}, Reps K w ds vs → vs[i]? = some v → ∃ d, ds[i]? = some d ∧ Rep K w d v
  | _, _, _, _, .nil, h => by simp at h
  | _, _, 0, _, .cons r _, h => by simp at h; subst h; exact ⟨_, rfl, r⟩
  | _, _, i + 1, v, .cons _ t, h => by
    obtain ⟨d, h1, h2⟩ := Reps.get' (i := i) (v := v) t (by simpa using h)
    exact ⟨d, by simpa using h1, h2⟩
theorem Reps.append : ∀ {ds es : List D} {vs us : List V}, Reps K w ds vs → Reps K w es us → Reps K w (ds ++ es) (vs ++ us)
  | _, _, _, _, .nil, s => s
  | _, _, _, _, .cons r t, s => .cons r (Reps.append t s)
theorem Reps.one {d : D} {v : V} (r : Rep K w d v) : Reps K w [d] [v] := .cons r .nil
theorem Reps.set {x : D} {u : V} (r : Rep K w x u) : ∀ {ds : List D} {vs : List V} (i : Nat), Reps K w ds vs → Reps K w (ds.set i x) (vs.set i u)
  | _, _, _, .nil => .nil
  | _, _, 0, .cons _ t => .cons r t
  | _, _, i + 1, .cons q t => .cons q (Reps.set r i t)
theorem Reps.take : ∀ {ds : List D} {vs : List V} (n : Nat), Reps K w ds vs → Reps K w (ds.take n) (vs.take n)
  | _, _, 0, _ => .nil
  | _, _, _ + 1, .nil => .nil
  | _, _, n + 1, .cons r t => .cons r (Reps.take n t)
theorem Reps.drop : ∀ {ds : List D} {vs : List V} (n : Nat), Reps K w ds vs → Reps K w (ds.drop n) (vs.drop n)
  | _, _, 0, r => r
  | _, _, _ + 1, .nil => .nil
  | _, _, n + 1, .cons _ t => Reps.drop n t
theorem Reps.eraseIdx : ∀ {ds : List D} {vs : List V} (n : Nat), Reps K w ds vs → Reps K w (ds.eraseIdx n) (vs.eraseIdx n)
  | _, _, _, .nil => .nil
  | _, _, 0, .cons _ t => t
  | _, _, n + 1, .cons r t => .cons r (Reps.eraseIdx n t)
theorem Reps.flatRep : ∀ {ds : List D} {vs : List V} (n : Nat), Reps K w ds vs → Reps K w (List.replicate n ds).flatten (List.replicate n vs).flatten
  | _, _, 0, _ => .nil
  | ds, vs, n + 1, r => by
    rw [List.replicate_succ, List.replicate_succ, List.flatten_cons, List.flatten_cons]
    exact r.append (Reps.flatRep n r)

/-! ### what is made new -/
/-- an object that the store does not know -/
def Wd.put (w : Wd) (p : Addr) (o : HO) : Wd := { w with H := upd w.H p o }
theorem ext_put {p : Addr} {o : HO} (h : w.H p = none) : Ext w (w.put p o) := by
  refine ⟨rfl, fun _ _ h => h, fun a u e _ _ => ?_, fun _ _ _ n => n, fun a u e => ?_⟩
  · show upd w.H p o a = some u
    rw [upd_ne (ne_of_none e h)]; exact e
  · by_cases q : a = p
    · exact ⟨o, by subst q; exact upd_same⟩
    · exact ⟨u, (upd_ne q).trans e⟩
theorem ObR.mono (g : Good K w) (e : Ext w w') {a : Addr} {ob : Ob} (h : ObR K w a ob) (k : ∀ o, w.H a = some o → w'.H a = some o) : ObR K w' a ob := by
  cases h with
  | lst h r => exact .lst (k _ h) (r.mono g e)
  | dct h q r => exact .dct (k _ h) q (r.mono g e)
/-- the same store, more in the heap -/
theorem Good.more (g : Good K w) (e : Ext w w') (hι : w'.ι = w.ι) (hM : w'.M = w.M) (k : ∀ a o, Own w a → w.H a = some o → w'.H a = some o) : Good K w' := by
  have ho : ∀ a, Own w' a ↔ Own w a := fun a => by unfold Own; rw [hι, hM]
  refine ⟨by rw [hι, hM]; exact g.len, fun n m a p q h1 h2 h3 h4 => ?_, fun n ob a h1 h2 h3 => ?_, fun a ha => ?_⟩
  · rw [hι] at h1 h2; rw [hM] at h3 h4
    exact g.inj n m a p q h1 h2 h3 h4
  · rw [hM] at h1; rw [hι] at h2
    exact (g.obj n ob a h1 h2 h3).mono g e fun o => k a o ⟨n, ob, h2, h1, h3⟩
  · rw [e.z] at ha
    obtain ⟨⟨o, h⟩, n⟩ := g.z a ha
    exact ⟨e.dom a o h, fun z => n ((ho a).mp z)⟩
theorem good_put (g : Good K w) {p : Addr} {o : HO} (h : w.H p = none) : Good K (w.put p o) :=
  g.more (ext_put h) rfl rfl fun a u _ e => by
    show upd w.H p o a = some u
    rw [upd_ne (ne_of_none e h)]; exact e
/-- a new tuple -/
theorem rep_tup (g : Good K w) {p : Addr} {ds : List D} {vs : List V} (h : w.H p = none) (r : Reps K w ds vs) : Rep K (w.put p (.tup vs)) (.tup ds) (.ref p) :=
  .tup (.inl (.inl upd_same)) (r.mono g (ext_put h))
theorem put_own {p : Addr} {o : HO} {a : Addr} : Own (w.put p o) a ↔ Own w a := Iff.rfl
/-- a new list, as data -/
theorem rep_lst (g : Good K w) {p : Addr} {ds : List D} {vs : List V} (h : w.H p = none) (r : Reps K w ds vs) : Rep K (w.put p (.lst vs)) (.lst ds) (.ref p) :=
  .lst upd_same (fun o => g.not_own h o) (fun z => by
    obtain ⟨⟨o, e⟩, _⟩ := g.z p z
    rw [h] at e; cases e) (r.mono g (ext_put h))
/-! a new object of the store -/
def Wd.alloc (w : Wd) (p : Addr) (ob : Ob) (o : HO) : Wd := ⟨w.Z, w.ι ++ [p], w.M ++ [ob], upd w.H p o⟩
theorem own_alloc (g : Good K w) {p : Addr} {ob : Ob} {o : HO} {a : Addr} : Own (w.alloc p ob o) a ↔ Own w a ∨ (a = p ∧ ob.live = true) := by
  constructor
  · rintro ⟨n, b, h1, h2, h3⟩
    have h1 : (w.ι ++ [p])[n]? = some a := h1
    have h2 : (w.M ++ [ob])[n]? = some b := h2
    by_cases hn : n < w.ι.length
    · rw [List.getElem?_append_left hn] at h1
      rw [List.getElem?_append_left (by rw [← g.len]; exact hn)] at h2
      exact .inl ⟨n, b, h1, h2, h3⟩
    · rw [List.getElem?_append_right (by omega)] at h1
      rw [List.getElem?_append_right (by rw [← g.len]; omega)] at h2
      have e : n - w.ι.length = 0 := by
        cases q : n - w.ι.length with
        | zero => rfl
        | succ j => rw [q] at h1; simp at h1
      rw [e] at h1
      rw [show n - w.M.length = 0 by rw [← g.len]; exact e] at h2
      simp at h1 h2
      subst h1 h2
      exact .inr ⟨rfl, h3⟩
  · rintro (⟨n, b, h1, h2, h3⟩ | ⟨rfl, h3⟩)
    · have hn : n < w.ι.length := (List.getElem?_eq_some_iff.mp h1).1
      have hm : n < w.M.length := (List.getElem?_eq_some_iff.mp h2).1
      exact ⟨n, b, (List.getElem?_append_left hn).trans h1, (List.getElem?_append_left hm).trans h2, h3⟩
    · exact ⟨w.M.length, ob, by show (w.ι ++ [a])[w.M.length]? = _; rw [← g.len]; simp, by show (w.M ++ [ob])[w.M.length]? = _; simp, h3⟩
theorem ext_alloc (g : Good K w) {p : Addr} {ob : Ob} {o : HO} (h : w.H p = none) : Ext w (w.alloc p ob o) := by
  refine ⟨rfl, fun n a e => ?_, fun a u e _ _ => ?_, fun a u e n z => ?_, fun a u e => ?_⟩
  · exact (List.getElem?_append_left (List.getElem?_eq_some_iff.mp e).1).trans e
  · show upd w.H p o a = some u
    rw [upd_ne (ne_of_none e h)]; exact e
  · rcases (own_alloc g).mp z with z | ⟨z, _⟩
    · exact n z
    · rw [z, h] at e; cases e
  · by_cases q : a = p
    · exact ⟨o, by subst q; exact upd_same⟩
    · exact ⟨u, (upd_ne q).trans e⟩
theorem good_alloc (g : Good K w) {p : Addr} {ob : Ob} {o : HO} (h : w.H p = none) (hz : p ∉ w.Z) (r : ob.live = true → ObR K (w.alloc p ob o) p ob) : Good K (w.alloc p ob o) := by
  have at_ : ∀ n a, (w.ι ++ [p])[n]? = some a → (n < w.ι.length ∧ w.ι[n]? = some a) ∨ (n = w.ι.length ∧ a = p) := fun n a e => by
    by_cases hn : n < w.ι.length
    · rw [List.getElem?_append_left hn] at e
      exact .inl ⟨hn, e⟩
    · rw [List.getElem?_append_right (by omega)] at e
      have q : n - w.ι.length = 0 := by
        cases q : n - w.ι.length with
        | zero => rfl
        | succ j => rw [q] at e; simp at e
      rw [q] at e
      simp at e
      exact .inr ⟨by omega, e.symm⟩
  have obs : ∀ n b, (w.M ++ [ob])[n]? = some b → n < w.M.length → w.M[n]? = some b := fun n b e hn => by
    rw [List.getElem?_append_left hn] at e; exact e
  have obl : ∀ b, (w.M ++ [ob])[w.M.length]? = some b → b = ob := fun b e => by
    have : (w.M ++ [ob])[w.M.length]? = some ob := by simp
    rw [this] at e; exact (Option.some.inj e).symm
  refine ⟨by show (w.ι ++ [p]).length = (w.M ++ [ob]).length; rw [List.length_append, List.length_append, g.len] <;> rfl, fun n m a x y h1 h2 h3 h4 l1 l2 => ?_, fun n b a h1 h2 h3 => ?_, fun a ha => ?_⟩
  · have nofresh : ∀ (i : Nat) (b : Ob), w.ι[i]? = some p → w.M[i]? = some b → b.live = true → False := fun i b e1 e2 e3 => g.not_own h ⟨i, b, e1, e2, e3⟩
    rcases at_ n a h1 with ⟨q1, q2⟩ | ⟨q1, q2⟩
    · rcases at_ m a h2 with ⟨q3, q4⟩ | ⟨q3, q4⟩
      · exact g.inj n m a x y q2 q4 (obs n x h3 (by rw [← g.len]; exact q1)) (obs m y h4 (by rw [← g.len]; exact q3)) l1 l2
      · subst q4
        exact (nofresh n x q2 (obs n x h3 (by rw [← g.len]; exact q1)) l1).elim
    · rcases at_ m a h2 with ⟨q3, q4⟩ | ⟨q3, q4⟩
      · subst q2
        exact (nofresh m y q4 (obs m y h4 (by rw [← g.len]; exact q3)) l2).elim
      · omega
  · rcases at_ n a h2 with ⟨q1, q2⟩ | ⟨q1, q2⟩
    · have e := obs n b h1 (by rw [← g.len]; exact q1)
      exact (g.obj n b a e q2 h3).mono g (ext_alloc g h) fun u hu => by
        show upd w.H p o a = some u
        rw [upd_ne (ne_of_none hu h)]; exact hu
    · have h1' : (w.M ++ [ob])[n]? = some b := h1
      rw [show n = w.M.length by rw [q1, g.len]] at h1'
      have := obl b h1'
      subst this q2
      exact r h3
  · obtain ⟨⟨u, hu⟩, n⟩ := g.z a ha
    refine ⟨(ext_alloc g h).dom a u hu, fun q => ?_⟩
    rcases (own_alloc g).mp q with q | ⟨q, _⟩
    · exact n q
    · subst q; exact hz ha
theorem Good.notZ (g : Good K w) {p : Addr} (h : w.H p = none) : p ∉ w.Z := fun z => by
  obtain ⟨⟨o, e⟩, _⟩ := g.z p z
  rw [h] at e; cases e
theorem rep_loc (g : Good K w) {p : Addr} {ob : Ob} {o : HO} : Rep K (w.alloc p ob o) (.loc w.M.length) (.ref p) := .loc (by
  show (w.ι ++ [p])[w.M.length]? = some p
  rw [← g.len]; simp)
/-! an object of the store is changed -/
def Wd.chg (w : Wd) (n : Nat) (a : Addr) (ob : Ob) (o : HO) : Wd := { w with M := w.M.set n ob, H := upd w.H a o }
theorem own_chg {n : Nat} {a : Addr} {ob : Ob} {o : HO} {b : Addr} (h : Own (w.chg n a ob o) b) (ha : w.ι[n]? = some a) {p : Ob} (hp : w.M[n]? = some p) (hl : p.live = true) : Own w b := by
  obtain ⟨m, x, h1, h2, h3⟩ := h
  have h2 : (w.M.set n ob)[m]? = some x := h2
  by_cases q : n = m
  · subst q
    exact ⟨n, p, h1, hp, hl⟩
  · rw [List.getElem?_set_ne q] at h2
    exact ⟨m, x, h1, h2, h3⟩
theorem ext_chg {n : Nat} {a : Addr} {ob p : Ob} {o : HO} (ha : w.ι[n]? = some a) (hp : w.M[n]? = some p) (hl : p.live = true) : Ext w (w.chg n a ob o) := by
  have oa : Own w a := ⟨n, p, ha, hp, hl⟩
  refine ⟨rfl, fun _ _ e => e, fun b u e nb _ => ?_, fun b u _ nb z => nb (own_chg z ha hp hl), fun b u e => ?_⟩
  · show upd w.H a o b = some u
    rw [upd_ne (fun q => nb (by rw [q]; exact oa))]; exact e
  · by_cases q : b = a
    · exact ⟨o, by subst q; exact upd_same⟩
    · exact ⟨u, (upd_ne q).trans e⟩
theorem good_chg (g : Good K w) {n : Nat} {a : Addr} {ob p : Ob} {o : HO} (ha : w.ι[n]? = some a) (hp : w.M[n]? = some p) (hl : p.live = true) (r : ob.live = true → ObR K (w.chg n a ob o) a ob) : Good K (w.chg n a ob o) := by
  have at_ : ∀ m x, (w.M.set n ob)[m]? = some x → (m = n ∧ x = ob) ∨ (m ≠ n ∧ w.M[m]? = some x) := fun m x e => by
    by_cases q : n = m
    · subst q
      rw [List.getElem?_set_self ((List.getElem?_eq_some_iff.mp hp).1)] at e
      exact .inl ⟨rfl, (Option.some.inj e).symm⟩
    · rw [List.getElem?_set_ne q] at e
      exact .inr ⟨fun z => q z.symm, e⟩
  refine ⟨by show w.ι.length = (w.M.set n ob).length; rw [List.length_set]; exact g.len, fun i j b x y h1 h2 h3 h4 l1 l2 => ?_, fun m x b h1 h2 h3 => ?_, fun b hb => ?_⟩
  · have h1 : w.ι[i]? = some b := h1
    have h2 : w.ι[j]? = some b := h2
    rcases at_ i x h3 with ⟨q1, q2⟩ | ⟨q1, q2⟩
    · rcases at_ j y h4 with ⟨q3, q4⟩ | ⟨q3, q4⟩
      · omega
      · subst q1
        exact g.inj i j b p y h1 h2 hp q4 hl l2
    · rcases at_ j y h4 with ⟨q3, q4⟩ | ⟨q3, q4⟩
      · subst q3
        exact g.inj i j b x p h1 h2 q2 hp l1 hl
      · exact g.inj i j b x y h1 h2 q2 q4 l1 l2
  · have h2 : w.ι[m]? = some b := h2
    rcases at_ m x h1 with ⟨q1, q2⟩ | ⟨q1, q2⟩
    · rw [q1, ha] at h2
      cases h2
      rw [q2]
      exact r (by rw [← q2]; exact h3)
    · have nb : b ≠ a := fun z => by
        subst z
        exact q1 (g.inj m n b x p h2 ha q2 hp h3 hl)
      exact (g.obj m x b q2 h2 h3).mono g (ext_chg ha hp hl) fun u hu => by
        show upd w.H a o b = some u
        rw [upd_ne nb]; exact hu
  · obtain ⟨⟨u, hu⟩, nb⟩ := g.z b hb
    exact ⟨(ext_chg ha hp hl).dom b u hu, fun q => nb (own_chg q ha hp hl)⟩
end
end Iv
end

section
set_option Elab.async false
set_option linter.all false
set_option maxHeartbeats 1000000
/-! IvDct: dicts that nobody changes, keys tuples of ints. -/
namespace Iv
open PySem PySem.Spec PyProof.Rows L2
theorem items_int {P : Program} {w : World} : ∀ {ks : List Int} {us : List Value}, Vals (ks.map V.int) us → PySem.ItemsAre (intKind P w) ks us
  | [], us, r => by
    cases us with
    | nil => exact .nil
    | cons _ _ => nomatch r
  | k :: ks, us, r => by
    cases r with
    | cons h t =>
      obtain ⟨t', rfl⟩ := (show ∃ t, _ = Value.int k t from h)
      exact .cons (by show Value.isInt k (.int k t') = true; simp [Value.isInt]) (items_int t)
theorem ints_of_reps {K : PySem.W.Frag} {w : Wd} : ∀ {ds : List D} {vs : List V} {is : List Int}, Reps K w ds vs → intsOf ds = some is → vs = is.map V.int
  | [], _, is, .nil, h => by cases h; rfl
  | .int i :: ds, _, is, .cons r t, h => by
    have h : (intsOf ds).map (i :: ·) = some is := h
    obtain ⟨js, h1, h2⟩ := Option.map_eq_some_iff.mp h
    subst h2
    cases r
    rw [List.map_cons, ints_of_reps t h1]
  | .non :: _, _, _, _, h => by cases h
  | .bl _ :: _, _, _, _, h => by cases h
  | .str _ :: _, _, _, _, h => by cases h
  | .ty _ :: _, _, _, _, h => by cases h
  | .fn _ :: _, _, _, _, h => by cases h
  | .tup _ :: _, _, _, _, h => by cases h
  | .lst _ :: _, _, _, _, h => by cases h
  | .frl _ :: _, _, _, _, h => by cases h
  | .loc _ :: _, _, _, _, h => by cases h
  | .dt _ _ :: _, _, _, _, h => by cases h
section
variable {X : Cx} {pins : List (Addr × Obj)} {σ : L2.St} {H : Hp} {s : Shared} {a : Addr} {xs : List (List Int × Addr × Value)}
theorem tup_key (I : Inv X pins σ H s) {b : Addr} {k : List Int} (h : SqT X.K H b (k.map V.int)) : (tupleKind (intKind X.prog X.w)).is s.heap k b := by
  obtain ⟨its, rv, p, _⟩ := I.tuple h
  obtain ⟨o, h1, h2, n, h3⟩ := id p
  exact ⟨o, its.toArray, n, h1, h2, h3, by simpa using items_int rv⟩
theorem dt_get (I : Inv X pins σ H s) {o : Obj} (h : H a = some (.ext (DtP a o))) : s.heap.get? a = some o := (show ObjOk X.prog X.w H s.heap a (.ext (DtP a o)) from I.hok a _ h).1
theorem dt_at (I : Inv X pins σ H s) {o : Obj} (h : H a = some (.ext (DtP a o))) (ok : DtOk a o xs) (sq : ∀ x ∈ xs, SqT X.K H x.2.1 (x.1.map V.int)) : s.heap.DictOfH (tupleKind (intKind X.prog X.w)) a xs := by
  obtain ⟨es, ep, h3, h4⟩ := ok.dat
  exact ⟨o, es, ep, dt_get I h, ok.ex, h3, h4, fun x hx => tup_key I (sq x hx), ok.nd⟩
theorem look_at {K : PySem.W.Frag} {w : Wd} : ∀ {ds : List D} {vs : List V} {xs : List (List Int × Addr × Value)} {k : List Int} {z : D}, Vals vs (xs.map (·.2.2)) → Reps K w ds vs → lookD (xs.map (·.1)) ds k = some z → ∃ p v, atKey xs k = some p ∧ RelV v p.2 ∧ Rep K w z v
  | _, _, [], _, _, _, _, h => by cases h
  | d :: ds, v :: vs, x :: xs, k, z, .cons r t, .cons q u, h => by
    have h : (if x.1 = k then some d else lookD (xs.map (·.1)) ds k) = some z := h
    by_cases c : x.1 = k
    · rw [if_pos c] at h
      cases h
      exact ⟨x.2, v, by unfold atKey; rw [List.find?_cons_of_pos (by simpa using c)]; rfl, r, q⟩
    · rw [if_neg c] at h
      obtain ⟨p, v', e, e2, e3⟩ := look_at t u h
      exact ⟨p, v', by unfold atKey; rw [List.find?_cons_of_neg (by simpa using c)]; exact e, e2, e3⟩
theorem in_at : ∀ {xs : List (List Int × Addr × Value)} {k : List Int}, (atKey xs k).isSome = (xs.map (·.1)).contains k
  | [], k => rfl
  | x :: xs, k => by
    have ih := in_at (xs := xs) (k := k)
    by_cases c : x.1 = k
    · unfold atKey
      rw [List.find?_cons_of_pos (by simpa using c)]
      simp [c]
    · unfold atKey at ih ⊢
      rw [List.find?_cons_of_neg (by simpa using c), ih]
      rw [List.map_cons, List.contains_cons]
      have : (k == x.1) = false := by simpa using fun e => c e.symm
      rw [this, Bool.false_or]
end
end Iv
end

section
set_option Elab.async false
set_option linter.all false
set_option maxHeartbeats 1000000
/-! IvOps: what the readings ask, and the operators. -/
namespace Iv
open PySem PySem.Spec PyProof.Rows L2

/-- how a refusal lies -/
def ExcR (K : PySem.W.Frag) (mg : Str → Option Value) (w : Wd) (c : String) (p : D) (cls : Value) (d : Option Addr) : Prop :=
  ∃ C : Addr, mg (Str.ofString c) = some (.ref C) ∧ cls = .ref C ∧ ((d = none ∧ p = .non) ∨ ∃ (dd : Addr) (f : Str) (v : V), d = some dd ∧ w.H dd = some (.xd [(f, v)]) ∧ Rep K w p v)
/-- what is asked of a run: R between what it yields and what is really there -/
def EvR {α β : Type} (K : PySem.W.Frag) (mg : Str → Option Value) (E : XK) (R : Wd → α → β → Prop) (r : Res α) (w : Wd) (Q : β → Hp → Prop) : Prop :=
  match r with
  | .ok a M' => ∀ (w' : Wd) (b : β), Good K w' → Ext w w' → w'.M = M' → R w' a b → Q b w'.H
  | .exc c p M' => ∀ (w' : Wd) (cls : Value) (d : Option Addr), Good K w' → Ext w w' → w'.M = M' → ExcR K mg w' c p cls d → E cls d w'.H
  | .bad => False
def EvG {α β : Type} (K : PySem.W.Frag) (mg : Str → Option Value) (E : XK) (R : Wd → α → β → Prop) (m : Mo α) (w : Wd) (Q : β → Hp → Prop) : Prop :=
  EvR K mg E R (m w.M) w Q
/-- of an answer that is there -/
def OkO {α β : Type} (K : PySem.W.Frag) (R : Wd → α → β → Prop) (o : Option α) (w : Wd) (Q : β → Hp → Prop) : Prop :=
  ∃ a, o = some a ∧ ∀ (w' : Wd) (b : β), Good K w' → Ext w w' → w'.M = w.M → R w' a b → Q b w'.H
/-- slots -/
structure EnvR (K : PySem.W.Frag) (w : Wd) (ρ : Env) (σ : L2.St) : Prop where
  len : ρ.length = σ.length
  get : ∀ (i : Nat) (d : D), ρ[i]? = some (some d) → ∃ v, σ[i]? = some (some v) ∧ Rep K w d v
def tG {α β : Type} (K : PySem.W.Frag) (mg : Str → Option Value) (W : WX) (R : Wd → α → β → Prop) (m : Env → Mo α) : L2.St → Hp → (β → Hp → Prop) → Prop := fun σ H Q =>
  ∃ (w : Wd) (ρ : Env), w.H = H ∧ Good K w ∧ EnvR K w ρ σ ∧ EvG K mg (fun c d H => W c d σ H) R (m ρ) w Q

section
variable {K : PySem.W.Frag} {mg : Str → Option Value} {E : XK} {α β γ δ : Type} {R : Wd → α → β → Prop} {S : Wd → γ → δ → Prop} {m : Mo α} {f : α → Mo γ} {σ : L2.St} {w w' : Wd}
theorem EnvR.mono {ρ : Env} (g : Good K w) (e : Ext w w') (h : EnvR K w ρ σ) : EnvR K w' ρ σ := ⟨h.len, fun i d q => by
  obtain ⟨v, h1, h2⟩ := h.get i d q
  exact ⟨v, h1, h2.mono g e⟩⟩
theorem EvR.mono {r : Res α} {Q Q' : β → Hp → Prop} (h : EvR K mg E R r w Q) (k : ∀ b H, Q b H → Q' b H) : EvR K mg E R r w Q' := by
  cases r with
  | ok a M' => exact fun w' b g e q r => k _ _ (h w' b g e q r)
  | exc c p M' => exact h
  | bad => exact h
theorem EvR.ext {r : Res α} {Q : β → Hp → Prop} (h : EvR K mg E R r w Q) (x : Ext w w') : EvR K mg E R r w' Q := by
  cases r with
  | ok a M' => exact fun w2 b g e q r => h w2 b g (x.trans e) q r
  | exc c p M' => exact fun w2 b d g e q r => h w2 b d g (x.trans e) q r
  | bad => exact h
theorem EvG.mono {Q Q' : β → Hp → Prop} (h : EvG K mg E R m w Q) (k : ∀ b H, Q b H → Q' b H) : EvG K mg E R m w Q' := EvR.mono h k
theorem EvG.bind {Q : δ → Hp → Prop} (h : EvG K mg E S (m.bind f) w Q) :
    EvG K mg E R m w (fun b H1 => ∃ (w1 : Wd) (a : α), w1.H = H1 ∧ Good K w1 ∧ Ext w w1 ∧ R w1 a b ∧ EvG K mg E S (f a) w1 Q) := by
  have h : EvR K mg E S ((m.bind f) w.M) w Q := h
  show EvR K mg E R (m w.M) w _
  unfold Mo.bind at h
  cases q : m w.M with
  | ok a M' =>
    rw [q] at h
    have h : EvR K mg E S (f a M') w Q := h
    intro w1 b g1 e1 hM r
    refine ⟨w1, a, rfl, g1, e1, r, ?_⟩
    show EvR K mg E S (f a w1.M) w1 Q
    rw [hM]
    exact h.ext e1
  | exc c p M' => rw [q] at h; exact h
  | bad => rw [q] at h; exact h
theorem EvG.ok {Q : β → Hp → Prop} {a : α} {b : β} (h : EvG K mg E R (fun M => .ok a M) w Q) (g : Good K w) (r : R w a b) : Q b w.H := h w b g (Ext.refl w) rfl r
theorem EvG.okE {Q : β → Hp → Prop} {a : α} {b : β} (h : EvG K mg E R (fun M => .ok a M) w Q) (e : Ext w w') (g : Good K w') (hM : w'.M = w.M) (r : R w' a b) : Q b w'.H := h w' b g e hM r
theorem EvG.ofO {Q : β → Hp → Prop} {o : Option α} (h : EvG K mg E R (ofO o) w Q) : OkO K R o w Q := by
  cases o with
  | none => exact h.elim
  | some a => exact ⟨a, rfl, h⟩
theorem EvG.ofO_of {Q : β → Hp → Prop} {o : Option α} (h : OkO K R o w Q) : EvG K mg E R (Iv.ofO o) w Q := by
  obtain ⟨a, rfl, h⟩ := h
  exact h
/-- a run at a given store -/
theorem EvG.at {Q : β → Hp → Prop} {m' : Mo α} (h : EvG K mg E R m w Q) (e : m w.M = m' w.M) : EvG K mg E R m' w Q := by
  show EvR K mg E R (m' w.M) w Q
  rw [← e]; exact h
theorem OkO.here {Q : β → Hp → Prop} {o : Option α} {a : α} {b : β} (h : OkO K R o w Q) (e : o = some a) (g : Good K w) (r : R w a b) : Q b w.H := by
  obtain ⟨a', e', h⟩ := h
  rw [e] at e'; cases e'
  exact h w b g (Ext.refl w) rfl r
theorem OkO.there {Q : β → Hp → Prop} {o : Option α} {a : α} {b : β} (h : OkO K R o w Q) (e : o = some a) (x : Ext w w') (g : Good K w') (hM : w'.M = w.M) (r : R w' a b) : Q b w'.H := by
  obtain ⟨a', e', h⟩ := h
  rw [e] at e'; cases e'
  exact h w' b g x hM r
end

/-! ### what a value is -/
section
variable {K : PySem.W.Frag} {w : Wd}
theorem Rep.int_inv {i : Int} {v : V} (r : Rep K w (.int i) v) : v = .int i := by cases r; rfl
theorem Rep.bl_inv {i : Bool} {v : V} (r : Rep K w (.bl i) v) : v = .bl i := by cases r; rfl
theorem Rep.str_inv {i : Str} {v : V} (r : Rep K w (.str i) v) : v = .str i := by cases r; rfl
theorem Rep.non_inv {v : V} (r : Rep K w .non v) : v = .non := by cases r; rfl
theorem Rep.tup_inv {ds : List D} {v : V} (r : Rep K w (.tup ds) v) : ∃ a vs, v = .ref a ∧ SqT K w.H a vs ∧ Reps K w ds vs := by cases r with | tup h t => exact ⟨_, _, rfl, h, t⟩
theorem Rep.lst_inv {ds : List D} {v : V} (r : Rep K w (.lst ds) v) : ∃ a vs, v = .ref a ∧ w.H a = some (.lst vs) ∧ ¬ Own w a ∧ a ∉ w.Z ∧ Reps K w ds vs := by cases r with | lst h n z t => exact ⟨_, _, rfl, h, n, z, t⟩
theorem Rep.loc_inv {n : Nat} {v : V} (r : Rep K w (.loc n) v) : ∃ a, v = .ref a ∧ w.ι[n]? = some a := by cases r with | loc h => exact ⟨_, rfl, h⟩
/-- a list of the store -/
theorem Good.lst (g : Good K w) {n : Nat} {a : Addr} {ds : List D} (h : w.M[n]? = some (.lst ds)) (ha : w.ι[n]? = some a) : ∃ vs, w.H a = some (.lst vs) ∧ Reps K w ds vs := by
  cases g.obj n _ a h ha rfl with
  | lst h r => exact ⟨_, h, r⟩
theorem Good.dct (g : Good K w) {n : Nat} {a : Addr} {kvs : List (Key × D)} (h : w.M[n]? = some (.dct kvs)) (ha : w.ι[n]? = some a) :
    ∃ kws, w.H a = some (.dK kws) ∧ kvs.map (·.1) = kws.map (·.1) ∧ Reps K w (kvs.map (·.2)) (kws.map (·.2)) := by
  cases g.obj n _ a h ha rfl with
  | dct h q r => exact ⟨_, h, q, r⟩
/-- a list, wherever it stands -/
theorem lstOf_sq (g : Good K w) {d : D} {v : V} {ds : List D} (r : Rep K w d v) (h : lstOf w.M d = some ds) : ∃ a vs, v = .ref a ∧ SqL K w.H a vs ∧ Reps K w ds vs := by
  cases r with
  | lst h1 h2 h3 h4 => cases h; exact ⟨_, _, rfl, .inl (.inl h1), h4⟩
  | frl h1 h2 => cases h; exact ⟨_, _, rfl, h1.sqL, h2⟩
  | @loc a n h1 =>
    have h : (match w.M[n]? with
      | some (.lst ds) => some ds
      | _ => none) = some ds := h
    cases q : w.M[n]? with
    | none => rw [q] at h; cases h
    | some ob =>
      rw [q] at h
      cases ob with
      | lst es =>
        cases h
        obtain ⟨vs, h2, h3⟩ := g.lst q h1
        exact ⟨_, _, rfl, .inl (.inl h2), h3⟩
      | _ => cases h
  | _ => cases h
theorem seqOf_sq (g : Good K w) {d : D} {v : V} {ds : List D} (r : Rep K w d v) (h : seqOf w.M d = some ds) : ∃ a vs, v = .ref a ∧ (SqL K w.H a vs ∨ SqT K w.H a vs) ∧ Reps K w ds vs := by
  cases d with
  | tup es =>
    cases h
    obtain ⟨a, vs, e, h1, h2⟩ := r.tup_inv
    exact ⟨a, vs, e, .inr h1, h2⟩
  | _ =>
    obtain ⟨a, vs, e, h1, h2⟩ := lstOf_sq g r h
    exact ⟨a, vs, e, .inl h1, h2⟩
/-! data of the library -/
mutual
theorem Rep.dp (g : Good K w) : ∀ {d : D} {v : V}, Rep K w d v → d.pu = true → Dp K w.H v d.py
  | _, _, .non, _ => .non
  | _, _, .bl b, _ => .bl b
  | _, _, .int i, _ => .int i
  | _, _, .str x, _ => .str x
  | _, _, .ty n, h => by cases h
  | _, _, .tup (ds := ds) h r, p => by
    have p : pus ds = true := p
    exact Dp.tup h (Reps.dp g r p)
  | _, _, .lst (ds := ds) h _ _ r, p => by
    have p : pus ds = true := p
    exact Dp.lst (.inl (.inl h)) (Reps.dp g r p)
  | _, _, .frl (ds := ds) h r, p => by
    have p : pus ds = true := p
    exact Dp.lst h.sqL (Reps.dp g r p)
  | _, _, .loc h, p => by cases p
  | .dt _ _, _, _, p => by cases p
theorem Reps.dp (g : Good K w) : ∀ {ds : List D} {vs : List V}, Reps K w ds vs → pus ds = true → DpAll K w.H vs (pys ds)
  | _, _, .nil, _ => .nil
  | _, _, .cons (d := d) (ds := ds) r t, p => by
    have p : (d.pu && pus ds) = true := p
    rw [Bool.and_eq_true] at p
    exact .cons (Rep.dp g r p.1) (Reps.dp g t p.2)
end
/-- .. also of a list that stands in the store -/
theorem Rep.dpGet (g : Good K w) {d : D} {v : V} (r : Rep K w d v) (h : (d.get w.M).pu = true) : Dp K w.H v (d.get w.M).py := by
  cases r with
  | @loc a n h1 =>
    have e1 : (D.loc n).get w.M = match w.M[n]? with
      | some (.lst ds) => .lst ds
      | _ => .loc n := rfl
    rw [e1] at h ⊢
    cases q : w.M[n]? with
    | none => rw [q] at h; cases h
    | some ob =>
      rw [q] at h
      cases ob with
      | lst es =>
        obtain ⟨vs, h2, h3⟩ := g.lst q h1
        exact Dp.lst (.inl (.inl h2)) (h3.dp g h)
      | _ => cases h
  | non => exact Rep.dp g .non h
  | bl b => exact Rep.dp g (.bl b) h
  | int i => exact Rep.dp g (.int i) h
  | str x => exact Rep.dp g (.str x) h
  | ty n => cases h
  | tup h1 h2 => exact Rep.dp g (.tup h1 h2) h
  | lst h1 h2 h3 h4 => exact Rep.dp g (.lst h1 h2 h3 h4) h
  | frl h1 h2 => exact Rep.dp g (.frl h1 h2) h
  | dt => cases h
theorem dt_or (d : D) : (∃ ks ds, d = .dt ks ds) ∨ ∀ ks ds, d ≠ .dt ks ds := by
  cases d <;> first | exact .inl ⟨_, _, rfl⟩ | exact .inr fun _ _ q => nomatch q
end

/-! ### operators -/
section
variable {X : Cx}
theorem op_fdivNW {X : Cx} : OpR X (binaryOp .FloorDiv) (rI (fun _ j => j ≠ 0 ∧ j.natAbs.log2 < 9000) fun i j => .int (i.fdiv j)) := opI fun _ _ _ _ _ _ _ hc q => PyProof.Rows.floordiv_int hc.1 q (.inl (PyProof.noPylong_of_log2 hc.2))
def rB (K : PySem.W.Frag) (o : Bop) : R2 := fun x y H Q => ∃ (w : Wd) (d e : D), w.H = H ∧ Good K w ∧ Rep K w d x ∧ Rep K w e y ∧ OkO K (Rep K) (binop o d e) w Q
def Bop.op : Bop → Operator
  | .add => .Add | .sub => .Sub | .mul => .Mult | .mod => .Mod | .fdiv => .FloorDiv | .pow => .Pow
theorem if_some {α : Type} {c : Prop} [Decidable c] {a b : α} (h : (if c then some a else none) = some b) : c ∧ a = b := by
  by_cases q : c
  · rw [if_pos q] at h; exact ⟨q, Option.some.inj h⟩
  · rw [if_neg q] at h; cases h
theorem if_some' {α : Type} {c : Prop} [Decidable c] {a : Option α} {b : α} (h : (if c then a else none) = some b) : c ∧ a = some b := by
  by_cases q : c
  · rw [if_pos q] at h; exact ⟨q, h⟩
  · rw [if_neg q] at h; cases h
theorem bop_ok (o : Bop) : OpR X (binaryOp o.op) (rB X.K o) := by
  intro pins s σ H x y v u Q I rx ry ⟨w, d, e, hH, g, r1, r2, q⟩
  subst hH
  obtain ⟨z, hz, q⟩ := q
  have here : ∀ {b : V}, Rep X.K w z b → Q b w.H := fun r => q w _ g (Ext.refl w) rfl r
  cases o with
  | add =>
    cases d <;> cases e <;> first | (cases hz; done) | skip
    · cases r1; cases r2; cases hz
      exact op_add pins s σ _ _ _ v u Q I rx ry ⟨_, _, rfl, rfl, here (.int _)⟩
    · cases r1; cases r2
      obtain ⟨c, rfl⟩ := if_some hz
      exact op_add_str pins s σ _ _ _ v u Q I rx ry ⟨_, _, rfl, rfl, c, here (.str _)⟩
    · obtain ⟨a, vs, rfl, s1, t1⟩ := r1.tup_inv
      obtain ⟨b, us, rfl, s2, t2⟩ := r2.tup_inv
      obtain ⟨c, rfl⟩ := if_some hz
      refine op_catA pins s σ _ _ _ v u Q I rx ry ⟨a, b, vs, us, rfl, rfl, s1, s2, by rw [← t1.length, ← t2.length]; exact c, fun e => ?_, fun _ e => ?_, fun _ _ p hp => ?_⟩
      · subst e
        cases t1
        exact here (.tup s2 t2)
      · subst e
        cases t2
        rw [List.append_nil] at q
        exact q w _ g (Ext.refl w) rfl (.tup s1 t1)
      · exact q _ _ (good_put g hp) (ext_put hp) rfl (rep_tup g hp (t1.append t2))
    · obtain ⟨a, vs, rfl, s1, n1, z1, t1⟩ := r1.lst_inv
      obtain ⟨b, us, rfl, s2, n2, z2, t2⟩ := r2.lst_inv
      obtain ⟨c, rfl⟩ := if_some hz
      exact op_cat pins s σ _ _ _ v u Q I rx ry ⟨a, b, vs, us, rfl, rfl, s1, s2, by rw [← t1.length, ← t2.length]; exact c, fun p hp => q _ _ (good_put g hp) (ext_put hp) rfl (rep_lst g hp (t1.append t2))⟩
  | sub =>
    cases d <;> cases e <;> first | (cases hz; done) | skip
    cases r1; cases r2; cases hz
    exact op_sub pins s σ _ _ _ v u Q I rx ry ⟨_, _, rfl, rfl, here (.int _)⟩
  | mul =>
    cases d <;> cases e <;> first | (cases hz; done) | skip
    · cases r1; cases r2
      obtain ⟨c, rfl⟩ := if_some hz
      rcases c with c | c | c
      · exact op_mul pins s σ _ _ _ v u Q I rx ry ⟨_, _, rfl, rfl, .inl c, here (.int _)⟩
      · exact op_mul pins s σ _ _ _ v u Q I rx ry ⟨_, _, rfl, rfl, .inr c, here (.int _)⟩
      · exact op_mulW pins s σ _ _ _ v u Q I rx ry ⟨_, _, rfl, rfl, c, here (.int _)⟩
    · obtain ⟨a, vs, rfl, s1, n1, z1, t1⟩ := r1.lst_inv
      cases r2
      obtain ⟨⟨c1, c2, c3⟩, rfl⟩ := if_some hz
      exact op_rep pins s σ _ _ _ v u Q I rx ry ⟨a, _, vs, rfl, rfl, s1, c1, c2, by rw [← t1.length]; exact c3, fun p hp => q _ _ (good_put g hp) (ext_put hp) rfl (rep_lst g hp (t1.flatRep _))⟩
  | mod =>
    cases d <;> cases e <;> first | (cases hz; done) | skip
    cases r1; cases r2
    rename_i i j
    have hz : (if 0 < j then some (D.int (i % j)) else if j ≠ 0 then some (.int (i.fmod j)) else none) = some z := hz
    by_cases c : 0 < j
    · rw [if_pos c] at hz
      cases hz
      exact op_mod pins s σ _ _ _ v u Q I rx ry ⟨_, _, rfl, rfl, c, here (.int _)⟩
    · rw [if_neg c] at hz
      obtain ⟨c, rfl⟩ := if_some hz
      exact op_modN pins s σ _ _ _ v u Q I rx ry ⟨_, _, rfl, rfl, c, here (.int _)⟩
  | fdiv =>
    cases d <;> cases e <;> first | (cases hz; done) | skip
    cases r1; cases r2
    rename_i i j
    have hz : (if 0 < j ∧ (j.natAbs.log2 < 9000 ∨ j < 1073741824) then some (D.int (i / j)) else if j ≠ 0 ∧ (j.natAbs.log2 < 9000 ∨ j.natAbs < 1073741824) then some (.int (i.fdiv j)) else none) = some z := hz
    by_cases c : 0 < j ∧ (j.natAbs.log2 < 9000 ∨ j < 1073741824)
    · rw [if_pos c] at hz
      cases hz
      rcases c.2 with c2 | c2
      · exact op_fdivW pins s σ _ _ _ v u Q I rx ry ⟨_, _, rfl, rfl, ⟨c.1, c2⟩, here (.int _)⟩
      · exact op_fdiv pins s σ _ _ _ v u Q I rx ry ⟨_, _, rfl, rfl, ⟨c.1, c2⟩, here (.int _)⟩
    · rw [if_neg c] at hz
      obtain ⟨c, rfl⟩ := if_some hz
      rcases c.2 with c2 | c2
      · exact op_fdivNW pins s σ _ _ _ v u Q I rx ry ⟨_, _, rfl, rfl, ⟨c.1, c2⟩, here (.int _)⟩
      · exact op_fdivN pins s σ _ _ _ v u Q I rx ry ⟨_, _, rfl, rfl, ⟨c.1, c2⟩, here (.int _)⟩
  | pow =>
    cases d <;> cases e <;> first | (cases hz; done) | skip
    cases r1; cases r2
    obtain ⟨c, rfl⟩ := if_some hz
    exact op_pow pins s σ _ _ _ v u Q I rx ry ⟨_, _, rfl, rfl, c, here (.int _)⟩

/-! comparisons -/
def rC (K : PySem.W.Frag) (o : Cop) : R2 := fun x y H Q => ∃ (w : Wd) (d e : D) (b : Bool), w.H = H ∧ Good K w ∧ Rep K w d x ∧ Rep K w e y ∧ cmpop w.M o d e = some b ∧ Q (.bl b) H
def Cop.op : Cop → CmpOp
  | .eq => .Eq | .ne => .NotEq | .lt => .Lt | .le => .LtE | .gt => .Gt | .ge => .GtE | .is => .Is | .isnot => .IsNot | .isin => .In | .notin => .NotIn
theorem eqD_ok {a b : D} {k : Bool} (h : eqD a b = some k) : a.pu = true ∧ b.pu = true ∧ SeqAt.shaped a.py = true ∧ SeqAt.shaped b.py = true ∧ k = PyData.eqv a.py b.py := by
  unfold eqD at h
  obtain ⟨c, e⟩ := if_some h
  unfold D.okE at c
  rw [Bool.and_eq_true, Bool.and_eq_true, Bool.and_eq_true] at c
  exact ⟨c.1.1, c.2.1, c.1.2, c.2.2, e.symm⟩
theorem any_pys (ds : List D) (x : PyData) : ((pys ds).any fun z => PyData.eqv z x) = ds.any fun y => PyData.eqv y.py x := by
  induction ds with
  | nil => rfl
  | cons d ds ih => show (PyData.eqv d.py x || (pys ds).any fun z => PyData.eqv z x) = _; rw [ih]; rfl
theorem in_conds {d : D} {ds : List D} (c : (d.okE && pus ds && SeqAt.shaped (.list (pys ds))) = true) : d.pu = true ∧ SeqAt.shaped d.py = true ∧ pus ds = true ∧ SeqAt.shaped (.list (pys ds)) = true := by
  rw [Bool.and_eq_true, Bool.and_eq_true] at c
  have c1 := c.1.1
  unfold D.okE at c1
  rw [Bool.and_eq_true] at c1
  exact ⟨c1.1, c1.2, c.1.2, c.2⟩
theorem room_in {A : Around} {d : PyData} {n : Nat} (sd : SeqAt.shaped d = true) (hu : A.units + 65 < cLine) : A.units + 1 + min n d.depth < cLine := by
  have h1 := SeqAt.depth_of_shaped sd
  have h2 : min n d.depth ≤ d.depth := Nat.min_le_right _ _
  omega
theorem isNon_iff {w : Wd} {d : D} {v : V} {K : PySem.W.Frag} (r : Rep K w d v) : decide (v = .non) = isNon d := by
  cases r <;> simp [isNon]
theorem cop_ok (o : Cop) (hu : X.A.units + 65 < cLine) : OpR X (compareOp o.op) (rC X.K o) := by
  intro pins s σ H x y v u Q I rx ry ⟨w, d, e, k, hH, g, r1, r2, h, q⟩
  subst hH
  cases o with
  | eq =>
    obtain ⟨p1, p2, s1, s2, rfl⟩ := eqD_ok (show eqD (d.get w.M) (e.get w.M) = some k from h)
    exact op_eqD (by omega) pins s σ _ _ _ v u Q I rx ry ⟨_, _, r1.dpGet g p1, r2.dpGet g p2, s1, s2, q⟩
  | ne =>
    have h : (eqD (d.get w.M) (e.get w.M)).map (!·) = some k := h
    cases h1 : eqD (d.get w.M) (e.get w.M) with
    | none => rw [h1] at h; cases h
    | some b =>
      rw [h1] at h
      cases h
      obtain ⟨p1, p2, s1, s2, rfl⟩ := eqD_ok h1
      exact op_neD (by omega) pins s σ _ _ _ v u Q I rx ry ⟨_, _, r1.dpGet g p1, r2.dpGet g p2, s1, s2, q⟩
  | lt =>
    cases d <;> cases e <;> first | (cases h; done) | skip
    cases r1; cases r2; cases h
    exact op_lt pins s σ _ _ _ v u Q I rx ry ⟨_, _, rfl, rfl, q⟩
  | le =>
    cases d <;> cases e <;> first | (cases h; done) | skip
    cases r1; cases r2; cases h
    exact op_le pins s σ _ _ _ v u Q I rx ry ⟨_, _, rfl, rfl, q⟩
  | gt =>
    cases d <;> cases e <;> first | (cases h; done) | skip
    cases r1; cases r2; cases h
    exact op_gt pins s σ _ _ _ v u Q I rx ry ⟨_, _, rfl, rfl, q⟩
  | ge =>
    cases d <;> cases e <;> first | (cases h; done) | skip
    cases r1; cases r2; cases h
    exact op_ge pins s σ _ _ _ v u Q I rx ry ⟨_, _, rfl, rfl, q⟩
  | is =>
    cases e <;> first | (cases d <;> cases h; done) | skip
    have h : some (isNon d) = some k := by
      cases d <;> exact h
    cases h
    cases r2
    exact op_isN pins s σ _ _ _ v u Q I rx ry ⟨rfl, by rw [isNon_iff r1]; exact q⟩
  | isnot =>
    cases e <;> first | (cases d <;> cases h; done) | skip
    have h : some (!isNon d) = some k := by
      cases d <;> exact h
    cases h
    cases r2
    exact op_notN pins s σ _ _ _ v u Q I rx ry ⟨rfl, by rw [isNon_iff r1]; exact q⟩
  | isin =>
    rcases dt_or e with ⟨ks, es, rfl⟩ | hne
    · cases d <;> first | (cases h; done) | skip
      rename_i ns
      have h : ((intsOf ns).map fun k => ks.contains k) = some k := h
      obtain ⟨is, e1, e2⟩ := Option.map_eq_some_iff.mp h
      obtain ⟨b, us, rfl, s1, t1⟩ := r1.tup_inv
      obtain rfl := ints_of_reps t1 e1
      cases r2 with
      | @dt a o _ _ vs xs h1 ok hk sq hv hr =>
        subst hk
        obtain rfl : v = Value.ref b := rx
        obtain rfl : u = Value.ref a := ry
        refine wpAny_in_heap (tupleKind_room_in1 (by omega)) (tup_key I s1) ok.sys (dt_at I h1 ok sq) ⟨.bl k, _, I.tok _, ?_, q⟩
        rw [← e2, in_at]
        rfl
    · have h : (match seqOf w.M e with
        | some ds => if d.okE && pus ds && SeqAt.shaped (.list (pys ds)) then some (ds.any fun y => PyData.eqv y.py d.py) else none
        | none => none) = some k := by
        cases d <;> cases e <;> first | exact h | exact absurd rfl (hne _ _)
      cases hs : seqOf w.M e with
      | none => rw [hs] at h; cases h
      | some ds =>
        rw [hs] at h
        obtain ⟨c, e1⟩ := if_some h
        obtain ⟨c1, c2, c3, c4⟩ := in_conds c
        obtain ⟨a, vs, rfl, sq, t⟩ := seqOf_sq g r2 hs
        obtain ⟨as, q1⟩ := Dp.reads I _ x v (r1.dp g c1) rx
        rw [← any_pys] at e1
        rcases sq with sq | sq
        · obtain ⟨bs, q2⟩ := Dp.reads I (.list (pys ds)) _ u (.lst sq (t.dp g c3)) ry
          exact SeqAt.in_list_reads q2 q1 (SeqAt.canLay_of_shaped c4) (SeqAt.canLay_of_shaped c2) (room_in c2 hu) ⟨.bl _, _, I, rfl, by rw [e1]; exact q⟩
        · obtain ⟨bs, q2⟩ := Dp.reads I (.tuple (pys ds)) _ u (.tup sq (t.dp g c3)) ry
          exact SeqAt.in_tuple_reads q2 q1 (SeqAt.canLay_of_shaped c4) (SeqAt.canLay_of_shaped c2) (room_in c2 hu) ⟨.bl _, _, I, rfl, by rw [e1]; exact q⟩
  | notin =>
    rcases dt_or e with ⟨ks, es, rfl⟩ | hne
    · cases d <;> first | (cases h; done) | skip
      rename_i ns
      have h : ((intsOf ns).map fun k => !ks.contains k) = some k := h
      obtain ⟨is, e1, e2⟩ := Option.map_eq_some_iff.mp h
      obtain ⟨b, us, rfl, s1, t1⟩ := r1.tup_inv
      obtain rfl := ints_of_reps t1 e1
      cases r2 with
      | @dt a o _ _ vs xs h1 ok hk sq hv hr =>
        subst hk
        obtain rfl : v = Value.ref b := rx
        obtain rfl : u = Value.ref a := ry
        refine wpAny_notIn_heap (tupleKind_room_in1 (by omega)) (tup_key I s1) ok.sys (dt_at I h1 ok sq) ⟨.bl k, _, I.tok _, ?_, q⟩
        rw [← e2, in_at]
        rfl
    · have h : (match seqOf w.M e with
        | some ds => if d.okE && pus ds && SeqAt.shaped (.list (pys ds)) then some (!ds.any fun y => PyData.eqv y.py d.py) else none
        | none => none) = some k := by
        cases d <;> cases e <;> first | exact h | exact absurd rfl (hne _ _)
      cases hs : seqOf w.M e with
      | none => rw [hs] at h; cases h
      | some ds =>
        rw [hs] at h
        obtain ⟨c, e1⟩ := if_some h
        obtain ⟨c1, c2, c3, c4⟩ := in_conds c
        obtain ⟨a, vs, rfl, sq, t⟩ := seqOf_sq g r2 hs
        obtain ⟨as, q1⟩ := Dp.reads I _ x v (r1.dp g c1) rx
        rw [← any_pys] at e1
        rcases sq with sq | sq
        · obtain ⟨bs, q2⟩ := Dp.reads I (.list (pys ds)) _ u (.lst sq (t.dp g c3)) ry
          exact SeqAt.notIn_list_reads q2 q1 (SeqAt.canLay_of_shaped c4) (SeqAt.canLay_of_shaped c2) (room_in c2 hu) ⟨.bl _, _, I, rfl, by rw [e1]; exact q⟩
        · obtain ⟨bs, q2⟩ := Dp.reads I (.tuple (pys ds)) _ u (.tup sq (t.dp g c3)) ry
          exact SeqAt.notIn_tuple_reads q2 q1 (SeqAt.canLay_of_shaped c4) (SeqAt.canLay_of_shaped c2) (room_in c2 hu) ⟨.bl _, _, I, rfl, by rw [e1]; exact q⟩
end
end Iv
end

section
set_option Elab.async false
set_option linter.all false
set_option maxHeartbeats 1000000
/-! IvCalls: truth, items, slices, what is built in. -/
namespace Iv
open PySem PySem.Spec PyProof.Rows L2
section
variable {K : PySem.W.Frag} {w : Wd}
theorem Reps.isEmpty {ds : List D} {vs : List V} (r : Reps K w ds vs) : (!vs.isEmpty) = !ds.isEmpty := by cases r <;> rfl
theorem tru_ok' (g : Good K w) {d : D} {v : V} {k : Bool} (r : Rep K w d v) (h : tru w.M d = some k) : TruV K v w.H k := by
  cases r with
  | non => cases h; rfl
  | bl b => cases h; rfl
  | int i => cases h; rfl
  | str x =>
    obtain ⟨c, e⟩ := if_some (show (if x.length ≤ sizeLine then some ((x.length : Int) != 0) else none) = some k from h)
    exact ⟨c, e.symm⟩
  | ty n => cases h
  | tup h1 h2 => cases h; exact .inr (.inl ⟨_, h1, h2.isEmpty.symm⟩)
  | lst h1 h2 h3 h4 => cases h; exact .inl ⟨_, .inl (.inl h1), h4.isEmpty.symm⟩
  | frl h1 h2 => cases h; exact .inl ⟨_, h1.sqL, h2.isEmpty.symm⟩
  | dt => cases h
  | @loc a n h1 =>
    have h : (match (match w.M[n]? with
        | some (.lst ds) => some ds
        | _ => none) with
      | some ds => some !ds.isEmpty
      | none => match w.M[n]? with
        | some (.dct kvs) => some !kvs.isEmpty
        | _ => none) = some k := h
    cases q : w.M[n]? with
    | none => rw [q] at h; cases h
    | some ob =>
      rw [q] at h
      cases ob with
      | lst es =>
        cases h
        obtain ⟨vs, h2, h3⟩ := g.lst q h1
        exact .inl ⟨_, .inl (.inl h2), h3.isEmpty.symm⟩
      | dct kvs =>
        cases h
        obtain ⟨kws, h2, h3, h4⟩ := g.dct q h1
        refine .inr (.inr ⟨kws, h2, ?_⟩)
        cases kvs <;> cases kws <;> first | rfl | (cases h3; done)
      | dead => cases h
/-! items -/
theorem ixN_len {ds : List D} {vs : List V} (r : Reps K w ds vs) (i : Int) : ixN vs.length i = ixN ds.length i := by rw [r.length]
theorem atI_rep {ds : List D} {vs : List V} {i : Int} {d : D} (r : Reps K w ds vs) (h : atI ds i = some d) : ∃ v, atI vs i = some v ∧ Rep K w d v := by
  unfold atI at h ⊢
  rw [ixN_len r]
  cases q : ixN ds.length i with
  | none => rw [q] at h; cases h
  | some j =>
    rw [q] at h
    exact r.get h
theorem find_rep : ∀ {kvs : List (Key × D)} {kws : List (Key × V)} {k : Key} {d : D}, kvs.map (·.1) = kws.map (·.1) → Reps K w (kvs.map (·.2)) (kws.map (·.2)) →
    (kvs.find? fun p => decide (p.1 = k)).map (·.2) = some d → ∃ v, valV kws k = some v ∧ Rep K w d v
  | [], _, _, _, _, _, h => by cases h
  | (k1, d1) :: kvs, [], _, _, e, _, _ => by cases e
  | (k1, d1) :: kvs, (k2, v2) :: kws, k, d, e, r, h => by
    rw [List.map_cons, List.map_cons] at e
    injection e with e1 e2
    have e1 : k1 = k2 := e1
    have r : Reps K w (d1 :: kvs.map (·.2)) (v2 :: kws.map (·.2)) := r
    cases r with
    | cons r1 r2 =>
      by_cases q : k1 = k
      · rw [List.find?_cons_of_pos (by simpa using q)] at h
        cases h
        exact ⟨v2, valV_pos (e1 ▸ q), r1⟩
      · rw [List.find?_cons_of_neg (by simpa using q)] at h
        obtain ⟨v, h1, h2⟩ := find_rep e2 r2 h
        exact ⟨v, (valV_neg (fun z => q (e1.trans z))).trans h1, h2⟩
end
section
variable {X : Cx}
def rI (K : PySem.W.Frag) : R2 := fun x y H Q => ∃ (w : Wd) (d e z : D), w.H = H ∧ Good K w ∧ Rep K w d x ∧ Rep K w e y ∧ idx w.M d e = some z ∧ ∀ v, Rep K w z v → Q v H
theorem idx_ok (hu : X.A.units + 1 < cLine) : IxR X (rI X.K) := by
  intro value slice pins s σ H x y v u Q I rx ry ⟨w, d, e, z, hH, g, r1, r2, h, q⟩ hs
  subst hH
  have atL : ∀ {a : Addr} {vs : List V} {i : Int}, x = .ref a → y = .int i → SqL X.K w.H a vs → (∃ v, atI vs i = some v ∧ Rep X.K w z v) → wpAny (model X.prog X.w) X.A (subscriptTail value slice v u) (EP X pins σ Q) X.xe s := fun {a vs i} e1 e2 sq ⟨v', h1, h2⟩ =>
    ix_list value slice pins s σ _ x y v u Q I rx ry ⟨a, vs, i, v', e1, e2, sq, h1, q _ h2⟩ hs
  have atD : ∀ {n : Nat} {a : Addr} {kvs : List (Key × D)} {k : Key}, x = .ref a → y = kV k → w.ι[n]? = some a → w.M[n]? = some (.dct kvs) → (kvs.find? fun p => decide (p.1 = k)).map (·.2) = some z → wpAny (model X.prog X.w) X.A (subscriptTail value slice v u) (EP X pins σ Q) X.xe s := fun {n a kvs k} e1 e2 h1 h2 h3 => by
    obtain ⟨kws, g1, g2, g3⟩ := g.dct h2 h1
    obtain ⟨v', f1, f2⟩ := find_rep g2 g3 h3
    subst e1 e2
    obtain rfl : v = Value.ref a := rx
    have dg : DGet w.H a (kV k) (some v') := by rw [← f1]; exact DGet.k g1
    exact tail_any (dict_typeIs I dg) PySem.F.slot_dict_getitem.lookup (d_getItem hu I dg ry fun w' s3 I3 rw' => ⟨v', _, I3, rw', q _ f2⟩) hs
  cases r1 with
  | str zz =>
    cases e <;> first | (cases h; done) | skip
    cases r2
    obtain ⟨c, e1⟩ := if_some' h
    obtain ⟨cc, e2, e3⟩ := Option.map_eq_some_iff.mp e1
    subst e3
    exact ix_str value slice pins s σ _ _ _ v u Q I rx ry ⟨_, _, cc, rfl, rfl, c, e2, q _ (.str _)⟩ hs
  | tup h1 h2 =>
    cases e <;> first | (cases h; done) | skip
    cases r2
    obtain ⟨v', f1, f2⟩ := atI_rep h2 h
    exact ix_tup value slice pins s σ _ _ _ v u Q I rx ry ⟨_, _, _, v', rfl, rfl, h1, f1, q _ f2⟩ hs
  | lst h1 h2 h3 h4 =>
    cases e <;> first | (cases h; done) | skip
    cases r2
    exact atL rfl rfl (.inl (.inl h1)) (atI_rep h4 h)
  | frl h1 h2 =>
    cases e <;> first | (cases h; done) | skip
    cases r2
    exact atL rfl rfl h1.sqL (atI_rep h2 h)
  | @dt a o _ ds vs xs h1 ok hk sq hv hr =>
    subst hk
    cases e <;> first | (cases h; done) | skip
    rename_i ns
    obtain ⟨is, e1, e2⟩ := Option.bind_eq_some_iff.mp (show (intsOf ns).bind (lookD (xs.map (·.1)) ds) = some z from h)
    obtain ⟨b, us, rfl, s1, t1⟩ := r2.tup_inv
    obtain rfl := ints_of_reps t1 e1
    obtain rfl : v = Value.ref a := rx
    obtain rfl : u = Value.ref b := ry
    obtain ⟨p, v', f1, f2, f3⟩ := look_at hv hr e2
    have dd := dt_at I h1 ok sq
    exact tail_any dd.typeIs PySem.F.slot_dict_getitem.lookup (wpAny_getItem_heap (tupleKind_room_in1 hu) (tup_key I s1) dd f1 ⟨v', _, I.tok _, f2, q _ f3⟩) hs
  | @loc a n h1 =>
    cases e <;> first | (cases h; done) | skip
    · cases r2
      rename_i i
      have h : (match w.M[n]? with
        | some (.lst ds) => atI ds i
        | some (.dct kvs) => (kvs.find? fun p => decide (p.1 = Sum.inl i)).map (·.2)
        | _ => none) = some z := h
      cases qq : w.M[n]? with
      | none => rw [qq] at h; cases h
      | some ob =>
        rw [qq] at h
        cases ob with
        | lst es =>
          obtain ⟨vs, g1, g2⟩ := g.lst qq h1
          exact atL rfl rfl (.inl (.inl g1)) (atI_rep g2 h)
        | dct kvs => exact atD (k := Sum.inl i) rfl rfl h1 qq h
        | dead => cases h
    · cases r2
      rename_i i
      have h : (match w.M[n]? with
        | some (.dct kvs) => (kvs.find? fun p => decide (p.1 = Sum.inr i)).map (·.2)
        | _ => none) = some z := h
      cases qq : w.M[n]? with
      | none => rw [qq] at h; cases h
      | some ob =>
        rw [qq] at h
        cases ob with
        | lst es => cases h
        | dct kvs => exact atD (k := Sum.inr i) rfl rfl h1 qq h
        | dead => cases h
  | _ => cases e <;> (cases h; done)
/-! slices -/
theorem cut_rep {K : PySem.W.Frag} {w : Wd} {ds : List D} {vs : List V} (r : Reps K w ds vs) (lo hi : Option Int) : Reps K w (cutD ds lo hi) (cutV vs lo hi) := by
  unfold cutD cutV
  rw [r.length]
  exact (r.drop _).take _
def rS (K : PySem.W.Frag) : V → Option Int → Option Int → Hp → VK → Prop := fun x lo hi H Q => ∃ (w : Wd) (d : D), w.H = H ∧ Good K w ∧ Rep K w d x ∧ OkO K (Rep K) (slc w.M d lo hi) w Q
theorem slc_ok : SlR X (rS X.K) := by
  intro pins s σ H x v vl vu lo hi sl Q I rx hs pl pu ⟨w, d, hH, g, r, z, hz, q⟩
  subst hH
  have atL : ∀ {a : Addr} {ds : List D} {vs : List V}, x = .ref a → SqL X.K w.H a vs → Reps X.K w ds vs → z = .lst (cutD ds lo hi) → ∃ T id, typeLookup (.type T) "__getitem__" = pure (some (.builtin id)) ∧ s.TypeIs v T ∧ wpAny (model X.prog X.w) X.A (getItem v (.ref sl)) (EP X pins σ Q) X.xe s := fun {a ds vs} e1 sq rr e2 => by
    subst e2
    exact sl_list pins s σ _ x v vl vu lo hi sl Q I rx hs pl pu ⟨a, vs, e1, sq, fun p hp => q _ _ (good_put g hp) (ext_put hp) rfl (rep_lst g hp (cut_rep rr lo hi))⟩
  cases r with
  | str zz =>
    obtain ⟨c, e1⟩ := if_some hz
    subst e1
    exact sl_str pins s σ _ _ v vl vu lo hi sl Q I rx hs pl pu ⟨_, rfl, c, q _ _ g (Ext.refl w) rfl (.str _)⟩
  | @tup a ds vs h1 h2 =>
    cases hz
    refine sl_tupA pins s σ _ _ v vl vu lo hi sl Q I rx hs pl pu ⟨_, _, rfl, h1, fun e => ?_, fun _ p hp => q _ _ (good_put g hp) (ext_put hp) rfl (rep_tup g hp (cut_rep h2 lo hi))⟩
    have e3 : cutD ds lo hi = ds := by
      unfold cutD
      rw [h2.length, e.1, e.2, List.drop_zero, Nat.sub_zero, ← h2.length]
      exact List.take_length
    rw [e3] at q
    exact q _ _ g (Ext.refl w) rfl (.tup h1 h2)
  | lst h1 h2 h3 h4 => cases hz; exact atL rfl (.inl (.inl h1)) h4 rfl
  | frl h1 h2 => cases hz; exact atL rfl h1.sqL h2 rfl
  | @loc a n h1 =>
    have h : (match (match w.M[n]? with
        | some (.lst ds) => some ds
        | _ => none) with
      | some ds => some (D.lst (cutD ds lo hi))
      | none => none) = some z := hz
    cases qq : w.M[n]? with
    | none => rw [qq] at h; cases h
    | some ob =>
      rw [qq] at h
      cases ob with
      | lst es =>
        cases h
        obtain ⟨vs, g1, g2⟩ := g.lst qq h1
        exact atL rfl (.inl (.inl g1)) g2 rfl
      | _ => cases h
  | _ => cases hz
end
end Iv
end

section
set_option Elab.async false
set_option linter.all false
set_option maxHeartbeats 2000000
/-! IvSort: sorted of tuples of ints. -/
namespace Iv
open PySem PySem.Spec PyProof.Rows L2
theorem leI_refl : ∀ a : List Int, leI a a = true
  | [] => rfl
  | a :: r => by
    show (decide (a < a) || (decide (a = a) && leI r r)) = true
    rw [leI_refl r]; simp
theorem leI_total : ∀ a b : List Int, leI a b = true ∨ leI b a = true
  | [], _ => .inl rfl
  | _ :: _, [] => .inr rfl
  | a :: r, b :: q => by
    show (decide (a < b) || (decide (a = b) && leI r q)) = true ∨ (decide (b < a) || (decide (b = a) && leI q r)) = true
    rcases Int.lt_trichotomy a b with h | h | h
    · exact .inl (by simp [h])
    · subst h
      rcases leI_total r q with h | h
      · exact .inl (by simp [h])
      · exact .inr (by simp [h])
    · exact .inr (by simp [h])
theorem leI_cons {a b : Int} {r q : List Int} : leI (a :: r) (b :: q) = true ↔ a < b ∨ (a = b ∧ leI r q = true) := by
  show (decide (a < b) || (decide (a = b) && leI r q)) = true ↔ _
  simp
theorem leI_trans : ∀ {a b c : List Int}, leI a b = true → leI b c = true → leI a c = true
  | [], _, _, _, _ => rfl
  | _ :: _, [], _, h, _ => by cases h
  | _ :: _, _ :: _, [], _, h => by cases h
  | a :: r, b :: q, c :: p, h1, h2 => by
    rw [leI_cons] at h1 h2 ⊢
    rcases h1 with h1 | ⟨h1, h3⟩
    · rcases h2 with h2 | ⟨h2, h4⟩
      · exact .inl (by omega)
      · exact .inl (by omega)
    · rcases h2 with h2 | ⟨h2, h4⟩
      · exact .inl (by omega)
      · exact .inr ⟨by omega, leI_trans h3 h4⟩
theorem leI_anti : ∀ {a b : List Int}, leI a b = true → leI b a = true → a = b
  | [], [], _, _ => rfl
  | [], _ :: _, _, h => by cases h
  | _ :: _, [], h, _ => by cases h
  | a :: r, b :: q, h1, h2 => by
    rw [leI_cons] at h1 h2
    rcases h1 with h1 | ⟨h1, h3⟩
    · rcases h2 with h2 | ⟨h2, h4⟩ <;> omega
    · rcases h2 with h2 | ⟨h2, h4⟩
      · omega
      · rw [h1, leI_anti h3 h4]
theorem insI_perm (x : List Int) : ∀ l, (insI x l).Perm (x :: l)
  | [] => .refl _
  | y :: r => by
    show (if leI x y then x :: y :: r else y :: insI x r).Perm _
    split
    · exact .refl _
    · exact ((insI_perm x r).cons y).trans (.swap x y r)
theorem sortI_perm : ∀ l, (sortI l).Perm l
  | [] => .refl _
  | x :: r => (insI_perm x (sortI r)).trans ((sortI_perm r).cons x)
theorem insI_sorted (x : List Int) : ∀ l, l.Pairwise (fun a b => leI a b = true) → (insI x l).Pairwise (fun a b => leI a b = true)
  | [], _ => List.pairwise_singleton _ _
  | y :: r, h => by
    obtain ⟨h1, h2⟩ := List.pairwise_cons.mp h
    show List.Pairwise _ (if leI x y then x :: y :: r else y :: insI x r)
    by_cases q : leI x y = true
    · rw [if_pos q]
      refine List.pairwise_cons.mpr ⟨fun z hz => ?_, h⟩
      rcases List.mem_cons.mp hz with e | hz
      · subst e; exact q
      · exact leI_trans q (h1 z hz)
    · rw [if_neg q]
      refine List.pairwise_cons.mpr ⟨fun z hz => ?_, insI_sorted x r h2⟩
      rcases List.mem_cons.mp ((insI_perm x r).mem_iff.mp hz) with e | hz
      · subst e; exact (leI_total z y).resolve_left q
      · exact h1 z hz
theorem sortI_sorted : ∀ l, (sortI l).Pairwise (fun a b => leI a b = true)
  | [] => .nil
  | x :: r => insI_sorted x _ (sortI_sorted r)
/-- the only one in order -/
theorem sortI_of {l l' : List (List Int)} (p : l'.Perm l) (h : l'.Pairwise (fun a b => leI a b = true)) : l' = sortI l :=
  List.Perm.eq_of_pairwise (le := fun a b => leI a b = true) (fun _ _ _ _ => leI_anti) h (sortI_sorted l) (p.trans (sortI_perm l).symm)
theorem code_leI {B : Int} : ∀ {a b : List Int}, a.length = b.length → TS.Bd B a → TS.Bd B b → TS.code B a ≤ TS.code B b → leI a b = true
  | [], _, _, _, _, _ => rfl
  | _ :: _, [], h, _, _, _ => by cases h
  | a :: r, b :: q, hl, h1, h2, h => by
    have hq : r.length = q.length := by simpa using hl
    clear hl
    rw [leI_cons]
    rcases Int.lt_trichotomy a b with z | z | z
    · exact .inl z
    · subst z
      refine .inr ⟨rfl, code_leI hq h1.tail h2.tail ?_⟩
      have := TS.code_same (B := B) (d := a) hq.symm
      omega
    · have := TS.code_lt (B := B) hq.symm h2.tail h1.tail z
      omega
section
variable {K : PySem.W.Frag} {w : Wd}
theorem Reps.perm {vs ys : List V} (p : ys.Perm vs) : ∀ {ds : List D}, Reps K w ds vs → ∃ ds', ds'.Perm ds ∧ Reps K w ds' ys := by
  induction p with
  | nil => intro ds r; exact ⟨ds, .refl _, r⟩
  | cons x _ ih =>
    intro ds r
    cases r with
    | cons r1 r2 =>
      obtain ⟨es, p, r3⟩ := ih r2
      exact ⟨_ :: es, p.cons _, .cons r1 r3⟩
  | swap x y l =>
    intro ds r
    cases r with
    | cons r1 r2 =>
      cases r2 with
      | cons r2 r3 => exact ⟨_, .swap _ _ _, .cons r2 (.cons r1 r3)⟩
  | trans _ _ ih1 ih2 =>
    intro ds r
    obtain ⟨es, p1, r1⟩ := ih2 r
    obtain ⟨fs, p2, r2⟩ := ih1 r1
    exact ⟨fs, p2.trans p1, r2⟩
theorem tupsOf_map : ∀ {ds : List D} {ls : List (List Int)}, tupsOf ds = some ls → ds.map tupInts = ls.map some
  | [], _, h => by cases h; rfl
  | d :: ds, ls, h => by
    have h : (match tupInts d, tupsOf ds with
      | some x, some y => some (x :: y)
      | _, _ => none) = some ls := h
    cases h1 : tupInts d with
    | none => rw [h1] at h; cases h
    | some x =>
      cases h2 : tupsOf ds with
      | none => rw [h1, h2] at h; cases h
      | some y =>
        rw [h1, h2] at h
        cases h
        rw [List.map_cons, h1, tupsOf_map h2]
        rfl
theorem intsOf_map : ∀ {ds : List D} {is : List Int}, intsOf ds = some is → ds = is.map D.int
  | [], _, h => by cases h; rfl
  | .int c :: ds, cs, h => by
    have h : (intsOf ds).map (c :: ·) = some cs := h
    obtain ⟨cs', h1, h2⟩ := Option.map_eq_some_iff.mp h
    subst h2
    rw [intsOf_map h1]; rfl
  | .non :: _, _, h | .bl _ :: _, _, h | .ty _ :: _, _, h | .str _ :: _, _, h | .fn _ :: _, _, h | .tup _ :: _, _, h | .lst _ :: _, _, h | .frl _ :: _, _, h | .loc _ :: _, _, h => by cases h
theorem tupInts_eq {d : D} {l : List Int} (h : tupInts d = some l) : d = .tup (l.map D.int) := by
  cases d <;> first | (cases h; done) | skip
  rw [intsOf_map (show intsOf _ = some l from h)]
/-- a tuple of ints, really -/
theorem tupI_of {d : D} {v : V} {l : List Int} (r : Rep K w d v) (h : tupInts d = some l) : TupI K w.H v l := by
  rw [tupInts_eq h] at r
  obtain ⟨a, vs, rfl, sq, rr⟩ := r.tup_inv
  have e : intsOf (l.map D.int) = some l := by
    clear h r sq rr
    induction l with
    | nil => rfl
    | cons x l ih => show (intsOf (l.map D.int)).map (x :: ·) = _; rw [ih]; rfl
  have : vs = l.map V.int := by
    clear h r sq
    induction l generalizing vs with
    | nil => cases rr; rfl
    | cons x l ih =>
      cases rr with
      | cons r1 r2 =>
        cases r1
        rw [ih _ r2 (by
          clear ih r2 e
          induction l with
          | nil => rfl
          | cons x l ih => show (intsOf (l.map D.int)).map (x :: ·) = _; rw [ih]; rfl)]
        rfl
  subst this
  exact ⟨a, rfl, sq⟩
end
section
variable {X : Cx}
/-- sorted of one thing or none -/
theorem sorted_few {pins : List (Addr × Obj)} {s : Shared} {σ : L2.St} {H : Hp} {a : Addr} {vs : List V} {us : List Value} {Q : VK} (I : Inv X pins σ H s) (r : Vals [.ref a] us) (sq : SqL X.K H a vs) (hl : vs.length < 2)
    (q : ∀ p, H p = none → Q (.ref p) (upd H p (.lst vs))) : wpAny (model X.prog X.w) X.A (call (.builtin "sorted") us) (EP X pins σ Q) X.xe s := by
  obtain ⟨its, rv, pl, hz⟩ := I.list sq
  rw [Vals.ref1 r]
  have hl2 : its.length < 2 := by rw [← rv.length]; exact hl
  refine Srt.sorted_any pl.isList (by rw [← rv.length]; exact hz) (fun h2 => absurd h2 (by omega)) fun out hp => ?_
  have e : out = its := by
    match its, hl2, hp with
    | [], _, hp => exact hp.eq_nil
    | [x], _, hp => exact hp.eq_singleton
    | _ :: _ :: r, hl2, _ => exact absurd hl2 (by simp)
  subst e
  obtain ⟨ep, he⟩ := PyProof.Rows.sortedAll_at s.heap out out.toArray
  exact ⟨.ref _, upd H (s.heap.objs.size + 1) (.lst vs), I.laid (t' := s.toks) (fun _ _ => PyProof.Rows.sortedAll_old) (Nat.le_succ _) ⟨hz, out, ep, rv, he⟩, rfl, q _ (I.hok.fresh (Nat.le_succ _))⟩
theorem sorted_ok {pins : List (Addr × Obj)} {s : Shared} {σ : L2.St} {w : Wd} {a : Addr} {vs : List V} {us : List Value} {Q : VK} {ds zs : List D} (I : Inv X pins σ w.H s) (r : Vals [.ref a] us) (g : Good X.K w) (sq : SqL X.K w.H a vs)
    (rr : Reps X.K w ds vs) (h : sorted ds = some zs) (q : ∀ p vs', w.H p = none → Reps X.K w zs vs' → Q (.ref p) (upd w.H p (.lst vs'))) : wpAny (model X.prog X.w) X.A (call (.builtin "sorted") us) (EP X pins σ Q) X.xe s := by
  match ds, rr, h with
  | [], rr, h =>
    cases h
    cases rr
    exact sorted_few I r sq (by decide) fun p hp => q p _ hp .nil
  | [d], rr, h =>
    obtain ⟨c, e⟩ := if_some (show (if d.pu then some [d] else none) = some zs from h)
    subst e
    cases rr with
    | cons r1 r2 =>
      cases r2
      exact sorted_few I r sq (by simp) fun p hp => q p _ hp (.cons r1 .nil)
  | d :: d2 :: ds, rr, h =>
    have h : (match tupsOf (d :: d2 :: ds) with
      | some (l :: ls) => if ls.length < 63 && decide (1 ≤ l.length) && (l :: ls).all (bdI l.length) then some ((sortI (l :: ls)).map fun l => D.tup (l.map .int)) else none
      | _ => none) = some zs := h
    cases ht : tupsOf (d :: d2 :: ds) with
    | none => rw [ht] at h; cases h
    | some ls =>
      rw [ht] at h
      cases ls with
      | nil => cases h
      | cons l ls =>
        obtain ⟨c, e⟩ := if_some h
        subst e
        rw [Bool.and_eq_true, Bool.and_eq_true] at c
        obtain ⟨⟨c1, c2⟩, c3⟩ := c
        have c1 := of_decide_eq_true c1
        have c2 := of_decide_eq_true c2
        have bd : ∀ x ∈ l :: ls, x.length = l.length ∧ TS.Bd 1048576 x := fun x hx => by
          have := List.all_eq_true.mp c3 x hx
          unfold bdI at this
          rw [Bool.and_eq_true, decide_eq_true_eq, List.all_eq_true] at this
          exact ⟨this.1, fun m hm => of_decide_eq_true (this.2 m hm)⟩
        have mp := tupsOf_map ht
        have hlen : (d :: d2 :: ds).length = (l :: ls).length := by simpa using congrArg List.length mp
        have tup : ∀ (d' : D), d' ∈ d :: d2 :: ds → ∃ x ∈ l :: ls, tupInts d' = some x := fun d' hd => by
          have : tupInts d' ∈ (l :: ls).map some := by rw [← mp]; exact List.mem_map_of_mem hd
          obtain ⟨x, hx, e⟩ := List.mem_map.mp this
          exact ⟨x, hx, e.symm⟩
        refine cr_sortT (d := l.length) (B := 1048576) c2 pins s σ _ _ us Q I r ⟨a, vs, rfl, sq, by rw [← rr.length, hlen, List.length_cons]; omega, fun x hx => ?_, fun ys p hp hs hn => ?_⟩
        · obtain ⟨i, hi⟩ := List.getElem?_of_mem hx
          obtain ⟨d', h1, h2⟩ := rr.get' hi
          obtain ⟨x', hx', e⟩ := tup d' (List.mem_of_getElem? h1)
          exact ⟨x', tupI_of h2 e, (bd x' hx').1, (bd x' hx').2⟩
        · obtain ⟨es, pe, re⟩ := rr.perm hp
          -- the ints of the sorted ones
          have ex : ∀ (es : List D) (ys : List V), Reps X.K w es ys → (∀ e ∈ es, ∃ x ∈ l :: ls, tupInts e = some x) → ys.Pairwise (fun x y => ∀ n m, TupI X.K w.H x n → TupI X.K w.H y m → TS.code 1048576 n ≤ TS.code 1048576 m) →
              ∃ ms : List (List Int), es.map tupInts = ms.map some ∧ ms.Pairwise (fun a b => leI a b = true) ∧ es = ms.map (fun l => D.tup (l.map .int)) := by
            intro es ys re
            induction es generalizing ys with
            | nil => intro _ _; exact ⟨[], rfl, .nil, rfl⟩
            | cons e es ih =>
              intro he hs
              cases re with
              | cons r1 r2 =>
                obtain ⟨h1, h2⟩ := List.pairwise_cons.mp hs
                obtain ⟨ms, m1, m2, m3⟩ := ih _ r2 (fun e' h' => he e' (List.mem_cons_of_mem _ h')) h2
                obtain ⟨x, hx, ex⟩ := he e List.mem_cons_self
                refine ⟨x :: ms, by rw [List.map_cons, List.map_cons, ex, m1], List.pairwise_cons.mpr ⟨fun y hy => ?_, m2⟩, by rw [List.map_cons, ← m3, ← tupInts_eq ex]⟩
                have : some y ∈ es.map tupInts := by rw [m1]; exact List.mem_map_of_mem hy
                obtain ⟨e', he', ee⟩ := List.mem_map.mp this
                obtain ⟨i, hi⟩ := List.getElem?_of_mem he'
                obtain ⟨v', v1, v2⟩ := r2.get hi
                obtain ⟨y', hy', ey⟩ := he e' (List.mem_cons_of_mem _ he')
                rw [ee] at ey
                cases ey
                exact code_leI ((bd x hx).1.trans (bd y hy').1.symm) (bd x hx).2 (bd y hy').2 (h1 v' (List.mem_of_getElem? v1) x y (tupI_of r1 ex) (tupI_of v2 ee))
          obtain ⟨ms, m1, m2, m3⟩ := ex es ys re (fun e he => tup e (pe.mem_iff.mp he)) hs
          have mperm : ms.Perm (l :: ls) := by
            have h1 : (es.map tupInts).Perm ((d :: d2 :: ds).map tupInts) := pe.map _
            rw [m1, mp] at h1
            have h2 := h1.filterMap id
            simpa [List.filterMap_map] using h2
          rw [sortI_of mperm m2] at m3
          rw [m3] at re
          exact q p ys hn re
end
end Iv
end

section
set_option Elab.async false
set_option linter.all false
set_option maxHeartbeats 2000000
/-! IvBlt: what is built in, called by name; methods. -/
namespace Iv
open PySem PySem.Spec PyProof.Rows L2
section
variable {K : PySem.W.Frag} {w : Wd}
theorem tyOf_x (g : Good K w) {d : D} {v : V} {t : String} (r : Rep K w d v) (h : tyOf w.M d = some t) : TyX K w.H v (.type t) := by
  cases r with
  | non => cases h; exact .base .non
  | bl b => cases h; exact .base (.bl b)
  | int i => cases h; exact .base (.int i)
  | str x => cases h; exact .base (.str x)
  | ty n => cases h
  | tup h1 h2 =>
    cases h
    rcases h1 with (h1 | ⟨o, h1⟩) | ⟨o, its, n, h1, h3, _⟩
    · exact .base (.tup h1)
    · exact .fTuple h1
    · exact .kTuple h1 h3
  | lst h1 h2 h3 h4 => cases h; exact .base (.lst h1)
  | frl h1 h2 =>
    cases h
    rcases h1 with ⟨o, h1⟩ | ⟨o, its, n, h1, h3, _⟩
    · exact .base (.frz h1)
    · exact .kList h1 h3
  | dt => cases h
  | @loc a n h1 =>
    have h : (match w.M[n]? with
      | some (.lst _) => some "list"
      | some (.dct _) => some "dict"
      | _ => none) = some t := h
    cases q : w.M[n]? with
    | none => rw [q] at h; cases h
    | some ob =>
      rw [q] at h
      cases ob with
      | lst es =>
        cases h
        obtain ⟨vs, h2, h3⟩ := g.lst q h1
        exact .base (.lst h2)
      | dct kvs =>
        cases h
        obtain ⟨kws, h2, h3, h4⟩ := g.dct q h1
        exact .base (.dK h2)
      | dead => cases h
theorem tyOf_mem {M : Sto} {d : D} {t : String} (h : tyOf M d = some t) : t ∈ ["NoneType", "bool", "int", "str", "tuple", "list", "dict"] := by
  cases d with
  | loc n =>
    have h : (match M[n]? with
      | some (.lst _) => some "list"
      | some (.dct _) => some "dict"
      | _ => none) = some t := h
    cases q : M[n]? with
    | none => rw [q] at h; cases h
    | some ob => rw [q] at h; cases ob <;> cases h <;> decide
  | _ => cases h <;> decide
theorem kit_sub {t c : String} (h1 : t ∈ ["NoneType", "bool", "int", "str", "tuple", "list", "dict"]) (h2 : okCls c = true) : kitB t c = some (isSub t c) := by
  have all : (["NoneType", "bool", "int", "str", "tuple", "list", "dict"].all fun t => ["int", "bool", "str", "tuple", "list", "dict"].all fun c => decide (kitB t c = some (isSub t c))) = true := by decide +kernel
  have h3 := List.all_eq_true.mp all t h1
  have h4 : c ∈ ["int", "bool", "str", "tuple", "list", "dict"] := by simpa [okCls] using h2
  exact of_decide_eq_true (List.all_eq_true.mp h3 c h4)
theorem kit_any {t : String} (h1 : t ∈ ["NoneType", "bool", "int", "str", "tuple", "list", "dict"]) : ∀ {cs : List String}, cs.all okCls = true → PySem.W.kitAny K (.type t) (cs.map Value.type) = some (cs.any (isSub t))
  | [], _ => rfl
  | c :: cs, h => by
    rw [List.all_cons, Bool.and_eq_true] at h
    have ih := kit_any h1 h.2
    refine kitAny_cons (kit_ty (kit_sub h1 h.1)) (fun e => ?_) (fun e => ?_)
    · rw [ih, List.any_cons, e, Bool.false_or]
    · rw [List.any_cons, e, Bool.true_or]
theorem tys_cls : ∀ {ds : List D} {vs : List V} {cs : List String}, Reps K w ds vs → tysOf ds = some cs → Paired ClsV vs (cs.map Value.type)
  | _, _, _, .nil, h => by cases h; exact .nil
  | .ty c :: ds, _, cs, .cons r t, h => by
    have h : (tysOf ds).map (c :: ·) = some cs := h
    obtain ⟨cs', h1, h2⟩ := Option.map_eq_some_iff.mp h
    subst h2
    cases r
    exact .cons (.ty c) (tys_cls t h1)
  | .non :: _, _, _, .cons _ _, h | .bl _ :: _, _, _, .cons _ _, h | .int _ :: _, _, _, .cons _ _, h | .str _ :: _, _, _, .cons _ _, h | .fn _ :: _, _, _, .cons _ _, h | .tup _ :: _, _, _, .cons _ _, h | .lst _ :: _, _, _, .cons _ _, h | .frl _ :: _, _, _, .cons _ _, h | .loc _ :: _, _, _, .cons _ _, h => by cases h
theorem ints_of : ∀ {ds : List D} {vs : List V} {is : List Int}, Reps K w ds vs → intsOf ds = some is → vs = is.map V.int
  | _, _, _, .nil, h => by cases h; rfl
  | .int c :: ds, _, cs, .cons r t, h => by
    have h : (intsOf ds).map (c :: ·) = some cs := h
    obtain ⟨cs', h1, h2⟩ := Option.map_eq_some_iff.mp h
    subst h2
    cases r
    rw [ints_of t h1] <;> rfl
  | .non :: _, _, _, .cons _ _, h | .bl _ :: _, _, _, .cons _ _, h | .ty _ :: _, _, _, .cons _ _, h | .str _ :: _, _, _, .cons _ _, h | .fn _ :: _, _, _, .cons _ _, h | .tup _ :: _, _, _, .cons _ _, h | .lst _ :: _, _, _, .cons _ _, h | .frl _ :: _, _, _, .cons _ _, h | .loc _ :: _, _, _, .cons _ _, h => by cases h
theorem bools_of : ∀ {ds : List D} {vs : List V} {is : List Bool}, Reps K w ds vs → boolsOf ds = some is → vs = is.map V.bl
  | _, _, _, .nil, h => by cases h; rfl
  | .bl c :: ds, _, cs, .cons r t, h => by
    have h : (boolsOf ds).map (c :: ·) = some cs := h
    obtain ⟨cs', h1, h2⟩ := Option.map_eq_some_iff.mp h
    subst h2
    cases r
    rw [bools_of t h1] <;> rfl
  | .non :: _, _, _, .cons _ _, h | .int _ :: _, _, _, .cons _ _, h | .ty _ :: _, _, _, .cons _ _, h | .str _ :: _, _, _, .cons _ _, h | .fn _ :: _, _, _, .cons _ _, h | .tup _ :: _, _, _, .cons _ _, h | .lst _ :: _, _, _, .cons _ _, h | .frl _ :: _, _, _, .cons _ _, h | .loc _ :: _, _, _, .cons _ _, h => by cases h
end

/-! ### max, min -/
theorem maxI_ge : ∀ (r : List Int) (a : Int), a ≤ r.foldl (fun m x => if m < x then x else m) a ∧ (∀ y ∈ r, y ≤ r.foldl (fun m x => if m < x then x else m) a) ∧ (r.foldl (fun m x => if m < x then x else m) a = a ∨ r.foldl (fun m x => if m < x then x else m) a ∈ r)
  | [], a => ⟨Int.le_refl _, fun y h => (by cases h), .inl rfl⟩
  | b :: r, a => by
    obtain ⟨h1, h2, h3⟩ := maxI_ge r (if a < b then b else a)
    rw [List.foldl_cons]
    have h4 : a ≤ (if a < b then b else a) := by split <;> omega
    have h5 : b ≤ (if a < b then b else a) := by split <;> omega
    refine ⟨Int.le_trans h4 h1, fun y h => ?_, ?_⟩
    · rcases List.mem_cons.mp h with e | h
      · subst e; exact Int.le_trans h5 h1
      · exact h2 y h
    · rcases h3 with e | e
      · rw [e]
        split
        · exact .inr List.mem_cons_self
        · exact .inl rfl
      · exact .inr (List.mem_cons_of_mem _ e)
theorem minI_le : ∀ (r : List Int) (a : Int), r.foldl (fun m x => if x < m then x else m) a ≤ a ∧ (∀ y ∈ r, r.foldl (fun m x => if x < m then x else m) a ≤ y) ∧ (r.foldl (fun m x => if x < m then x else m) a = a ∨ r.foldl (fun m x => if x < m then x else m) a ∈ r)
  | [], a => ⟨Int.le_refl _, fun y h => (by cases h), .inl rfl⟩
  | b :: r, a => by
    obtain ⟨h1, h2, h3⟩ := minI_le r (if b < a then b else a)
    rw [List.foldl_cons]
    have h4 : (if b < a then b else a) ≤ a := by split <;> omega
    have h5 : (if b < a then b else a) ≤ b := by split <;> omega
    refine ⟨Int.le_trans h1 h4, fun y h => ?_, ?_⟩
    · rcases List.mem_cons.mp h with e | h
      · subst e; exact Int.le_trans h1 h5
      · exact h2 y h
    · rcases h3 with e | e
      · rw [e]
        split
        · exact .inr List.mem_cons_self
        · exact .inl rfl
      · exact .inr (List.mem_cons_of_mem _ e)

section
variable {X : Cx}
/-- what a built-in gives, as data -/
def rF (K : PySem.W.Frag) (f : Bf) : List V → Hp → VK → Prop := fun xs H Q => ∃ (w : Wd) (ds : List D), w.H = H ∧ Good K w ∧ Reps K w ds xs ∧ OkO K (Rep K) (blt w.M f ds) w Q
/-- .. as a new object of the store -/
def rFm (K : PySem.W.Frag) (f : Bf) : List V → Hp → VK → Prop := fun xs H Q => ∃ (w : Wd) (ds xs' : List D), w.H = H ∧ Good K w ∧ Reps K w ds xs ∧ blt w.M f ds = some (.lst xs') ∧
  ∀ (w' : Wd) (b : V), Good K w' → Ext w w' → w'.M = w.M ++ [.lst xs'] → Rep K w' (.loc w.M.length) b → Q b w'.H
def Bf.val : Bf → Value
  | .len => .builtin "len" | .isi => .builtin "isinstance" | .tuple => .type "tuple" | .list => .type "list" | .int => .type "int" | .abs => .builtin "abs"
  | .min2 => .builtin "min" | .max2 => .builtin "max" | .maxL => .builtin "max" | .minL => .builtin "min" | .sum => .builtin "sum" | .all => .builtin "all" | .any => .builtin "any"
  | .sorted => .builtin "sorted" | .gcd => .builtin "math.gcd" | .repr => .builtin "repr"
theorem one_inv {K : PySem.W.Frag} {w : Wd} {d : D} {vs : List V} (r : Reps K w [d] vs) : ∃ v, vs = [v] ∧ Rep K w d v := by
  cases r with | cons h t => cases t; exact ⟨_, rfl, h⟩
theorem two_inv {K : PySem.W.Frag} {w : Wd} {d e : D} {vs : List V} (r : Reps K w [d, e] vs) : ∃ v u, vs = [v, u] ∧ Rep K w d v ∧ Rep K w e u := by
  cases r with | cons h t => cases t with | cons h2 t => cases t; exact ⟨_, _, rfl, h, h2⟩
theorem isi_tup {pins : List (Addr × Obj)} {s : Shared} {σ : L2.St} {H : Hp} {x : V} {tp : Addr} {cs : List V} {us2 us : List Value} {t : Value} {b : Bool} {Q : VK} (I : Inv X pins σ H s) (r : Vals [x, .ref tp] us) (hT : SqT X.K H tp cs) (k : Paired ClsV cs us2)
    (ty : TyX X.K H x t) (e : PySem.W.kitAny X.K t us2 = some b) (q : Q (.bl b) H) : wpAny (model X.prog X.w) X.A (call (.builtin "isinstance") us) (EP X pins σ Q) X.xe s := by
  obtain ⟨u1, u2, rfl, r1, r2⟩ := vals2 r
  cases (show u2 = Value.ref tp from r2)
  obtain ⟨Pp, Zz, p, hx⟩ := kit_of I r1 ty
  obtain ⟨its, rv, ⟨⟨oc, od, dt, sl⟩, h1, h2, n, h3⟩, _⟩ := I.tuple hT
  have e3 := ClsV.all k rv
  subst e3
  simp only at h2 h3
  subst h2 h3
  exact PySem.W.kia_tup Zz I.kIn p h1 e hx fun tk => ⟨.bl b, H, I.tok tk, rfl, q⟩
theorem onL_some {M : Sto} {f : List D → Option D} {d z : D} (h : onL M f d = some z) : ∃ ds, lstOf M d = some ds ∧ f ds = some z := by
  have h : (match lstOf M d with
    | some ds => f ds
    | none => none) = some z := h
  cases q : lstOf M d with
  | none => rw [q] at h; cases h
  | some ds => rw [q] at h; exact ⟨ds, rfl, h⟩
theorem int2_some {f : Int → Int → Int} {d e z : D} (h : int2 f d e = some z) : ∃ i j, d = .int i ∧ e = .int j ∧ z = .int (f i j) := by
  cases d <;> first | (cases h; done) | skip
  cases e <;> first | (cases h; done) | skip
  cases h
  exact ⟨_, _, rfl, rfl, rfl⟩
mutual
theorem py_nodict : ∀ d : D, d.py.hasDict = false
  | .non => rfl
  | .bl _ => rfl
  | .int _ => rfl
  | .str _ => rfl
  | .ty _ => rfl
  | .fn _ => rfl
  | .loc _ => rfl
  | .dt _ _ => rfl
  | .tup ds => by show PyData.hasDict (.tuple (pys ds)) = false; simp only [PyData.hasDict]; exact pys_nodict ds
  | .lst ds => by show PyData.hasDict (.list (pys ds)) = false; simp only [PyData.hasDict]; exact pys_nodict ds
  | .frl ds => by show PyData.hasDict (.list (pys ds)) = false; simp only [PyData.hasDict]; exact pys_nodict ds
theorem pys_nodict : ∀ ds : List D, PyData.hasDictAll (pys ds) = false
  | [] => rfl
  | d :: ds => by
    show PyData.hasDictAll (d.py :: pys ds) = false
    simp only [PyData.hasDictAll]
    rw [py_nodict d, pys_nodict ds]; rfl
end
theorem repr_ok {pins : List (Addr × Obj)} {s : Shared} {σ : L2.St} {H : Hp} {u : Value} {as : List Addr} {d : PyData} {Q : VK} (I : Inv X pins σ H s) (hg : X.A.guards = some []) (hu : X.A.units + 70 < cLine) (rd : Reads s.heap u d as) (hs : d.showable = true)
    (hd : d.hasDict = false) (hz : d.shown.length ≤ sizeLine) (hp : d.depth ≤ 64) (q : ∀ x, x = d.shown → Q (.str x) H) : wpAny (model X.prog X.w) X.A (call (.builtin "repr") [u]) (EP X pins σ Q) X.xe s := by
  have fin : ∀ {tk : Tok} {s' : Shared}, Inv X pins σ H s' → EP X pins σ Q (.str d.shown tk) s' := fun I' => ⟨.str _, H, I', ⟨_, rfl⟩, q _ rfl⟩
  cases rd with
  | none => exact PySem.P.repr_of_none (fin (I.tok _))
  | bool b => exact PySem.P.repr_of_bool (by cases b <;> exact fin (I.tok _))
  | int i t => exact PySem.P.repr_of_int (of_decide_eq_true (show decide (i.natAbs.log2 < 1920) = true by simpa only [PyData.showable] using hs)) (fin (I.tok _))
  | str x t => exact PySem.P.repr_of_str (fin (I.tok _)) hz
  | list h1 h2 h3 h4 => exact repr_of_reads' (.list h1 h2 h3 h4) hs (fun e => by rw [hd] at e; cases e) hg (by omega) (fun _ _ e => e) (fun h' tk tk' k => fin (I.kept k)) hz
  | tuple h1 h2 h3 h4 => exact repr_of_reads' (.tuple h1 h2 h3 h4) hs (fun e => by rw [hd] at e; cases e) hg (by omega) (fun _ _ e => e) (fun h' tk tk' k => fin (I.kept k)) hz
  | dict h1 h2 h3 h4 h5 => simp only [PyData.hasDict] at hd; cases hd
theorem blt1_ok (f : Bf) (hc : X.calm = true) (hu : X.A.units + 70 < cLine) (hg : X.A.guards = some []) {pins : List (Addr × Obj)} {s : Shared} {σ : L2.St} {w : Wd} {v : V} {us : List Value} {Q : VK} {d z : D} (I : Inv X pins σ w.H s) (r : Vals [v] us)
    (g : Good X.K w) (r1 : Rep X.K w d v) (hz : blt1 w.M f d = some z) (q : ∀ (w' : Wd) (b : V), Good X.K w' → Ext w w' → w'.M = w.M → Rep X.K w' z b → Q b w'.H) : wpAny (model X.prog X.w) X.A (call f.val us) (EP X pins σ Q) X.xe s := by
  have here : ∀ {b : V}, Rep X.K w z b → Q b w.H := fun r => q w _ g (Ext.refl w) rfl r
  cases f with
  | len =>
    have hz : lenD w.M d = some z := hz
    have seqL : (seqOf w.M d).map (fun ds => D.int ds.length) = some z → wpAny (model X.prog X.w) X.A (call (.builtin "len") us) (EP X pins σ Q) X.xe s := fun e1 => by
      obtain ⟨es, h1, h2⟩ := Option.map_eq_some_iff.mp e1
      obtain ⟨a, vs, rfl, sq, rr⟩ := seqOf_sq g r1 h1
      refine call_len_seq pins s σ _ _ us Q I r ⟨a, vs, rfl, sq, ?_⟩
      rw [← rr.length]
      subst h2
      exact here (.int _)
    cases r1 with
    | str x =>
      obtain ⟨c, e⟩ := if_some (show (if x.length ≤ sizeLine then some (D.int x.length) else none) = some z from hz)
      subst e
      exact call_len_str pins s σ _ _ us Q I r ⟨x, rfl, c, here (.int _)⟩
    | dt => cases hz
    | @loc a n h1 =>
      have hz : (match w.M[n]? with
        | some (.lst ds) => some (D.int ds.length)
        | some (.dct kvs) => some (D.int kvs.length)
        | _ => none) = some z := hz
      cases qq : w.M[n]? with
      | none => rw [qq] at hz; cases hz
      | some ob =>
        rw [qq] at hz
        cases ob with
        | lst es =>
          cases hz
          obtain ⟨vs, g1, g2⟩ := g.lst qq h1
          refine call_len_seq pins s σ _ _ us Q I r ⟨a, vs, rfl, .inl (.inl (.inl g1)), ?_⟩
          rw [← g2.length]
          exact here (.int _)
        | dct kvs =>
          cases hz
          obtain ⟨kws, g1, g2, g3⟩ := g.dct qq h1
          refine call_lenD pins s σ _ _ us Q I r ⟨a, kws, rfl, g1, ?_⟩
          rw [show kws.length = kvs.length by rw [← List.length_map (f := (·.1)) (as := kws), ← g2, List.length_map]]
          exact here (.int _)
        | dead => cases hz
    | tup h1 h2 => exact seqL hz
    | lst h1 h2 h3 h4 => exact seqL hz
    | frl h1 h2 => exact seqL hz
    | non => cases hz
    | bl _ => cases hz
    | int _ => cases hz
    | ty _ => cases hz
  | tuple =>
    obtain ⟨es, h1, h2⟩ := Option.map_eq_some_iff.mp (show (seqOf w.M d).map D.tup = some z from hz)
    subst h2
    obtain ⟨a, vs, rfl, sq, rr⟩ := seqOf_sq g r1 h1
    refine call_tuple_of pins s σ _ _ us Q I r ⟨a, vs, rfl, ?_⟩
    rcases sq with sq | sq
    · exact .inl ⟨sq, fun p hp => q _ _ (good_put g hp) (ext_put hp) rfl (rep_tup g hp rr)⟩
    · exact .inr ⟨sq, here (.tup sq rr)⟩
  | list =>
    obtain ⟨es, h1, h2⟩ := Option.map_eq_some_iff.mp (show (seqOf w.M d).map D.lst = some z from hz)
    subst h2
    obtain ⟨a, vs, rfl, sq, rr⟩ := seqOf_sq g r1 h1
    exact call_list_of pins s σ _ _ us Q I r ⟨a, vs, rfl, sq, fun p hp => q _ _ (good_put g hp) (ext_put hp) rfl (rep_lst g hp rr)⟩
  | int =>
    obtain ⟨i, h1, h2⟩ := Option.map_eq_some_iff.mp (show (isWhole d).map D.int = some z from hz)
    subst h2
    cases r1 <;> first | (cases h1; done) | skip
    · cases h1
      exact call_int1 pins s σ _ _ us Q I r (.inr ⟨_, rfl, here (.int _)⟩)
    · cases h1
      exact call_int1 pins s σ _ _ us Q I r (.inl ⟨_, rfl, here (.int _)⟩)
  | abs =>
    cases r1 <;> first | (cases hz; done) | skip
    cases hz
    exact call_abs pins s σ _ _ us Q I r ⟨_, rfl, here (.int _)⟩
  | sum =>
    obtain ⟨es, qq, h0⟩ := onL_some hz
    obtain ⟨is, h1, h2⟩ := Option.map_eq_some_iff.mp (show (intsOf es).map (fun is => D.int is.sum) = some z from h0)
    subst h2
    obtain ⟨a, vs, rfl, sq, rr⟩ := lstOf_sq g r1 qq
    rw [ints_of rr h1] at sq
    exact cr_sum hc pins s σ _ _ us Q I r ⟨a, is, rfl, sq, here (.int _)⟩
  | maxL =>
    obtain ⟨es, qq, h0⟩ := onL_some hz
    obtain ⟨m, h1, h2⟩ := Option.map_eq_some_iff.mp h0
    obtain ⟨is, h3, h4⟩ := Option.bind_eq_some_iff.mp h1
    subst h2
    obtain ⟨a, vs, rfl, sq, rr⟩ := lstOf_sq g r1 qq
    rw [ints_of rr h3] at sq
    cases is with
    | nil => cases h4
    | cons b rr2 =>
      cases h4
      obtain ⟨f1, f2, f3⟩ := maxI_ge rr2 b
      refine cr_max hc pins s σ _ _ us Q I r ⟨a, b :: rr2, rfl, sq, Nat.succ_pos _, fun m hm hge => ?_⟩
      have e1 : m ≤ rr2.foldl (fun m x => if m < x then x else m) b := by
        rcases List.mem_cons.mp hm with e | hm
        · subst e; exact f1
        · exact f2 m hm
      have e2 : rr2.foldl (fun m x => if m < x then x else m) b ≤ m := hge _ (by
        rcases f3 with e | e
        · rw [e]; exact List.mem_cons_self
        · exact List.mem_cons_of_mem _ e)
      rw [Int.le_antisymm e1 e2]
      exact here (.int _)
  | minL =>
    obtain ⟨es, qq, h0⟩ := onL_some hz
    obtain ⟨m, h1, h2⟩ := Option.map_eq_some_iff.mp h0
    obtain ⟨is, h3, h4⟩ := Option.bind_eq_some_iff.mp h1
    subst h2
    obtain ⟨a, vs, rfl, sq, rr⟩ := lstOf_sq g r1 qq
    rw [ints_of rr h3] at sq
    cases is with
    | nil => cases h4
    | cons b rr2 =>
      cases h4
      obtain ⟨f1, f2, f3⟩ := minI_le rr2 b
      refine cr_min hc pins s σ _ _ us Q I r ⟨a, b :: rr2, rfl, sq, Nat.succ_pos _, fun m hm hge => ?_⟩
      have e1 : rr2.foldl (fun m x => if x < m then x else m) b ≤ m := by
        rcases List.mem_cons.mp hm with e | hm
        · subst e; exact f1
        · exact f2 m hm
      have e2 : m ≤ rr2.foldl (fun m x => if x < m then x else m) b := hge _ (by
        rcases f3 with e | e
        · rw [e]; exact List.mem_cons_self
        · exact List.mem_cons_of_mem _ e)
      rw [Int.le_antisymm e2 e1]
      exact here (.int _)
  | all =>
    obtain ⟨es, qq, h0⟩ := onL_some hz
    obtain ⟨is, h1, h2⟩ := Option.map_eq_some_iff.mp h0
    subst h2
    obtain ⟨a, vs, rfl, sq, rr⟩ := lstOf_sq g r1 qq
    rw [bools_of rr h1] at sq
    exact cr_all hc pins s σ _ _ us Q I r ⟨a, is, rfl, sq, here (.bl _)⟩
  | any =>
    obtain ⟨es, qq, h0⟩ := onL_some hz
    obtain ⟨is, h1, h2⟩ := Option.map_eq_some_iff.mp h0
    subst h2
    obtain ⟨a, vs, rfl, sq, rr⟩ := lstOf_sq g r1 qq
    rw [bools_of rr h1] at sq
    exact cr_any hc pins s σ _ _ us Q I r ⟨a, is, rfl, sq, here (.bl _)⟩
  | sorted =>
    obtain ⟨es, qq, h0⟩ := onL_some hz
    obtain ⟨zs, h1, h2⟩ := Option.map_eq_some_iff.mp h0
    subst h2
    obtain ⟨a, vs, rfl, sq, rr⟩ := lstOf_sq g r1 qq
    exact sorted_ok I r g sq rr h1 fun p vs' hp r' => q _ _ (good_put g hp) (ext_put hp) rfl (rep_lst g hp r')
  | repr =>
    obtain ⟨c, e⟩ := if_some (show (if okR (d.get w.M) then some (D.str (d.get w.M).py.shown) else none) = some z from hz)
    subst e
    unfold okR at c
    rw [Bool.and_eq_true, Bool.and_eq_true, Bool.and_eq_true] at c
    obtain ⟨⟨⟨c1, c2⟩, c3⟩, c4⟩ := c
    obtain ⟨u, rfl, ru⟩ := vals1 r
    obtain ⟨as, rd⟩ := Dp.reads I _ v u (r1.dpGet g c1) ru
    exact repr_ok I hg hu rd c2 (py_nodict _) (of_decide_eq_true c3) (of_decide_eq_true c4) fun x e => by rw [e]; exact here (.str _)
  | _ => cases hz
theorem blt2_ok (f : Bf) (hc : X.calm = true) {pins : List (Addr × Obj)} {s : Shared} {σ : L2.St} {w : Wd} {v u : V} {us : List Value} {Q : VK} {d e z : D} (I : Inv X pins σ w.H s) (r : Vals [v, u] us)
    (g : Good X.K w) (r1 : Rep X.K w d v) (r2 : Rep X.K w e u) (hz : blt2 w.M f d e = some z) (q : ∀ (w' : Wd) (b : V), Good X.K w' → Ext w w' → w'.M = w.M → Rep X.K w' z b → Q b w'.H) : wpAny (model X.prog X.w) X.A (call f.val us) (EP X pins σ Q) X.xe s := by
  have here : ∀ {b : V}, Rep X.K w z b → Q b w.H := fun r => q w _ g (Ext.refl w) rfl r
  cases f with
  | isi =>
    have hz : isiD w.M d e = some z := hz
    cases e <;> first | (cases hz; done) | skip
    · rename_i c _
      cases r2
      have hz : (match tyOf w.M d with
        | some t => if okCls c then some (D.bl (isSub t c)) else none
        | none => none) = some z := hz
      cases qq : tyOf w.M d with
      | none => rw [qq] at hz; cases hz
      | some tt =>
        rw [qq] at hz
        obtain ⟨cc, e⟩ := if_some hz
        subst e
        exact call_isi pins s σ _ _ us Q I r ⟨v, .ty c, _, _, _, rfl, .ty c, tyOf_x g r1 qq, kit_ty (kit_sub (tyOf_mem qq) cc), here (.bl _)⟩
    · rename_i cs _
      obtain ⟨a, vs, rfl, sq, rr⟩ := r2.tup_inv
      have hz : (match tyOf w.M d, tysOf cs with
        | some t, some cs => if cs.all okCls then some (D.bl (cs.any (isSub t))) else none
        | _, _ => none) = some z := hz
      cases qq : tyOf w.M d with
      | none => rw [qq] at hz; cases hz
      | some tt =>
        cases q2 : tysOf cs with
        | none => rw [qq, q2] at hz; cases hz
        | some cs' =>
          rw [qq, q2] at hz
          obtain ⟨cc, e⟩ := if_some hz
          subst e
          exact isi_tup I r sq (tys_cls rr q2) (tyOf_x g r1 qq) (kit_any (tyOf_mem qq) cc) (here (.bl _))
  | min2 =>
    obtain ⟨i, j, rfl, rfl, rfl⟩ := int2_some hz
    cases r1
    cases r2
    exact call_min2 hc pins s σ _ _ us Q I r ⟨i, j, rfl, here (.int _)⟩
  | max2 =>
    obtain ⟨i, j, rfl, rfl, rfl⟩ := int2_some hz
    cases r1
    cases r2
    exact call_max2 hc pins s σ _ _ us Q I r ⟨i, j, rfl, here (.int _)⟩
  | gcd =>
    obtain ⟨i, j, rfl, rfl, rfl⟩ := int2_some hz
    cases r1
    cases r2
    exact cr_gcd pins s σ _ _ us Q I r ⟨i, j, rfl, here (.int _)⟩
  | _ => cases hz
theorem blt_ok (f : Bf) (hc : X.calm = true) (hu : X.A.units + 70 < cLine) (hg : X.A.guards = some []) : CallR X f.val (rF X.K f) := by
  intro pins s σ H xs us Q I r ⟨w, ds, hH, g, t, z, hz, q⟩
  subst hH
  match ds, t, hz with
  | [d], t, hz =>
    obtain ⟨v, rfl, r1⟩ := one_inv t
    exact blt1_ok f hc hu hg I r g r1 hz q
  | [d, e], t, hz =>
    obtain ⟨v, u, rfl, r1, r2⟩ := two_inv t
    exact blt2_ok f hc I r g r1 r2 hz q
  | [], t, hz => cases hz
  | _ :: _ :: _ :: _, t, hz => cases hz
end
end Iv
end

section
set_option Elab.async false
set_option linter.all false
set_option maxHeartbeats 2000000
/-! IvMth: methods of what is built in. -/
namespace Iv
open PySem PySem.Spec PyProof.Rows L2
section
variable {X : Cx} {pins : List (Addr × Obj)} {s : Shared} {σ : L2.St} {w : Wd} {v u : V} {ov : Value} {us : List Value} {Q : VK} {E : XK} {mg : Str → Option Value} {d x : D}
/-- a list of the store is changed by a rule -/
theorem onS_ok {f : List D → Option (D × List D)} {rest : Prop} (g : Good X.K w) (r : Rep X.K w d v) (h : EvG X.K mg E (Rep X.K) (onS d f) w Q)
    (k : ∀ (n : Nat) (a : Addr) (ds es : List D) (z : D) (vs : List V), v = .ref a → d = .loc n → w.H a = some (.lst vs) → Reps X.K w ds vs → f ds = some (z, es) →
      (∀ (b : V) (ws : List V), Reps X.K w es ws → Rep X.K w z b → Q b (upd w.H a (.lst ws))) → rest) : rest := by
  have h : EvR X.K mg E (Rep X.K) (onS d f w.M) w Q := h
  cases r with
  | dt => exact h.elim
  | @loc a n h1 =>
    have e : onS (.loc n) f w.M = (match w.M[n]? with
      | some (.lst ds) => match f ds with
        | some (z, es) => .ok z (w.M.set n (.lst es))
        | none => .bad
      | _ => .bad) := rfl
    rw [e] at h
    cases qq : w.M[n]? with
    | none => rw [qq] at h; exact h.elim
    | some ob =>
      rw [qq] at h
      cases ob with
      | lst ds =>
        cases q2 : f ds with
        | none =>
          simp only [q2] at h
          exact h.elim
        | some p =>
          obtain ⟨z, es⟩ := p
          simp only [q2] at h
          obtain ⟨vs, g1, g2⟩ := g.lst qq h1
          refine k n a ds es z vs rfl rfl g1 g2 q2 fun b ws rs rb => ?_
          have x := ext_chg (ob := .lst es) (o := .lst ws) h1 qq rfl
          exact h (w.chg n a (.lst es) (.lst ws)) b (good_chg g h1 qq rfl fun _ => .lst upd_same (rs.mono g x)) x rfl (rb.mono g x)
      | dct kvs => exact h.elim
      | dead => exact h.elim
  | non => exact h.elim
  | bl _ => exact h.elim
  | int _ => exact h.elim
  | str _ => exact h.elim
  | ty _ => exact h.elim
  | tup _ _ => exact h.elim
  | lst _ _ _ _ => exact h.elim
  | frl _ _ => exact h.elim
theorem whereD_some {x : D} : ∀ {ds : List D} {k : Nat}, whereD x ds = some k → ∃ z, ds[k]? = some z ∧ PyData.eqv z.py x.py = true ∧ ∀ (m : Nat) (z' : D), m < k → ds[m]? = some z' → PyData.eqv z'.py x.py = false
  | [], _, h => by cases h
  | y :: r, k, h => by
    have h : (if PyData.eqv y.py x.py then some 0 else (whereD x r).map (· + 1)) = some k := h
    by_cases c : PyData.eqv y.py x.py = true
    · rw [if_pos c] at h
      cases h
      exact ⟨y, rfl, c, fun m z' hm => absurd hm (Nat.not_lt_zero _)⟩
    · rw [if_neg c] at h
      obtain ⟨j, h1, h2⟩ := Option.map_eq_some_iff.mp h
      subst h2
      obtain ⟨z, z1, z2, z3⟩ := whereD_some h1
      refine ⟨z, by simpa using z1, z2, fun m z' hm hz => ?_⟩
      cases m with
      | zero => simp at hz; subst hz; simpa using c
      | succ m => exact z3 m z' (by omega) (by simpa using hz)
theorem pys_get : ∀ (ds : List D) (m : Nat), (pys ds)[m]? = (ds[m]?).map D.py
  | [], _ => rfl
  | d :: ds, 0 => rfl
  | d :: ds, m + 1 => by
    show (d.py :: pys ds)[m + 1]? = _
    simpa using pys_get ds m
theorem pys_map (ds : List D) : pys ds = ds.map D.py := by
  induction ds with
  | nil => rfl
  | cons d ds ih => show d.py :: pys ds = _; rw [ih]; rfl
theorem indexD_some {x z : D} {ds : List D} (h : indexD x ds = some z) : x.pu = true ∧ SeqAt.shaped x.py = true ∧ pus ds = true ∧ SeqAt.shaped (.list (pys ds)) = true ∧ ∃ k, whereD x ds = some k ∧ z = .int (k : Nat) := by
  obtain ⟨c, e⟩ := if_some' (show (if x.okE && pus ds && SeqAt.shaped (.list (pys ds)) then (whereD x ds).map fun k => D.int (k : Nat) else none) = some z from h)
  obtain ⟨c1, c2, c3, c4⟩ := in_conds c
  obtain ⟨k, h1, h2⟩ := Option.map_eq_some_iff.mp e
  exact ⟨c1, c2, c3, c4, k, h1, h2.symm⟩
/-- t.index(x) of a tuple -/
theorem tindex_ok (hu : X.A.units + 65 < cLine) {a : Addr} {ds : List D} {vs : List V} {z : D} {uy : Value} (I : Inv X pins σ w.H s) (g : Good X.K w) (sq : SqT X.K w.H a vs) (rr : Reps X.K w ds vs) (rx : Rep X.K w x u) (ru : RelV u uy)
    (h : indexD x ds = some z) (q : ∀ b, Rep X.K w z b → Q b w.H) : wpAny (model X.prog X.w) X.A (call (.builtin "tuple.index") [.ref a, uy]) (EP X pins σ Q) X.xe s := by
  obtain ⟨c1, c2, c3, c4, k, hk, rfl⟩ := indexD_some h
  obtain ⟨z, z1, z2, z3⟩ := whereD_some hk
  obtain ⟨its, rv, ⟨⟨cls, dd, dt, sl⟩, ho, hc, n, hd⟩, hz⟩ := I.tuple sq
  simp only at hc hd
  subst hc hd
  obtain ⟨as, q1⟩ := Dp.reads I _ u uy (rx.dp g c1) ru
  obtain ⟨bs, q2⟩ := Dp.readsAll I _ vs its (rr.dp g c3) rv
  have hcl : PyData.canLayAll0 (pys ds) = true := SeqAt.canLay_of_shaped c4
  have hmap := SeqAt.readsAll_map (pys ds) its bs hcl q2
  have hlen : its.length = ds.length := by rw [← rv.length, ← rr.length]
  have hk' : k < ds.length := (List.getElem?_eq_some_iff.mp z1).1
  have hj : k < its.toArray.size := by simpa [hlen] using hk'
  have at_ : ∀ (m : Nat) (hm : m < its.toArray.size) (z' : D), ds[m]? = some z' → SeqAt.readOf s.heap its.toArray[m] = z'.py := fun m hm z' e => by
    have e1 : (its.map (SeqAt.readOf s.heap))[m]? = some z'.py := by rw [hmap, pys_get, e]; rfl
    have hml : m < its.length := by simpa using hm
    rw [List.getElem?_map, List.getElem?_eq_getElem hml] at e1
    simpa using Option.some.inj e1
  refine call_meets PySem.F.slot_tuple_index ⟨_, ho, rfl⟩ PySem.F.entry_tuple_index (PySem.F.args_tuple_index_2 _ _)
    (TI.tuple_indexAt a its.toArray n dd sl uy (fun y => PyData.eqv (SeqAt.readOf s.heap y) x.py) k hj ?_ ?_)
    ⟨ho, SeqAt.items_eqAt (vs := its.toArray) (show ReadsAll s.heap its.toArray.toList (pys ds) bs from q2) q1 hcl (SeqAt.canLay_of_shaped c2) (room_in c2 hu), ⟨.int (k : Nat), _, I.tok _, ⟨_, rfl⟩, q _ (.int _)⟩⟩
  · show PyData.eqv (SeqAt.readOf s.heap its.toArray[k]) x.py = true
    rw [at_ k hj z z1]; exact z2
  · intro m hm hmk
    have hmd : m < ds.length := by omega
    show PyData.eqv (SeqAt.readOf s.heap its.toArray[m]) x.py = false
    rw [at_ m hm _ (List.getElem?_eq_getElem hmd)]
    exact z3 m _ hmk (List.getElem?_eq_getElem hmd)
def Mt.id : Mt → String
  | .append => "list.append" | .pop => "list.pop" | .popAt => "list.pop" | .index => "list.index" | .tindex => "tuple.index" | .extend => "list.extend"
def Mt.nm : Mt → Str
  | .append => "append" | .pop => "pop" | .popAt => "pop" | .index => "index" | .tindex => "index" | .extend => "extend"
/-- a method of a list, called with one thing -/
theorem mth1_ok (m : Mt) (hm : m ≠ .tindex) (hu : X.A.units + 70 < cLine) {uy : Value} (I : Inv X pins σ w.H s) (g : Good X.K w) (r : Rep X.K w d v) (rv : RelV v ov) (rx : Rep X.K w x u) (ru : RelV u uy)
    (h : EvG X.K mg E (Rep X.K) (mth1 m d x) w Q) : wpAny (model X.prog X.w) X.A (call (.builtin m.id) [ov, uy]) (EP X pins σ Q) X.xe s := by
  cases m with
  | append =>
    refine onS_ok g r h fun n a ds es z vs e1 e2 h1 h2 h3 q => ?_
    obtain ⟨c, e⟩ := if_some h3
    cases e
    subst e1
    exact mt_append pins s σ _ _ [u] ov [uy] Q I rv (.cons ru .nil) ⟨a, vs, u, rfl, rfl, h1, by rw [← h2.length]; exact c, q _ _ (h2.append (.one rx)) .non⟩
  | popAt =>
    cases x <;> first | exact h.elim | skip
    rename_i i
    cases rx
    refine onS_ok g r h fun n a ds es z vs e1 e2 h1 h2 h3 q => ?_
    obtain ⟨c, e⟩ := if_some' h3
    obtain ⟨k, k1, k2⟩ := Option.bind_eq_some_iff.mp e
    obtain ⟨d', d1, d2⟩ := Option.map_eq_some_iff.mp k2
    cases d2
    subst e1
    obtain ⟨y, y1, y2⟩ := h2.get d1
    exact mt_popAt pins s σ _ _ [.int i] ov [uy] Q I rv (.cons ru .nil) ⟨a, vs, i, k, y, rfl, rfl, h1, c.1, c.2, by rw [← h2.length]; exact k1, y1, q _ _ (h2.eraseIdx k) y2⟩
  | extend =>
    cases x <;> first | exact h.elim | skip
    rename_i xs
    obtain ⟨b, us', rfl, s2, n2, z2, t2⟩ := rx.lst_inv
    refine onS_ok g r h fun n a ds es z vs e1 e2 h1 h2 h3 q => ?_
    obtain ⟨c, e⟩ := if_some h3
    cases e
    subst e1
    exact mt_extend pins s σ _ _ [.ref b] ov [uy] Q I rv (.cons ru .nil) ⟨a, b, vs, us', rfl, rfl, h1, s2, by rw [← h2.length, ← t2.length]; exact c, q _ _ (h2.append t2) .non⟩
  | index =>
    have h : EvR X.K mg E (Rep X.K) (match lstOf w.M d with
      | some ds => ofO (indexD x ds) w.M
      | none => .bad) w Q := h
    cases qq : lstOf w.M d with
    | none => rw [qq] at h; exact h.elim
    | some ds =>
      rw [qq] at h
      have h : EvG X.K mg E (Rep X.K) (ofO (indexD x ds)) w Q := h
      obtain ⟨z, hz, q⟩ := h.ofO
      obtain ⟨c1, c2, c3, c4, k, hk, rfl⟩ := indexD_some hz
      obtain ⟨z, z1, z2, z3⟩ := whereD_some hk
      obtain ⟨a, vs, rfl, sq, rr⟩ := lstOf_sq g r qq
      refine mt_indexD (by omega) pins s σ _ _ [u] ov [uy] Q I rv (.cons ru .nil) ⟨a, u, x.py, pys ds, k, z.py, rfl, rfl, .lst sq (rr.dp g c3), rx.dp g c1, c4, c2, by rw [pys_get, z1]; rfl, z2, fun m z' hm hz' => ?_, q _ _ g (Ext.refl w) rfl (.int _)⟩
      rw [pys_get] at hz'
      obtain ⟨d', e1, e2⟩ := Option.map_eq_some_iff.mp hz'
      subst e2
      exact z3 m d' hm e1
  | pop => exact h.elim
  | tindex => exact absurd rfl hm
theorem mth0_ok (m : Mt) (I : Inv X pins σ w.H s) (g : Good X.K w) (r : Rep X.K w d v) (rv : RelV v ov)
    (h : EvG X.K mg E (Rep X.K) (mth0 m d) w Q) : wpAny (model X.prog X.w) X.A (call (.builtin m.id) [ov]) (EP X pins σ Q) X.xe s := by
  cases m with
  | pop =>
    refine onS_ok g r h fun n a ds es z vs e1 e2 h1 h2 h3 q => ?_
    obtain ⟨d', d1, d2⟩ := Option.map_eq_some_iff.mp h3
    cases d2
    subst e1
    obtain ⟨y, y1, y2⟩ := h2.get d1
    refine mt_pop pins s σ _ _ [] ov [] Q I rv .nil ⟨a, vs, y, rfl, rfl, h1, by rw [← h2.length]; exact y1, q _ _ ?_ y2⟩
    rw [List.dropLast_eq_take, List.dropLast_eq_take, ← h2.length]
    exact h2.take _
  | _ => exact h.elim
end
end Iv
end

section
set_option Elab.async false
set_option linter.all false
set_option maxHeartbeats 1000000
/-! IvProt: an object that is being made: it is kept apart (Z) while others are evaluated. -/
namespace Iv
open PySem PySem.Spec PyProof.Rows L2
/-- like Ext, L apart -/
structure ExtD (L : Addr) (w w' : Wd) : Prop where
  z : w'.Z = w.Z
  pre : ∀ (n : Nat) (a : Addr), w.ι[n]? = some a → w'.ι[n]? = some a
  keep : ∀ (a : Addr) (o : HO), a ≠ L → w.H a = some o → ¬ Own w a → (∀ ps, o ≠ .tbl ps) → w'.H a = some o
  own : ∀ (a : Addr) (o : HO), w.H a = some o → ¬ Own w a → ¬ Own w' a
  dom : ∀ (a : Addr) (o : HO), w.H a = some o → ∃ o', w'.H a = some o'
theorem ExtD.of {L : Addr} {w w' : Wd} (e : Ext w w') : ExtD L w w' := ⟨e.z, e.pre, fun a o _ h n t => e.keep a o h n t, e.own, e.dom⟩
theorem ExtD.trans {L : Addr} {w w1 w2 : Wd} (a : ExtD L w w1) (b : ExtD L w1 w2) : ExtD L w w2 where
  z := b.z.trans a.z
  pre := fun n x h => b.pre n x (a.pre n x h)
  keep := fun x o d h n t => b.keep x o d (a.keep x o d h n t) (a.own x o h n) t
  own := fun x o h n => by
    obtain ⟨o', h'⟩ := a.dom x o h
    exact b.own x o' h' (a.own x o h n)
  dom := fun x o h => by
    obtain ⟨o', h'⟩ := a.dom x o h
    exact b.dom x o' h'
/-- what is made: a list or a dict -/
def Mk1 (o : HO) : Prop := (∃ vs, o = .lst vs) ∨ ∃ kvs, o = .dK kvs
section
variable {K : PySem.W.Frag} {w w' : Wd} {L : Addr} {o : HO}
theorem Mk1.tup {o : HO} (m : Mk1 o) {vs : List V} (h : o = .tup vs) : False := by
  rcases m with ⟨_, e⟩ | ⟨_, e⟩ <;> (rw [e] at h; cases h)
theorem Mk1.frz {o : HO} (m : Mk1 o) {u : HO} {x : Obj} (h : o = .frz x u) : False := by
  rcases m with ⟨_, e⟩ | ⟨_, e⟩ <;> (rw [e] at h; cases h)
theorem Mk1.tbl {o : HO} (m : Mk1 o) {ps : Array Value} (h : o = .tbl ps) : False := by
  rcases m with ⟨_, e⟩ | ⟨_, e⟩ <;> (rw [e] at h; cases h)
theorem Mk1.ext {o : HO} (m : Mk1 o) {φ : Heap → Prop} (h : o = .ext φ) : False := by
  rcases m with ⟨_, e⟩ | ⟨_, e⟩ <;> (rw [e] at h; cases h)
theorem sqT_monoD (g : Good K w) (e : ExtD L w w') (hD : w.H L = some o) (m : Mk1 o) {a : Addr} {vs : List V} (h : SqT K w.H a vs) : SqT K w'.H a vs := by
  rcases h with (h | ⟨q, h⟩) | h
  · refine .inl (.inl (e.keep a _ (fun z => ?_) h (g.tup_own h) fun _ z => nomatch z))
    subst z
    rw [h] at hD
    exact m.tup (Option.some.inj hD).symm
  · refine .inl (.inr ⟨q, e.keep a _ (fun z => ?_) h (g.frz_own h) fun _ z => nomatch z⟩)
    subst z
    rw [h] at hD
    exact m.frz (Option.some.inj hD).symm
  · exact .inr h
theorem sqF_monoD (g : Good K w) (e : ExtD L w w') (hD : w.H L = some o) (m : Mk1 o) {a : Addr} {vs : List V} (h : SqF K w.H a vs) : SqF K w'.H a vs := by
  rcases h with ⟨q, h⟩ | h
  · refine .inl ⟨q, e.keep a _ (fun z => ?_) h (g.frz_own h) fun _ z => nomatch z⟩
    subst z
    rw [h] at hD
    exact m.frz (Option.some.inj hD).symm
  · exact .inr h
mutual
theorem Rep.monoD (g : Good K w) (e : ExtD L w w') (hz : L ∈ w.Z) (hD : w.H L = some o) (m : Mk1 o) : ∀ {d : D} {v : V}, Rep K w d v → Rep K w' d v
  | _, _, .non => .non
  | _, _, .bl b => .bl b
  | _, _, .int i => .int i
  | _, _, .str x => .str x
  | _, _, .ty n => .ty n
  | _, _, .tup h r => .tup (sqT_monoD g e hD m h) (Reps.monoD g e hz hD m r)
  | _, _, .lst h n z r => .lst (e.keep _ _ (fun q => z (q ▸ hz)) h n fun _ q => nomatch q) (e.own _ _ h n) (by rw [e.z]; exact z) (Reps.monoD g e hz hD m r)
  | _, _, .frl h r => .frl (sqF_monoD g e hD m h) (Reps.monoD g e hz hD m r)
  | _, _, .loc h => .loc (e.pre _ _ h)
  | _, _, .dt h ok k sq v r => .dt (e.keep _ _ (fun q => by
      subst q
      rw [h] at hD
      exact m.ext (Option.some.inj hD).symm) h (g.ext_own h) fun _ q => nomatch q) ok k (fun x hx => sqT_monoD g e hD m (sq x hx)) v (Reps.monoD g e hz hD m r)
theorem Reps.monoD (g : Good K w) (e : ExtD L w w') (hz : L ∈ w.Z) (hD : w.H L = some o) (m : Mk1 o) : ∀ {ds : List D} {vs : List V}, Reps K w ds vs → Reps K w' ds vs
  | _, _, .nil => .nil
  | _, _, .cons r t => .cons (Rep.monoD g e hz hD m r) (Reps.monoD g e hz hD m t)
end
theorem ObR.monoD (g : Good K w) (e : ExtD L w w') (hz : L ∈ w.Z) (hD : w.H L = some o) (m : Mk1 o) {a : Addr} {ob : Ob} (h : ObR K w a ob) (k : ∀ o, w.H a = some o → w'.H a = some o) : ObR K w' a ob := by
  cases h with
  | lst h r => exact .lst (k _ h) (r.monoD g e hz hD m)
  | dct h q r => exact .dct (k _ h) q (r.monoD g e hz hD m)
/-- L's content is changed -/
def Wd.poke (w : Wd) (L : Addr) (o : HO) : Wd := { w with H := upd w.H L o }
theorem ext_poke {o' : HO} (hD : w.H L = some o) : ExtD L w (w.poke L o') :=
  ⟨rfl, fun _ _ h => h, fun a u d e _ _ => (upd_ne d).trans e, fun _ _ _ n => n, fun a u e => by
    by_cases q : a = L
    · exact ⟨o', by subst q; exact upd_same⟩
    · exact ⟨u, (upd_ne q).trans e⟩⟩
theorem good_poke {o' : HO} (g : Good K w) (hz : L ∈ w.Z) (hD : w.H L = some o) (m : Mk1 o) : Good K (w.poke L o') := by
  have e := ext_poke (o' := o') hD
  refine ⟨g.len, g.inj, fun n ob a h1 h2 h3 => ?_, fun a ha => ?_⟩
  · refine (g.obj n ob a h1 h2 h3).monoD g e hz hD m fun u hu => ?_
    show upd w.H L o' a = some u
    have ne : a ≠ L := fun q => by
      subst q
      exact (g.z a hz).2 ⟨n, ob, h2, h1, h3⟩
    rw [upd_ne ne]; exact hu
  · obtain ⟨⟨u, h⟩, n⟩ := g.z a ha
    exact ⟨e.dom a u h, n⟩
/-- L is laid and kept apart -/
def Wd.prot (w : Wd) (L : Addr) (o : HO) : Wd := ⟨L :: w.Z, w.ι, w.M, upd w.H L o⟩
mutual
theorem Rep.prot (g : Good K w) (h : w.H L = none) : ∀ {d : D} {v : V}, Rep K w d v → Rep K (w.prot L o) d v
  | _, _, .non => .non
  | _, _, .bl b => .bl b
  | _, _, .int i => .int i
  | _, _, .str x => .str x
  | _, _, .ty n => .ty n
  | _, _, .tup q r => .tup (sqT_mono g (ext_put (o := o) h) q) (Reps.prot g h r)
  | _, _, .lst q n z r => .lst ((upd_ne (ne_of_none q h)).trans q) n (by
      intro hm
      rcases List.mem_cons.mp hm with e | e
      · exact ne_of_none q h e
      · exact z e) (Reps.prot g h r)
  | _, _, .frl q r => .frl (sqF_mono g (ext_put (o := o) h) q) (Reps.prot g h r)
  | _, _, .loc q => .loc q
  | _, _, .dt q ok k sq v r => .dt ((upd_ne (ne_of_none q h)).trans q) ok k (fun x hx => sqT_mono g (ext_put (o := o) h) (sq x hx)) v (Reps.prot g h r)
theorem Reps.prot (g : Good K w) (h : w.H L = none) : ∀ {ds : List D} {vs : List V}, Reps K w ds vs → Reps K (w.prot L o) ds vs
  | _, _, .nil => .nil
  | _, _, .cons r t => .cons (Rep.prot g h r) (Reps.prot g h t)
end
theorem good_prot (g : Good K w) (h : w.H L = none) : Good K (w.prot L o) := by
  refine ⟨g.len, g.inj, fun n ob a h1 h2 h3 => ?_, fun a ha => ?_⟩
  · have k : ∀ u, w.H a = some u → (w.prot L o).H a = some u := fun u hu => (upd_ne (ne_of_none hu h)).trans hu
    cases g.obj n ob a h1 h2 h3 with
    | lst q r => exact .lst (k _ q) (r.prot g h)
    | dct q e r => exact .dct (k _ q) e (r.prot g h)
  · rcases List.mem_cons.mp ha with e | e
    · subst e
      exact ⟨⟨o, upd_same⟩, g.not_own h⟩
    · obtain ⟨⟨u, q⟩, n⟩ := g.z a e
      exact ⟨⟨u, (upd_ne (ne_of_none q h)).trans q⟩, n⟩
theorem prot_in : L ∈ (w.prot L o).Z := List.mem_cons_self
theorem prot_at : (w.prot L o).H L = some o := upd_same
theorem EnvR.prot {ρ : Env} {σ : L2.St} (g : Good K w) (h : w.H L = none) (r : EnvR K w ρ σ) : EnvR K (w.prot L o) ρ σ := ⟨r.len, fun i d e => by
  obtain ⟨v, h1, h2⟩ := r.get i d e
  exact ⟨v, h1, h2.prot g h⟩⟩
theorem EnvR.monoD {ρ : Env} {σ : L2.St} (g : Good K w) (e : ExtD L w w') (hz : L ∈ w.Z) (hD : w.H L = some o) (m : Mk1 o) (r : EnvR K w ρ σ) : EnvR K w' ρ σ := ⟨r.len, fun i d q => by
  obtain ⟨v, h1, h2⟩ := r.get i d q
  exact ⟨v, h1, h2.monoD g e hz hD m⟩⟩
/-- L is kept apart no more -/
def Wd.free (w : Wd) (Z : List Addr) : Wd := { w with Z := Z }
mutual
theorem Rep.free {Z : List Addr} (hz : ∀ a ∈ Z, a ∈ w.Z) : ∀ {d : D} {v : V}, Rep K w d v → Rep K (w.free Z) d v
  | _, _, .non => .non
  | _, _, .bl b => .bl b
  | _, _, .int i => .int i
  | _, _, .str x => .str x
  | _, _, .ty n => .ty n
  | _, _, .tup q r => .tup q (Reps.free hz r)
  | _, _, .lst q n z r => .lst q n (fun h => z (hz _ h)) (Reps.free hz r)
  | _, _, .frl q r => .frl q (Reps.free hz r)
  | _, _, .loc q => .loc q
  | _, _, .dt q ok k sq v r => .dt q ok k sq v (Reps.free hz r)
theorem Reps.free {Z : List Addr} (hz : ∀ a ∈ Z, a ∈ w.Z) : ∀ {ds : List D} {vs : List V}, Reps K w ds vs → Reps K (w.free Z) ds vs
  | _, _, .nil => .nil
  | _, _, .cons r t => .cons (Rep.free hz r) (Reps.free hz t)
end
theorem good_free {Z : List Addr} (hz : ∀ a ∈ Z, a ∈ w.Z) (g : Good K w) : Good K (w.free Z) := by
  refine ⟨g.len, g.inj, fun n ob a h1 h2 h3 => ?_, fun a ha => g.z a (hz a ha)⟩
  cases g.obj n ob a h1 h2 h3 with
  | lst q r => exact .lst q (r.free hz)
  | dct q e r => exact .dct q e (r.free hz)
theorem ext_end {w1 : Wd} (h : w.H L = none) (e : ExtD L (w.prot L o) w1) : Ext w (w1.free w.Z) := by
  have up : ∀ a u, w.H a = some u → a ≠ L ∧ (w.prot L o).H a = some u := fun a u q => ⟨ne_of_none q h, (upd_ne (ne_of_none q h)).trans q⟩
  refine ⟨rfl, e.pre, fun a u q n t => e.keep a u (up a u q).1 (up a u q).2 n t, fun a u q n => e.own a u (up a u q).2 n, fun a u q => e.dom a u (up a u q).2⟩
/-- .. it is a list, as data -/
theorem rep_end {w1 : Wd} (h : w.H L = none) (g1 : Good K w1) (e : ExtD L (w.prot L o) w1) {vs : List V} {ds : List D} (hD : w1.H L = some (.lst vs)) (g : Good K w) (r : Reps K w1 ds vs) : Rep K (w1.free w.Z) (.lst ds) (.ref L) := by
  have zz : w1.Z = L :: w.Z := e.z
  refine .lst hD (fun q => ?_) (g.notZ h) (r.free fun a ha => by rw [zz]; exact List.mem_cons_of_mem _ ha)
  exact (g1.z L (by rw [zz]; exact List.mem_cons_self)).2 q
/-- .. it is an object of the store -/
def Wd.adopt (w : Wd) (L : Addr) (ob : Ob) (Z : List Addr) : Wd := ⟨Z, w.ι ++ [L], w.M ++ [ob], w.H⟩
theorem ext_adopt {w1 : Wd} {ob : Ob} (h : w.H L = none) (g1 : Good K w1) (e : ExtD L (w.prot L o) w1) : Ext w (w1.adopt L ob w.Z) := by
  have x := ext_end h e
  refine ⟨rfl, fun n a q => (List.getElem?_append_left (List.getElem?_eq_some_iff.mp (x.pre n a q)).1).trans (x.pre n a q), x.keep, fun a u q n z => ?_, x.dom⟩
  obtain ⟨m, b, h1, h2, h3⟩ := z
  have h1 : (w1.ι ++ [L])[m]? = some a := h1
  have h2 : (w1.M ++ [ob])[m]? = some b := h2
  by_cases hm : m < w1.ι.length
  · rw [List.getElem?_append_left hm] at h1
    rw [List.getElem?_append_left (by rw [← g1.len]; exact hm)] at h2
    exact x.own a u q n ⟨m, b, h1, h2, h3⟩
  · rw [List.getElem?_append_right (by omega)] at h1
    have e0 : m - w1.ι.length = 0 := by
      cases q : m - w1.ι.length with
      | zero => rfl
      | succ j => rw [q] at h1; simp at h1
    rw [e0] at h1
    simp at h1
    subst h1
    rw [h] at q; cases q
theorem rep_adopt {w1 : Wd} {ob : Ob} {Z : List Addr} (g1 : Good K w1) : Rep K (w1.adopt L ob Z) (.loc w1.M.length) (.ref L) := .loc (by
  show (w1.ι ++ [L])[w1.M.length]? = some L
  rw [← g1.len]; simp)
mutual
theorem Rep.adopt {Z : List Addr} {ob : Ob} {w1 : Wd} (g1 : Good K w1) (hz : ∀ a ∈ Z, a ∈ w1.Z) (hD : L ∈ w1.Z) : ∀ {d : D} {v : V}, Rep K w1 d v → Rep K (w1.adopt L ob Z) d v
  | _, _, .non => .non
  | _, _, .bl b => .bl b
  | _, _, .int i => .int i
  | _, _, .str x => .str x
  | _, _, .ty n => .ty n
  | _, _, .tup q r => .tup q (Reps.adopt g1 hz hD r)
  | _, _, .lst (a := a) q n z r => .lst q (by
      rintro ⟨m, b, h1, h2, h3⟩
      have h1 : (w1.ι ++ [L])[m]? = some a := h1
      have h2 : (w1.M ++ [ob])[m]? = some b := h2
      by_cases hm : m < w1.ι.length
      · rw [List.getElem?_append_left hm] at h1
        rw [List.getElem?_append_left (by rw [← g1.len]; exact hm)] at h2
        exact n ⟨m, b, h1, h2, h3⟩
      · rw [List.getElem?_append_right (by omega)] at h1
        have e0 : m - w1.ι.length = 0 := by
          cases q : m - w1.ι.length with
          | zero => rfl
          | succ j => rw [q] at h1; simp at h1
        rw [e0] at h1
        simp at h1
        subst h1
        exact z hD) (fun h => z (hz _ h)) (Reps.adopt g1 hz hD r)
  | _, _, .frl q r => .frl q (Reps.adopt g1 hz hD r)
  | _, _, .dt q ok k sq v r => .dt q ok k sq v (Reps.adopt g1 hz hD r)
  | _, _, .loc q => .loc ((List.getElem?_append_left (List.getElem?_eq_some_iff.mp q).1).trans q)
theorem Reps.adopt {Z : List Addr} {ob : Ob} {w1 : Wd} (g1 : Good K w1) (hz : ∀ a ∈ Z, a ∈ w1.Z) (hD : L ∈ w1.Z) : ∀ {ds : List D} {vs : List V}, Reps K w1 ds vs → Reps K (w1.adopt L ob Z) ds vs
  | _, _, .nil => .nil
  | _, _, .cons r t => .cons (Rep.adopt g1 hz hD r) (Reps.adopt g1 hz hD t)
end
theorem good_adopt {w1 : Wd} {ob : Ob} (h : w.H L = none) (g : Good K w) (g1 : Good K w1) (e : ExtD L (w.prot L o) w1) (r : ob.live = true → ObR K (w1.adopt L ob w.Z) L ob) : Good K (w1.adopt L ob w.Z) := by
  have zz : w1.Z = L :: w.Z := e.z
  have hD : L ∈ w1.Z := by rw [zz]; exact List.mem_cons_self
  have nD := (g1.z L hD).2
  have hz : ∀ a ∈ w.Z, a ∈ w1.Z := fun a ha => by rw [zz]; exact List.mem_cons_of_mem _ ha
  have at_ : ∀ n a, (w1.ι ++ [L])[n]? = some a → (n < w1.ι.length ∧ w1.ι[n]? = some a) ∨ (n = w1.ι.length ∧ a = L) := fun n a q => by
    by_cases hn : n < w1.ι.length
    · rw [List.getElem?_append_left hn] at q
      exact .inl ⟨hn, q⟩
    · rw [List.getElem?_append_right (by omega)] at q
      have e0 : n - w1.ι.length = 0 := by
        cases z : n - w1.ι.length with
        | zero => rfl
        | succ j => rw [z] at q; simp at q
      rw [e0] at q
      simp at q
      exact .inr ⟨by omega, q.symm⟩
  have obs : ∀ n b, (w1.M ++ [ob])[n]? = some b → n < w1.M.length → w1.M[n]? = some b := fun n b q hn => by
    rw [List.getElem?_append_left hn] at q; exact q
  have obl : ∀ b, (w1.M ++ [ob])[w1.M.length]? = some b → b = ob := fun b q => by
    have : (w1.M ++ [ob])[w1.M.length]? = some ob := by simp
    rw [this] at q; exact (Option.some.inj q).symm
  refine ⟨by show (w1.ι ++ [L]).length = (w1.M ++ [ob]).length; rw [List.length_append, List.length_append, g1.len] <;> rfl, fun n m a x y h1 h2 h3 h4 l1 l2 => ?_, fun n b a h1 h2 h3 => ?_, fun a ha => ?_⟩
  · rcases at_ n a h1 with ⟨q1, q2⟩ | ⟨q1, q2⟩
    · rcases at_ m a h2 with ⟨q3, q4⟩ | ⟨q3, q4⟩
      · exact g1.inj n m a x y q2 q4 (obs n x h3 (by rw [← g1.len]; exact q1)) (obs m y h4 (by rw [← g1.len]; exact q3)) l1 l2
      · subst q4
        exact (nD ⟨n, x, q2, obs n x h3 (by rw [← g1.len]; exact q1), l1⟩).elim
    · rcases at_ m a h2 with ⟨q3, q4⟩ | ⟨q3, q4⟩
      · subst q2
        exact (nD ⟨m, y, q4, obs m y h4 (by rw [← g1.len]; exact q3), l2⟩).elim
      · omega
  · rcases at_ n a h2 with ⟨q1, q2⟩ | ⟨q1, q2⟩
    · cases g1.obj n b a (obs n b h1 (by rw [← g1.len]; exact q1)) q2 h3 with
      | lst q r => exact .lst q (r.adopt g1 hz hD)
      | dct q e r => exact .dct q e (r.adopt g1 hz hD)
    · have h1' : (w1.M ++ [ob])[n]? = some b := h1
      rw [show n = w1.M.length by rw [q1, g1.len]] at h1'
      have := obl b h1'
      subst this q2
      exact r h3
  · have x := ext_adopt (ob := ob) h g1 e
    obtain ⟨⟨u, hu⟩, n⟩ := g.z a ha
    exact ⟨x.dom a u hu, x.own a u hu n⟩
end
end Iv
end

section
set_option Elab.async false
set_option linter.all false
set_option maxHeartbeats 1000000
/-! IvEx1: each form of expression by its rule. -/
namespace Iv
open PySem PySem.Spec PyProof.Rows L2

/-! ### what a body knows -/
/-- a def's promise -/
structure FnG (P : Program) (Wo : World) (K : PySem.W.Frag) (mg : Str → Option Value) (base : Heap) (k : Nat) (f : Addr) (fdt : FuncData) (ps : List Str) (m : List D → Mo D) : Prop where
  run : ∀ (A : Around) (outer : List PySem.Env) (s : Shared) (w : Wd) (args : Args) (us : List Value) (vs : List V) (ds : List D) (Q : VK) (E : XK), Room k A → A.guards = some [] →
    Env0 P Wo K mg base A outer s w.H → BindsTo s fdt args (ps.zip us) → vs.length = ps.length → Vals vs us → Good K w → Reps K w ds vs → EvG K mg E (Rep K) (m ds) w Q →
    codeAny (model P Wo) A (.call (.ref f) args) (CR (L2.CX P Wo) outer P Wo w.H s Q E) s
/-- where a parameter's value comes from -/
def Plc (K : PySem.W.Frag) (args : List Value) : Sum Nat D → Value → Prop
  | .inl i, x => args[i]? = some x
  | .inr d, x => ∃ v, RelV v x ∧ ∀ w : Wd, Rep K w d v
structure ShpOk (K : PySem.W.Frag) (fdt : FuncData) (ps : List Str) (sh : Shape) : Prop where
  ok : ∀ (s : Shared) (us ws : List Value), K.In s.heap → us.length = sh.np → ws.length = sh.ks.length →
    ∃ xs : List Value, BindsTo s fdt ⟨us, sh.ks.zip ws⟩ (ps.zip xs) ∧ xs.length = ps.length ∧ Paired (Plc K (us ++ ws)) sh.out xs
structure LibF (P : Program) (Wo : World) (K : PySem.W.Frag) (mg : Str → Option Value) (base : Heap) (k : Nat) (nm : Str) (fd : Fd) (m : List D → Mo D) : Prop where
  ex : ∃ (a : Addr) (fdt : FuncData) (ps : List Str), mg nm = some (.ref a) ∧ PySem.W.keepIn K (.ref a) = true ∧ ps.length = fd.np ∧ FnG P Wo K mg base k a fdt ps m ∧ ∀ (i : Nat) (sh : Shape), fd.shapes[i]? = some sh → ShpOk K fdt ps sh
structure LibG (P : Program) (Wo : World) (K : PySem.W.Frag) (mg : Str → Option Value) (base : Heap) (T : Lp) (cl : Nat → List D → Mo D) (k : Nat) : Prop where
  fn : ∀ (f : Nat) (fd : Fd), T.fd f = some fd → LibF P Wo K mg base k (T.nm f) fd (cl f)
  gv : ∀ (x : Nat) (d : D), T.gv x = some d → ∃ (u : Value) (v : V), mg (T.nm x) = some u ∧ RelV v u ∧ ∀ w : Wd, Rep K w d v
  free : ∀ x ∈ T.free, mg x = none
  gcd : T.gcd = true → mg "gcd" = some (.builtin "math.gcd")
  tix : ∀ x ∈ T.tix, ∃ (a : Addr) (o : Obj), mg (T.nm x) = some (.ref a) ∧ K.lookup a = some o ∧ o.cls = .type "tuple" ∧ o.dict = none
/-- a body's context -/
structure CxG (T : Lp) (cl : Nat → List D → Mo D) (N : List Str) (k : Nat) (X : Cx) (W : WX) (own sc : Scope) : Prop where
  names : X.N = N
  nodup : N.Nodup
  scope : X.env.scope = sc
  kind : sc.kind = .function
  calm : X.calm = true
  room : Room k X.A
  gds : X.A.guards = some []
  takes : Takes X W
  store : ∀ x, Loc own x → Loc sc x ∧ (X.fn x = true ∨ sc.names.lookup x = some .local)
  lib : LibG X.prog X.w X.K X.mg X.base T cl k

theorem _root_.L2.PE.impV {X : Cx} {e : Expr} {t t' : TE} (h : PE X e t) (k : ∀ σ H Q, t' σ H Q → t σ H Q) : PE X e t' := ⟨fun pins s σ H Q I q => h.run pins s σ H Q I (k σ H Q q)⟩
theorem _root_.L2.PT.impV {X : Cx} {e : Expr} {t t' : TT} (h : PT X e t) (k : ∀ σ H Q, t' σ H Q → t σ H Q) : PT X e t' := ⟨fun pins s σ H Q I q => h.run pins s σ H Q I (k σ H Q q)⟩
theorem _root_.L2.PW.impV {X : Cx} {e : Expr} {t t' : TT} (h : PW X e t) (k : ∀ σ H Q, t' σ H Q → t σ H Q) : PW X e t' := ⟨fun wh pins s σ H Q I q => h.run wh pins s σ H Q I (k σ H Q q)⟩
theorem _root_.L2.PA.impV {X : Cx} {e : List Expr} {t t' : TA} (h : PA X e t) (k : ∀ σ H Q, t' σ H Q → t σ H Q) : PA X e t' := ⟨fun wh pins s σ H Q I q => h.run wh pins s σ H Q I (k σ H Q q)⟩
theorem _root_.L2.PO.impV {X : Cx} {e : Option Expr} {t t' : TO} (h : PO X e t) (k : ∀ σ H Q, t' σ H Q → t σ H Q) : PO X e t' := ⟨fun pins s σ H Q I q => h.run pins s σ H Q I (k σ H Q q)⟩
theorem _root_.L2.PTs.impV {X : Cx} {e : List Expr} {t t' : TT} (h : PTs X e t) (k : ∀ σ H Q, t' σ H Q → t σ H Q) : PTs X e t' := ⟨fun pins s σ H Q I q => h.run pins s σ H Q I (k σ H Q q)⟩
theorem _root_.L2.PI.impV {X : Cx} {tg e : Expr} {t t' : TI} (h : PI X tg e t) (k : ∀ σ H Q, t' σ H Q → t σ H Q) : PI X tg e t' := ⟨fun pins s σ H Q I q => h.run pins s σ H Q I (k σ H Q q)⟩

section
variable {T : Lp} {cl : Nat → List D → Mo D} {N : List Str} {k : Nat} {X : Cx} {W : WX} {own sc : Scope}
/-- equal, whatever the world -/
def REq {α : Type} : Wd → α → α → Prop := fun _ a b => a = b
variable (T cl X W) in
noncomputable abbrev tE (e : Ex) : TE := tG X.K X.mg W (Rep X.K) (ev T cl e)
variable (T cl X W) in
noncomputable abbrev tT (e : Ex) : TT := tG X.K X.mg W REq (evt T cl e)
variable (T cl X W) in
noncomputable abbrev tA (es : Exs) : TA := tG X.K X.mg W (Reps X.K) (evs T cl es)
variable (T cl X W) in
noncomputable abbrev tO (o : Ox) : TO := tG X.K X.mg W REq (evo T cl o)
variable (T cl X W) in
noncomputable abbrev tC' (o : Ox) : TT := tG X.K X.mg W REq (evc T cl o)

theorem tG.seq {α β γ δ : Type} {K : PySem.W.Frag} {mg : Str → Option Value} {W : WX} {R : Wd → α → β → Prop} {S : Wd → γ → δ → Prop} {m1 : Env → Mo α} {f : α → Mo γ} {K1 : β → Hp → Prop} {w : Wd} {ρ : Env} {σ : L2.St} {Q : δ → Hp → Prop}
    (hg : Good K w) (he : EnvR K w ρ σ) (h : EvG K mg (fun c d H => W c d σ H) S ((m1 ρ).bind f) w Q)
    (k : ∀ (w1 : Wd) (a : α) (b : β), Good K w1 → Ext w w1 → R w1 a b → EnvR K w1 ρ σ → EvG K mg (fun c d H => W c d σ H) S (f a) w1 Q → K1 b w1.H) : tG K mg W R m1 σ w.H K1 :=
  ⟨w, ρ, rfl, hg, he, EvG.mono h.bind fun b H ⟨w1, a, e, g1, x1, r, q⟩ => e ▸ k w1 a b g1 x1 r (he.mono hg x1) q⟩

theorem s_var (g : CxG T cl N k X W own sc) {i : Nat} {x : Str} {pos : Pos} (hi : N[i]? = some x) (hv : Vis sc x) (hd : (x == ("__debug__" : Str)) = false) (hc : (x == ("__classdict__" : Str)) = false) : PE X (.Name x pos) (tE T cl X W (.var i)) :=
  (pe_var (by rw [g.names]; exact hi) (by rw [g.scope]; exact hv) hd hc).impV fun σ H Q ⟨w, ρ, hH, hg, he, h⟩ => by
    subst hH
    have h : EvG X.K X.mg _ (Rep X.K) (ofO (ρ[i]?.join)) w Q := h
    obtain ⟨d, e, q⟩ := h.ofO
    have e1 : ρ[i]? = some (some d) := by
      cases z : ρ[i]? with
      | none => rw [z] at e; cases e
      | some o => rw [z] at e; exact congrArg some e
    obtain ⟨v, h1, h2⟩ := he.get i d e1
    exact ⟨v, h1, q w v hg (Ext.refl w) rfl h2⟩
theorem s_c {x : Expr} {d : D} {v : V} (hp : PE X x (tC v)) (r : ∀ w : Wd, Rep X.K w d v) : PE X x (tE T cl X W (.lit d)) :=
  hp.impV fun σ H Q ⟨w, ρ, hH, hg, he, h⟩ => by
    subst hH
    exact EvG.ok (a := d) (b := v) h hg (r w)
theorem s_glob (g : CxG T cl N k X W own sc) {f : Nat} {x : Str} {pos : Pos} (hx : T.nm f = x) (hv : sc.names.lookup x = some .globalImplicit) (hd : (x == ("__debug__" : Str)) = false) : PE X (.Name x pos) (tE T cl X W (.glob f)) := by
  cases hf : T.gv f with
  | none =>
    refine ⟨fun pins s σ H Q I ⟨w, ρ, hH, hg, he, h⟩ => ?_⟩
    have h : EvG X.K X.mg _ (Rep X.K) (ofO (T.gv f)) w Q := h
    rw [hf] at h
    exact h.elim
  | some d =>
    obtain ⟨u, v, h1, h2, h3⟩ := g.lib.gv f d hf
    refine (pe_glob (show X.env.scope.names.lookup x = _ by rw [g.scope]; exact hv) (by rw [← hx]; exact h1) h2 hd).impV fun σ H Q ⟨w, ρ, hH, hg, he, h⟩ => ?_
    subst hH
    have h : EvG X.K X.mg _ (Rep X.K) (ofO (T.gv f)) w Q := h
    obtain ⟨d', e, q⟩ := h.ofO
    rw [hf] at e; cases e
    exact q w v hg (Ext.refl w) rfl (h3 w)
theorem s_bin {o : Bop} {a b : Ex} {l r : Expr} {pos : Pos} (ha : PE X l (tE T cl X W a)) (hb : PE X r (tE T cl X W b)) : PE X (.BinOp l o.op r pos) (tE T cl X W (.bin o a b)) :=
  (pe_op (bop_ok o) ha hb).impV fun σ H Q ⟨w, ρ, hH, hg, he, h⟩ => by
    subst hH
    exact tG.seq (m1 := ev T cl a) (f := fun x => (ev T cl b ρ).bind fun y => ofO (binop o x y)) hg he h fun w1 x v g1 x1 r1 e1 q1 =>
      tG.seq (m1 := ev T cl b) (f := fun y => ofO (binop o x y)) g1 e1 q1 fun w2 y u g2 x2 r2 e2 q2 => ⟨w2, x, y, rfl, g2, r1.mono g1 x2, r2, q2.ofO⟩
theorem s_neg {a : Ex} {l : Expr} {pos : Pos} (ha : PE X l (tE T cl X W a)) : PE X (.UnaryOp .USub l pos) (tE T cl X W (.neg a)) :=
  (pe_un un_neg ha).impV fun σ H Q ⟨w, ρ, hH, hg, he, h⟩ => by
    subst hH
    exact tG.seq (m1 := ev T cl a) (f := fun x => match x with
      | .int i => fun M => .ok (D.int (-i)) M
      | _ => (bad : Mo D)) hg he h fun w1 x v g1 x1 r1 e1 q1 => by
        cases x <;> first | exact q1.elim | skip
        rename_i i
        cases r1
        exact ⟨_, rfl, EvG.ok (K := X.K) (a := D.int (-i)) (b := V.int (-i)) (Q := Q) q1 g1 (.int _)⟩
theorem s_not {a : Ex} {l : Expr} {pos : Pos} (ha : PE X l (tE T cl X W a)) : PE X (.UnaryOp .Not l pos) (tE T cl X W (.nt a)) :=
  (pe_notT ha).impV fun σ H Q ⟨w, ρ, hH, hg, he, h⟩ => by
    subst hH
    exact tG.seq (m1 := ev T cl a) (f := fun x M => ofO ((tru M x).map fun b => D.bl (!b)) M) hg he h fun w1 x v g1 x1 r1 e1 q1 => by
      have q1 : EvG X.K X.mg _ (Rep X.K) (ofO ((tru w1.M x).map fun b => D.bl (!b))) w1 Q := q1
      obtain ⟨z, hz, q⟩ := q1.ofO
      obtain ⟨b, h1, h2⟩ := Option.map_eq_some_iff.mp hz
      subst h2
      exact ⟨b, tru_ok' g1 r1 h1, q w1 _ g1 (Ext.refl w1) rfl (.bl _)⟩
theorem s_conj {a b : Ex} {p q : Expr} {r : List Expr} {pos : Pos} (ha : PE X p (tE T cl X W a)) (hb : PE X (.BoolOp .And (q :: r) pos) (tE T cl X W b)) : PE X (.BoolOp .And (p :: q :: r) pos) (tE T cl X W (.conj a b)) :=
  (pe_andT ha hb).impV fun σ H Q ⟨w, ρ, hH, hg, he, h⟩ => by
    subst hH
    exact tG.seq (m1 := ev T cl a) (f := fun x M => match tru M x with
      | some true => ev T cl b ρ M
      | some false => .ok x M
      | none => .bad) hg he h fun w1 x v g1 x1 r1 e1 q1 => by
      have q1 : EvR X.K X.mg _ (Rep X.K) (match tru w1.M x with
        | some true => ev T cl b ρ w1.M
        | some false => .ok x w1.M
        | none => .bad) w1 Q := q1
      cases ht : tru w1.M x with
      | none => rw [ht] at q1; exact q1.elim
      | some t =>
        rw [ht] at q1
        cases t with
        | true => exact ⟨true, tru_ok' g1 r1 ht, ⟨w1, ρ, rfl, g1, e1, q1⟩⟩
        | false => exact ⟨false, tru_ok' g1 r1 ht, q1 w1 v g1 (Ext.refl w1) rfl r1⟩
theorem s_disj {a b : Ex} {p q : Expr} {r : List Expr} {pos : Pos} (ha : PE X p (tE T cl X W a)) (hb : PE X (.BoolOp .Or (q :: r) pos) (tE T cl X W b)) : PE X (.BoolOp .Or (p :: q :: r) pos) (tE T cl X W (.disj a b)) :=
  (pe_orT ha hb).impV fun σ H Q ⟨w, ρ, hH, hg, he, h⟩ => by
    subst hH
    exact tG.seq (m1 := ev T cl a) (f := fun x M => match tru M x with
      | some true => .ok x M
      | some false => ev T cl b ρ M
      | none => .bad) hg he h fun w1 x v g1 x1 r1 e1 q1 => by
      have q1 : EvR X.K X.mg _ (Rep X.K) (match tru w1.M x with
        | some true => .ok x w1.M
        | some false => ev T cl b ρ w1.M
        | none => .bad) w1 Q := q1
      cases ht : tru w1.M x with
      | none => rw [ht] at q1; exact q1.elim
      | some t =>
        rw [ht] at q1
        cases t with
        | true => exact ⟨true, tru_ok' g1 r1 ht, q1 w1 v g1 (Ext.refl w1) rfl r1⟩
        | false => exact ⟨false, tru_ok' g1 r1 ht, ⟨w1, ρ, rfl, g1, e1, q1⟩⟩
/-! a comparison -/
theorem s_cmp (g : CxG T cl N k X W own sc) {o : Cop} {a b : Ex} {l r : Expr} {pos : Pos} (hm : behindInMarks o.op r = false) (ha : PE X l (tE T cl X W a)) (hb : PE X r (tE T cl X W b)) : PE X (.Compare l [o.op] [r] pos) (tE T cl X W (.cmp o a b)) :=
  (pe_cmpR (cop_ok o (by have := g.room.un; omega)) ha hb hm).impV fun σ H Q ⟨w, ρ, hH, hg, he, h⟩ => by
    subst hH
    exact tG.seq (m1 := ev T cl a) (f := fun x => (ev T cl b ρ).bind fun y M => ofO ((cmpop M o x y).map D.bl) M) hg he h fun w1 x v g1 x1 r1 e1 q1 =>
      tG.seq (m1 := ev T cl b) (f := fun y M => ofO ((cmpop M o x y).map D.bl) M) g1 e1 q1 fun w2 y u g2 x2 r2 e2 q2 => by
        have q2 : EvG X.K X.mg _ (Rep X.K) (ofO ((cmpop w2.M o x y).map D.bl)) w2 Q := q2
        obtain ⟨z, hz, q⟩ := q2.ofO
        obtain ⟨c, h1, h2⟩ := Option.map_eq_some_iff.mp hz
        subst h2
        exact ⟨w2, x, y, c, rfl, g2, r1.mono g1 x2, r2, h1, q w2 _ g2 (Ext.refl w2) rfl (.bl _)⟩
theorem s_cmpT (g : CxG T cl N k X W own sc) {o : Cop} {a b : Ex} {l r : Expr} {pos : Pos} (hm : behindInMarks o.op r = false) (ha : PE X l (tE T cl X W a)) (hb : PE X r (tE T cl X W b)) : PT X (.Compare l [o.op] [r] pos) (tT T cl X W (.cmp o a b)) :=
  (pt_cmpR (cop_ok o (by have := g.room.un; omega)) ha hb hm).impV fun σ H Q ⟨w, ρ, hH, hg, he, h⟩ => by
    subst hH
    exact tG.seq (m1 := ev T cl a) (f := fun x => (ev T cl b ρ).bind fun y M => ofO (cmpop M o x y) M) hg he h fun w1 x v g1 x1 r1 e1 q1 =>
      tG.seq (m1 := ev T cl b) (f := fun y M => ofO (cmpop M o x y) M) g1 e1 q1 fun w2 y u g2 x2 r2 e2 q2 => by
        have q2 : EvG X.K X.mg _ REq (ofO (cmpop w2.M o x y)) w2 Q := q2
        obtain ⟨c, h1, q⟩ := q2.ofO
        exact ⟨w2, x, y, c, rfl, g2, r1.mono g1 x2, r2, h1, c, rfl, q w2 _ g2 (Ext.refl w2) rfl rfl⟩
theorem s_chn (g : CxG T cl N k X W own sc) {o o' : Cop} {a b c : Ex} {l r e : Expr} {pos : Pos} (hm : lastMarks [o.op, o'.op] [r, e] = false) (ha : PE X l (tE T cl X W a)) (hb : PE X r (tE T cl X W b)) (hc : PE X e (tE T cl X W c)) : PE X (.Compare l [o.op, o'.op] [r, e] pos) (tE T cl X W (.chn o o' a b c)) :=
  (pe_chain (cop_ok o (by have := g.room.un; omega)) (cop_ok o' (by have := g.room.un; omega)) ha hb hc hm).impV fun σ H Q ⟨w, ρ, hH, hg, he, h⟩ => by
    subst hH
    exact tG.seq (m1 := ev T cl a) (f := fun x => (ev T cl b ρ).bind fun y M => match cmpop M o x y with
      | some true => ((ev T cl c ρ).bind fun z M => ofO ((cmpop M o' y z).map D.bl) M) M
      | some false => .ok (D.bl false) M
      | none => .bad) hg he h fun w1 x v g1 x1 r1 e1 q1 =>
      tG.seq (m1 := ev T cl b) (f := fun y M => match cmpop M o x y with
      | some true => ((ev T cl c ρ).bind fun z M => ofO ((cmpop M o' y z).map D.bl) M) M
      | some false => .ok (D.bl false) M
      | none => .bad) g1 e1 q1 fun w2 y u g2 x2 r2 e2 q2 => by
        have q2 : EvR X.K X.mg _ (Rep X.K) (match cmpop w2.M o x y with
          | some true => ((ev T cl c ρ).bind fun z M => ofO ((cmpop M o' y z).map D.bl) M) w2.M
          | some false => .ok (D.bl false) w2.M
          | none => .bad) w2 Q := q2
        cases hk : cmpop w2.M o x y with
        | none => rw [hk] at q2; exact q2.elim
        | some t =>
          rw [hk] at q2
          refine ⟨w2, x, y, t, rfl, g2, r1.mono g1 x2, r2, hk, t, rfl, ?_⟩
          cases t with
          | true =>
            show tE T cl X W c σ w2.H _
            exact tG.seq (m1 := ev T cl c) (f := fun z M => ofO ((cmpop M o' y z).map D.bl) M) g2 e2 q2 fun w3 z v' g3 x3 r3 e3 q3 => by
              have q3 : EvG X.K X.mg _ (Rep X.K) (ofO ((cmpop w3.M o' y z).map D.bl)) w3 Q := q3
              obtain ⟨z', hz, q⟩ := q3.ofO
              obtain ⟨c', h1, h2⟩ := Option.map_eq_some_iff.mp hz
              subst h2
              exact ⟨w3, y, z, c', rfl, g3, r2.mono g2 x3, r3, h1, q w3 _ g3 (Ext.refl w3) rfl (.bl _)⟩
          | false =>
            show Q (.bl false) w2.H
            exact q2 w2 _ g2 (Ext.refl w2) rfl (.bl _)
theorem s_chnT (g : CxG T cl N k X W own sc) {o o' : Cop} {a b c : Ex} {l r e : Expr} {pos : Pos} (hm : lastMarks [o.op, o'.op] [r, e] = false) (ha : PE X l (tE T cl X W a)) (hb : PE X r (tE T cl X W b)) (hc : PE X e (tE T cl X W c)) : PT X (.Compare l [o.op, o'.op] [r, e] pos) (tT T cl X W (.chn o o' a b c)) :=
  (pt_chain (cop_ok o (by have := g.room.un; omega)) (cop_ok o' (by have := g.room.un; omega)) ha hb hc hm).impV fun σ H Q ⟨w, ρ, hH, hg, he, h⟩ => by
    subst hH
    exact tG.seq (m1 := ev T cl a) (f := fun x => (ev T cl b ρ).bind fun y M => match cmpop M o x y with
      | some true => ((ev T cl c ρ).bind fun z M => ofO (cmpop M o' y z) M) M
      | some false => .ok false M
      | none => .bad) hg he h fun w1 x v g1 x1 r1 e1 q1 =>
      tG.seq (m1 := ev T cl b) (f := fun y M => match cmpop M o x y with
      | some true => ((ev T cl c ρ).bind fun z M => ofO (cmpop M o' y z) M) M
      | some false => .ok false M
      | none => .bad) g1 e1 q1 fun w2 y u g2 x2 r2 e2 q2 => by
        have q2 : EvR X.K X.mg _ REq (match cmpop w2.M o x y with
          | some true => ((ev T cl c ρ).bind fun z M => ofO (cmpop M o' y z) M) w2.M
          | some false => .ok false w2.M
          | none => .bad) w2 Q := q2
        cases hk : cmpop w2.M o x y with
        | none => rw [hk] at q2; exact q2.elim
        | some t =>
          rw [hk] at q2
          refine ⟨w2, x, y, t, rfl, g2, r1.mono g1 x2, r2, hk, t, rfl, ?_⟩
          cases t with
          | true =>
            show tE T cl X W c σ w2.H _
            exact tG.seq (m1 := ev T cl c) (f := fun z M => ofO (cmpop M o' y z) M) g2 e2 q2 fun w3 z v' g3 x3 r3 e3 q3 => by
              have q3 : EvG X.K X.mg _ REq (ofO (cmpop w3.M o' y z)) w3 Q := q3
              obtain ⟨c', h1, q⟩ := q3.ofO
              exact ⟨w3, y, z, c', rfl, g3, r2.mono g2 x3, r3, h1, c', rfl, q w3 _ g3 (Ext.refl w3) rfl rfl⟩
          | false => exact ⟨false, rfl, q2 w2 _ g2 (Ext.refl w2) rfl rfl⟩
theorem s_ite {c a b : Ex} {e l r : Expr} {pos : Pos} (hc : PT X e (tT T cl X W c)) (ha : PE X l (tE T cl X W a)) (hb : PE X r (tE T cl X W b)) : PE X (.IfExp e l r pos) (tE T cl X W (.ite c a b)) :=
  (pe_ifExp hc ha hb).impV fun σ H Q ⟨w, ρ, hH, hg, he, h⟩ => by
    subst hH
    exact tG.seq (m1 := evt T cl c) (f := fun k => if k then ev T cl a ρ else ev T cl b ρ) hg he h fun w1 x v g1 x1 r1 e1 q1 => by
      cases (show x = v from r1)
      cases x with
      | true => exact ⟨w1, ρ, rfl, g1, e1, q1⟩
      | false => exact ⟨w1, ρ, rfl, g1, e1, q1⟩
/-! tests -/
theorem s_conjW {a b : Ex} {p q : Expr} {r : List Expr} {pos : Pos} (ha : PT X p (tT T cl X W a)) (hb : PW X (.BoolOp .And (q :: r) pos) (tT T cl X W b)) : PW X (.BoolOp .And (p :: q :: r) pos) (tT T cl X W (.conj a b)) :=
  (pw_and ha hb).impV fun σ H Q ⟨w, ρ, hH, hg, he, h⟩ => by
    subst hH
    exact tG.seq (m1 := evt T cl a) (f := fun k => if k then evt T cl b ρ else fun M => .ok false M) hg he h fun w1 x v g1 x1 r1 e1 q1 => by
      cases (show x = v from r1)
      cases x with
      | true => exact ⟨w1, ρ, rfl, g1, e1, q1⟩
      | false => exact EvG.ok (a := false) (b := false) q1 g1 rfl
theorem s_disjW {a b : Ex} {p q : Expr} {r : List Expr} {pos : Pos} (ha : PT X p (tT T cl X W a)) (hb : PW X (.BoolOp .Or (q :: r) pos) (tT T cl X W b)) : PW X (.BoolOp .Or (p :: q :: r) pos) (tT T cl X W (.disj a b)) :=
  (pw_or ha hb).impV fun σ H Q ⟨w, ρ, hH, hg, he, h⟩ => by
    subst hH
    exact tG.seq (m1 := evt T cl a) (f := fun k => if k then fun M => .ok true M else evt T cl b ρ) hg he h fun w1 x v g1 x1 r1 e1 q1 => by
      cases (show x = v from r1)
      cases x with
      | true => exact EvG.ok (a := true) (b := true) q1 g1 rfl
      | false => exact ⟨w1, ρ, rfl, g1, e1, q1⟩
theorem s_notT {a : Ex} {l : Expr} {pos : Pos} (ha : PT X l (tT T cl X W a)) : PT X (.UnaryOp .Not l pos) (tT T cl X W (.nt a)) :=
  (pt_not ha).impV fun σ H Q ⟨w, ρ, hH, hg, he, h⟩ => by
    subst hH
    exact tG.seq (m1 := evt T cl a) (f := fun k => fun M => .ok (!k) M) hg he h fun w1 x v g1 x1 r1 e1 q1 => by
      cases (show x = v from r1)
      exact EvG.ok (a := !x) (b := !x) q1 g1 rfl
/-- a test that is a value's truth -/
theorem s_tru {a : Ex} {x : Expr} (ha : PE X x (tE T cl X W a)) (he : ∀ whole, isTrue x X.env whole = (do let v ← whole; standAt x.pos; holding [v] (truthy v)))
    (hv : ∀ ρ, evt T cl a ρ = (ev T cl a ρ).bind fun z M => ofO (tru M z) M) : PT X x (tT T cl X W a) :=
  (pt_truth ha he).impV fun σ H Q ⟨w, ρ, hH, hg, hr, h⟩ => by
    subst hH
    rw [hv] at h
    exact tG.seq (m1 := ev T cl a) (f := fun z M => ofO (tru M z) M) hg hr h fun w1 z v g1 x1 r1 e1 q1 => by
      have q1 : EvG X.K X.mg _ REq (ofO (tru w1.M z)) w1 Q := q1
      obtain ⟨b, h1, q⟩ := q1.ofO
      exact ⟨b, tru_ok' g1 r1 h1, q w1 _ g1 (Ext.refl w1) rfl rfl⟩
/-! displays, items, slices -/
theorem s_nil : PA X [] (tA T cl X W .nil) := pa_nil.impV fun σ H Q ⟨w, ρ, hH, hg, hr, h⟩ => by
  subst hH
  exact EvG.ok (a := ([] : List D)) (b := ([] : List V)) h hg .nil
theorem s_cons {e : Ex} {es : Exs} {x : Expr} {xs : List Expr} (ha : PE X x (tE T cl X W e)) (hr : PA X xs (tA T cl X W es)) (hs : starEach (x :: xs) X.env = (false, eval x X.env) :: starEach xs X.env) : PA X (x :: xs) (tA T cl X W (.cons e es)) :=
  (pa_cons ha hr hs).impV fun σ H Q ⟨w, ρ, hH, hg, hr, h⟩ => by
    subst hH
    exact tG.seq (m1 := ev T cl e) (f := fun d => (evs T cl es ρ).bind fun ds => fun M => .ok (d :: ds) M) hg hr h fun w1 z v g1 x1 r1 e1 q1 =>
      tG.seq (m1 := evs T cl es) (f := fun ds => fun M => .ok (z :: ds) M) g1 e1 q1 fun w2 zs vs g2 x2 r2 e2 q2 =>
        EvG.ok (a := z :: zs) (b := v :: vs) q2 g2 (.cons (r1.mono g1 x2) r2)
theorem s_tup {es : Exs} {xs : List Expr} {n : Nat} {pos : Pos} (ha : PA X xs (tA T cl X W es)) : PE X (.Tuple xs n pos) (tE T cl X W (.tup es)) :=
  (pe_tup ha).impV fun σ H Q ⟨w, ρ, hH, hg, hr, h⟩ => by
    subst hH
    exact tG.seq (m1 := evs T cl es) (f := fun ds => if ds.length ≤ sizeLine then fun M => .ok (D.tup ds) M else bad) hg hr h fun w1 ds vs g1 x1 r1 e1 q1 => by
      have q1 : EvG X.K X.mg _ (Rep X.K) (if ds.length ≤ sizeLine then fun M => .ok (D.tup ds) M else bad) w1 Q := q1
      by_cases c : ds.length ≤ sizeLine
      · rw [if_pos c] at q1
        exact ⟨by rw [← r1.length]; exact c, fun p hp => EvG.okE q1 (ext_put hp) (good_put g1 hp) rfl (rep_tup g1 hp r1)⟩
      · rw [if_neg c] at q1
        exact q1.elim
theorem s_lst {m : Bool} {es : Exs} {xs : List Expr} {pos : Pos} (ha : PA X xs (tA T cl X W es)) : PE X (.List xs pos) (tE T cl X W (.lst m es)) :=
  (pe_lst ha).impV fun σ H Q ⟨w, ρ, hH, hg, hr, h⟩ => by
    subst hH
    exact tG.seq (m1 := evs T cl es) (f := fun ds => if ds.length ≤ sizeLine then (if m then fun M => .ok (D.loc M.length) (M ++ [.lst ds]) else fun M => .ok (D.lst ds) M) else bad) hg hr h fun w1 ds vs g1 x1 r1 e1 q1 => by
      have q1 : EvG X.K X.mg _ (Rep X.K) (if ds.length ≤ sizeLine then (if m then fun M => .ok (D.loc M.length) (M ++ [.lst ds]) else fun M => .ok (D.lst ds) M) else bad) w1 Q := q1
      by_cases c : ds.length ≤ sizeLine
      · rw [if_pos c] at q1
        refine ⟨by rw [← r1.length]; exact c, fun p hp => ?_⟩
        cases m with
        | false => exact EvG.okE (a := D.lst ds) q1 (ext_put hp) (good_put g1 hp) rfl (rep_lst g1 hp r1)
        | true =>
          have q1 : EvR X.K X.mg _ (Rep X.K) (.ok (D.loc w1.M.length) (w1.M ++ [.lst ds])) w1 Q := q1
          have x := ext_alloc (ob := .lst ds) (o := .lst vs) g1 hp
          exact q1 (w1.alloc p (.lst ds) (.lst vs)) _ (good_alloc g1 hp (g1.notZ hp) fun _ => .lst upd_same (r1.mono g1 x)) x rfl (rep_loc g1)
      · rw [if_neg c] at q1
        exact q1.elim
theorem s_ix (g : CxG T cl N k X W own sc) {a b : Ex} {l r : Expr} {pos : Pos} (ha : PE X l (tE T cl X W a)) (hb : PE X r (tE T cl X W b)) (hs : PlainIx r) : PE X (.Subscript l r pos) (tE T cl X W (.idx a b)) :=
  (pe_ix (idx_ok (by have := g.room.un; omega)) ha hb hs).impV fun σ H Q ⟨w, ρ, hH, hg, he, h⟩ => by
    subst hH
    exact tG.seq (m1 := ev T cl a) (f := fun x => (ev T cl b ρ).bind fun y M => ofO (idx M x y) M) hg he h fun w1 x v g1 x1 r1 e1 q1 =>
      tG.seq (m1 := ev T cl b) (f := fun y M => ofO (idx M x y) M) g1 e1 q1 fun w2 y u g2 x2 r2 e2 q2 => by
        have q2 : EvG X.K X.mg _ (Rep X.K) (ofO (idx w2.M x y)) w2 Q := q2
        obtain ⟨z, hz, q⟩ := q2.ofO
        exact ⟨w2, x, y, z, rfl, g2, r1.mono g1 x2, r2, hz, fun v rv => q w2 _ g2 (Ext.refl w2) rfl rv⟩
theorem s_onon : PO X none (tO T cl X W .non) := po_none.impV fun σ H Q ⟨w, ρ, hH, hg, hr, h⟩ => by
  subst hH
  exact EvG.ok (a := (none : Option Int)) (b := none) h hg rfl
theorem s_osom {a : Ex} {x : Expr} (ha : PE X x (tE T cl X W a)) : PO X (some x) (tO T cl X W (.som a)) := (po_some ha).impV fun σ H Q ⟨w, ρ, hH, hg, he, h⟩ => by
  subst hH
  exact tG.seq (m1 := ev T cl a) (f := fun x => match x with
    | .int i => fun M => .ok (some i) M
    | _ => (bad : Mo (Option Int))) hg he h fun w1 x v g1 x1 r1 e1 q1 => by
      cases x <;> first | exact q1.elim | skip
      rename_i i
      cases r1
      exact ⟨_, rfl, EvG.ok (K := X.K) (a := some i) (b := some i) (Q := Q) q1 g1 rfl⟩
theorem s_slc {a : Ex} {lo hi : Ox} {x : Expr} {l u : Option Expr} {p2 pos : Pos} (ha : PE X x (tE T cl X W a)) (hl : PO X l (tO T cl X W lo)) (hu : PO X u (tO T cl X W hi)) : PE X (.Subscript x (.Slice l u none p2) pos) (tE T cl X W (.slc a lo hi)) :=
  (pe_slice slc_ok ha hl hu).impV fun σ H Q ⟨w, ρ, hH, hg, he, h⟩ => by
    subst hH
    exact tG.seq (m1 := ev T cl a) (f := fun x => (evo T cl lo ρ).bind fun l => (evo T cl hi ρ).bind fun h => fun M => ofO (slc M x l h) M) hg he h fun w1 x v g1 x1 r1 e1 q1 =>
      tG.seq (m1 := evo T cl lo) (f := fun l => (evo T cl hi ρ).bind fun h => fun M => ofO (slc M x l h) M) g1 e1 q1 fun w2 l l' g2 x2 r2 e2 q2 =>
        tG.seq (m1 := evo T cl hi) (f := fun h => fun M => ofO (slc M x l h) M) g2 e2 q2 fun w3 u u' g3 x3 r3 e3 q3 => by
          cases (show l = l' from r2)
          cases (show u = u' from r3)
          have q3 : EvG X.K X.mg _ (Rep X.K) (ofO (slc w3.M x l u)) w3 Q := q3
          exact ⟨w3, x, rfl, g3, (r1.mono g1 x2).mono g2 x3, q3.ofO⟩
end
end Iv
end

section
set_option Elab.async false
set_option linter.all false
set_option maxHeartbeats 1000000
/-! IvIter: what is walked. -/
namespace Iv
open PySem PySem.Spec PyProof.Rows L2

/-! ### zip of two, each a list or a tuple -/
/-- k: a list, else a tuple -/
def SqK (K : PySem.W.Frag) (k : Bool) (H : Hp) (a : Addr) (xs : List V) : Prop := if k then SqL K H a xs else SqT K H a xs
def ItK (k : Bool) (h : Heap) (it a : Addr) (i : Nat) : Prop := if k then h.IsListIter it a i else h.IsTupleIter it a i
def SeK (k : Bool) (h : Heap) (a : Addr) (its : Array Value) : Prop := if k then h.IsList a its else h.IsTuple a its
theorem SqK.at {X : Cx} {pins : List (Addr × Obj)} {σ : L2.St} {H : Hp} {s : Shared} {k : Bool} {a : Addr} {xs : List V} (I : Inv X pins σ H s) (h : SqK X.K k H a xs) : ∃ its : List Value, Vals xs its ∧ SeK k s.heap a its.toArray ∧ a < s.heap.objs.size := by
  cases k with
  | true =>
    obtain ⟨its, rv, p, _⟩ := I.list (show SqL X.K H a xs from h)
    exact ⟨its, rv, p.isList, p.lt⟩
  | false =>
    obtain ⟨its, rv, p, _⟩ := I.tuple (show SqT X.K H a xs from h)
    obtain ⟨o, ho, _⟩ := id p
    exact ⟨its, rv, p, Heap.lt_size ho⟩
theorem SqK.inj {X : Cx} {pins : List (Addr × Obj)} {σ : L2.St} {H : Hp} {s : Shared} {k : Bool} {a : Addr} {xs ys : List V} (I : Inv X pins σ H s) (h : SqK X.K k H a xs) (h' : SqK X.K k H a ys) : xs = ys := by
  cases k with
  | true => exact I.list_inj (show SqL X.K H a xs from h) h'
  | false => exact I.tuple_inj (show SqT X.K H a xs from h) h'
def drawsK {prog : Program} {w : World} {A : Around} (k : Bool) (hh : A.handled = none) (it a : Addr) (hne : a ≠ it) (items : Array Value) :
    Draws prog w A it [it, a] items.size (fun i v => items[i]? = some v) (fun i h => ItK k h it a i ∧ SeK k h a items) := by
  cases k with
  | true => exact Draws.list hh it a hne items
  | false => exact Draws.tuple hh it a hne items
def begO (k : Bool) (a : Addr) : Obj := if k then { cls := .type "list_iterator", data := .fields #[.ref a, .int 0 0] } else { cls := .type "tuple_iterator", data := .fields #[.ref a, .int 0 0] }
theorem begK (k : Bool) (a : Addr) (items : Array Value) : Begins (.ref a) (begO k a) fun h => SeK k h a items := by
  cases k with
  | true => exact begins_list a items
  | false => exact begins_tuple a items
theorem ItK.new {k : Bool} {h : Heap} {it a : Addr} (e : h.get? it = some (begO k a)) : ItK k h it a 0 := by
  cases k with
  | true => exact ⟨_, e, rfl, rfl⟩
  | false => exact ⟨_, e, rfl, rfl⟩
theorem ItK.obj {k : Bool} {h : Heap} {it a : Addr} {i : Nat} (e : ItK k h it a i) : ∃ o, h.get? it = some o ∧ ∀ v, o.data ≠ .cell v := by
  cases k with
  | true =>
    obtain ⟨o, h1, _, h2⟩ := (show h.IsListIter it a i from e)
    exact ⟨o, h1, fun v q => by rw [h2] at q; cases q⟩
  | false =>
    obtain ⟨o, h1, _, h2⟩ := (show h.IsTupleIter it a i from e)
    exact ⟨o, h1, fun v q => by rw [h2] at q; cases q⟩
theorem ItK.at {k : Bool} {h h' : Heap} {it a : Addr} {i : Nat} (e : ItK k h it a i) (f : ∀ o, h.get? it = some o → h'.get? it = some o) : ItK k h' it a i := by
  cases k with
  | true => exact Heap.IsListIter.at (show h.IsListIter it a i from e) f
  | false => exact Heap.IsTupleIter.at (show h.IsTupleIter it a i from e) f
/-- pairs of the items -/
def Iz2 (K : PySem.W.Frag) (k1 k2 : Bool) (a b : Addr) : L2.It :=
  ⟨fun i H => ∃ (xs ys : List V), SqK K k1 H a xs ∧ SqK K k2 H b ys ∧ i < min xs.length ys.length,
    fun i H v H' => ∃ (L : Addr) (x y : V), v = .ref L ∧ H L = none ∧ H' = upd H L (.tup [x, y]) ∧ (∀ xs, SqK K k1 H a xs → xs[i]? = some x) ∧ ∀ ys, SqK K k2 H b ys → ys[i]? = some y,
    fun i H => ∃ xs ys : List V, SqK K k1 H a xs ∧ SqK K k2 H b ys ∧ i = min xs.length ys.length⟩
def TnZ (k1 k2 : Bool) (a b z u v i1 i2 : Addr) (i : Nat) (h : Heap) : Prop := IsZip h z u v .none ∧ IsTupOf2 h u (.ref i1) (.ref i2) ∧ (∃ x y, IsTupOf2 h v x y) ∧ ItK k1 h i1 a i ∧ ItK k2 h i2 b i
theorem sep_zv {z u v i1 i2 a b : Addr} (S : ZipSep2 z u v i1 i2 [i1, a] [i2, b]) : ∀ c ∈ [z, v, i1, i2], c ∈ [z, u, v, i1, i2] := fun c hc => by
  simp only [List.mem_cons, List.not_mem_nil, or_false] at hc ⊢
  rcases hc with q | q | q | q
  · exact .inl q
  · exact .inr (.inr (.inl q))
  · exact .inr (.inr (.inr (.inl q)))
  · exact .inr (.inr (.inr (.inr q)))
theorem turn_z2 {P : Program} {w : World} {K : PySem.W.Frag} {elts : List Expr} {n : Nat} {tpos : Pos} {k1 k2 : Bool} {a b z u v i1 i2 : Addr} (S : ZipSep2 z u v i1 i2 [i1, a] [i2, b]) (ha : a ≠ i1) (hb : b ≠ i2) :
    Turn P w K (.Tuple elts n tpos) (Iz2 K k1 k2 a b) [z, u, v, i1, i2] z (TnZ k1 k2 a b z u v i1 i2) where
  mem := List.mem_cons_self
  obj := fun i h st c hc => by
    obtain ⟨hz, hu, ⟨x, y, hv⟩, h1, h2⟩ := st
    simp only [List.mem_cons, List.not_mem_nil, or_false] at hc
    rcases hc with q | q | q | q | q
    · subst q; exact ⟨_, hz, fun _ e => nomatch e⟩
    · subst q; exact ⟨_, hu, fun _ e => nomatch e⟩
    · subst q; exact ⟨_, hv, fun _ e => nomatch e⟩
    · rw [q]; exact h1.obj
    · rw [q]; exact h2.obj
  keep := fun i h h' st k => by
    obtain ⟨hz, hu, ⟨x, y, hv⟩, h1, h2⟩ := st
    have m : ∀ c, c ∈ [z, u, v, i1, i2] → ∀ o, h.get? c = some o → h'.get? c = some o := k
    exact ⟨m z (by simp) _ hz, m u (by simp) _ hu, ⟨x, y, m v (by simp) _ hv⟩, h1.at (m i1 (by simp)), h2.at (m i2 (by simp))⟩
  item := by
    intro X hP hw hK hc i pins s σ H E I hf st hg
    subst hP hw hK
    obtain ⟨xs, ys, q1, q2, hlt⟩ := hg
    obtain ⟨its, rv, p, l1⟩ := q1.at I
    obtain ⟨jts, rw', p2, l2⟩ := q2.at I
    obtain ⟨hz, hu, hv, h1, h2⟩ := st
    have hh : X.A.in1.handled = none := I.ok.hd hc
    have G := GoesN.zip2 (elts := elts) (x1 := n) (pos := tpos) S (drawsK (prog := X.prog) (w := X.w) k1 hh i1 a ha its.toArray) (drawsK (prog := X.prog) (w := X.w) k2 hh i2 b hb jts.toArray)
    have lt : i < min its.toArray.size jts.toArray.size := by
      rw [List.size_toArray, List.size_toArray, ← rv.length, ← rw'.length]; exact hlt
    refine G.goes i s _ E lt ⟨hz, hu, hv, ⟨h1, p⟩, ⟨h2, p2⟩⟩ fun val h' tk hY st' hk htk => ?_
    obtain ⟨L, x, y, e, hnew, hx, hy, hT⟩ := hY
    obtain ⟨xv, ex⟩ : ∃ xv, xs[i]? = some xv := ⟨_, List.getElem?_eq_getElem (by omega)⟩
    obtain ⟨yv, ey⟩ : ∃ yv, ys[i]? = some yv := ⟨_, List.getElem?_eq_getElem (by omega)⟩
    obtain ⟨x', hx', rx⟩ := rv.get ex
    obtain ⟨y', hy', ry⟩ := rw'.get ey
    have e1 : x' = x := by
      have z : its.toArray[i]? = some x := hx
      rw [List.getElem?_toArray] at z
      rw [z] at hx'
      exact (Option.some.inj hx').symm
    have e2 : y' = y := by
      have z : jts.toArray[i]? = some y := hy
      rw [List.getElem?_toArray] at z
      rw [z] at hy'
      exact (Option.some.inj hy').symm
    subst e e1 e2
    have new : ObjOk X.prog X.w (upd H L (.tup [xv, yv])) h' L (.tup [xv, yv]) := ⟨by show 2 ≤ sizeLine; decide, [x', y'], .cons rx (.cons ry .nil), hT⟩
    have sub : ∀ c, c ∉ [z, u, v, i1, i2] → c ∉ [z, v, i1, i2] := fun c hn hm => hn (sep_zv S c hm)
    have I1 : Inv X pins σ (upd H L (.tup [xv, yv])) { s with heap := h', toks := tk } := I.turnedNew (ch := [z, u, v, i1, i2]) (fun c o hn q => hk c o (sub c hn) q) hf hnew new
    refine ⟨.ref L, _, I1, rfl, ⟨L, xv, yv, rfl, I.hok.fresh hnew, rfl, fun l hl => by rw [SqK.inj I hl q1]; exact ex, fun l hl => by rw [SqK.inj I hl q2]; exact ey⟩, ⟨st'.1, st'.2.1, st'.2.2.1, st'.2.2.2.1.1, st'.2.2.2.2.1⟩, fun c hcm => ?_⟩
    have hlt : c < s.heap.objs.size := by
      simp only [List.mem_cons, List.not_mem_nil, or_false] at hcm
      rcases hcm with q | q | q | q | q
      · rw [q]; exact Heap.lt_size hz
      · rw [q]; exact Heap.lt_size hu
      · obtain ⟨_, _, hv⟩ := hv
        rw [q]; exact Heap.lt_size hv
      · obtain ⟨_, e, _⟩ := h1.obj
        rw [q]; exact Heap.lt_size e
      · obtain ⟨_, e, _⟩ := h2.obj
        rw [q]; exact Heap.lt_size e
    rw [upd_ne (Nat.ne_of_lt (Nat.lt_of_lt_of_le hlt hnew))]
    exact (hf c hcm).1
  done := by
    intro X hP hw hK hc i pins s σ H E I hf st hg
    subst hP hw hK
    obtain ⟨xs, ys, q1, q2, hlt⟩ := hg
    obtain ⟨its, rv, p, l1⟩ := q1.at I
    obtain ⟨jts, rw', p2, l2⟩ := q2.at I
    obtain ⟨hz, hu, hv, h1, h2⟩ := st
    have hh : X.A.in1.handled = none := I.ok.hd hc
    have G := GoesN.zip2 (elts := elts) (x1 := n) (pos := tpos) S (drawsK (prog := X.prog) (w := X.w) k1 hh i1 a ha its.toArray) (drawsK (prog := X.prog) (w := X.w) k2 hh i2 b hb jts.toArray)
    have lt : i = min its.toArray.size jts.toArray.size := by
      rw [List.size_toArray, List.size_toArray, ← rv.length, ← rw'.length]; exact hlt
    subst lt
    have sub : ∀ c, c ∉ [z, u, v, i1, i2] → c ∉ [z, v, i1, i2] := fun c hn hm => hn (sep_zv S c hm)
    exact G.stops s _ E ⟨hz, hu, hv, ⟨h1, p⟩, ⟨h2, p2⟩⟩ fun h' tk hk htk => I.turnedL (t' := tk) (ch := [z, u, v, i1, i2]) (fun c o hn q => hk c o (sub c hn) q) hf
  self := fun A i s Q E st h => wpAny_pyIter_zip st.1 h
def iZ2 (K : PySem.W.Frag) (ta : TA) : TI := fun σ H R => ta σ H fun vs H1 => ∃ (a b : Addr) (k1 k2 : Bool) (xs ys : List V), vs = [.ref a, .ref b] ∧ SqK K k1 H1 a xs ∧ SqK K k2 H1 b ys ∧ R (Iz2 K k1 k2 a b) H1
theorem pi_z2 {X : Cx} {e e2 : Expr} {ta : TA} {p pos tpos : Pos} {elts : List Expr} {n : Nat} (hg : Gl X "zip") (hm : X.mg "zip" = none) (ha : PA X [e, e2] ta)
    (hs : starEach [e, e2] X.env = (false, eval e X.env) :: starEach [e2] X.env) (hpl : (backTo pos (starEach [e2] X.env)).any (·.1) = false) :
    PI X (.Tuple elts n tpos) (.Call (.Name "zip" p) [e, e2] [] pos) (iZ2 X.K ta) := by
  refine ⟨fun pins s σ H R I h => ?_⟩
  refine Call_ (ld_blt I hg hm PyProof.Rows.boot_zip (PyProof.Rows.callWith_type1 (thn (ha.run pos pins s σ H _ I h) fun us s1 ⟨vs, H1, I1, r1, q1⟩ => ?_) hs hpl))
  obtain ⟨a, b, k1, k2, xs, ys, ex, s1q, s2q, q⟩ := q1
  subst ex
  obtain ⟨u1, u2, rfl, ra, rb⟩ := Vals.two r1
  cases (show u1 = Value.ref a from ra)
  cases (show u2 = Value.ref b from rb)
  obtain ⟨its, rv, p1, l1⟩ := s1q.at I1
  obtain ⟨jts, rw', p2, l2⟩ := s2q.at I1
  refine zip_begins2 (begK k1 a its.toArray) (begK k2 b jts.toArray) p1 p2 fun h' hz hTI hTO h1 h2 hsz hk => wpAny_pyIter_zip hz ?_
  have I2 : Inv X pins σ H1 { s1 with heap := h' } := I1.kept (t' := s1.toks) hk
  have S : ZipSep2 (s1.heap.objs.size + 4) (s1.heap.objs.size + 2) (s1.heap.objs.size + 3) s1.heap.objs.size (s1.heap.objs.size + 1) [s1.heap.objs.size, a] [s1.heap.objs.size + 1, b] :=
    zip_sep2 (fp1 := [a]) (fp2 := [b]) (fun c hc => by rw [List.mem_singleton.mp hc]; exact l1) (fun c hc => by rw [List.mem_singleton.mp hc]; exact l2)
  refine ⟨s1.heap.objs.size + 4, [s1.heap.objs.size + 4, s1.heap.objs.size + 2, s1.heap.objs.size + 3, s1.heap.objs.size, s1.heap.objs.size + 1], _, _, H1, rfl, I2,
    turn_z2 S (Nat.ne_of_lt l1) (Nat.ne_of_lt (Nat.lt_succ_of_lt l2)), ⟨hz, hTI, ⟨_, _, hTO⟩, ItK.new h1, ItK.new h2⟩, fun c hcm => ?_, q⟩
  have hle : s1.heap.objs.size ≤ c := by
    simp only [List.mem_cons, List.not_mem_nil, or_false] at hcm
    rcases hcm with z | z | z | z | z <;> (rw [z]; first | exact Nat.le_refl _ | exact Nat.le_add_right _ _)
  exact I1.fpOk hle (I1.hok.fresh hle)

/-! ### a list or a tuple -/
def JtK (K : PySem.W.Frag) (k : Bool) (a : Addr) : L2.It := if k then Itl K a else Itt K a
def iSq (K : PySem.W.Frag) (tl : TE) : TI := fun σ H R => tl σ H fun x H1 => ∃ (a : Addr) (k : Bool) (xs : List V), x = .ref a ∧ SqK K k H1 a xs ∧ R (JtK K k a) H1
theorem pi_sq {X : Cx} {tg l : Expr} {tl : TE} (hl : PE X l tl) : PI X tg l (iSq X.K tl) := by
  refine ⟨fun pins s σ H R I h => thn (hl.run pins s σ H _ I h) fun v s1 hv => ?_⟩
  obtain ⟨x, H1, I1, r1, a, k, xs, e, sq, q⟩ := hv
  subst e
  cases (show v = Value.ref a from r1)
  obtain ⟨its, rv, p, lt⟩ := sq.at I1
  have fin : ∀ {o : Obj}, o.isFreed = false → ∀ (tn : Nat → Heap → Prop) (J : L2.It), Turn X.prog X.w X.K tg J [s1.heap.objs.size] s1.heap.objs.size tn → tn 0 (s1.heap.push o) → R J H1 → PIE X pins σ tg R (.ref s1.heap.objs.size) { s1 with heap := s1.heap.push o } := fun {o} hf tn J T t0 qr =>
    ⟨s1.heap.objs.size, [s1.heap.objs.size], tn, J, H1, rfl, I1.kept (t' := s1.toks) fun b o e => Heap.get?_push_of_some _ e, T, t0, fun c hc => by rw [List.mem_singleton.mp hc]; exact I1.fpOk (Nat.le_refl _) (I1.hok.fresh (Nat.le_refl _)), qr⟩
  cases k with
  | true => exact wpAny_pyIter_list p (fin rfl _ _ (turn_list a _) ⟨_, Heap.get?_push_size _ rfl, rfl, rfl⟩ q)
  | false => exact wpAny_pyIter_tuple p (fin rfl _ _ (turn_tuple a _) ⟨_, Heap.get?_push_size _ rfl, rfl, rfl⟩ q)

/-! ### what an iterator is to the reading -/
/-- what stays of a world while a loop runs -/
structure Up (K : PySem.W.Frag) (w0 w : Wd) : Prop where
  good : Good K w
  rep : ∀ (d : D) (v : V), Rep K w0 d v → Rep K w d v
  keep : ∀ (a : Addr) (o : HO), w0.H a = some o → ¬ Own w0 a → (∀ ps, o ≠ .tbl ps) → (a ∈ w0.Z → ¬ Mk1 o) → w.H a = some o
  pre : ∀ (n : Nat) (a : Addr), w0.ι[n]? = some a → w.ι[n]? = some a
theorem Up.refl {K : PySem.W.Frag} {w : Wd} (g : Good K w) : Up K w w := ⟨g, fun _ _ r => r, fun _ _ h _ _ _ => h, fun _ _ h => h⟩
theorem Up.of {K : PySem.W.Frag} {w0 w : Wd} (g0 : Good K w0) (g : Good K w) (e : Ext w0 w) : Up K w0 w := ⟨g, fun _ _ r => r.mono g0 e, fun a o h n t _ => e.keep a o h n t, e.pre⟩
theorem Up.step {K : PySem.W.Frag} {w0 w w' : Wd} (u : Up K w0 w) (g : Good K w') (e : Ext w w') (ow : ∀ a o, w0.H a = some o → ¬ Own w0 a → ¬ Own w a) : Up K w0 w' :=
  ⟨g, fun d v r => (u.rep d v r).mono u.good e, fun a o h n t z => e.keep a o (u.keep a o h n t z) (ow a o h n) t, fun n a h => e.pre n a (u.pre n a h)⟩
theorem Up.reps {K : PySem.W.Frag} {w0 w : Wd} (u : Up K w0 w) : ∀ {ds : List D} {vs : List V}, Reps K w0 ds vs → Reps K w ds vs
  | _, _, .nil => .nil
  | _, _, .cons r t => .cons (u.rep _ _ r) (Up.reps u t)
structure WkR (K : PySem.W.Frag) (w0 : Wd) (k : Wk) (J : L2.It) : Prop where
  start : k.same w0.M
  goes : ∀ (i : Nat) (w : Wd), Up K w0 w → k.same w.M → i < k.items.length → J.go i w.H
  stops : ∀ w : Wd, Up K w0 w → k.same w.M → J.stop k.items.length w.H
  yields : ∀ (i : Nat) (w : Wd) (x : V) (H' : Hp), Up K w0 w → k.same w.M → i < k.items.length → J.yld i w.H x H' → ∃ (w' : Wd) (d : D), w'.H = H' ∧ Good K w' ∧ Ext w w' ∧ w'.M = w.M ∧ k.items[i]? = some d ∧ Rep K w' d x
/-- a list or a tuple, as it stands while the loop runs -/
theorem seq_up {K : PySem.W.Frag} {w0 : Wd} (g0 : Good K w0) {d : D} {v : V} {ds : List D} (r : Rep K w0 d v) (h : seqOf w0.M d = some ds) :
    ∃ (a : Addr) (k : Bool), v = .ref a ∧ ∀ w, Up K w0 w → (∀ p ∈ srcOf w0.M d, w.M[p.1]? = some (.lst p.2)) → ∃ vs, SqK K k w.H a vs ∧ Reps K w ds vs := by
  cases r with
  | @tup a es vs h1 h2 =>
    cases h
    refine ⟨a, false, rfl, fun w u _ => ⟨vs, ?_, u.reps h2⟩⟩
    obtain ⟨a', vs', e1, e2, e3⟩ := (u.rep _ _ (.tup h1 h2)).tup_inv
    cases e1
    show SqT K w.H a vs
    rcases h1 with (h1 | ⟨o, h1⟩) | h1
    · exact .inl (.inl (u.keep a _ h1 (g0.tup_own h1) (fun _ z => nomatch z) fun _ m => m.tup rfl))
    · exact .inl (.inr ⟨o, u.keep a _ h1 (g0.frz_own h1) (fun _ z => nomatch z) fun _ m => m.frz rfl⟩)
    · exact .inr h1
  | dt => cases h
  | @lst a es vs h1 h2 h3 h4 => cases h; exact ⟨a, true, rfl, fun w u _ => ⟨vs, .inl (.inl (u.keep a _ h1 h2 (fun _ z => nomatch z) fun z => absurd z h3)), u.reps h4⟩⟩
  | @frl a es vs h1 h2 =>
    cases h
    refine ⟨a, true, rfl, fun w u _ => ⟨vs, ?_, u.reps h2⟩⟩
    rcases h1 with ⟨o, h1⟩ | h1
    · exact .inl (.inr ⟨o, u.keep a _ h1 (g0.frz_own h1) (fun _ z => nomatch z) fun _ m => m.frz rfl⟩)
    · exact .inr h1
  | @loc a n h1 =>
    have h : (match w0.M[n]? with
      | some (.lst ds) => some ds
      | _ => none) = some ds := h
    cases q : w0.M[n]? with
    | none => rw [q] at h; cases h
    | some ob =>
      cases ob with
      | lst es =>
        rw [q] at h
        cases h
        refine ⟨a, true, rfl, fun w u same => ?_⟩
        have e : w.M[n]? = some (.lst ds) := same (n, ds) (by
          show (n, ds) ∈ (match w0.M[n]? with
            | some (.lst ds) => [(n, ds)]
            | _ => [])
          rw [q]; exact List.mem_singleton.mpr rfl)
        obtain ⟨vs, h2, h3⟩ := u.good.lst e (u.pre n a h1)
        exact ⟨vs, .inl (.inl h2), h3⟩
      | dct _ => rw [q] at h; cases h
      | dead => rw [q] at h; cases h
  | non => cases h
  | bl _ => cases h
  | int _ => cases h
  | str _ => cases h
  | ty _ => cases h
theorem src_same {M : Sto} {d : D} : ∀ p ∈ srcOf M d, M[p.1]? = some (.lst p.2) := fun p hp => by
  cases d with
  | loc n =>
    have hp : p ∈ (match M[n]? with
      | some (.lst ds) => [(n, ds)]
      | _ => []) := hp
    cases q : M[n]? with
    | none => rw [q] at hp; cases hp
    | some ob =>
      rw [q] at hp
      cases ob with
      | lst es =>
        rw [List.mem_singleton.mp hp]
        exact q
      | dct _ => cases hp
      | dead => cases hp
  | _ => cases hp
theorem wk_seq {K : PySem.W.Frag} {w0 : Wd} {ds : List D} {src : List (Nat × List D)} {a : Addr} {k : Bool} (h0 : ∀ p ∈ src, w0.M[p.1]? = some (.lst p.2)) (h : ∀ w, Up K w0 w → (∀ p ∈ src, w.M[p.1]? = some (.lst p.2)) → ∃ vs, SqK K k w.H a vs ∧ Reps K w ds vs) : WkR K w0 ⟨ds, src⟩ (JtK K k a) := by
  refine ⟨h0, fun i w u s hi => ?_, fun w u s => ?_, fun i w x H' u s hi y => ?_⟩
  · obtain ⟨vs, q, r⟩ := h w u s
    have hi : i < ds.length := hi
    have hl : i < vs.length := by rw [← r.length]; exact hi
    cases k with
    | true => exact ⟨vs, vs[i], q, List.getElem?_eq_getElem hl⟩
    | false => exact ⟨vs, vs[i], q, List.getElem?_eq_getElem hl⟩
  · obtain ⟨vs, q, r⟩ := h w u s
    have hl : vs.length ≤ ds.length := by rw [← r.length]; exact Nat.le_refl _
    cases k with
    | true => exact ⟨vs, q, hl⟩
    | false => exact ⟨vs, q, hl⟩
  · obtain ⟨vs, q, r⟩ := h w u s
    have hi : i < ds.length := hi
    have e : H' = w.H ∧ vs[i]? = some x := by
      cases k with
      | true => exact ⟨y.1, y.2 vs q⟩
      | false => exact ⟨y.1, y.2 vs q⟩
    obtain ⟨d, e1, e2⟩ := r.get' e.2
    exact ⟨w, d, e.1.symm, u.good, Ext.refl w, rfl, e1, e2⟩
theorem wk_rng {K : PySem.W.Frag} {w0 : Wd} {lo : Int} {n : Nat} : WkR K w0 ⟨(List.range n).map fun i => .int (lo + (i : Nat)), []⟩ (Itr lo n) := by
  refine ⟨(fun p hp => nomatch hp), fun i w u s hi => show i < n by simpa using hi, fun w u s => show n ≤ _ by simp, fun i w x H' u s hi y => ?_⟩
  obtain ⟨e1, e2⟩ := y
  have hi : i < n := by simpa using hi
  exact ⟨w, .int (lo + i), e1.symm, u.good, Ext.refl w, rfl, by simp [hi], by rw [e2]; exact .int _⟩
theorem zip_get {α β : Type} : ∀ (xs : List α) (ys : List β) (i : Nat) {a : α} {b : β}, xs[i]? = some a → ys[i]? = some b → (xs.zip ys)[i]? = some (a, b)
  | [], _, _, _, _, h, _ => by simp at h
  | _ :: _, [], _, _, _, _, h => by simp at h
  | x :: xs, y :: ys, 0, _, _, h, k => by simp at h k; simp [h, k]
  | x :: xs, y :: ys, i + 1, a, b, h, k => by
    have h : xs[i]? = some a := by simpa using h
    have k : ys[i]? = some b := by simpa using k
    show ((x, y) :: xs.zip ys)[i + 1]? = _
    simpa using zip_get xs ys i h k
theorem wk_zip {K : PySem.W.Frag} {w0 : Wd} {ds es : List D} {s1 s2 : List (Nat × List D)} {a b : Addr} {k1 k2 : Bool} (p1 : ∀ p ∈ s1, w0.M[p.1]? = some (.lst p.2)) (p2 : ∀ p ∈ s2, w0.M[p.1]? = some (.lst p.2)) (h1 : ∀ w, Up K w0 w → (∀ p ∈ s1, w.M[p.1]? = some (.lst p.2)) → ∃ vs, SqK K k1 w.H a vs ∧ Reps K w ds vs)
    (h2 : ∀ w, Up K w0 w → (∀ p ∈ s2, w.M[p.1]? = some (.lst p.2)) → ∃ vs, SqK K k2 w.H b vs ∧ Reps K w es vs) : WkR K w0 ⟨(ds.zip es).map fun p => .tup [p.1, p.2], s1 ++ s2⟩ (Iz2 K k1 k2 a b) := by
  have both : ∀ w, Up K w0 w → Wk.same ⟨(ds.zip es).map fun p => .tup [p.1, p.2], s1 ++ s2⟩ w.M → ∃ vs us, SqK K k1 w.H a vs ∧ Reps K w ds vs ∧ SqK K k2 w.H b us ∧ Reps K w es us := fun w u s => by
    obtain ⟨vs, q1, r1⟩ := h1 w u fun p hp => s p (List.mem_append_left _ hp)
    obtain ⟨us, q2, r2⟩ := h2 w u fun p hp => s p (List.mem_append_right _ hp)
    exact ⟨vs, us, q1, r1, q2, r2⟩
  have len : (List.map (fun p : D × D => D.tup [p.1, p.2]) (ds.zip es)).length = min ds.length es.length := by simp
  refine ⟨fun p hp => (List.mem_append.mp hp).elim (p1 p) (p2 p), fun i w u s hi => ?_, fun w u s => ?_, fun i w x H' u s hi y => ?_⟩
  · obtain ⟨vs, us, q1, r1, q2, r2⟩ := both w u s
    refine ⟨vs, us, q1, q2, ?_⟩
    rw [← r1.length, ← r2.length, ← len]; exact hi
  · obtain ⟨vs, us, q1, r1, q2, r2⟩ := both w u s
    refine ⟨vs, us, q1, q2, ?_⟩
    rw [← r1.length, ← r2.length, ← len]
  · obtain ⟨vs, us, q1, r1, q2, r2⟩ := both w u s
    obtain ⟨L, xv, yv, e1, hL, e2, f1, f2⟩ := y
    subst e1 e2
    obtain ⟨d, d1, d2⟩ := r1.get' (f1 vs q1)
    obtain ⟨e, e1, e2⟩ := r2.get' (f2 us q2)
    refine ⟨w.put L (.tup [xv, yv]), .tup [d, e], rfl, good_put u.good hL, ext_put hL, rfl, ?_, rep_tup u.good hL (.cons d2 (.cons e2 .nil))⟩
    show (List.map (fun p : D × D => D.tup [p.1, p.2]) (ds.zip es))[i]? = _
    rw [List.getElem?_map, zip_get ds es i d1 e1] <;> rfl
theorem wk_enum {K : PySem.W.Frag} {w0 : Wd} {ds : List D} {src : List (Nat × List D)} {a : Addr} (h0 : ∀ p ∈ src, w0.M[p.1]? = some (.lst p.2)) (h : ∀ w, Up K w0 w → (∀ p ∈ src, w.M[p.1]? = some (.lst p.2)) → ∃ vs, SqL K w.H a vs ∧ Reps K w ds vs) :
    WkR K w0 ⟨ds.zipIdx.map fun p => .tup [.int (p.2 : Nat), p.1], src⟩ (Ite K a) := by
  have len : (List.map (fun p : D × Nat => D.tup [.int (p.2 : Nat), p.1]) ds.zipIdx).length = ds.length := by simp
  refine ⟨h0, fun i w u s hi => ?_, fun w u s => ?_, fun i w x H' u s hi y => ?_⟩
  · obtain ⟨vs, q, r⟩ := h w u s
    have hi : i < vs.length := by rw [← r.length, ← len]; exact hi
    exact ⟨vs, vs[i], q, List.getElem?_eq_getElem hi⟩
  · obtain ⟨vs, q, r⟩ := h w u s
    exact ⟨vs, q, by rw [← r.length, ← len]; exact Nat.le_refl _⟩
  · obtain ⟨vs, q, r⟩ := h w u s
    obtain ⟨L, xv, e1, hL, e2, f⟩ := y
    subst e1 e2
    obtain ⟨d, d1, d2⟩ := r.get' (f vs q)
    refine ⟨w.put L (.tup [.int (i : Nat), xv]), .tup [.int (i : Nat), d], rfl, good_put u.good hL, ext_put hL, rfl, ?_, rep_tup u.good hL (.cons (.int _) (.cons d2 .nil))⟩
    show (List.map (fun p : D × Nat => D.tup [.int (p.2 : Nat), p.1]) ds.zipIdx)[i]? = _
    rw [List.getElem?_map, List.getElem?_zipIdx, d1]
    simp
end Iv
end

section
set_option Elab.async false
set_option linter.all false
set_option maxHeartbeats 1000000
/-! IvZip: a zip of two whose tuples are kept; list(zip), dict(zip), dict(list). -/
namespace Iv
open PySem PySem.Spec PyProof.Rows L2

section
variable {prog : Program} {w : World} {A : Around} {E : Value → Shared → Prop} {s : Shared} {z u v t i1 i2 dd : Addr} {fp1 fp2 : List Addr} {n1 n2 i : Nat} {P1 P2 : Nat → Value → Prop} {St1 St2 : Nat → Heap → Prop}
/-- one more pair while the first one lives -/
theorem zHeld_item {f : Bool} {ot : Obj} {Q : Value → Shared → Prop} (S : ZipSep2 z u v i1 i2 fp1 fp2) (D1 : Draws prog w A i1 fp1 n1 P1 St1) (D2 : Draws prog w A i2 fp2 n2 P2 St2)
    (hz : IsZipHeld s.heap z u v t f) (ht : s.heap.get? t = some ot) (hu : IsTupOf2 s.heap u (.ref i1) (.ref i2)) (a1 : St1 i s.heap) (a2 : St2 i s.heap) (l1 : i < n1) (l2 : i < n2)
    (hq : ∀ x1 x2 h' tk, P1 i x1 → P2 i x2 → IsZipHeld h' z u v t true → St1 (i + 1) h' → St2 (i + 1) h' → IsTupOf2 h' s.heap.objs.size x1 x2 → h'.objs.size = s.heap.objs.size + 1 →
      (∀ c o, c ≠ z → c ≠ i1 → c ≠ i2 → s.heap.get? c = some o → h'.get? c = some o) → Q (.ref s.heap.objs.size) { s with heap := h', toks := tk }) :
    wpAny (model prog w) A (Builtin.«zip.__next__» ⟨[.ref z], []⟩) (fun fin s' => ∃ r, fin = .done (.ret r) ∧ Q r s') E s := by
  obtain ⟨hp, g, d, tk0, os⟩ := s
  show wpAny _ _ (field (.ref z) 2 >>= _) _ _ _; refine wpAny_bind (wpAny_field (x := Value.bool false) hz rfl rfl ?_)
  show wpAny _ _ (field (.ref z) 3 >>= _) _ _ _; refine wpAny_bind (wpAny_field (x := Value.ref u) hz rfl rfl (wpAny_seqItems hu rfl ?_ |> wpAny_bind))
  show wpAny _ _ (Builtin.SmallTypes.ownedTupleIsFree (.ref z) >>= _) _ _ _; refine wpAny_bind (wpAny_tupleHeld_zip hz ht fun g0 hz0 hs0 => ?_)
  replace hs0 : Heap.SameBut z hp g0 := hs0
  simp only [Bool.false_eq_true, if_false]
  refine wpAny_bind ?_
  rw [← Array.forIn_toList]
  simp only [List.forIn_cons, List.forIn_nil]
  refine wpAny_bind (wpAny_bind (wpAny_holding ?_)); show wpAny _ _ (Builtin.SmallTypes.nextOf (.ref i1) >>= _) _ _ ⟨g0, g, d, tk0, os⟩
  refine wpAny_bind (D1.item i _ _ _ l1 (D1.over a1 hs0 S.zf1) fun x1 p1 tk1 hx1 sn1 hp1 => wpAny_pure ?_)
  replace hp1 : Heap.SameBut i1 g0 p1 := hp1
  refine wpAny_pure ?_
  refine wpAny_bind (wpAny_bind (wpAny_holding ?_)); show wpAny _ _ (Builtin.SmallTypes.nextOf (.ref i2) >>= _) _ _ ⟨p1, g, d, tk1, os⟩
  refine wpAny_bind (D2.item i _ _ _ l2 (D2.over (D2.over a2 hs0 S.zf2) hp1 S.sep1_2) fun x2 p2 tk2 hx2 sn2 hp2 => wpAny_pure ?_)
  replace hp2 : Heap.SameBut i2 p1 p2 := hp2
  refine wpAny_pure (wpAny_pure ?_)
  show wpAny _ _ (newTuple [x1, x2] >>= _) _ _ ⟨p2, g, d, tk2, os⟩; refine wpAny_bind (wpAny_newTuple ?_)
  have sz : p2.objs.size = hp.objs.size := by rw [hp2.1, hp1.1, hs0.1]
  have hz2 : IsZipHeld p2 z u v t true := hp2.extBut _ _ S.zi2 (hp1.extBut _ _ S.zi1 hz0)
  have kk : ∀ c o, c ≠ z → c ≠ i1 → c ≠ i2 → hp.get? c = some o → p2.get? c = some o := fun c o c0 c1 c2 e => hp2.extBut _ _ c2 (hp1.extBut _ _ c1 (hs0.extBut _ _ c0 e))
  have j1 : St1 (i + 1) p2 := D1.over sn1 hp2 S.sep2_1
  refine wpAny_pure ⟨_, rfl, ?_⟩
  show Q (.ref p2.objs.size) _
  have up : ∀ c o, p2.get? c = some o → (p2.push { cls := .type "tuple", data := .seq #[x1, x2] }).get? c = some o := fun c o e => Heap.get?_push_of_some _ e
  have nt : IsTupOf2 (p2.push { cls := .type "tuple", data := .seq #[x1, x2] }) p2.objs.size x1 x2 := Heap.get?_push_size _ rfl
  have zz : (p2.push { cls := .type "tuple", data := .seq #[x1, x2] }).objs.size = p2.objs.size + 1 := Heap.size_push ..
  rw [sz] at nt zz ⊢
  exact hq x1 x2 _ tk2 hx1 hx2 (up _ _ hz2) (D1.frame _ _ _ j1 fun b _ o e => up b o e) (D2.frame _ _ _ sn2 fun b _ o e => up b o e) nt zz fun c o c0 c1 c2 e => up c o (kk c o c0 c1 c2 e)
theorem zHeld_end {f : Bool} {ot : Obj} {Q : Fin → Shared → Prop} (S : ZipSep2 z u v i1 i2 fp1 fp2) (D1 : Draws prog w A i1 fp1 n1 P1 St1) (D2 : Draws prog w A i2 fp2 n2 P2 St2)
    (hz : IsZipHeld s.heap z u v t f) (ht : s.heap.get? t = some ot) (hu : IsTupOf2 s.heap u (.ref i1) (.ref i2)) (a1 : St1 i s.heap) (a2 : St2 i s.heap) (l1 : i ≤ n1) (l2 : i ≤ n2) (he : i = n1 ∨ i = n2)
    (hE : ∀ h' tk e, (∀ c o, c ≠ z → c ≠ i1 → c ≠ i2 → s.heap.get? c = some o → h'.get? c = some o) → (∃ o, h'.get? e = some o ∧ o.cls = .type "StopIteration") → E (.ref e) { s with heap := h', toks := tk }) :
    wpAny (model prog w) A (Builtin.«zip.__next__» ⟨[.ref z], []⟩) Q E s := by
  obtain ⟨hp, g, d, tk0, os⟩ := s
  show wpAny _ _ (field (.ref z) 2 >>= _) _ _ _; refine wpAny_bind (wpAny_field (x := Value.bool false) hz rfl rfl ?_)
  show wpAny _ _ (field (.ref z) 3 >>= _) _ _ _; refine wpAny_bind (wpAny_field (x := Value.ref u) hz rfl rfl (wpAny_seqItems hu rfl ?_ |> wpAny_bind))
  show wpAny _ _ (Builtin.SmallTypes.ownedTupleIsFree (.ref z) >>= _) _ _ _; refine wpAny_bind (wpAny_tupleHeld_zip hz ht fun g0 hz0 hs0 => ?_)
  replace hs0 : Heap.SameBut z hp g0 := hs0
  simp only [Bool.false_eq_true, if_false]
  refine wpAny_bind ?_
  rw [← Array.forIn_toList]
  simp only [List.forIn_cons, List.forIn_nil]
  refine wpAny_bind (wpAny_bind (wpAny_holding ?_)); show wpAny _ _ (Builtin.SmallTypes.nextOf (.ref i1) >>= _) _ _ ⟨g0, g, d, tk0, os⟩
  by_cases c : i = n1
  · subst c
    refine wpAny_bind (D1.done _ _ _ (D1.over a1 hs0 S.zf1) fun h' e k he => ?_)
    exact hE h' tk0 e (fun c o c0 c1 _ x => k _ _ c1 (hs0.extBut _ _ c0 x)) he
  · have c2 : i = n2 := by rcases he with q | q; exact absurd q c; exact q
    subst c2
    refine wpAny_bind (D1.item i _ _ _ (by omega) (D1.over a1 hs0 S.zf1) fun x1 p1 tk1 hx1 sn1 hp1 => wpAny_pure ?_)
    replace hp1 : Heap.SameBut i1 g0 p1 := hp1
    refine wpAny_pure ?_
    refine wpAny_bind (wpAny_bind (wpAny_holding ?_)); show wpAny _ _ (Builtin.SmallTypes.nextOf (.ref i2) >>= _) _ _ ⟨p1, g, d, tk1, os⟩
    refine wpAny_bind (D2.done _ _ _ (D2.over (D2.over a2 hs0 S.zf2) hp1 S.sep1_2) fun h' e k he => ?_)
    exact hE h' tk1 e (fun c o c0 c1 c2 x => k _ _ c2 (hp1.extBut _ _ c1 (hs0.extBut _ _ c0 x))) he
/-- what a zip stands at: new, or with its first tuple out for good -/
def ZOut (h : Heap) (z u v i1 i2 d : Addr) : Prop := (∃ x y, IsTupOf2 h v x y) ∧ (IsZip h z u v .none ∨ ∃ (t : Addr) (f : Bool) (o : Obj), IsZipHeld h z u v t f ∧ h.get? t = some o ∧ t ≠ z ∧ t ≠ i1 ∧ t ≠ i2 ∧ t ≠ d)
theorem zAny_item {Q : Value → Shared → Prop} (S : ZipSep2 z u v i1 i2 fp1 fp2) (D1 : Draws prog w A i1 fp1 n1 P1 St1) (D2 : Draws prog w A i2 fp2 n2 P2 St2)
    (hz : ZOut s.heap z u v i1 i2 dd) (hu : IsTupOf2 s.heap u (.ref i1) (.ref i2)) (a1 : St1 i s.heap) (a2 : St2 i s.heap) (l1 : i < n1) (l2 : i < n2) (dl : dd < s.heap.objs.size)
    (hq : ∀ x1 x2 h' tk, P1 i x1 → P2 i x2 → ZOut h' z u v i1 i2 dd → IsTupOf2 h' u (.ref i1) (.ref i2) → St1 (i + 1) h' → St2 (i + 1) h' → IsTupOf2 h' s.heap.objs.size x1 x2 → h'.objs.size = s.heap.objs.size + 1 →
      (∀ c o, c ∉ [z, v, i1, i2] → s.heap.get? c = some o → h'.get? c = some o) → Q (.ref s.heap.objs.size) { s with heap := h', toks := tk }) :
    wpAny (model prog w) A (Builtin.«zip.__next__» ⟨[.ref z], []⟩) (fun fin s' => ∃ r, fin = .done (.ret r) ∧ Q r s') E s := by
  have zlt : z < s.heap.objs.size := by
    rcases hz.2 with q | ⟨_, _, _, q, _⟩ <;> exact Heap.lt_size q
  obtain ⟨o1, q1⟩ := D1.live _ _ a1
  obtain ⟨o2, q2⟩ := D2.live _ _ a2
  have e1 := Heap.lt_size q1
  have e2 := Heap.lt_size q2
  obtain ⟨⟨x, y, hv⟩, hz⟩ := hz
  rcases hz with hz | ⟨t, f, o, hz, ht, n0, n1', n2', n3⟩
  · refine zipD2_next_item S D1 D2 hz hu hv a1 a2 l1 l2 fun x1 x2 h' tk p1 p2 hz' hv' s1 s2 ht' hsz kk => ?_
    refine hq x1 x2 h' tk p1 p2 ⟨⟨_, _, hv'⟩, .inr ⟨s.heap.objs.size, false, _, hz', ht', Nat.ne_of_gt zlt, Nat.ne_of_gt e1, Nat.ne_of_gt e2, Nat.ne_of_gt dl⟩⟩ (kk _ _ S.TIz S.TITO S.TIi1 S.TIi2 hu) s1 s2 ht' hsz fun c o hc e => ?_
    simp only [List.mem_cons, List.not_mem_nil, or_false, not_or] at hc
    exact kk c o hc.1 hc.2.1 hc.2.2.1 hc.2.2.2 e
  · refine zHeld_item S D1 D2 hz ht hu a1 a2 l1 l2 fun x1 x2 h' tk p1 p2 hz' s1 s2 ht' hsz kk => ?_
    refine hq x1 x2 h' tk p1 p2 ⟨⟨x, y, kk _ _ S.TOz S.Ti1 S.Ti2 hv⟩, .inr ⟨t, true, o, hz', kk _ _ n0 n1' n2' ht, n0, n1', n2', n3⟩⟩ (kk _ _ S.TIz S.TIi1 S.TIi2 hu) s1 s2 ht' hsz fun c o hc e => ?_
    simp only [List.mem_cons, List.not_mem_nil, or_false, not_or] at hc
    exact kk c o hc.1 hc.2.2.1 hc.2.2.2 e
theorem zAny_end {Q : Fin → Shared → Prop} (S : ZipSep2 z u v i1 i2 fp1 fp2) (D1 : Draws prog w A i1 fp1 n1 P1 St1) (D2 : Draws prog w A i2 fp2 n2 P2 St2)
    (hz : ZOut s.heap z u v i1 i2 dd) (hu : IsTupOf2 s.heap u (.ref i1) (.ref i2)) (a1 : St1 i s.heap) (a2 : St2 i s.heap) (l1 : i ≤ n1) (l2 : i ≤ n2) (he : i = n1 ∨ i = n2)
    (hE : ∀ h' tk e, (∀ c o, c ∉ [z, v, i1, i2] → s.heap.get? c = some o → h'.get? c = some o) → (∃ o, h'.get? e = some o ∧ o.cls = .type "StopIteration") → E (.ref e) { s with heap := h', toks := tk }) :
    wpAny (model prog w) A (Builtin.«zip.__next__» ⟨[.ref z], []⟩) Q E s := by
  obtain ⟨⟨x, y, hv⟩, hz⟩ := hz
  rcases hz with hz | ⟨t, f, o, hz, ht, n0, n1', n2', n3⟩
  · refine zipD2_next_end S D1 D2 hz hu hv a1 a2 l1 l2 he fun h' tk e kk he => hE h' tk e (fun c o hc x => ?_) he
    simp only [List.mem_cons, List.not_mem_nil, or_false, not_or] at hc
    exact kk c o hc.1 hc.2.1 hc.2.2.1 hc.2.2.2 x
  · refine zHeld_end S D1 D2 hz ht hu a1 a2 l1 l2 he fun h' tk e kk he => hE h' tk e (fun c o hc x => ?_) he
    simp only [List.mem_cons, List.not_mem_nil, or_false, not_or] at hc
    exact kk c o hc.1 hc.2.2.1 hc.2.2.2 x
theorem zOut_type {s : Shared} (hz : ZOut s.heap z u v i1 i2 dd) : s.TypeIs (.ref z) "zip" := by
  rcases hz.2 with q | ⟨_, _, _, q, _⟩ <;> exact ⟨_, q, rfl⟩
/-- next of it -/
theorem zNext_item {Q : Option Value → Shared → Prop} (S : ZipSep2 z u v i1 i2 fp1 fp2) (D1 : Draws prog w A.in1 i1 fp1 n1 P1 St1) (D2 : Draws prog w A.in1 i2 fp2 n2 P2 St2)
    (hz : ZOut s.heap z u v i1 i2 dd) (hu : IsTupOf2 s.heap u (.ref i1) (.ref i2)) (a1 : St1 i s.heap) (a2 : St2 i s.heap) (l1 : i < n1) (l2 : i < n2) (dl : dd < s.heap.objs.size)
    (hq : ∀ x1 x2 h' tk, P1 i x1 → P2 i x2 → ZOut h' z u v i1 i2 dd → IsTupOf2 h' u (.ref i1) (.ref i2) → St1 (i + 1) h' → St2 (i + 1) h' → IsTupOf2 h' s.heap.objs.size x1 x2 → h'.objs.size = s.heap.objs.size + 1 →
      (∀ c o, c ∉ [z, v, i1, i2] → s.heap.get? c = some o → h'.get? c = some o) → Q (some (.ref s.heap.objs.size)) { s with heap := h', toks := tk }) :
    wpAny (model prog w) A (pyNext (.ref z)) Q E s := by
  have ty := zOut_type (s := s) hz
  unfold pyNext
  exact wpAny_bind (wpAny_attempt (wpAny_callSpecial?_slot (name := Str.ofString "__next__") ty F.slot_zip_next
    (wpAny_call_entry F.slot_zip_next ty F.entry_zip_next (zAny_item S D1 D2 hz hu a1 a2 l1 l2 dl fun x1 x2 h' tk b1 b2 b3 b4 b5 b6 b7 b8 b9 => wpAny_pure (hq x1 x2 h' tk b1 b2 b3 b4 b5 b6 b7 b8 b9)) (F.args_zip_next_1 _))))
theorem zNext_end {Q : Option Value → Shared → Prop} (S : ZipSep2 z u v i1 i2 fp1 fp2) (D1 : Draws prog w A.in1 i1 fp1 n1 P1 St1) (D2 : Draws prog w A.in1 i2 fp2 n2 P2 St2)
    (hz : ZOut s.heap z u v i1 i2 dd) (hu : IsTupOf2 s.heap u (.ref i1) (.ref i2)) (a1 : St1 i s.heap) (a2 : St2 i s.heap) (l1 : i ≤ n1) (l2 : i ≤ n2) (he : i = n1 ∨ i = n2)
    (hq : ∀ h' tk, (∀ c o, c ∉ [z, v, i1, i2] → s.heap.get? c = some o → h'.get? c = some o) → Q none { s with heap := h', toks := tk }) :
    wpAny (model prog w) A (pyNext (.ref z)) Q E s := by
  have ty := zOut_type (s := s) hz
  unfold pyNext
  refine wpAny_bind (wpAny_attempt (wpAny_callSpecial?_slot (name := Str.ofString "__next__") ty F.slot_zip_next
    (wpAny_call_entry F.slot_zip_next ty F.entry_zip_next (zAny_end S D1 D2 hz hu a1 a2 l1 l2 he fun h' tk e kk he => ?_) (F.args_zip_next_1 _))))
  obtain ⟨o, ho, hc⟩ := he
  exact wpAny_bind (wpAny_isInstance (T := "StopIteration") (b := true) ⟨o, ho, hc⟩ isSubtype_stop (wpAny_pure (hq _ _ kk)))
end

/-! ### the zip of two lists or tuples -/
theorem SeK.at' {k : Bool} {h h' : Heap} {a : Addr} {its : Array Value} (e : SeK k h a its) (f : ∀ o, h.get? a = some o → h'.get? a = some o) : SeK k h' a its := by
  cases k with
  | true => exact Heap.IsList.at (show h.IsList a its from e) f
  | false => exact Heap.IsTuple.at (show h.IsTuple a its from e) f
theorem SeK.there {k : Bool} {h : Heap} {a : Addr} {its : Array Value} (e : SeK k h a its) : ∃ o, h.get? a = some o := by
  cases k with
  | true => obtain ⟨o, q, _⟩ := (show h.IsList a its from e); exact ⟨o, q⟩
  | false => obtain ⟨o, q, _⟩ := (show h.IsTuple a its from e); exact ⟨o, q⟩
section
variable {z u v i1 i2 a b d : Addr} {k1 k2 : Bool} {xs ys : Array Value}
/-- the state of a zip behind i pairs -/
structure ZSt (k1 k2 : Bool) (z u v i1 i2 a b d : Addr) (xs ys : Array Value) (i : Nat) (h : Heap) : Prop where
  out : ZOut h z u v i1 i2 d
  two : IsTupOf2 h u (.ref i1) (.ref i2)
  s1 : ItK k1 h i1 a i ∧ SeK k1 h a xs
  s2 : ItK k2 h i2 b i ∧ SeK k2 h b ys
theorem ZSt.at {h h' : Heap} {i : Nat} (x : ZSt k1 k2 z u v i1 i2 a b d xs ys i h) (dn : d ∉ [z, u, v, i1, i2, a, b]) (k : ∀ c o, c ≠ d → h.get? c = some o → h'.get? c = some o) : ZSt k1 k2 z u v i1 i2 a b d xs ys i h' := by
  simp only [List.mem_cons, List.not_mem_nil, or_false, not_or] at dn
  obtain ⟨d1, d2, d3, d4, d5, d6, d7⟩ := dn
  refine ⟨?_, k _ _ (Ne.symm d2) x.two, ⟨x.s1.1.at fun o e => k _ o (Ne.symm d4) e, x.s1.2.at' fun o e => k _ o (Ne.symm d6) e⟩, x.s2.1.at fun o e => k _ o (Ne.symm d5) e, x.s2.2.at' fun o e => k _ o (Ne.symm d7) e⟩
  obtain ⟨⟨p, q, e⟩, x⟩ := x.out
  refine ⟨⟨p, q, k _ _ (Ne.symm d3) e⟩, ?_⟩
  rcases x with q | ⟨t, f, o, q, e, n0, n1, n2, n3⟩
  · exact .inl (k _ _ (Ne.symm d1) q)
  · exact .inr ⟨t, f, o, k _ _ (Ne.symm d1) q, k _ _ n3 e, n0, n1, n2, n3⟩
abbrev ZRel (xs ys : Array Value) (i : Nat) (k x : Value) : Prop := xs[i]? = some k ∧ ys[i]? = some x
theorem zSrc {prog : Program} {w : World} {A : Around} (S : ZipSep2 z u v i1 i2 [i1, a] [i2, b]) (ha : a ≠ i1) (hb : b ≠ i2) (hh : A.handled = none) (dn : d ∉ [z, u, v, i1, i2, a, b]) :
    PairSrc prog w A z d [z, v, i1, i2] (min xs.size ys.size) (ZRel xs ys) (ZSt k1 k2 z u v i1 i2 a b d xs ys) where
  off := fun hm => dn (by
    simp only [List.mem_cons, List.not_mem_nil, or_false] at hm ⊢
    rcases hm with q | q | q | q <;> simp [q])
  frame := fun i h h' st k => st.at dn k
  item := fun i s Q E hi st hd hQ => by
    have D1 := drawsK (prog := prog) (w := w) (A := A.in1) k1 hh i1 a ha xs
    have D2 := drawsK (prog := prog) (w := w) (A := A.in1) k2 hh i2 b hb ys
    refine zNext_item S D1 D2 st.out st.two st.s1 st.s2 (by omega) (by omega) hd fun x1 x2 h' tk p1 p2 z1 z2 z3 z4 z5 _ kk => ?_
    exact hQ _ x1 x2 h' tk ⟨p1, p2⟩ (.inl ⟨_, z5, rfl, _, rfl⟩) ⟨z1, z2, z3, z4⟩ kk
  done := fun s Q E st hQ => by
    have D1 := drawsK (prog := prog) (w := w) (A := A.in1) k1 hh i1 a ha xs
    have D2 := drawsK (prog := prog) (w := w) (A := A.in1) k2 hh i2 b hb ys
    exact zNext_end S D1 D2 st.out st.two st.s1 st.s2 (Nat.min_le_left ..) (Nat.min_le_right ..) (by omega) hQ
/-- a new zip -/
structure ZNew (k1 k2 : Bool) (z u v i1 i2 a b : Addr) (xs ys : Array Value) (h : Heap) : Prop where
  zip : IsZip h z u v .none
  out : ∃ x y, IsTupOf2 h v x y
  two : IsTupOf2 h u (.ref i1) (.ref i2)
  s1 : ItK k1 h i1 a 0 ∧ SeK k1 h a xs
  s2 : ItK k2 h i2 b 0 ∧ SeK k2 h b ys
theorem ZNew.at {h h' : Heap} (x : ZNew k1 k2 z u v i1 i2 a b xs ys h) (k : ∀ c o, h.get? c = some o → h'.get? c = some o) : ZNew k1 k2 z u v i1 i2 a b xs ys h' := by
  obtain ⟨p, q, e⟩ := x.out
  exact ⟨k _ _ x.zip, ⟨p, q, k _ _ e⟩, k _ _ x.two, ⟨x.s1.1.at fun o e => k _ o e, x.s1.2.at' fun o e => k _ o e⟩, x.s2.1.at fun o e => k _ o e, x.s2.2.at' fun o e => k _ o e⟩
theorem ZNew.st {h : Heap} (x : ZNew k1 k2 z u v i1 i2 a b xs ys h) : ZSt k1 k2 z u v i1 i2 a b d xs ys 0 h := ⟨⟨x.out, .inl x.zip⟩, x.two, x.s1, x.s2⟩
theorem zArg {prog : Program} {w : World} (S : ZipSep2 z u v i1 i2 [i1, a] [i2, b]) (ha : a ≠ i1) (hb : b ≠ i2) :
    PairArg prog w "zip" z [z, u, v, i1, i2, a, b] [z, v, i1, i2] (min xs.size ys.size) (ZRel xs ys) (ZNew k1 k2 z u v i1 i2 a b xs ys) where
  type := fun s ok => ⟨_, ok.zip, rfl⟩
  notDict := by decide
  keep := fun h h' ok k => ok.at k
  there := fun h ok c hc => by
    obtain ⟨p, q, e⟩ := ok.out
    obtain ⟨o1, e1, _⟩ := ok.s1.1.obj
    obtain ⟨o2, e2, _⟩ := ok.s2.1.obj
    obtain ⟨o3, e3⟩ := ok.s1.2.there
    obtain ⟨o4, e4⟩ := ok.s2.2.there
    simp only [List.mem_cons, List.not_mem_nil, or_false] at hc
    rcases hc with q | q | q | q | q | q | q <;> rw [q]
    · exact ⟨_, ok.zip⟩
    · exact ⟨_, ok.two⟩
    · exact ⟨_, e⟩
    · exact ⟨_, e1⟩
    · exact ⟨_, e2⟩
    · exact ⟨_, e3⟩
    · exact ⟨_, e4⟩
  sub := fun c hc => by
    simp only [List.mem_cons, List.not_mem_nil, or_false] at hc ⊢
    rcases hc with q | q | q | q <;> simp [q]
  noKeys := fun A s Q E hA ok h => getAttrOr_miss_zip ok.zip rfl rfl rfl zip_no_keys (by decide +kernel) hA h
  iter := fun A s d Q E hA ok hd dn h => wpAny_pyIter_zip ok.zip (h z [z, v, i1, i2] _ s.heap s.toks (zSrc S ha hb hA dn) ok.st (fun _ _ e => e) fun c hc => .inl hc)
end
end Iv
end

section
set_option Elab.async false
set_option linter.all false
set_option maxHeartbeats 1000000
set_option maxRecDepth 100000
/-! IvZip2: list(zip(..)) -/
namespace Iv
open PySem PySem.Spec PyProof.Rows L2
theorem zip_no_len : typeLookup (.type "zip") "__len__" = pure none := am_miss_of_fast (by decide +kernel)
theorem zip_no_hint : typeLookup (.type "zip") "__length_hint__" = pure none := am_miss_of_fast (by decide +kernel)
section
variable {prog : Program} {w : World} {A : Around} {z u v i1 i2 a b S : Addr} {k1 k2 : Bool} {xs ys : Array Value}
/-- the pairs that stand in a list -/
def PIn (xs ys : Array Value) (off : List Addr) (h : Heap) (acc : Array Value) (i : Nat) : Prop :=
  acc.size = i ∧ ∀ j, j < i → ∃ (t : Addr) (x y : Value), acc[j]? = some (.ref t) ∧ t ∉ off ∧ xs[j]? = some x ∧ ys[j]? = some y ∧ IsTupOf2 h t x y
theorem PIn.at {off : List Addr} {h h' : Heap} {acc : Array Value} {i : Nat} (x : PIn xs ys off h acc i) (k : ∀ c o, c ∉ off → h.get? c = some o → h'.get? c = some o) : PIn xs ys off h' acc i :=
  ⟨x.1, fun j hj => by
    obtain ⟨t, p, q, e1, e2, e3, e4, e5⟩ := x.2 j hj
    exact ⟨t, p, q, e1, e2, e3, e4, k _ _ e2 e5⟩⟩
theorem PIn.push {off : List Addr} {h : Heap} {acc : Array Value} {i : Nat} (x : PIn xs ys off h acc i) {t : Addr} {p q : Value} (ht : t ∉ off) (hx : xs[i]? = some p) (hy : ys[i]? = some q) (e : IsTupOf2 h t p q) : PIn xs ys off h (acc.push (.ref t)) (i + 1) := by
  refine ⟨by rw [Array.size_push, x.1], fun j hj => ?_⟩
  by_cases c : j = i
  · subst c
    exact ⟨t, p, q, by rw [Array.getElem?_push, if_pos x.1.symm], ht, hx, hy, e⟩
  · obtain ⟨t', p', q', e1, r⟩ := x.2 j (by omega)
    refine ⟨t', p', q', ?_, r⟩
    rw [Array.getElem?_push, if_neg (by rw [x.1]; exact c)]
    exact e1
abbrev LsAt (h : Heap) (S : Addr) (acc : Array Value) (c : Nat) : Prop := h.get? S = some { cls := .type "list", dict := none, data := .seq acc c, slots := #[] }
theorem zLoop {R : Result → Shared → Prop} (Z : ZipSep2 z u v i1 i2 [i1, a] [i2, b]) (ha : a ≠ i1) (hb : b ≠ i2) (hh : A.in1.handled = none) (dn : S ∉ [z, u, v, i1, i2, a, b]) (hn : min xs.size ys.size ≤ sizeLine) (res : Value) :
    ∀ (k i : Nat) (s : Shared) (acc : Array Value) (c : Nat), min xs.size ys.size - i = k → i ≤ min xs.size ys.size → ZSt k1 k2 z u v i1 i2 a b S xs ys i s.heap → LsAt s.heap S acc c → PIn xs ys [z, v, i1, i2, S] s.heap acc i →
      (∀ h' tk acc' c', (∀ b o, b ∉ [z, v, i1, i2, S] → s.heap.get? b = some o → h'.get? b = some o) → LsAt h' S acc' c' → PIn xs ys [z, v, i1, i2, S] h' acc' (min xs.size ys.size) → R (.ok (.ret res)) { s with heap := h', toks := tk }) →
      codeAny (model prog w) A (.builtin "list.extend.loop" ⟨[.ref S, .ref z, res], []⟩) R s := by
  have D1 := drawsK (prog := prog) (w := w) (A := A.in1.in1) k1 hh i1 a ha xs
  have D2 := drawsK (prog := prog) (w := w) (A := A.in1.in1) k2 hh i2 b hb ys
  have so : ∀ c, c ∉ [z, v, i1, i2, S] → c ∉ [z, v, i1, i2] := fun c hc hm => hc (by
    simp only [List.mem_cons, List.not_mem_nil, or_false] at hm ⊢
    rcases hm with q | q | q | q <;> simp [q])
  have sS : S ∉ [z, v, i1, i2] := fun hm => dn (by
    simp only [List.mem_cons, List.not_mem_nil, or_false] at hm ⊢
    rcases hm with q | q | q | q <;> simp [q])
  intro k
  induction k with
  | zero =>
    intro i s acc c hk hi st hS hp hR
    have e : i = min xs.size ys.size := by omega
    subst e
    refine codeAny_builtin F.entry_extend_loop ?_
    rw [Around.under_plainId F.plain_extend_loop _]
    show wpAny _ A.in1 (pyNext (.ref z) >>= _) _ _ s
    refine wpAny_bind (zNext_end (A := A.in1) Z D1 D2 st.out st.two st.s1 st.s2 (Nat.min_le_left ..) (Nat.min_le_right ..) (by omega) fun h' tk kk => wpAny_pure ?_)
    exact hR h' tk acc c (fun b o hb e => kk b o (so b hb) e) (kk S _ sS hS) (hp.at fun b o hb e => kk b o (so b hb) e)
  | succ k ih =>
    intro i s acc c hk hi st hS hp hR
    refine codeAny_builtin F.entry_extend_loop ?_
    rw [Around.under_plainId F.plain_extend_loop _]
    show wpAny _ A.in1 (pyNext (.ref z) >>= _) _ _ s
    refine wpAny_bind (zNext_item (A := A.in1) Z D1 D2 st.out st.two st.s1 st.s2 (by omega) (by omega) (Heap.lt_size hS) fun x1 x2 h' tk p1 p2 z1 z2 z3 z4 z5 hsz kk => ?_)
    have hS' : LsAt h' S acc c := kk S _ sS hS
    show wpAny _ A.in1 (updateSeq S (·.push (.ref s.heap.objs.size)) >>= _) _ _ _
    refine wpAny_bind (wpAny_updateSeq hS' rfl (wpAny_pure ⟨plainId_quiet F.plain_extend_loop _, ?_⟩) (by rw [hp.1]; omega) (by show (acc.push _).size ≤ sizeLine + 1; rw [Array.size_push, hp.1]; omega))
    have ot : ∀ b o, b ≠ S → h'.get? b = some o → (h'.update S (Obj.mapSeq (·.push (.ref s.heap.objs.size)))).get? b = some o := fun b o hb e => (Heap.get?_update_other _ _ (Ne.symm hb)).trans e
    have tn : s.heap.objs.size ∉ [z, v, i1, i2, S] := fun hm => by
      have lz : z < s.heap.objs.size := by
        rcases st.out.2 with q | ⟨_, _, _, q, _⟩ <;> exact Heap.lt_size q
      have l3 := Heap.lt_size hS
      obtain ⟨_, e1, _⟩ := st.s1.1.obj
      obtain ⟨_, e2, _⟩ := st.s2.1.obj
      have l1 := Heap.lt_size e1
      have l2 := Heap.lt_size e2
      simp only [List.mem_cons, List.not_mem_nil, or_false] at hm
      rcases hm with q | q | q | q | q
      · exact absurd q (Nat.ne_of_gt lz)
      · obtain ⟨x, y, e⟩ := st.out.1
        exact absurd q (Nat.ne_of_gt (Heap.lt_size e))
      · exact absurd q (Nat.ne_of_gt l1)
      · exact absurd q (Nat.ne_of_gt l2)
      · exact absurd q (Nat.ne_of_gt l3)
    have hp' : PIn xs ys [z, v, i1, i2, S] h' (acc.push (.ref s.heap.objs.size)) (i + 1) := (hp.at fun b o hb e => kk b o (so b hb) e).push tn p1 p2 z5
    refine ih (i + 1) _ (acc.push (.ref s.heap.objs.size)) _ (by omega) (by omega) ((⟨z1, z2, z3, z4⟩ : ZSt k1 k2 z u v i1 i2 a b S xs ys (i + 1) h').at dn ot) (Heap.get?_update_self _ hS' rfl) (hp'.at fun b o hb e => ot b o (fun q => hb (by simp [q])) e) fun h2 tk2 acc2 c2 kk2 hS2 hp2 => ?_
    refine hR h2 tk2 acc2 c2 (fun b o hb e => kk2 b o hb (ot b o (fun q => hb (by simp [q])) (kk b o (so b hb) e))) hS2 hp2
theorem zExtend {R : Result → Shared → Prop} {s : Shared} (Z : ZipSep2 z u v i1 i2 [i1, a] [i2, b]) (ha : a ≠ i1) (hb : b ≠ i2) (hh : A.in1.handled = none) (dn : S ∉ [z, u, v, i1, i2, a, b]) (hn : min xs.size ys.size ≤ sizeLine) (res : Value)
    (N : ZNew k1 k2 z u v i1 i2 a b xs ys s.heap) {c0 : Nat} (hS : LsAt s.heap S #[] c0)
    (hR : ∀ h' tk acc' c', (∀ b o, b ∉ [z, v, i1, i2, S] → s.heap.get? b = some o → h'.get? b = some o) → LsAt h' S acc' c' → PIn xs ys [z, v, i1, i2, S] h' acc' (min xs.size ys.size) → R (.ok (.ret res)) { s with heap := h', toks := tk }) :
    wpAny (model prog w) A.in1 (Builtin.List.listExtendWith (.ref S) (.ref z) res)
      (fun fin s' => match fin with | .done f => R (.ok f) s' | .again c' => c'.quiet = true ∧ codeAny (model prog w) A c' R s') (fun e s' => R (.error e) s') s := by
  have ne : S ≠ z := fun e => dn (by simp [e])
  have ty : s.TypeIs (.ref z) "zip" := ⟨_, N.zip, rfl⟩
  have q1 : Builtin.List.listSameRef (.ref S) (.ref z) = false := by simp [Builtin.List.listSameRef, ne]
  have q2 : (Value.type "zip" == Value.type "list") = false := by decide
  have q3 : (Value.type "zip" == Value.type "tuple") = false := by decide
  unfold Builtin.List.listExtendWith
  refine wpAny_bind (wpAny_typeOf ty ?_)
  simp only [q1, q2, q3, Bool.or_false, Bool.false_eq_true, if_false]
  refine wpAny_bind (wpAny_pyIter_zip N.zip (wpAny_bind (wpAny_holding ?_)))
  unfold Builtin.List.listLengthHint
  refine wpAny_bind (wpAny_specialOf ty zip_no_len ?_); show wpAny _ A.in1 (specialOf (Value.ref z) (Str.ofString "__length_hint__") >>= _) _ _ _
  refine wpAny_bind (wpAny_specialOf ty zip_no_hint (wpAny_pure ?_))
  show wpAny _ A.in1 (rule "list.extend.makes-room" >>= fun _ => Builtin.List.listTouch (.ref S) >>= fun _ => again (.builtin "list.extend.loop" ⟨[.ref S, .ref z, res], []⟩)) _ _ _
  refine wpAny_bind (wpAny_rule (wpAny_bind ?_))
  show wpAny _ A.in1 (updateSeq S (·.push .none) >>= fun _ => updateSeq S (·.pop)) _ _ _; refine wpAny_bind (wpAny_updateSeq hS rfl ?_)
  have g2 := Heap.get?_update_self (Obj.mapSeq (·.push Value.none)) hS rfl
  refine wpAny_updateSeq (hz := by seq_fits) g2 rfl (wpAny_pure ⟨plainId_quiet F.plain_extend_loop _, ?_⟩)
  have g3 := Heap.get?_update_self (Obj.mapSeq (·.pop)) g2 rfl
  have up : ∀ c o, c ≠ S → s.heap.get? c = some o → ((s.heap.update S (Obj.mapSeq (·.push Value.none))).update S (Obj.mapSeq (·.pop))).get? c = some o := fun c o hc e => (Heap.get?_update_other _ _ (Ne.symm hc)).trans ((Heap.get?_update_other _ _ (Ne.symm hc)).trans e)
  refine zLoop (k1 := k1) (k2 := k2) Z ha hb hh dn hn res _ 0 _ #[] _ rfl (Nat.zero_le _) ((N.st (d := S)).at dn up) g3 ⟨rfl, fun j hj => absurd hj (Nat.not_lt_zero j)⟩ fun h2 tk2 acc2 c2 kk2 hS2 hp2 => ?_
  exact hR h2 tk2 acc2 c2 (fun b o hb e => kk2 b o hb (up b o (fun q => hb (by simp [q])) e)) hS2 hp2
theorem zInit {R : Result → Shared → Prop} {s : Shared} (Z : ZipSep2 z u v i1 i2 [i1, a] [i2, b]) (ha : a ≠ i1) (hb : b ≠ i2) (hh : A.in1.handled = none) (dn : S ∉ [z, u, v, i1, i2, a, b]) (hn : min xs.size ys.size ≤ sizeLine)
    (N : ZNew k1 k2 z u v i1 i2 a b xs ys s.heap) (hS : s.heap.get? S = some { cls := .type "list", data := .seq #[] })
    (hR : ∀ h' tk acc' c', (∀ b o, b ∉ [z, v, i1, i2, S] → s.heap.get? b = some o → h'.get? b = some o) → LsAt h' S acc' c' → PIn xs ys [z, v, i1, i2, S] h' acc' (min xs.size ys.size) → R (.ok (.ret .none)) { s with heap := h', toks := tk }) :
    wpAny (model prog w) A.in1 (Builtin.«list.__init__» ⟨[.ref S, .ref z], []⟩)
      (fun fin s' => match fin with | .done f => R (.ok f) s' | .again c' => c'.quiet = true ∧ codeAny (model prog w) A c' R s') (fun e s' => R (.error e) s') s := by
  show wpAny _ A.in1 (do let old ← Builtin.List.listItems (.ref S); Builtin.List.listUpdate (.ref S) (fun _ => #[]); letGo old.toList.reverse; Builtin.List.listExtendWith (.ref S) (.ref z) .none) _ _ s
  refine wpAny_bind ?_
  unfold Builtin.List.listItems
  refine wpAny_bind (wpAny_seqItems hS rfl (wpAny_pure ?_)); show wpAny _ A.in1 (updateSeq S (fun _ => #[]) >>= fun _ => letGo (#[] : Array Value).toList.reverse >>= fun _ => Builtin.List.listExtendWith (.ref S) (.ref z) .none) _ _ s
  refine wpAny_bind (wpAny_updateSeq hS rfl (wpAny_bind (wpAny_letGo ?_)))
  have g2 := Heap.get?_update_self (Obj.mapSeq (fun _ => (#[] : Array Value))) hS rfl
  have up : ∀ c o, c ≠ S → s.heap.get? c = some o → (s.heap.update S (Obj.mapSeq (fun _ => (#[] : Array Value)))).get? c = some o := fun c o hc e => (Heap.get?_update_other _ _ (Ne.symm hc)).trans e
  have N2 : ZNew k1 k2 z u v i1 i2 a b xs ys (s.heap.update S (Obj.mapSeq (fun _ => (#[] : Array Value)))) := by
    simp only [List.mem_cons, List.not_mem_nil, or_false, not_or] at dn
    obtain ⟨d1, d2, d3, d4, d5, d6, d7⟩ := dn
    obtain ⟨p, q, e⟩ := N.out
    exact ⟨up _ _ (Ne.symm d1) N.zip, ⟨p, q, up _ _ (Ne.symm d3) e⟩, up _ _ (Ne.symm d2) N.two, ⟨N.s1.1.at fun o e => up _ o (Ne.symm d4) e, N.s1.2.at' fun o e => up _ o (Ne.symm d6) e⟩, N.s2.1.at fun o e => up _ o (Ne.symm d5) e, N.s2.2.at' fun o e => up _ o (Ne.symm d7) e⟩
  refine zExtend Z ha hb hh dn hn .none N2 g2 fun h2 tk2 acc2 c2 kk2 hS2 hp2 => ?_
  exact hR h2 tk2 acc2 c2 (fun b o hb e => kk2 b o hb (up b o (fun q => hb (by simp [q])) e)) hS2 hp2
/-- list(z) -/
theorem zList {Q : Value → Shared → Prop} {E : Value → Shared → Prop} {s : Shared} (Z : ZipSep2 z u v i1 i2 [i1, a] [i2, b]) (ha : a ≠ i1) (hb : b ≠ i2) (hh : A.handled = none) (hn : min xs.size ys.size ≤ sizeLine)
    (N : ZNew k1 k2 z u v i1 i2 a b xs ys s.heap)
    (hQ : ∀ h' tk acc c, (∀ b o, b ∉ [z, v, i1, i2] → s.heap.get? b = some o → h'.get? b = some o) → LsAt h' s.heap.objs.size acc c → PIn xs ys [z, v, i1, i2, s.heap.objs.size] h' acc (min xs.size ys.size) → Q (.ref s.heap.objs.size) { s with heap := h', toks := tk }) :
    wpAny (model prog w) A (call (.type "list") [.ref z]) Q E s := by
  have dn : s.heap.objs.size ∉ [z, u, v, i1, i2, a, b] := fun hm => by
    obtain ⟨o, e⟩ := (zArg (prog := prog) (w := w) (k1 := k1) (k2 := k2) (xs := xs) (ys := ys) Z ha hb).there _ N _ hm
    exact absurd (Heap.lt_size e) (Nat.lt_irrefl _)
  refine callType_codes (Q₁ := fun obj s1 => obj = .ref s.heap.objs.size ∧ s1 = { s with heap := s.heap.push { cls := .type "list", data := .seq #[] } }) F.called_list (F.typeCall_list_1 _) F.entry_list_init (code_list_new _ ⟨rfl, rfl⟩) fun obj s1 h1 => ?_
  obtain ⟨rfl, rfl⟩ := h1
  have g1 : (s.heap.push { cls := .type "list", data := .seq #[] }).get? s.heap.objs.size = some { cls := .type "list", data := .seq #[] } := Heap.get?_push_size _ rfl
  refine ⟨⟨_, g1, rfl⟩, F.args_list_init_2 _ _, zInit (A := A.in1) Z ha hb hh dn hn (N.at fun c o e => Heap.get?_push_of_some _ e) g1 fun h2 tk2 acc2 c2 kk2 hS2 hp2 => ?_⟩
  refine ⟨rfl, hQ h2 tk2 acc2 c2 (fun b o hb e => kk2 b o (fun q => ?_) (Heap.get?_push_of_some _ e)) hS2 hp2⟩
  simp only [List.mem_cons, List.not_mem_nil, or_false] at q hb
  rcases q with q | q | q | q | q
  · exact hb (.inl q)
  · exact hb (.inr (.inl q))
  · exact hb (.inr (.inr (.inl q)))
  · exact hb (.inr (.inr (.inr q)))
  · exact absurd q (Nat.ne_of_lt (Heap.lt_size e))
end
end Iv
end

section
set_option Elab.async false
set_option linter.all false
set_option maxHeartbeats 1000000
set_option maxRecDepth 100000
/-! IvP2: dict(zip(a, b)), dict(list(zip(a, b))) -/
namespace Iv
open PySem PySem.Spec PyProof.Rows L2
theorem stored_ps : ∀ (ps acc : List (List Int × Addr × Value)), ((acc ++ ps).map (·.1)).Nodup → storedAllH acc ps = acc ++ ps
  | [], acc, _ => by rw [List.append_nil]; rfl
  | p :: ps, acc, h => by
    have hn : atKey acc p.1 = none := by
      have : ((acc ++ p :: ps).map (·.1)).Nodup := h
      rw [List.map_append, List.map_cons, List.nodup_append] at this
      cases q : atKey acc p.1 with
      | none => rfl
      | some r =>
        have : (atKey acc p.1).isSome = true := by rw [q]; rfl
        rw [in_at, List.contains_iff_mem] at this
        rename_i h1
        exact absurd rfl (h1.2.2 _ this _ List.mem_cons_self)
    show storedAllH (storedH acc p.1 p.2.1 p.2.2) ps = _
    rw [storedH_new hn, stored_ps ps (acc ++ [(p.1, p.2.1, p.2.2)]) (by rw [List.append_assoc]; exact h), List.append_assoc]
    rfl
/-- the values of keys -/
def KeyV (K : PySem.W.Frag) (H : Hp) (v : V) (k : List Int) : Prop := ∃ b, v = .ref b ∧ SqT K H b (k.map V.int)
section
variable {X : Cx} {pins : List (Addr × Obj)} {σ : L2.St} {s : Shared} {H : Hp}
/-- zip(a, b) made -/
theorem zipE {e e2 : Expr} {ta : TA} {p pos : Pos} {R : Value → Shared → Prop} {Qz : Addr → Addr → Bool → Bool → List V → List V → Hp → Prop} (hg : Gl X "zip") (hm : X.mg "zip" = none) (ha : PA X [e, e2] ta)
    (hs : starEach [e, e2] X.env = (false, eval e X.env) :: starEach [e2] X.env) (hpl : (backTo pos (starEach [e2] X.env)).any (·.1) = false)
    (I : Inv X pins σ H s) (h : ta σ H fun vs H1 => ∃ (a b : Addr) (k1 k2 : Bool) (xs ys : List V), vs = [.ref a, .ref b] ∧ SqK X.K k1 H1 a xs ∧ SqK X.K k2 H1 b ys ∧ Qz a b k1 k2 xs ys H1)
    (hR : ∀ (s1 : Shared) (H1 : Hp) (a b : Addr) (k1 k2 : Bool) (xs ys : List V) (its jts : List Value) (z u v i1 i2 : Addr) (h' : Heap), Inv X pins σ H1 s1 → Qz a b k1 k2 xs ys H1 → Vals xs its → Vals ys jts → its.length ≤ sizeLine → ZipSep2 z u v i1 i2 [i1, a] [i2, b] → a ≠ i1 → b ≠ i2 →
      (∀ c o, s1.heap.get? c = some o → h'.get? c = some o) → (∀ c ∈ [z, v, i1, i2], s1.heap.objs.size ≤ c) → s1.heap.objs.size ≤ h'.objs.size → ZNew k1 k2 z u v i1 i2 a b its.toArray jts.toArray h' → R (.ref z) { s1 with heap := h' }) :
    wpAny (model X.prog X.w) X.A (eval (.Call (.Name "zip" p) [e, e2] [] pos) X.env) R X.xe s := by
  refine Call_ (ld_blt I hg hm PyProof.Rows.boot_zip (PyProof.Rows.callWith_type1 (thn (ha.run pos pins s σ H _ I h) fun us s1 ⟨vs, H1, I1, r1, q1⟩ => ?_) hs hpl))
  obtain ⟨a, b, k1, k2, xs, ys, ex, s1q, s2q, q⟩ := q1
  subst ex
  obtain ⟨u1, u2, rfl, ra, rb⟩ := Vals.two r1
  cases (show u1 = Value.ref a from ra)
  cases (show u2 = Value.ref b from rb)
  obtain ⟨its, rv, p1, l1⟩ := s1q.at I1
  obtain ⟨jts, rw', p2, l2⟩ := s2q.at I1
  have few : its.length ≤ sizeLine := by
    cases k1 with
    | true =>
      obtain ⟨its', rv', pl, z⟩ := I1.list (show SqL X.K H1 a xs from s1q)
      rw [← rv.length]; exact z
    | false =>
      obtain ⟨its', rv', pl, z⟩ := I1.tuple (show SqT X.K H1 a xs from s1q)
      rw [← rv.length]; exact z
  refine zip_begins2 (begK k1 a its.toArray) (begK k2 b jts.toArray) p1 p2 fun h' hz hTI hTO h1 h2 hsz hk => ?_
  have S : ZipSep2 (s1.heap.objs.size + 4) (s1.heap.objs.size + 2) (s1.heap.objs.size + 3) s1.heap.objs.size (s1.heap.objs.size + 1) [s1.heap.objs.size, a] [s1.heap.objs.size + 1, b] :=
    zip_sep2 (fp1 := [a]) (fp2 := [b]) (fun c hc => by rw [List.mem_singleton.mp hc]; exact l1) (fun c hc => by rw [List.mem_singleton.mp hc]; exact l2)
  refine hR s1 H1 a b k1 k2 xs ys its jts _ _ _ _ _ h' I1 q rv rw' few S (Nat.ne_of_lt l1) (Nat.ne_of_lt (Nat.lt_succ_of_lt l2)) hk (fun c hc => ?_) (by rw [hsz]; exact Nat.le_add_right _ _)
    ⟨hz, ⟨_, _, hTO⟩, hTI, ⟨ItK.new h1, p1.at' fun o e => hk _ o e⟩, ItK.new h2, p2.at' fun o e => hk _ o e⟩
  simp only [List.mem_cons, List.not_mem_nil, or_false] at hc
  rcases hc with z | z | z | z <;> (rw [z]; first | exact Nat.le_refl _ | exact Nat.le_add_right _ _)
theorem mk_ps {K : PySem.W.Frag} {H : Hp} : ∀ {xs ys : List V} {its jts : List Value} {ks : List (List Int)}, Vals xs its → Vals ys jts → Paired (KeyV K H) ((xs.zip ys).map (·.1)) ks →
    ∃ ps : List (List Int × Addr × Value), ps.map (·.1) = ks ∧ (∀ x ∈ ps, SqT K H x.2.1 (x.1.map V.int)) ∧ Vals ((xs.zip ys).map (·.2)) (ps.map (·.2.2)) ∧ ps.length = min its.length jts.length ∧
      ∀ (i : Nat) (u v : Value), its[i]? = some u → jts[i]? = some v → ∃ (k : List Int) (b : Addr), ps[i]? = some (k, b, v) ∧ u = Value.ref b
  | [], _, _, _, _, .nil, _, .nil => ⟨[], rfl, fun _ h => (by cases h), .nil, by simp, fun i u v h => by simp at h⟩
  | _ :: _, [], _, _, _, .cons _ _, .nil, .nil => ⟨[], rfl, fun _ h => (by cases h), .nil, by simp, fun i u v _ h => by simp at h⟩
  | x :: xs, y :: ys, it :: its, jt :: jts, k :: ks, .cons r1 t1, .cons r2 t2, .cons hk tk => by
    obtain ⟨ps, e1, e2, e3, e4, e5⟩ := mk_ps t1 t2 tk
    obtain ⟨b, rfl, sq⟩ := hk
    cases (show it = Value.ref b from r1)
    refine ⟨(k, b, jt) :: ps, by rw [List.map_cons, e1], fun z hz => ?_, .cons r2 e3, by simp only [List.length_cons]; omega, fun i u v h1 h2 => ?_⟩
    · rcases List.mem_cons.mp hz with e | hz
      · subst e; exact sq
      · exact e2 z hz
    · cases i with
      | zero =>
        simp only [List.getElem?_cons_zero, Option.some.injEq] at h1 h2
        subst h1 h2
        exact ⟨k, b, rfl, rfl⟩
      | succ i => exact e5 i u v (by simpa using h1) (by simpa using h2)
def qDz (K : PySem.W.Frag) (Q : VK) (a b : Addr) (k1 k2 : Bool) (xs ys : List V) (H1 : Hp) : Prop :=
  ∃ ks : List (List Int), Paired (KeyV K H1) ((xs.zip ys).map (·.1)) ks ∧ ks.Nodup ∧ ∀ p o L, H1 p = none → DtOk p o L → L.map (·.1) = ks → (∀ x ∈ L, SqT K H1 x.2.1 (x.1.map V.int)) → Vals ((xs.zip ys).map (·.2)) (L.map (·.2.2)) → Q (.ref p) (upd H1 p (.ext (DtP p o)))
def tDz (K : PySem.W.Frag) (ta : TA) : TE := fun σ H Q => ta σ H fun vs H1 => ∃ (a b : Addr) (k1 k2 : Bool) (xs ys : List V), vs = [.ref a, .ref b] ∧ SqK K k1 H1 a xs ∧ SqK K k2 H1 b ys ∧ qDz K Q a b k1 k2 xs ys H1
/-- the dict made of pairs, over any source -/
theorem dict_end {T : String} {q : Addr} {fp wr : List Addr} {n : Nat} {Rel : Nat → Value → Value → Prop} {OK : Heap → Prop} {s1 : Shared} {H1 : Hp} {Q : VK} {ps : List (List Int × Addr × Value)} {vs : List V} {h' : Heap} {tk : Nat}
    (P : PairArg X.prog X.w T q fp wr n Rel OK) (hc : X.calm = true) (hu : X.A.units + 3 < cLine) (I : Inv X pins σ H1 s1) (kk : ∀ c o, s1.heap.get? c = some o → h'.get? c = some o) (ok : OK h') (hw : ∀ c ∈ wr, s1.heap.objs.size ≤ c) (hsz : n ≤ sizeLine) (hz : s1.heap.objs.size ≤ h'.objs.size)
    (hl : ps.length = n) (hr : ∀ (i : Nat) (u v : Value), Rel i u v → ∃ (k : List Int) (b : Addr), ps[i]? = some (k, b, v) ∧ u = Value.ref b) (nd : (ps.map (·.1)).Nodup) (sq : ∀ x ∈ ps, SqT X.K H1 x.2.1 (x.1.map V.int)) (hv : Vals vs (ps.map (·.2.2)))
    (hQ : ∀ p o L, H1 p = none → DtOk p o L → L.map (·.1) = ps.map (·.1) → (∀ x ∈ L, SqT X.K H1 x.2.1 (x.1.map V.int)) → Vals vs (L.map (·.2.2)) → Q (.ref p) (upd H1 p (.ext (DtP p o)))) :
    wpAny (model X.prog X.w) X.A (call (.type "dict") [.ref q]) (EP X pins σ Q) X.xe { s1 with heap := h', toks := tk } := by
  have hh : X.A.handled = none := I.ok.hd hc
  have old : ∀ (h2 : Heap), (∀ b o, b ∉ wr → h'.get? b = some o → h2.get? b = some o) → ∀ b o, s1.heap.get? b = some o → h2.get? b = some o := fun h2 k b o e =>
    k b o (fun hm => absurd (Heap.lt_size e) (Nat.not_lt.mpr (hw b hm))) (kk b o e)
  have is : ∀ (h2 : Heap), (∀ b o, s1.heap.get? b = some o → h2.get? b = some o) → ∀ x ∈ ps, (tupleKind (intKind X.prog X.w)).is h2 x.1 x.2.1 := fun h2 k x hx =>
    tup_key (I.kept (t' := s1.toks) k) (sq x hx)
  refine call_dict_pairsH (knd := tupleKind (intKind X.prog X.w)) (ps := ps) P hh (show X.A.units + 2 < cLine by omega) ok ⟨hl, fun i u v r => hr i u v r⟩ (fun h2 k x hx => is h2 (fun b o e => ?_) x hx) hsz fun h2 tk2 hd k => ?_
  · have lb := Heap.lt_size e
    exact k b o (Nat.ne_of_lt (Nat.lt_of_lt_of_le lb hz)) (fun hm => absurd lb (Nat.not_lt.mpr (hw b hm))) (kk b o e)
  · have es : storedAllH [] ps = ps := (stored_ps ps [] (by simpa using nd)).trans rfl
    rw [es] at hd
    obtain ⟨o, es', ep, g1, g2, g3, g4, g5, g6⟩ := hd
    have fr : H1 h'.objs.size = none := I.hok.fresh hz
    have big : (h'.objs.size == sysModules) = false := beq_eq_false_iff_ne.mpr (Nat.ne_of_gt (Nat.lt_of_lt_of_le I.big hz))
    refine ⟨.ref h'.objs.size, upd H1 h'.objs.size (.ext (DtP h'.objs.size o)), ?_, rfl, hQ _ o ps fr ⟨g2, ⟨es', ep, g3, g4⟩, big, by rw [hl]; exact hsz, nd⟩ rfl sq hv⟩
    exact I.laid (t' := tk2) (fun b o e => old h2 k b o e) hz ⟨g1, ⟨o, g1⟩, fun h3 h4 q k' => k' _ q⟩
theorem pe_dzip {e e2 : Expr} {ta : TA} {p0 pos0 p pos : Pos} (hg : Gl X "zip") (hm : X.mg "zip" = none) (hg0 : Gl X "dict") (hm0 : X.mg "dict" = none) (hc : X.calm = true) (hu : X.A.units + 3 < cLine) (ha : PA X [e, e2] ta)
    (hs : starEach [e, e2] X.env = (false, eval e X.env) :: starEach [e2] X.env) (hpl : (backTo pos (starEach [e2] X.env)).any (·.1) = false) :
    PE X (.Call (.Name "dict" p0) [.Call (.Name "zip" p) [e, e2] [] pos] [] pos0) (tDz X.K ta) := by
  refine ⟨fun pins s σ H Q I h => ?_⟩
  refine Call_ (ld_blt I hg0 hm0 PyProof.Rows.boot_dict (PyProof.Rows.callWith_type1 (args_cons (zipE (Qz := qDz X.K Q) hg hm ha hs hpl I h fun s1 H1 a b k1 k2 xs ys its jts z u v i1 i2 h' I1 q rv rw' few S na nb kk new hz N => args_nil ?_))))
  obtain ⟨ks, hk, nd, q⟩ := q
  obtain ⟨ps, e1, e2, e3, e4, e5⟩ := mk_ps rv rw' hk
  refine dict_end (ps := ps) (tk := s1.toks) (zArg S na nb) hc hu I1 kk N new ?_ hz ?_ ?_ (by rw [e1]; exact nd) e2 e3 fun p o L f1 f2 f3 f4 f5 => q p o L f1 f2 (f3.trans e1) f4 f5
  · rw [List.size_toArray, List.size_toArray]; omega
  · rw [List.size_toArray, List.size_toArray]; exact e4
  · intro i u v ⟨r1, r2⟩
    rw [List.getElem?_toArray] at r1 r2
    exact e5 i u v r1 r2
theorem pe_dlz {e e2 : Expr} {ta : TA} {p0 pos0 p1 pos1 p pos : Pos} (hg : Gl X "zip") (hm : X.mg "zip" = none) (hg0 : Gl X "dict") (hm0 : X.mg "dict" = none) (hg1 : Gl X "list") (hm1 : X.mg "list" = none) (hc : X.calm = true) (hu : X.A.units + 3 < cLine) (ha : PA X [e, e2] ta)
    (hs : starEach [e, e2] X.env = (false, eval e X.env) :: starEach [e2] X.env) (hpl : (backTo pos (starEach [e2] X.env)).any (·.1) = false) :
    PE X (.Call (.Name "dict" p0) [.Call (.Name "list" p1) [.Call (.Name "zip" p) [e, e2] [] pos] [] pos1] [] pos0) (tDz X.K ta) := by
  refine ⟨fun pins s σ H Q I h => ?_⟩
  refine Call_ (ld_blt I hg0 hm0 PyProof.Rows.boot_dict (PyProof.Rows.callWith_type1 (args_cons (Call_ (ld_blt I hg1 hm1 PyProof.Rows.boot_list (PyProof.Rows.callWith_type1 (args_cons (zipE (Qz := qDz X.K Q) hg hm ha hs hpl I h fun s1 H1 a b k1 k2 xs ys its jts z u v i1 i2 h' I1 q rv rw' few S na nb kk new hz N => args_nil ?_))))))))
  obtain ⟨ks, hk, nd, q⟩ := q
  obtain ⟨ps, e1, e2, e3, e4, e5⟩ := mk_ps rv rw' hk
  have hn : min its.toArray.size jts.toArray.size ≤ sizeLine := by
    rw [List.size_toArray, List.size_toArray]; omega
  refine zList S na nb (I1.ok.hd hc) hn N fun h2 tk acc c k2' hS hp => args_nil ?_
  have lz : s1.heap.objs.size ≤ h2.objs.size := Nat.le_trans hz (Nat.le_of_lt (Heap.lt_size hS))
  have kk2 : ∀ c o, s1.heap.get? c = some o → h2.get? c = some o := fun c o e => k2' c o (fun hm => absurd (Heap.lt_size e) (Nat.not_lt.mpr (new c hm))) (kk c o e)
  let Ts : Nat → Addr := fun j => match acc[j]? with
    | some (.ref t) => t
    | _ => 0
  have hlen : (its.zip jts).length = min its.toArray.size jts.toArray.size := by rw [List.length_zip, List.size_toArray, List.size_toArray]
  have pi : PairItems h2 acc Ts (its.zip jts) := by
    refine ⟨by rw [hp.1, hlen], fun j k v hj => ?_⟩
    have lj : j < min its.toArray.size jts.toArray.size := by rw [← hlen]; exact (List.getElem?_eq_some_iff.mp hj).1
    obtain ⟨t, x, y, a1, a2, a3, a4, a5⟩ := hp.2 j lj
    rw [List.getElem?_toArray] at a3 a4
    rw [zip_get its jts j a3 a4] at hj
    cases hj
    have eT : Ts j = t := by show (match acc[j]? with | some (.ref t) => t | _ => 0) = t; rw [a1]
    rw [eT]
    exact ⟨a1, .inl ⟨_, a5, rfl, _, rfl⟩⟩
  refine dict_end (s1 := s1) (h' := h2) (ps := ps) (tk := tk) (PairArg.list h'.objs.size acc Ts (its.zip jts)) hc hu I1 kk2 ⟨⟨_, _, hS, rfl, rfl, rfl⟩, pi⟩ (fun c hm => by cases hm) (by rw [hlen]; exact hn) lz (by rw [e4, List.length_zip]) ?_ (by rw [e1]; exact nd) e2 e3 fun p o L f1 f2 f3 f4 f5 => q p o L f1 f2 (f3.trans e1) f4 f5
  intro i u v r
  have r : (its.zip jts)[i]? = some (u, v) := r
  have li := (List.getElem?_eq_some_iff.mp r).1
  rw [List.length_zip] at li
  obtain ⟨u', hu'⟩ : ∃ u', its[i]? = some u' := ⟨_, List.getElem?_eq_getElem (by omega)⟩
  obtain ⟨v', hv'⟩ : ∃ v', jts[i]? = some v' := ⟨_, List.getElem?_eq_getElem (by omega)⟩
  rw [zip_get its jts i hu' hv'] at r
  cases r
  exact e5 i u v hu' hv'
end
end Iv
end

section
set_option Elab.async false
set_option linter.all false
set_option maxHeartbeats 1000000
/-! IvWalk: zip of three, a dict by its keys, by its items. -/
namespace Iv
open PySem PySem.Spec PyProof.Rows L2

/-! ### zip of three -/
def Iz3 (K : PySem.W.Frag) (k1 k2 k3 : Bool) (a b c : Addr) : L2.It :=
  ⟨fun i H => ∃ (xs ys zs : List V), SqK K k1 H a xs ∧ SqK K k2 H b ys ∧ SqK K k3 H c zs ∧ i < min (min xs.length ys.length) zs.length,
    fun i H v H' => ∃ (L : Addr) (x y z : V), v = .ref L ∧ H L = none ∧ H' = upd H L (.tup [x, y, z]) ∧ (∀ xs, SqK K k1 H a xs → xs[i]? = some x) ∧ (∀ ys, SqK K k2 H b ys → ys[i]? = some y) ∧ ∀ zs, SqK K k3 H c zs → zs[i]? = some z,
    fun i H => ∃ xs ys zs : List V, SqK K k1 H a xs ∧ SqK K k2 H b ys ∧ SqK K k3 H c zs ∧ i = min (min xs.length ys.length) zs.length⟩
def TnZ3 (k1 k2 k3 : Bool) (a b c z u v i1 i2 i3 : Addr) (i : Nat) (h : Heap) : Prop := IsZip h z u v .none ∧ IsTupOf3 h u (.ref i1) (.ref i2) (.ref i3) ∧ (∃ x y q, IsTupOf3 h v x y q) ∧ ItK k1 h i1 a i ∧ ItK k2 h i2 b i ∧ ItK k3 h i3 c i
theorem same_at {xs : List V} {its : List Value} (rv : Vals xs its) {i : Nat} {x : V} {u : Value} (ex : xs[i]? = some x) (h : its.toArray[i]? = some u) : RelV x u := by
  obtain ⟨x', hx', rx⟩ := rv.get ex
  rw [List.getElem?_toArray] at h
  rw [h] at hx'
  cases hx'
  exact rx
theorem turn_z3 {P : Program} {w : World} {K : PySem.W.Frag} {elts : List Expr} {n : Nat} {tpos : Pos} {k1 k2 k3 : Bool} {a b c z u v i1 i2 i3 : Addr} (S : ZipSep3 z u v i1 i2 i3 [i1, a] [i2, b] [i3, c]) (ha : a ≠ i1) (hb : b ≠ i2) (hc3 : c ≠ i3) :
    Turn P w K (.Tuple elts n tpos) (Iz3 K k1 k2 k3 a b c) [z, u, v, i1, i2, i3] z (TnZ3 k1 k2 k3 a b c z u v i1 i2 i3) where
  mem := List.mem_cons_self
  obj := fun i h st c hc => by
    obtain ⟨hz, hu, ⟨x, y, q, hv⟩, h1, h2, h3⟩ := st
    simp only [List.mem_cons, List.not_mem_nil, or_false] at hc
    rcases hc with q | q | q | q | q | q
    · subst q; exact ⟨_, hz, fun _ e => nomatch e⟩
    · subst q; exact ⟨_, hu, fun _ e => nomatch e⟩
    · subst q; exact ⟨_, hv, fun _ e => nomatch e⟩
    · rw [q]; exact h1.obj
    · rw [q]; exact h2.obj
    · rw [q]; exact h3.obj
  keep := fun i h h' st k => by
    obtain ⟨hz, hu, ⟨x, y, q, hv⟩, h1, h2, h3⟩ := st
    have m : ∀ c, c ∈ [z, u, v, i1, i2, i3] → ∀ o, h.get? c = some o → h'.get? c = some o := k
    exact ⟨m z (by simp) _ hz, m u (by simp) _ hu, ⟨x, y, q, m v (by simp) _ hv⟩, h1.at (m i1 (by simp)), h2.at (m i2 (by simp)), h3.at (m i3 (by simp))⟩
  item := by
    intro X hP hw hK hc i pins s σ H E I hf st hg
    subst hP hw hK
    obtain ⟨xs, ys, zs, q1, q2, q3, hlt⟩ := hg
    obtain ⟨its, rv, p, l1⟩ := q1.at I
    obtain ⟨jts, rw', p2, l2⟩ := q2.at I
    obtain ⟨kts, rz, p3, l3⟩ := q3.at I
    obtain ⟨hz, hu, hv, h1, h2, h3⟩ := st
    have hh : X.A.in1.handled = none := I.ok.hd hc
    have G := GoesN.zip3 (elts := elts) (x1 := n) (pos := tpos) S (drawsK (prog := X.prog) (w := X.w) k1 hh i1 a ha its.toArray) (drawsK (prog := X.prog) (w := X.w) k2 hh i2 b hb jts.toArray) (drawsK (prog := X.prog) (w := X.w) k3 hh i3 c hc3 kts.toArray)
    have lt : i < min (min its.toArray.size jts.toArray.size) kts.toArray.size := by
      rw [List.size_toArray, List.size_toArray, List.size_toArray, ← rv.length, ← rw'.length, ← rz.length]; exact hlt
    refine G.goes i s _ E lt ⟨hz, hu, hv, ⟨h1, p⟩, ⟨h2, p2⟩, ⟨h3, p3⟩⟩ fun val h' tk hY st' hk htk => ?_
    obtain ⟨L, x, y, q, e, hnew, hx, hy, hq, hT⟩ := hY
    obtain ⟨xv, ex⟩ : ∃ xv, xs[i]? = some xv := ⟨_, List.getElem?_eq_getElem (by omega)⟩
    obtain ⟨yv, ey⟩ : ∃ yv, ys[i]? = some yv := ⟨_, List.getElem?_eq_getElem (by omega)⟩
    obtain ⟨zv, ez⟩ : ∃ zv, zs[i]? = some zv := ⟨_, List.getElem?_eq_getElem (by omega)⟩
    subst e
    have new : ObjOk X.prog X.w (upd H L (.tup [xv, yv, zv])) h' L (.tup [xv, yv, zv]) := ⟨by show 3 ≤ sizeLine; decide, [x, y, q], .cons (same_at rv ex hx) (.cons (same_at rw' ey hy) (.cons (same_at rz ez hq) .nil)), hT⟩
    have sub : ∀ c, c ∉ [z, u, v, i1, i2, i3] → c ∉ [z, v, i1, i2, i3] := fun c hn hm => hn (by
      simp only [List.mem_cons, List.not_mem_nil, or_false] at hm ⊢
      rcases hm with q | q | q | q | q <;> simp [q])
    have I1 : Inv X pins σ (upd H L (.tup [xv, yv, zv])) { s with heap := h', toks := tk } := I.turnedNew (ch := [z, u, v, i1, i2, i3]) (fun c o hn q => hk c o (sub c hn) q) hf hnew new
    refine ⟨.ref L, _, I1, rfl, ⟨L, xv, yv, zv, rfl, I.hok.fresh hnew, rfl, fun l hl => by rw [SqK.inj I hl q1]; exact ex, fun l hl => by rw [SqK.inj I hl q2]; exact ey, fun l hl => by rw [SqK.inj I hl q3]; exact ez⟩,
      ⟨st'.1, st'.2.1, st'.2.2.1, st'.2.2.2.1.1, st'.2.2.2.2.1.1, st'.2.2.2.2.2.1⟩, fun c hcm => ?_⟩
    have hlt : c < s.heap.objs.size := by
      simp only [List.mem_cons, List.not_mem_nil, or_false] at hcm
      rcases hcm with q | q | q | q | q | q
      · rw [q]; exact Heap.lt_size hz
      · rw [q]; exact Heap.lt_size hu
      · obtain ⟨_, _, _, hv⟩ := hv
        rw [q]; exact Heap.lt_size hv
      · obtain ⟨_, e, _⟩ := h1.obj
        rw [q]; exact Heap.lt_size e
      · obtain ⟨_, e, _⟩ := h2.obj
        rw [q]; exact Heap.lt_size e
      · obtain ⟨_, e, _⟩ := h3.obj
        rw [q]; exact Heap.lt_size e
    rw [upd_ne (Nat.ne_of_lt (Nat.lt_of_lt_of_le hlt hnew))]
    exact (hf c hcm).1
  done := by
    intro X hP hw hK hc i pins s σ H E I hf st hg
    subst hP hw hK
    obtain ⟨xs, ys, zs, q1, q2, q3, hlt⟩ := hg
    obtain ⟨its, rv, p, l1⟩ := q1.at I
    obtain ⟨jts, rw', p2, l2⟩ := q2.at I
    obtain ⟨kts, rz, p3, l3⟩ := q3.at I
    obtain ⟨hz, hu, hv, h1, h2, h3⟩ := st
    have hh : X.A.in1.handled = none := I.ok.hd hc
    have G := GoesN.zip3 (elts := elts) (x1 := n) (pos := tpos) S (drawsK (prog := X.prog) (w := X.w) k1 hh i1 a ha its.toArray) (drawsK (prog := X.prog) (w := X.w) k2 hh i2 b hb jts.toArray) (drawsK (prog := X.prog) (w := X.w) k3 hh i3 c hc3 kts.toArray)
    have lt : i = min (min its.toArray.size jts.toArray.size) kts.toArray.size := by
      rw [List.size_toArray, List.size_toArray, List.size_toArray, ← rv.length, ← rw'.length, ← rz.length]; exact hlt
    subst lt
    have sub : ∀ c, c ∉ [z, u, v, i1, i2, i3] → c ∉ [z, v, i1, i2, i3] := fun c hn hm => hn (by
      simp only [List.mem_cons, List.not_mem_nil, or_false] at hm ⊢
      rcases hm with q | q | q | q | q <;> simp [q])
    exact G.stops s _ E ⟨hz, hu, hv, ⟨h1, p⟩, ⟨h2, p2⟩, ⟨h3, p3⟩⟩ fun h' tk hk htk => I.turnedL (t' := tk) (ch := [z, u, v, i1, i2, i3]) (fun c o hn q => hk c o (sub c hn) q) hf
  self := fun A i s Q E st h => wpAny_pyIter_zip st.1 h
def iZ3 (K : PySem.W.Frag) (ta : TA) : TI := fun σ H R => ta σ H fun vs H1 => ∃ (a b c : Addr) (k1 k2 k3 : Bool) (xs ys zs : List V), vs = [.ref a, .ref b, .ref c] ∧ SqK K k1 H1 a xs ∧ SqK K k2 H1 b ys ∧ SqK K k3 H1 c zs ∧ R (Iz3 K k1 k2 k3 a b c) H1
theorem vals_three {a b c : V} {us : List Value} (h : Vals [a, b, c] us) : ∃ x y z, us = [x, y, z] ∧ RelV a x ∧ RelV b y ∧ RelV c z := by
  cases h with
  | cons h1 t => cases t with
    | cons h2 t => cases t with
      | cons h3 t => cases t; exact ⟨_, _, _, rfl, h1, h2, h3⟩
theorem pi_z3 {X : Cx} {e e2 e3 : Expr} {ta : TA} {p pos tpos : Pos} {elts : List Expr} {n : Nat} (hg : Gl X "zip") (hm : X.mg "zip" = none) (ha : PA X [e, e2, e3] ta)
    (hs : starEach [e, e2, e3] X.env = (false, eval e X.env) :: starEach [e2, e3] X.env) (hpl : (backTo pos (starEach [e2, e3] X.env)).any (·.1) = false) :
    PI X (.Tuple elts n tpos) (.Call (.Name "zip" p) [e, e2, e3] [] pos) (iZ3 X.K ta) := by
  refine ⟨fun pins s σ H R I h => ?_⟩
  refine Call_ (ld_blt I hg hm PyProof.Rows.boot_zip (PyProof.Rows.callWith_type1 (thn (ha.run pos pins s σ H _ I h) fun us s1 ⟨vs, H1, I1, r1, q1⟩ => ?_) hs hpl))
  obtain ⟨a, b, c, k1, k2, k3, xs, ys, zs, ex, s1q, s2q, s3q, q⟩ := q1
  subst ex
  obtain ⟨u1, u2, u3, rfl, ra, rb, rc⟩ := vals_three r1
  cases (show u1 = Value.ref a from ra)
  cases (show u2 = Value.ref b from rb)
  cases (show u3 = Value.ref c from rc)
  obtain ⟨its, rv, p1, l1⟩ := s1q.at I1
  obtain ⟨jts, rw', p2, l2⟩ := s2q.at I1
  obtain ⟨kts, rz, p3, l3⟩ := s3q.at I1
  refine zip_begins3 (begK k1 a its.toArray) (begK k2 b jts.toArray) (begK k3 c kts.toArray) p1 p2 p3 fun h' hz hTI hTO h1 h2 h3 hsz hk => wpAny_pyIter_zip hz ?_
  have I2 : Inv X pins σ H1 { s1 with heap := h' } := I1.kept (t' := s1.toks) hk
  have S := zip_sep3 (N := s1.heap.objs.size) (fp1 := [a]) (fp2 := [b]) (fp3 := [c]) (fun c hc => by rw [List.mem_singleton.mp hc]; exact l1) (fun c hc => by rw [List.mem_singleton.mp hc]; exact l2) (fun c hc => by rw [List.mem_singleton.mp hc]; exact l3)
  refine ⟨s1.heap.objs.size + 5, [s1.heap.objs.size + 5, s1.heap.objs.size + 3, s1.heap.objs.size + 4, s1.heap.objs.size, s1.heap.objs.size + 1, s1.heap.objs.size + 2], _, _, H1, rfl, I2,
    turn_z3 S (Nat.ne_of_lt l1) (Nat.ne_of_lt (Nat.lt_succ_of_lt l2)) (Nat.ne_of_lt (Nat.lt_succ_of_lt (Nat.lt_succ_of_lt l3))), ⟨hz, hTI, ⟨_, _, _, hTO⟩, ItK.new h1, ItK.new h2, ItK.new h3⟩, fun c hcm => ?_, q⟩
  have hle : s1.heap.objs.size ≤ c := by
    simp only [List.mem_cons, List.not_mem_nil, or_false] at hcm
    rcases hcm with z | z | z | z | z | z <;> (rw [z]; first | exact Nat.le_refl _ | exact Nat.le_add_right _ _)
  exact I1.fpOk hle (I1.hok.fresh hle)
theorem wk_zip3 {K : PySem.W.Frag} {w0 : Wd} {ds es fs : List D} {s1 s2 s3 : List (Nat × List D)} {a b c : Addr} {k1 k2 k3 : Bool} (p1 : ∀ p ∈ s1, w0.M[p.1]? = some (.lst p.2)) (p2 : ∀ p ∈ s2, w0.M[p.1]? = some (.lst p.2)) (p3 : ∀ p ∈ s3, w0.M[p.1]? = some (.lst p.2))
    (h1 : ∀ w, Up K w0 w → (∀ p ∈ s1, w.M[p.1]? = some (.lst p.2)) → ∃ vs, SqK K k1 w.H a vs ∧ Reps K w ds vs)
    (h2 : ∀ w, Up K w0 w → (∀ p ∈ s2, w.M[p.1]? = some (.lst p.2)) → ∃ vs, SqK K k2 w.H b vs ∧ Reps K w es vs)
    (h3 : ∀ w, Up K w0 w → (∀ p ∈ s3, w.M[p.1]? = some (.lst p.2)) → ∃ vs, SqK K k3 w.H c vs ∧ Reps K w fs vs) : WkR K w0 ⟨(ds.zip (es.zip fs)).map fun p => .tup [p.1, p.2.1, p.2.2], s1 ++ (s2 ++ s3)⟩ (Iz3 K k1 k2 k3 a b c) := by
  have both : ∀ w, Up K w0 w → Wk.same ⟨(ds.zip (es.zip fs)).map fun p => .tup [p.1, p.2.1, p.2.2], s1 ++ (s2 ++ s3)⟩ w.M → ∃ vs us ws, SqK K k1 w.H a vs ∧ Reps K w ds vs ∧ SqK K k2 w.H b us ∧ Reps K w es us ∧ SqK K k3 w.H c ws ∧ Reps K w fs ws := fun w u s => by
    obtain ⟨vs, q1, r1⟩ := h1 w u fun p hp => s p (List.mem_append_left _ hp)
    obtain ⟨us, q2, r2⟩ := h2 w u fun p hp => s p (List.mem_append_right _ (List.mem_append_left _ hp))
    obtain ⟨ws, q3, r3⟩ := h3 w u fun p hp => s p (List.mem_append_right _ (List.mem_append_right _ hp))
    exact ⟨vs, us, ws, q1, r1, q2, r2, q3, r3⟩
  have len : (List.map (fun p : D × D × D => D.tup [p.1, p.2.1, p.2.2]) (ds.zip (es.zip fs))).length = min (min ds.length es.length) fs.length := by simp
  refine ⟨fun p hp => (List.mem_append.mp hp).elim (p1 p) fun hp => (List.mem_append.mp hp).elim (p2 p) (p3 p), fun i w u s hi => ?_, fun w u s => ?_, fun i w x H' u s hi y => ?_⟩
  · obtain ⟨vs, us, ws, q1, r1, q2, r2, q3, r3⟩ := both w u s
    refine ⟨vs, us, ws, q1, q2, q3, ?_⟩
    rw [← r1.length, ← r2.length, ← r3.length, ← len]; exact hi
  · obtain ⟨vs, us, ws, q1, r1, q2, r2, q3, r3⟩ := both w u s
    refine ⟨vs, us, ws, q1, q2, q3, ?_⟩
    rw [← r1.length, ← r2.length, ← r3.length, ← len]
  · obtain ⟨vs, us, ws, q1, r1, q2, r2, q3, r3⟩ := both w u s
    obtain ⟨L, xv, yv, zv, e1, hL, e2, f1, f2, f3⟩ := y
    subst e1 e2
    obtain ⟨d, d1, d2⟩ := r1.get' (f1 vs q1)
    obtain ⟨e, e1, e2⟩ := r2.get' (f2 us q2)
    obtain ⟨f, g1, g2⟩ := r3.get' (f3 ws q3)
    refine ⟨w.put L (.tup [xv, yv, zv]), .tup [d, e, f], rfl, good_put u.good hL, ext_put hL, rfl, ?_, rep_tup u.good hL (.cons d2 (.cons e2 (.cons g2 .nil)))⟩
    show (List.map (fun p : D × D × D => D.tup [p.1, p.2.1, p.2.2]) (ds.zip (es.zip fs)))[i]? = _
    rw [List.getElem?_map, zip_get ds _ i d1 (zip_get es fs i e1 g1)]
    rfl

/-! ### a dict -/
section
variable {a : Addr} {o : Obj} {xs : List (List Int × Addr × Value)}
/-- by its keys -/
def Idk (a : Addr) (o : Obj) (xs : List (List Int × Addr × Value)) : L2.It :=
  ⟨fun i H => H a = some (.ext (DtP a o)) ∧ i < xs.length, fun i H v H' => H' = H ∧ ∃ x, xs[i]? = some x ∧ v = .ref x.2.1, fun i H => H a = some (.ext (DtP a o)) ∧ i = xs.length⟩
theorem key_of_ent {es : Array DictEntry} (he : es.toList = xs.map entI) {i : Nat} (hi : i < es.size) {x : List Int × Addr × Value} (hx : xs[i]? = some x) : es[i].key = .ref x.2.1 ∧ es[i].val = x.2.2 := by
  have e : es.toList[i]? = some (entI x) := by rw [he, List.getElem?_map, hx]; rfl
  have e2 : es.toList[i]? = some es[i] := by rw [Array.getElem?_toList]; exact Array.getElem?_eq_getElem hi
  rw [e2] at e
  rw [Option.some.inj e]
  exact ⟨rfl, rfl⟩
theorem ent_size {es : Array DictEntry} (he : es.toList = xs.map entI) : es.size = xs.length := by
  rw [← Array.length_toList, he, List.length_map]
theorem turn_dk {P : Program} {w : World} {K : PySem.W.Frag} {tg : Expr} {it : Addr} {ep : Nat} {es : Array DictEntry} (hne : a ≠ it) (hx : o.ExactDict) (hd : o.data = .dict es ep) (he : es.toList = xs.map entI) :
    Turn P w K tg (Idk a o xs) [it] it fun i h => h.IsKeyIter it a i es.size ep where
  mem := List.mem_cons_self
  obj := fun i h st c hc => by
    rw [List.mem_singleton.mp hc]
    obtain ⟨oi, h1, _, h2⟩ := st
    exact ⟨oi, h1, fun v q => by rw [h2] at q; cases q⟩
  keep := fun i h h' st k => st.at fun o e => k it (by simp) o e
  item := by
    intro X hP hw hK hc i pins s σ H E I hf st hg
    subst hP hw hK
    obtain ⟨hg, hi⟩ := hg
    have raw : s.heap.DictRaw a es ep := ⟨o, dt_get I hg, hx, hd⟩
    obtain ⟨x, ex⟩ : ∃ x, xs[i]? = some x := ⟨_, List.getElem?_eq_getElem hi⟩
    have hh : X.A.handled = none := I.ok.hd hc
    refine (Goes.rawKeys (target := tg) hh it a hne es ep).goes i s _ E (by rw [ent_size he]; exact hi) ⟨st, raw⟩ fun v h' tk ⟨hi', ev⟩ st' hk htk => ?_
    have I1 : Inv X pins σ H { s with heap := h', toks := tk } := I.turnedL (t' := tk) (ch := [it]) hk hf
    refine ⟨.ref x.2.1, H, I1, ?_, ⟨rfl, x, ex, rfl⟩, st'.1, fun c hc => (hf c hc).1⟩
    rw [ev, (key_of_ent he hi' ex).1]
    rfl
  done := by
    intro X hP hw hK hc i pins s σ H E I hf st hg
    subst hP hw hK
    obtain ⟨hg, hi⟩ := hg
    have raw : s.heap.DictRaw a es ep := ⟨o, dt_get I hg, hx, hd⟩
    have hh : X.A.handled = none := I.ok.hd hc
    rw [← ent_size he] at hi
    subst hi
    exact (Goes.rawKeys (target := tg) hh it a hne es ep).stops s _ E ⟨st, raw⟩ fun h' tk hk htk => I.turnedL (t' := tk) (ch := [it]) hk hf
  self := fun A i s Q E st h => wpAny_pyIter_keyiter st h
theorem wk_dk {K : PySem.W.Frag} {w0 : Wd} (h : w0.H a = some (.ext (DtP a o))) (hn : ¬ Own w0 a) (sq : ∀ x ∈ xs, SqT K w0.H x.2.1 (x.1.map V.int)) (g0 : Good K w0) : WkR K w0 ⟨(xs.map (·.1)).map fun k => .tup (k.map .int), []⟩ (Idk a o xs) := by
  have at_ : ∀ w, Up K w0 w → w.H a = some (.ext (DtP a o)) := fun w u => u.keep a _ h hn (fun _ z => nomatch z) fun _ m => m.ext rfl
  have len : (List.map (fun k : List Int => D.tup (k.map .int)) (xs.map (·.1))).length = xs.length := by simp
  refine ⟨(fun p hp => nomatch hp), fun i w u s hi => ⟨at_ w u, by rw [← len]; exact hi⟩, fun w u s => ⟨at_ w u, len⟩, fun i w x H' u s hi y => ?_⟩
  obtain ⟨e1, x', e2, e3⟩ := y
  subst e3
  refine ⟨w, .tup (x'.1.map .int), e1.symm, u.good, Ext.refl w, rfl, ?_, ?_⟩
  · show (List.map (fun k : List Int => D.tup (k.map .int)) (xs.map (·.1)))[i]? = _
    rw [List.getElem?_map, List.getElem?_map, e2]
    rfl
  · have r0 : Rep K w0 (.tup (x'.1.map .int)) (.ref x'.2.1) := by
      refine .tup (sq x' (List.mem_of_getElem? e2)) ?_
      have : ∀ ks : List Int, Reps K w0 (ks.map .int) (ks.map V.int) := fun ks => by
        induction ks with
        | nil => exact .nil
        | cons k ks ih => exact .cons (.int k) ih
      exact this _
    exact u.rep _ _ r0
def iDk (td : TE) : TI := fun σ H R => td σ H fun v H1 => ∃ (a : Addr) (o : Obj) (xs : List (List Int × Addr × Value)), v = .ref a ∧ H1 a = some (.ext (DtP a o)) ∧ DtOk a o xs ∧ R (Idk a o xs) H1
theorem pi_dk {X : Cx} {tg l : Expr} {tl : TE} (hl : PE X l tl) : PI X tg l (iDk tl) := by
  refine ⟨fun pins s σ H R I h => thn (hl.run pins s σ H _ I h) fun v s1 hv => ?_⟩
  obtain ⟨x, H1, I1, r1, a, o, xs, e, ha, ok, q⟩ := hv
  subst e
  cases (show v = Value.ref a from r1)
  obtain ⟨es, ep, hd, he⟩ := ok.dat
  have at_ := dt_get I1 ha
  refine wpAny_pyIter_dict_raw ok.sys ⟨o, at_, ok.ex, hd⟩ ?_
  refine ⟨s1.heap.objs.size, [s1.heap.objs.size], _, _, H1, rfl, I1.kept (t' := s1.toks) fun b ob e => Heap.get?_push_of_some _ e, turn_dk (ep := ep) (es := es) (xs := xs) (Nat.ne_of_lt (Heap.lt_size at_)) ok.ex hd he, ⟨_, Heap.get?_push_size _ rfl, rfl, rfl⟩, fun c hc => by
    rw [List.mem_singleton.mp hc]; exact I1.fpOk (Nat.le_refl _) (I1.hok.fresh (Nat.le_refl _)), q⟩
end
end Iv
end

section
set_option Elab.async false
set_option linter.all false
set_option maxHeartbeats 1000000
/-! IvEx2: calls, methods, displays of dicts, comprehensions. -/
namespace Iv
open PySem PySem.Spec PyProof.Rows L2

/-! ### calls of defs -/
theorem place_ok {K : PySem.W.Frag} {w : Wd} {ds : List D} {vs : List V} {us : List Value} (r : Reps K w ds vs) (v : Vals vs us) : ∀ {out : List (Sum Nat D)} {xs : List Value} {zs : List D}, Paired (Plc K us) out xs →
    out.mapM (fun | .inl i => ds[i]? | .inr d => some d) = some zs → ∃ ws, Vals ws xs ∧ Reps K w zs ws
  | [], _, _, .nil, h => by
    simp at h
    subst h
    exact ⟨[], .nil, .nil⟩
  | o :: out, x :: xs, zs, .cons p q, h => by
    rw [List.mapM_cons] at h
    simp only [Option.bind_eq_bind, Option.bind_eq_some_iff] at h
    obtain ⟨z, h1, zr, h2, h3⟩ := h
    cases h3
    obtain ⟨ws, f1, f2⟩ := place_ok r v q h2
    cases o with
    | inl i =>
      have h1 : ds[i]? = some z := h1
      have p : us[i]? = some x := p
      obtain ⟨y, y1, y2⟩ := r.get h1
      obtain ⟨u, u1, u2⟩ := v.get y1
      rw [p] at u1; cases u1
      exact ⟨y :: ws, .cons u2 f1, .cons y2 f2⟩
    | inr d =>
      have h1 : some d = some z := h1
      cases h1
      obtain ⟨y, y1, y2⟩ := p
      exact ⟨y :: ws, .cons y1 f1, .cons (y2 w) f2⟩
section
variable {T : Lp} {cl : Nat → List D → Mo D} {N : List Str} {k : Nat} {X : Cx} {W : WX} {own sc : Scope}
/-- a call of a def, by values -/
theorem run_G {pins : List (Addr × Obj)} {σ : L2.St} {s : Shared} {w : Wd} {Q : VK} {us ws : List Value} {vs zs : List V} {ds es : List D} {a : Addr} {fdt : FuncData} {ps : List Str} {m : List D → Mo D} {sh : Shape} {xs : List D}
    (F : FnG X.prog X.w X.K X.mg X.base k a fdt ps m) (hr : Room k X.A) (hg : X.A.guards = some []) (tk : Takes X W) (S : ShpOk X.K fdt ps sh) (I : Inv X pins σ w.H s) (g : Good X.K w) (r : Vals vs us) (rz : Vals zs ws) (rd : Reps X.K w ds vs) (re : Reps X.K w es zs)
    (l1 : ds.length = sh.np) (l2 : es.length = sh.ks.length) (pl : sh.place (ds ++ es) = some xs) (h : EvG X.K X.mg (fun c d H => W c d σ H) (Rep X.K) (m xs) w Q) :
    wpAny (model X.prog X.w) X.A (call (.ref a) us (sh.ks.zip ws)) (EP X pins σ Q) X.xe s := by
  obtain ⟨ys, b1, b2, b3⟩ := S.ok s us ws I.kIn (by rw [← r.length, ← rd.length]; exact l1) (by rw [← rz.length, ← re.length]; exact l2)
  obtain ⟨vv, v1, v2⟩ := place_ok (rd.append re) (r.append rz) b3 pl
  refine wpAny_call (codeAny_mono (F.run X.A X.stack s w ⟨us, sh.ks.zip ws⟩ ys vv xs Q (fun c d H => W c d σ H) hr hg I.env0 b1 (by rw [v1.length]; exact b2) v1 g v2 h) fun r s' hq => ?_)
  cases r with
  | error e => exact passAt tk σ pins w.H s e s' I hq
  | ok fl =>
    cases fl with
    | ret u => exact I.after hq
    | next => exact False.elim hq
    | brk => exact False.elim hq
    | cont => exact False.elim hq
variable (T cl) in
noncomputable def evCall (f sh : Nat) (es ks : Exs) (ρ : Env) : Mo D := (evs T cl es ρ).bind fun ds => (evs T cl ks ρ).bind fun zs => match T.fd f with
    | some fd => match fd.shapes[sh]? with
      | some s => if ds.length = s.np ∧ zs.length = s.ks.length then match s.place (ds ++ zs) with
        | some vs => cl f vs
        | none => bad
        else bad
      | none => bad
    | none => bad
variable (T cl X W) in
noncomputable abbrev tK (es : Exs) : TA := tA T cl X W es
/-- keywords' values -/
theorem s_knil : PK X [] (tA T cl X W .nil) := ⟨fun pos pins s σ H Q I ⟨w, ρ, hH, hg, hr, h⟩ => by
  subst hH
  exact pk_nil.run pos pins s σ _ Q I (EvG.ok (a := ([] : List D)) (b := ([] : List V)) h hg .nil)⟩
theorem s_kcons {e : Ex} {es : Exs} {x : Expr} {kws : List Keyword} {nm : Option Str} {kpos : Pos} (ha : PE X x (tE T cl X W e)) (hr : PK X kws (tA T cl X W es)) : PK X (⟨nm, x, kpos⟩ :: kws) (tA T cl X W (.cons e es)) :=
  ⟨fun pos pins s σ H Q I ⟨w, ρ, hH, hg, he, h⟩ => by
    subst hH
    exact (pk_cons ha hr).run pos pins s σ _ Q I (tG.seq (m1 := ev T cl e) (f := fun d => (evs T cl es ρ).bind fun ds => fun M => .ok (d :: ds) M) hg he h fun w1 z v g1 x1 r1 e1 q1 =>
      tG.seq (m1 := evs T cl es) (f := fun ds => fun M => .ok (z :: ds) M) g1 e1 q1 fun w2 zs vs g2 x2 r2 e2 q2 =>
        EvG.ok (a := z :: zs) (b := v :: vs) q2 g2 (.cons (r1.mono g1 x2) r2))⟩
theorem kw_any {kws : List Keyword} (pos : Pos) (env : PySem.Env) (h : kws.all (fun kw => kw.arg.isSome) = true) : (backToKw pos (keywordEach kws env)).all (·.1.isSome) = true ∧ (backToKw pos (keywordEach kws env)).any (·.1.isNone) = false ∧ (backToKw pos (keywordEach kws env)).filterMap (·.1) = kws.filterMap (fun kw => kw.arg) := by
  induction kws with
  | nil => exact ⟨rfl, rfl, rfl⟩
  | cons kw r ih =>
    rw [List.all_cons, Bool.and_eq_true] at h
    obtain ⟨i1, i2, i3⟩ := ih h.2
    obtain ⟨nm, v, p⟩ := kw
    cases nm with
    | none => cases h.1
    | some x =>
      have e : backToKw pos (keywordEach (⟨some x, v, p⟩ :: r) env) = (some x, do let u ← eval v env; standAt pos; pure u) :: backToKw pos (keywordEach r env) := rfl
      rw [e]
      refine ⟨?_, ?_, ?_⟩
      · rw [List.all_cons, i1]; rfl
      · rw [List.any_cons, i2]; rfl
      · rw [List.filterMap_cons, i3]; rfl
/-- f(..) -/
theorem s_call (g : CxG T cl N k X W own sc) {f sh : Nat} {es ks : Exs} {x : Str} {args : List Expr} {kws : List Keyword} {p pos : Pos} {fd : Fd} {s0 : Shape} (hx : T.nm f = x) (hv : sc.names.lookup x = some .globalImplicit) (hd : (x == ("__debug__" : Str)) = false)
    (hf : T.fd f = some fd) (hs : fd.shapes[sh]? = some s0) (hk : kws.filterMap (fun kw => kw.arg) = s0.ks) (hka : kws.all (fun kw => kw.arg.isSome) = true)
    (ha : PA X args (tA T cl X W es)) (hkw : PK X kws (tA T cl X W ks)) (hnil : args = [] → es = .nil) (hst : ∀ e r, args = e :: r → starEach (e :: r) X.env = (false, eval e X.env) :: starEach r X.env) (hpl : ∀ e r, args = e :: r → (backTo pos (starEach r X.env)).any (·.1) = false) :
    PE X (.Call (.Name x p) args kws pos) (tE T cl X W (.call f sh es ks)) := by
  obtain ⟨a, fdt, ps, m1, m2, m3, m4, m5⟩ := (g.lib.fn f fd hf).ex
  have S := m5 sh s0 hs
  obtain ⟨ka, kn, kf⟩ := kw_any pos X.env hka
  refine ⟨fun pins s σ H Q I ⟨w, ρ, hH, hg, he, h⟩ => ?_⟩
  subst hH
  have h : EvG X.K X.mg (fun c d H => W c d σ H) (Rep X.K) (evCall T cl f sh es ks ρ) w Q := h
  have fin : ∀ {w2 : Wd} {ds zs : List D} {vs us' : List V} {us ws : List Value} {s2 : Shared}, Inv X pins σ w2.H s2 → Good X.K w2 → Vals vs us → Vals us' ws → Reps X.K w2 ds vs → Reps X.K w2 zs us' →
      EvG X.K X.mg (fun c d H => W c d σ H) (Rep X.K) (match T.fd f with
      | some fd => match fd.shapes[sh]? with
        | some s => if ds.length = s.np ∧ zs.length = s.ks.length then match s.place (ds ++ zs) with
          | some vs => cl f vs
          | none => bad
          else bad
        | none => bad
      | none => bad) w2 Q → wpAny (model X.prog X.w) X.A (call (.ref a) us (((backToKw pos (keywordEach kws X.env)).filterMap (·.1)).zip ws)) (EP X pins σ Q) X.xe s2 := fun {w2 ds zs vs us' us ws s2} I2 g2 rv rz rd re q => by
    rw [hf] at q
    simp only [hs] at q
    by_cases c : ds.length = s0.np ∧ zs.length = s0.ks.length
    · rw [if_pos c] at q
      cases pl : s0.place (ds ++ zs) with
      | none => rw [pl] at q; exact q.elim
      | some xs =>
        rw [pl] at q
        rw [kf, hk]
        exact run_G m4 g.room g.gds g.takes S I2 g2 rv rz rd re c.1 c.2 pl q
    · rw [if_neg c] at q
      exact q.elim
  refine wpAny_Call_Name_kw (ld_glob I (show X.env.scope.names.lookup x = _ by rw [g.scope]; exact hv) (by rw [← hx]; exact m1) ?_ hd)
  have h1 : tA T cl X W es σ w.H (fun vs H1 => tA T cl X W ks σ H1 fun zs H2 => ∃ (w2 : Wd) (ds es : List D), w2.H = H2 ∧ Good X.K w2 ∧ Reps X.K w2 ds vs ∧ Reps X.K w2 es zs ∧ EvG X.K X.mg (fun c d H => W c d σ H) (Rep X.K) (match T.fd f with
      | some fd => match fd.shapes[sh]? with
        | some s => if ds.length = s.np ∧ es.length = s.ks.length then match s.place (ds ++ es) with
          | some vs => cl f vs
          | none => bad
          else bad
        | none => bad
      | none => bad) w2 Q) :=
    tG.seq (m1 := evs T cl es) (f := fun ds => (evs T cl ks ρ).bind fun zs => match T.fd f with
      | some fd => match fd.shapes[sh]? with
        | some s => if ds.length = s.np ∧ zs.length = s.ks.length then match s.place (ds ++ zs) with
          | some vs => cl f vs
          | none => bad
          else bad
        | none => bad
      | none => bad) hg he h fun w1 ds vs g1 x1 r1 e1 q1 =>
      tG.seq (m1 := evs T cl ks) (f := fun zs => match T.fd f with
        | some fd => match fd.shapes[sh]? with
          | some s => if ds.length = s.np ∧ zs.length = s.ks.length then match s.place (ds ++ zs) with
            | some vs => cl f vs
            | none => bad
            else bad
          | none => bad
        | none => bad) g1 e1 q1 fun w2 zs us g2 x2 r2 e2 q2 => ⟨w2, ds, zs, rfl, g2, r1.mono g1 x2, r2, q2⟩
  have kwrun : ∀ {us : List Value} {vs : List V} {s1 : Shared} {H1 : Hp}, Inv X pins σ H1 s1 → Vals vs us → tA T cl X W ks σ H1 (fun zs H2 => ∃ (w2 : Wd) (ds es : List D), w2.H = H2 ∧ Good X.K w2 ∧ Reps X.K w2 ds vs ∧ Reps X.K w2 es zs ∧ EvG X.K X.mg (fun c d H => W c d σ H) (Rep X.K) (match T.fd f with
      | some fd => match fd.shapes[sh]? with
        | some s => if ds.length = s.np ∧ es.length = s.ks.length then match s.place (ds ++ es) with
          | some vs => cl f vs
          | none => bad
          else bad
        | none => bad
      | none => bad) w2 Q) → wpAny (model X.prog X.w) X.A (evalAll ((backToKw pos (keywordEach kws X.env)).map (·.2))) (fun ws s2 => X.K.In s2.heap ∧ wpAny (model X.prog X.w) X.A (call (.ref a) us (((backToKw pos (keywordEach kws X.env)).filterMap (·.1)).zip ws)) (EP X pins σ Q) X.xe s2) X.xe s1 := fun {us vs s1 H1} I1 rv q1 =>
    thn (hkw.run pos pins s1 σ H1 _ I1 q1) fun ws s2 ⟨zs, H2, I2, rz, w2, ds, es2, eH, g2, rd, re, q2⟩ => by
      subst eH
      exact ⟨I2.kIn, fin I2 g2 rv rz rd re q2⟩
  cases args with
  | cons e r =>
    refine PySem.W.callWith_KW (h₀ := X.base) I.ok.mod.kin m2 ka (thn (ha.run pos pins s σ w.H _ I h1) fun us s1 ⟨vs, H1, I1, rv, q1⟩ => kwrun I1 rv q1) ?_ (hst e r rfl)
    rw [hst e r rfl]
    show ((false || (backTo pos (starEach r X.env)).any (·.1)) || (backToKw pos (keywordEach kws X.env)).any (·.1.isNone)) = false
    rw [hpl e r rfl, kn] <;> rfl
  | nil =>
    refine PySem.W.callWith_KW0 (h₀ := X.base) I.ok.mod.kin m2 ka ?_ (by rw [kn]; rfl)
    cases hnil rfl
    obtain ⟨w1, ρ1, eH, g1, he1, h2⟩ := h1
    have h2 : EvG X.K X.mg (fun c d H => W c d σ H) (Reps X.K) (fun M => .ok ([] : List D) M) w1 _ := h2
    have h3 := EvG.ok (b := ([] : List V)) h2 g1 .nil
    rw [eH] at h3
    exact kwrun (us := []) I .nil h3
end
end Iv
end

section
set_option Elab.async false
set_option linter.all false
set_option maxHeartbeats 1000000
/-! IvEx3: what is built in, called; methods; displays of dicts; comprehensions. -/
namespace Iv
open PySem PySem.Spec PyProof.Rows L2
def Bf.nm : Bf → Str
  | .len => "len" | .isi => "isinstance" | .tuple => "tuple" | .list => "list" | .int => "int" | .abs => "abs"
  | .min2 => "min" | .max2 => "max" | .maxL => "max" | .minL => "min" | .sum => "sum" | .all => "all" | .any => "any"
  | .sorted => "sorted" | .gcd => "gcd" | .repr => "repr"
theorem Bf.boot (f : Bf) (h : f ≠ .gcd) : bootBuiltins f.nm = some f.val := by
  cases f <;> first | exact absurd rfl h | (decide +kernel)
theorem Bf.names (f : Bf) : f.nm ≠ "__name__" ∧ (f.nm == ("__debug__" : Str)) = false := by
  cases f <;> decide +kernel
section
variable {T : Lp} {cl : Nat → List D → Mo D} {N : List Str} {k : Nat} {X : Cx} {W : WX} {own sc : Scope}
/-- the name of what is built in: it is not the module's, or it is math's gcd -/
def BfOk (T : Lp) (f : Bf) : Prop := (f = .gcd ∧ T.gcd = true) ∨ (f ≠ .gcd ∧ f.nm ∈ T.free)
theorem pe_bf (g : CxG T cl N k X W own sc) {f : Bf} (hf : BfOk T f) (hv : sc.names.lookup f.nm = some .globalImplicit) {e : Expr} {es : List Expr} {t : TA} {p pos : Pos} {r : List V → Hp → VK → Prop} (hc : CallR X f.val r) (ha : PA X (e :: es) t)
    (he : starEach (e :: es) X.env = (false, eval e X.env) :: starEach es X.env) (hpl : (backTo pos (starEach es X.env)).any (·.1) = false) : PE X (.Call (.Name f.nm p) (e :: es) [] pos) (tCB r t) := by
  have gl : Gl X f.nm := show X.env.scope.names.lookup f.nm = _ by rw [g.scope]; exact hv
  obtain ⟨n1, n2⟩ := f.names
  rcases hf with ⟨e1, hg⟩ | ⟨h1, h2⟩
  · subst e1
    exact pe_callBfun hc gl (g.lib.gcd hg) ha n2 he hpl
  · have m0 := g.lib.free _ h2
    have b := f.boot h1
    cases f with
    | tuple => exact pe_callTy hc gl m0 b ha n1 n2 he hpl
    | list => exact pe_callTy hc gl m0 b ha n1 n2 he hpl
    | int => exact pe_callTy hc gl m0 b ha n1 n2 he hpl
    | gcd => exact absurd rfl h1
    | _ => exact pe_callB hc gl m0 b ha n1 n2 he hpl
theorem s_blt (g : CxG T cl N k X W own sc) {f : Bf} (hf : BfOk T f) (hv : sc.names.lookup f.nm = some .globalImplicit) {es : Exs} {e : Expr} {xs : List Expr} {p pos : Pos} (ha : PA X (e :: xs) (tA T cl X W es))
    (he : starEach (e :: xs) X.env = (false, eval e X.env) :: starEach xs X.env) (hpl : (backTo pos (starEach xs X.env)).any (·.1) = false) : PE X (.Call (.Name f.nm p) (e :: xs) [] pos) (tE T cl X W (.blt false f es)) :=
  (pe_bf g hf hv (blt_ok f g.calm (by have := g.room.un; omega) g.gds) ha he hpl).impV fun σ H Q ⟨w, ρ, hH, hg, hr, h⟩ => by
    subst hH
    exact tG.seq (m1 := evs T cl es) (f := fun ds M => match blt M f ds with
      | some d => match false, d with
        | true, .lst xs => .ok (.loc M.length) (M ++ [.lst xs])
        | true, _ => .bad
        | false, d => .ok d M
      | none => .bad) hg hr h fun w1 ds vs g1 x1 r1 e1 q1 => by
        have q1 : EvR X.K X.mg (fun c d H => W c d σ H) (Rep X.K) (match blt w1.M f ds with
          | some d => .ok d w1.M
          | none => .bad) w1 Q := by
          have q0 : EvR X.K X.mg (fun c d H => W c d σ H) (Rep X.K) (match blt w1.M f ds with
            | some d => match false, d with
              | true, .lst xs => .ok (.loc w1.M.length) (w1.M ++ [.lst xs])
              | true, _ => .bad
              | false, d => .ok d w1.M
            | none => .bad) w1 Q := q1
          cases hb : blt w1.M f ds with
          | none => rw [hb] at q0; exact q0.elim
          | some d => rw [hb] at q0; exact q0
        cases hb : blt w1.M f ds with
        | none => rw [hb] at q1; exact q1.elim
        | some d =>
          rw [hb] at q1
          exact ⟨w1, ds, rfl, g1, r1, d, hb, fun w' b g' e' hM r' => q1 w' b g' e' hM r'⟩
/-- .. a new object of the store: list, sorted -/
theorem bltm_ok (f : Bf) (hf : f = .list ∨ f = .sorted) : CallR X f.val (rFm X.K f) := by
  intro pins s σ H xs us Q I r ⟨w, ds, es, hH, g, t, hz, q⟩
  subst hH
  have fin : ∀ {p : Addr} {vs : List V}, w.H p = none → Reps X.K w es vs → Q (.ref p) (upd w.H p (.lst vs)) := fun {p vs} hp rr => by
    have x := ext_alloc (ob := .lst es) (o := .lst vs) g hp
    exact q (w.alloc p (.lst es) (.lst vs)) _ (good_alloc g hp (g.notZ hp) fun _ => .lst upd_same (rr.mono g x)) x rfl (rep_loc g)
  match ds, t, hz with
  | [], t, hz => cases hz
  | [d], t, hz =>
    obtain ⟨v, rfl, r1⟩ := one_inv t
    rcases hf with e | e
    · subst e
      obtain ⟨es', h1, h2⟩ := Option.map_eq_some_iff.mp (show (seqOf w.M d).map D.lst = some (.lst es) from hz)
      cases h2
      obtain ⟨a, vs, rfl, sq, rr⟩ := seqOf_sq g r1 h1
      exact call_list_of pins s σ _ _ us Q I r ⟨a, vs, rfl, sq, fun p hp => fin hp rr⟩
    · subst e
      obtain ⟨es', qq, h0⟩ := onL_some (show onL w.M (fun ds => (Iv.sorted ds).map .lst) d = some (.lst es) from hz)
      obtain ⟨zs, h1, h2⟩ := Option.map_eq_some_iff.mp h0
      cases h2
      obtain ⟨a, vs, rfl, sq, rr⟩ := lstOf_sq g r1 qq
      exact sorted_ok I r g sq rr h1 fun p vs' hp r' => fin hp r'
  | [d, e], t, hz =>
    rcases hf with e1 | e1 <;> (subst e1; cases hz)
  | _ :: _ :: _ :: _, t, hz => cases hz
theorem s_bltm (g : CxG T cl N k X W own sc) {f : Bf} (hm : f = .list ∨ f = .sorted) (hf : BfOk T f) (hv : sc.names.lookup f.nm = some .globalImplicit) {es : Exs} {e : Expr} {xs : List Expr} {p pos : Pos} (ha : PA X (e :: xs) (tA T cl X W es))
    (he : starEach (e :: xs) X.env = (false, eval e X.env) :: starEach xs X.env) (hpl : (backTo pos (starEach xs X.env)).any (·.1) = false) : PE X (.Call (.Name f.nm p) (e :: xs) [] pos) (tE T cl X W (.blt true f es)) :=
  (pe_bf g hf hv (bltm_ok f hm) ha he hpl).impV fun σ H Q ⟨w, ρ, hH, hg, hr, h⟩ => by
    subst hH
    exact tG.seq (m1 := evs T cl es) (f := fun ds M => match blt M f ds with
      | some d => match true, d with
        | true, .lst xs => .ok (.loc M.length) (M ++ [.lst xs])
        | true, _ => .bad
        | false, d => .ok d M
      | none => .bad) hg hr h fun w1 ds vs g1 x1 r1 e1 q1 => by
        have q0 : EvR X.K X.mg (fun c d H => W c d σ H) (Rep X.K) (match blt w1.M f ds with
          | some d => match true, d with
            | true, .lst xs => .ok (.loc w1.M.length) (w1.M ++ [.lst xs])
            | true, _ => .bad
            | false, d => .ok d w1.M
          | none => .bad) w1 Q := q1
        cases hb : blt w1.M f ds with
        | none => rw [hb] at q0; exact q0.elim
        | some d =>
          rw [hb] at q0
          cases d <;> first | exact q0.elim | skip
          rename_i es'
          exact ⟨w1, ds, es', rfl, g1, r1, hb, fun w' b g' e' hM r' => q0 w' b g' e' hM r'⟩

/-! ### methods -/
/-- a value with list's methods -/
theorem tyL {K : PySem.W.Frag} {w : Wd} (g : Good K w) {d : D} {v : V} {ds : List D} (r : Rep K w d v) (h : lstOf w.M d = some ds) : tyV K "list" v w.H := by
  obtain ⟨a, vs, rfl, sq, _⟩ := lstOf_sq g r h
  exact .inl ⟨rfl, vs, sq⟩
theorem recv_ty {K : PySem.W.Frag} {w : Wd} (g : Good K w) {d : D} {v : V} {m : Mt} (r : Rep K w d v) (hm : m ≠ .tindex) (h : recv w.M m d = true) : tyV K "list" v w.H := by
  have e : (lstOf w.M d).isSome = true := by cases m <;> first | exact h | exact absurd rfl hm
  obtain ⟨ds, q⟩ := Option.isSome_iff_exists.mp e
  exact tyL g r q
/-- a method of lists, by values -/
def rMt (K : PySem.W.Frag) (mg : Str → Option Value) (m : Mt) : V → List V → Hp → VK → Prop := fun x xs H Q => ∃ (w : Wd) (d : D) (ds : List D) (E : XK), w.H = H ∧ Good K w ∧ Rep K w d x ∧ Reps K w ds xs ∧ EvG K mg E (Rep K) (mth m d ds) w Q
theorem mtr_ok (m : Mt) (hm : m ≠ .tindex) (hu : X.A.units + 70 < cLine) : MtR X m.id (rMt X.K X.mg m) := by
  intro pins s σ H x xs v us Q I rx rs ⟨w, d, ds, E, hH, g, r, rr, h⟩
  subst hH
  match ds, rr, h with
  | [], rr, h =>
    cases rr
    cases rs
    exact mth0_ok m I g r rx h
  | [y], rr, h =>
    obtain ⟨u, rfl, r1⟩ := one_inv rr
    obtain ⟨z, rfl, rz⟩ := vals1 rs
    exact mth1_ok m hm hu I g r rx r1 rz h
  | _ :: _ :: _, rr, h => exact h.elim
theorem Mt.slot (m : Mt) (hm : m ≠ .tindex) : Slot "list" m.nm m.id := by
  cases m with
  | append => exact F.slot_list_append
  | pop => exact F.slot_list_pop
  | popAt => exact F.slot_list_pop
  | index => exact F.slot_list_index
  | extend => exact F.slot_list_extend
  | tindex => exact absurd rfl hm
theorem Mt.descr (m : Mt) : typeOf (.builtin m.id) = pure (.type "method_descriptor") := by cases m <;> rfl
/-- o.m(e, ..) -/
theorem s_mth (g : CxG T cl N k X W own sc) {m : Mt} (hm : m ≠ .tindex) {o : Ex} {es : Exs} {x e : Expr} {xs : List Expr} {apos cpos : Pos} (ho : PE X x (tE T cl X W o)) (ha : PA X (e :: xs) (tA T cl X W es))
    (hb : attributeBase x m.nm X.env (eval x X.env) = eval x X.env) (hl : (apos.endLine == cpos.line) = true)
    (hfew : ((backTo cpos (starEach (e :: xs) X.env)).all (fun x => !x.1) && (backToKw cpos (keywordEach [] X.env)).all (fun x => x.1.isSome) && decide ((e :: xs).length + ([] : List Keyword).length + (if ([] : List Keyword).isEmpty then 0 else 1) < 30)) = true)
    (he : starEach (e :: xs) X.env = (false, eval e X.env) :: starEach xs X.env) (hpl : (backTo cpos (starEach xs X.env)).any (·.1) = false) :
    PE X (.Call (.Attribute x m.nm apos) (e :: xs) [] cpos) (tE T cl X W (.mth m o es)) :=
  (pe_bm F.plainAttrs_list (m.slot hm) m.descr (mtr_ok m hm (by have := g.room.un; omega)) ho ha hb hfew hl he hpl).impV fun σ H Q ⟨w, ρ, hH, hg, hr, h⟩ => by
    subst hH
    exact tG.seq (m1 := ev T cl o) (f := fun x M => if recv M m x then ((evs T cl es ρ).bind fun ds => mth m x ds) M else .bad) hg hr h fun w1 x v g1 x1 r1 e1 q1 => by
      have q1 : EvR X.K X.mg (fun c d H => W c d σ H) (Rep X.K) (if recv w1.M m x then ((evs T cl es ρ).bind fun ds => mth m x ds) w1.M else .bad) w1 Q := q1
      by_cases c : recv w1.M m x = true
      · rw [if_pos c] at q1
        refine ⟨recv_ty g1 r1 hm c, ?_⟩
        exact tG.seq (m1 := evs T cl es) (f := fun ds => mth m x ds) g1 e1 q1 fun w2 ds vs g2 x2 r2 e2 q2 => ⟨w2, x, ds, _, rfl, g2, r1.mono g1 x2, r2, q2⟩
      · rw [if_neg c] at q1
        exact q1.elim
/-- o.m() -/
theorem s_mth0 (g : CxG T cl N k X W own sc) {m : Mt} (hm : m ≠ .tindex) {o : Ex} {x : Expr} {apos cpos : Pos} (ho : PE X x (tE T cl X W o))
    (hb : attributeBase x m.nm X.env (eval x X.env) = eval x X.env) (hl : (apos.endLine == cpos.line) = true) : PE X (.Call (.Attribute x m.nm apos) [] [] cpos) (tE T cl X W (.mth m o .nil)) :=
  (pe_bm0 F.plainAttrs_list (m.slot hm) m.descr (mtr_ok m hm (by have := g.room.un; omega)) ho hb hl).impV fun σ H Q ⟨w, ρ, hH, hg, hr, h⟩ => by
    subst hH
    exact tG.seq (m1 := ev T cl o) (f := fun x M => if recv M m x then ((evs T cl .nil ρ).bind fun ds => mth m x ds) M else .bad) hg hr h fun w1 x v g1 x1 r1 e1 q1 => by
      have q1 : EvR X.K X.mg (fun c d H => W c d σ H) (Rep X.K) (if recv w1.M m x then ((evs T cl .nil ρ).bind fun ds => mth m x ds) w1.M else .bad) w1 Q := q1
      by_cases c : recv w1.M m x = true
      · rw [if_pos c] at q1
        exact ⟨recv_ty g1 r1 hm c, w1, x, [], _, rfl, g1, r1, .nil, q1⟩
      · rw [if_neg c] at q1
        exact q1.elim
theorem tup_const {K : PySem.W.Frag} {ds : List D} {a : Addr} (r : ∀ w : Wd, Rep K w (.tup ds) (.ref a)) (w : Wd) : ∃ vs, SqT K w.H a vs ∧ Reps K w ds vs := by
  obtain ⟨a', vs, e, h1, h2⟩ := (r w).tup_inv
  cases e
  exact ⟨vs, h1, h2⟩
/-- t.index(e) of a constant -/
theorem s_tindex (g : CxG T cl N k X W own sc) {c : Nat} {y : Str} {es : Exs} {e : Expr} {npos apos cpos : Pos} (hc : c ∈ T.tix) (hy : T.nm c = y) (hv : sc.names.lookup y = some .globalImplicit) (hd : (y == ("__debug__" : Str)) = false) (ha : PA X [e] (tA T cl X W es))
    (hl : (apos.endLine == cpos.line) = true)
    (hfew : ((backTo cpos (starEach [e] X.env)).all (fun x => !x.1) && (backToKw cpos (keywordEach [] X.env)).all (fun x => x.1.isSome) && decide ([e].length + ([] : List Keyword).length + (if ([] : List Keyword).isEmpty then 0 else 1) < 30)) = true)
    (he : starEach [e] X.env = (false, eval e X.env) :: starEach [] X.env) (hpl : (backTo cpos (starEach [] X.env)).any (·.1) = false) :
    PE X (.Call (.Attribute (.Name y npos) "index" apos) [e] [] cpos) (tE T cl X W (.mth .tindex (.glob c) es)) := by
  obtain ⟨a, ob, h1, h2, h3, h4⟩ := g.lib.tix c hc
  have gl : Gl X y := show X.env.scope.names.lookup y = _ by rw [g.scope]; exact hv
  refine ⟨fun pins s σ H Q I ⟨w, ρ, hH, hg, hr, h⟩ => ?_⟩
  subst hH
  have h : EvG X.K X.mg (fun c d H => W c d σ H) (Rep X.K) ((ofO (T.gv c)).bind fun x => (evs T cl es ρ).bind fun ds => mth .tindex x ds) w Q := h
  cases hgv : T.gv c with
  | none => rw [hgv] at h; exact h.elim
  | some d =>
    rw [hgv] at h
    have h : EvG X.K X.mg (fun c d H => W c d σ H) (Rep X.K) ((evs T cl es ρ).bind fun ds => mth .tindex d ds) w Q := h
    obtain ⟨u, v, m1, m2, m3⟩ := g.lib.gv c d hgv
    rw [h1] at m1
    cases m1
    have ev : v = .ref a := by
      cases v <;> first | (cases m2; rfl) | (obtain ⟨_, z⟩ := m2; cases z) | (cases (show Value.ref a = _ from m2))
    subst ev
    have hN : PE X (.Name y npos) (tC (.ref a)) := pe_glob gl (by rw [← hy]; exact h1) rfl hd
    have hM : MtR X "tuple.index" (fun x xs H Q => x = .ref a ∧ ∃ (w : Wd) (ds : List D), w.H = H ∧ Good X.K w ∧ Reps X.K w ds xs ∧ EvG X.K X.mg (fun c d H => W c d σ H) (Rep X.K) (mth .tindex d ds) w Q) := by
      intro pins s σ' H x xs v us Q I rx rs ⟨ex, w, ds, hH, g', rr, q⟩
      subst hH ex
      cases (show v = Value.ref a from rx)
      match ds, rr, q with
      | [], rr, q => exact q.elim
      | [y'], rr, q =>
        obtain ⟨u', rfl, r1⟩ := one_inv rr
        obtain ⟨z, rfl, rz⟩ := vals1 rs
        cases d with
        | tup its =>
          obtain ⟨vs, sq, rvs⟩ := tup_const m3 w
          have q : EvG X.K X.mg _ (Rep X.K) (ofO (indexD y' its)) w Q := q
          obtain ⟨zz, hz, q⟩ := q.ofO
          exact tindex_ok (by have := g.room.un; omega) I g' sq rvs r1 rz hz fun b rb => q w b g' (Ext.refl w) rfl rb
        | _ => exact q.elim
      | _ :: _ :: _, rr, q => exact q.elim
    refine (pe_bm F.plainAttrs_tuple F.slot_tuple_index rfl hM hN ha rfl hfew hl he hpl).run pins s σ w.H Q I ?_
    refine ⟨.inr (.inl ⟨rfl, ob, h2, h3, h4⟩), ?_⟩
    exact tG.seq (m1 := evs T cl es) (f := fun ds => mth .tindex d ds) hg hr h fun w2 ds vs g2 x2 r2 e2 q2 => ⟨rfl, w2, ds, rfl, g2, r2, q2⟩

/-! ### comprehensions -/
mutual
/-- the slots of a target -/
def Tg.sl : Tg → List Nat
  | .nm i => [i]
  | .tp ts => Tgs.sl ts
def Tgs.sl : Tgs → List Nat
  | .nil => []
  | .cons t ts => Tg.sl t ++ Tgs.sl ts
end
/-- nothing but these slots differs -/
def Frm (is : List Nat) (σ σ' : L2.St) : Prop := σ'.length = σ.length ∧ ∀ j, j ∉ is → σ'[j]? = σ[j]?
theorem Frm.refl {is : List Nat} {σ : L2.St} : Frm is σ σ := ⟨rfl, fun _ _ => rfl⟩
theorem Frm.trans {is js : List Nat} {σ σ1 σ2 : L2.St} (a : Frm is σ σ1) (b : Frm js σ1 σ2) : Frm (is ++ js) σ σ2 :=
  ⟨b.1.trans a.1, fun j h => (b.2 j fun z => h (List.mem_append_right _ z)).trans (a.2 j fun z => h (List.mem_append_left _ z))⟩
theorem wipe_at {σ : L2.St} : ∀ {own : List Nat} {j : Nat}, (L2.wipe σ own)[j]? = if j ∈ own then (if j < σ.length then some none else none) else σ[j]?
  | [], j => by simp [L2.wipe]
  | i :: r, j => by
    have ih := @wipe_at σ r j
    show ((L2.wipe σ r).set i none)[j]? = _
    by_cases c : i = j
    · subst c
      rw [if_pos List.mem_cons_self]
      by_cases hl : i < σ.length
      · rw [if_pos hl, List.getElem?_set_self (by rw [L2.wipe_length]; exact hl)]
      · rw [if_neg hl, List.getElem?_eq_none (by rw [List.length_set, L2.wipe_length]; omega)]
    · rw [List.getElem?_set_ne c, ih]
      by_cases m : j ∈ r
      · rw [if_pos m, if_pos (List.mem_cons_of_mem _ m)]
      · rw [if_neg m, if_neg (fun z => (List.mem_cons.mp z).elim (fun e => c e.symm) m)]
theorem wipe_frm {own is : List Nat} {σ σ2 : L2.St} (h : Frm is (L2.wipe σ own) σ2) (hs : ∀ i ∈ is, i ∈ own) : L2.wipe σ2 own = L2.wipe σ own := by
  have hl : σ2.length = σ.length := h.1.trans (L2.wipe_length σ own)
  refine List.ext_getElem? fun j => ?_
  rw [wipe_at, wipe_at, hl]
  by_cases m : j ∈ own
  · rw [if_pos m, if_pos m]
  · rw [if_neg m, if_neg m, h.2 j fun z => m (hs j z), wipe_at, if_neg m]
/-- targets -/
def GP (K : PySem.W.Frag) (is : List Nat) (f : D → Env → Option Env) : TG := fun v σ H Q => ∃ (w : Wd) (d : D) (ρ ρ' : Env), w.H = H ∧ Good K w ∧ EnvR K w ρ σ ∧ Rep K w d v ∧ f d ρ = some ρ' ∧ ∀ σ', EnvR K w ρ' σ' → Frm is σ σ' → Q σ' H
def GPs (K : PySem.W.Frag) (is : List Nat) (f : List D → Env → Option Env) : TGs := fun vs σ H Q => ∃ (w : Wd) (ds : List D) (ρ ρ' : Env), w.H = H ∧ Good K w ∧ EnvR K w ρ σ ∧ Reps K w ds vs ∧ f ds ρ = some ρ' ∧ ∀ σ', EnvR K w ρ' σ' → Frm is σ σ' → Q σ' H
theorem _root_.L2.PG.impV {X : Cx} {e : Expr} {t t' : TG} (h : PG X e t) (k : ∀ v σ H Q, t' v σ H Q → t v σ H Q) : PG X e t' := ⟨fun pins s σ H v u Q I r q => h.run pins s σ H v u Q I r (k v σ H Q q)⟩
theorem _root_.L2.PGs.impV {X : Cx} {e : List Expr} {t t' : TGs} (h : PGs X e t) (k : ∀ v σ H Q, t' v σ H Q → t v σ H Q) : PGs X e t' := ⟨fun pins s σ H v u Q I r q => h.run pins s σ H v u Q I r (k v σ H Q q)⟩
theorem EnvR.set {K : PySem.W.Frag} {w : Wd} {ρ : Env} {σ : L2.St} {d : D} {v : V} (h : EnvR K w ρ σ) (i : Nat) (r : Rep K w d v) : EnvR K w (ρ.set i (some d)) (σ.set i (some v)) := by
  refine ⟨by rw [List.length_set, List.length_set]; exact h.len, fun j e q => ?_⟩
  by_cases c : i = j
  · subst c
    have hl : i < ρ.length := by
      have := (List.getElem?_eq_some_iff.mp q).1
      rwa [List.length_set] at this
    rw [List.getElem?_set_self hl] at q
    cases q
    exact ⟨v, List.getElem?_set_self (by rw [← h.len]; exact hl), r⟩
  · rw [List.getElem?_set_ne c] at q ⊢
    exact h.get j e q
theorem EnvR.wipe {K : PySem.W.Frag} {w : Wd} {ρ : Env} {σ : L2.St} (h : EnvR K w ρ σ) : ∀ own : List Nat, EnvR K w (wipeE ρ own) (wipe σ own)
  | [] => h
  | i :: r => by
    have ih := EnvR.wipe h r
    refine ⟨by show ((wipeE ρ r).set i none).length = ((L2.wipe σ r).set i none).length; rw [List.length_set, List.length_set]; exact ih.len, fun j e q => ?_⟩
    have q : ((wipeE ρ r).set i none)[j]? = some (some e) := q
    show ∃ v, ((L2.wipe σ r).set i none)[j]? = some (some v) ∧ _
    by_cases c : i = j
    · subst c
      by_cases hl : i < (wipeE ρ r).length
      · rw [List.getElem?_set_self hl] at q; cases q
      · rw [List.getElem?_eq_none (by rw [List.length_set]; omega)] at q; cases q
    · rw [List.getElem?_set_ne c] at q ⊢
      exact ih.get j e q
/-- the store alone tells nothing of slots that are wiped -/
theorem s_gname (g : CxG T cl N k X W own sc) {i : Nat} {x : Str} {pos : Pos} (hi : N[i]? = some x) (hx : Loc own x) : PG X (.Name x pos) (GP X.K (Tg.sl (.nm i)) (bindT (.nm i))) := by
  obtain ⟨h1, h2⟩ := g.store x hx
  refine (pg_name (by rw [g.names]; exact g.nodup) (by rw [g.names]; exact hi) (by rw [g.scope]; exact h1) (by rw [g.scope]; exact h2)).impV fun v σ H Q ⟨w, d, ρ, ρ', hH, hg, he, r, e, q⟩ => ?_
  subst hH
  cases (show some (ρ.set i (some d)) = some ρ' from e)
  exact q _ (he.set i r) ⟨List.length_set, fun j h => List.getElem?_set_ne fun z => h (by subst z; exact List.mem_singleton.mpr rfl)⟩
theorem s_gnil : PGs X [] (GPs X.K (Tgs.sl .nil) (bindTs .nil)) := pgs_nil.impV fun vs σ H Q ⟨w, ds, ρ, ρ', hH, hg, he, r, e, q⟩ => by
  subst hH
  cases ds with
  | cons d ds => cases e
  | nil =>
    cases r
    cases e
    exact ⟨rfl, q σ he Frm.refl⟩
theorem s_gcons {t : Tg} {ts : Tgs} {e : Expr} {es : List Expr} (h1 : PG X e (GP X.K (Tg.sl t) (bindT t))) (h2 : PGs X es (GPs X.K (Tgs.sl ts) (bindTs ts)))
    (hs : (assignEach (e :: es) X.env).map (·.2) = assign e X.env :: (assignEach es X.env).map (·.2)) : PGs X (e :: es) (GPs X.K (Tgs.sl (.cons t ts)) (bindTs (.cons t ts))) :=
  (pgs_cons h1 h2 hs).impV fun vs σ H Q ⟨w, ds, ρ, ρ', hH, hg, he, r, e, q⟩ => by
    subst hH
    cases ds with
    | nil => cases e
    | cons d ds =>
      have e : (match bindT t d ρ with
        | some ρ1 => bindTs ts ds ρ1
        | none => none) = some ρ' := e
      cases hb : bindT t d ρ with
      | none => rw [hb] at e; cases e
      | some ρ1 =>
        rw [hb] at e
        cases r with
        | cons r1 r2 => exact ⟨_, _, rfl, w, d, ρ, ρ1, rfl, hg, he, r1, hb, fun σ1 he1 f1 => ⟨w, ds, ρ1, ρ', rfl, hg, he1, r2, e, fun σ2 he2 f2 => q σ2 he2 (f1.trans f2)⟩⟩
theorem bindTs_len : ∀ {ts : Tgs} {ds : List D} {ρ ρ' : Env} {n : Nat}, bindTs ts ds ρ = some ρ' → (∀ (ds : List D) (ρ ρ' : Env), bindTs ts ds ρ = some ρ' → ds.length = n) → ds.length = n := fun h k => k _ _ _ h
def Tgs.len : Tgs → Nat
  | .nil => 0
  | .cons _ ts => ts.len + 1
theorem bindTs_length : ∀ (ts : Tgs) {ds : List D} {ρ ρ' : Env}, bindTs ts ds ρ = some ρ' → ds.length = ts.len
  | .nil, [], _, _, _ => rfl
  | .nil, _ :: _, _, _, h => by cases h
  | .cons _ _, [], _, _, h => by cases h
  | .cons t ts, d :: ds, ρ, ρ', h => by
    have e : (match bindT t d ρ with
      | some ρ1 => bindTs ts ds ρ1
      | none => none) = some ρ' := h
    cases hb : bindT t d ρ with
    | none => rw [hb] at e; cases e
    | some ρ1 =>
      rw [hb] at e
      show ds.length + 1 = ts.len + 1
      rw [bindTs_length ts e]
theorem s_gtup (g : CxG T cl N k X W own sc) {ts : Tgs} {es : List Expr} {n : Nat} {pos : Pos} (h : PGs X es (GPs X.K (Tgs.sl ts) (bindTs ts))) (hn : (assignEach es X.env).length = ts.len) (hst : (assignEach es X.env).findIdx? (·.1) = none) : PG X (.Tuple es n pos) (GP X.K (Tg.sl (.tp ts)) (bindT (.tp ts))) :=
  (pg_tup (n := ts.len) g.calm h hn hst).impV fun v σ H Q ⟨w, d, ρ, ρ', hH, hg, he, r, e, q⟩ => by
    subst hH
    cases d with
    | tup ds =>
      have e : bindTs ts ds ρ = some ρ' := e
      obtain ⟨a, vs, rfl, sq, rr⟩ := r.tup_inv
      exact ⟨a, vs, rfl, sq, by rw [← rr.length]; exact bindTs_length ts e, w, ds, ρ, ρ', rfl, hg, he, rr, e, q⟩
    | _ => cases e

variable (T cl X W) in
noncomputable abbrev tI (i : It) : TI := tG X.K X.mg W (WkR X.K) (evi T cl i)
/-- the context of a block asks for no exception -/
abbrev W0 : WX := fun _ _ _ _ => False
theorem compL_cons {w : Wk} {t : Tg} {c : Env → Mo Bool} {e : Env → Mo D} {ρ : Env} {d : D} {ds : List D} {M M' : Sto} {out : List D} (h : compL w t c e ρ (d :: ds) M = .ok out M') :
    ∃ ρ1 b M1, bindT t d ρ = some ρ1 ∧ c ρ1 M = .ok b M1 ∧ ((b = true ∧ ∃ x M2 xs, e ρ1 M1 = .ok x M2 ∧ w.same M2 ∧ compL w t c e ρ ds M2 = .ok xs M' ∧ out = x :: xs) ∨ (b = false ∧ w.same M1 ∧ compL w t c e ρ ds M1 = .ok out M')) := by
  rw [compL] at h
  cases h1 : bindT t d ρ with
  | none => simp only [h1] at h; cases h
  | some ρ1 =>
    simp only [h1] at h
    cases h2 : c ρ1 M with
    | exc _ _ _ => simp only [h2] at h; cases h
    | bad => simp only [h2] at h; cases h
    | ok b M1 =>
      simp only [h2] at h
      refine ⟨ρ1, b, M1, rfl, h2, ?_⟩
      cases b with
      | false =>
        simp only [Bool.false_eq_true, if_false] at h
        by_cases s : w.same M1
        · rw [if_pos s] at h
          exact .inr ⟨rfl, s, h⟩
        · rw [if_neg s] at h; cases h
      | true =>
        simp only [if_true] at h
        cases h3 : e ρ1 M1 with
        | exc _ _ _ => simp only [h3] at h; cases h
        | bad => simp only [h3] at h; cases h
        | ok x M2 =>
          simp only [h3] at h
          by_cases s : w.same M2
          · rw [if_pos s] at h
            cases h4 : compL w t c e ρ ds M2 with
            | exc _ _ _ => simp only [h4] at h; cases h
            | bad => simp only [h4] at h; cases h
            | ok xs M3 =>
              simp only [h4] at h
              injection h with e1 e2
              subst e1 e2
              exact .inl ⟨rfl, x, M2, xs, rfl, s, h4, rfl⟩
          · rw [if_neg s] at h; cases h
theorem compL_ok {w : Wk} {t : Tg} {c : Env → Mo Bool} {e : Env → Mo D} {ρ : Env} : ∀ {ds : List D} {M : Sto}, (∃ out M', compL w t c e ρ ds M = .ok out M') ∨ compL w t c e ρ ds M = .bad
  | [], M => .inl ⟨[], M, rfl⟩
  | d :: ds, M => by
    have ih := fun M => @compL_ok w t c e ρ ds M
    rw [compL]
    cases h1 : bindT t d ρ with
    | none => exact .inr rfl
    | some ρ1 =>
      simp only []
      cases h2 : c ρ1 M with
      | exc _ _ _ => exact .inr rfl
      | bad => exact .inr rfl
      | ok b M1 =>
        simp only []
        cases b with
        | false =>
          simp only [Bool.false_eq_true, if_false]
          by_cases s : w.same M1
          · rw [if_pos s]; exact ih M1
          · rw [if_neg s]; exact .inr rfl
        | true =>
          simp only [if_true]
          cases h3 : e ρ1 M1 with
          | exc _ _ _ => exact .inr rfl
          | bad => exact .inr rfl
          | ok x M2 =>
            simp only []
            by_cases s : w.same M2
            · rw [if_pos s]
              rcases ih M2 with ⟨o, M', h4⟩ | h4
              · rw [h4]; exact .inl ⟨_, _, rfl⟩
              · rw [h4]; exact .inr rfl
            · rw [if_neg s]; exact .inr rfl
theorem lc_read {m : Bool} {ow : List Nat} {t : Tg} {it : It} {c : Ox} {e : Ex} (hs : ∀ i ∈ Tg.sl t, i ∈ ow) {σ : L2.St} {H : Hp} {Q : VK} (h : tE T cl X W (.comp m ow t it c e) σ H Q) :
    tLc (tI T cl X W it) (GP X.K (Tg.sl t) (bindT t)) (tC' T cl X W0 c) (tE T cl X W0 e) ow σ H Q := by
  obtain ⟨w, ρ, hH, hg, hr, h⟩ := h
  subst hH
  refine tG.seq (m1 := evi T cl it) (f := fun kk => (compL kk t (evc T cl c) (ev T cl e) (wipeE ρ ow) kk.items).bind fun ds =>
      if ds.length ≤ sizeLine then (if m then fun M => .ok (D.loc M.length) (M ++ [.lst ds]) else fun M => .ok (D.lst ds) M) else bad) hg hr h fun w1 kk J g1 x1 r1 e1 q1 => ?_
  unfold EvG Mo.bind at q1
  rcases @compL_ok kk t (evc T cl c) (ev T cl e) (wipeE ρ ow) kk.items w1.M with ⟨all, Me, hc⟩ | hc
  · rw [hc] at q1
    by_cases hz : all.length ≤ sizeLine
    · have q1 : EvR X.K X.mg (fun c d H => W c d σ H) (Rep X.K) ((if all.length ≤ sizeLine then (if m then fun M => .ok (D.loc M.length) (M ++ [.lst all]) else fun M => .ok (D.lst all) M) else (bad : Mo D)) Me) w1 Q := q1
      rw [if_pos hz] at q1
      intro L hL
      let Pv : Nat → Hp → Prop := fun i H => ∃ (wi : Wd) (ad rest : List D) (av : List V), wi.H = H ∧ Good X.K wi ∧ ExtD L (w1.prot L (.lst [])) wi ∧ kk.same wi.M ∧ wi.H L = some (.lst av) ∧ Reps X.K wi ad av ∧
        compL kk t (evc T cl c) (ev T cl e) (wipeE ρ ow) (kk.items.drop i) wi.M = .ok rest Me ∧ ad ++ rest = all
      refine ⟨fun i m H => m = kk.items.length - i ∧ i ≤ kk.items.length ∧ Pv i H, ⟨_, rfl, Nat.zero_le _, w1.prot L (.lst []), [], all, [], rfl, good_prot g1 hL, ExtD.of (Ext.refl _), r1.start, upd_same, .nil, by rw [List.drop_zero]; exact hc, rfl⟩, ?_⟩
      rintro i m' H ⟨rfl, hi, wi, ad, rest, av, eH, gi, xi, same, hLi, ra, hrest, hsum⟩
      subst eH
      have zi : L ∈ wi.Z := by rw [xi.z]; exact prot_in
      have nown := (gi.z L zi).2
      have up : Up X.K w1 wi := ⟨gi, fun d v r => (r.prot g1 hL).monoD (good_prot g1 hL) xi prot_in prot_at (.inl ⟨_, rfl⟩), fun a o ho hn ht _ => xi.keep a o (ne_of_none ho hL) ((upd_ne (ne_of_none ho hL)).trans ho) hn ht, xi.pre⟩
      by_cases hlt : i < kk.items.length
      · right
        refine ⟨r1.goes i wi up same hlt, Pv (i + 1), fun H' p' => ⟨_, by omega, rfl, hlt, p'⟩, fun x H' y => ?_⟩
        obtain ⟨w', d, eH, g', x', eM, hd, rd⟩ := r1.yields i wi x H' up same hlt y
        subst eH
        have hdrop : kk.items.drop i = d :: kk.items.drop (i + 1) := by
          have := List.getElem?_eq_some_iff.mp hd
          obtain ⟨hl, e⟩ := this
          rw [List.drop_eq_getElem_cons hl, e]
        rw [hdrop] at hrest
        obtain ⟨ρ1, b, M1, hb, hcond, hcase⟩ := compL_cons hrest
        have er : EnvR X.K w' (wipeE ρ ow) (L2.wipe σ ow) := ((((EnvR.prot g1 hL e1).monoD (good_prot g1 hL) xi prot_in prot_at (.inl ⟨_, rfl⟩)).mono gi x')).wipe ow
        refine ⟨w', d, wipeE ρ ow, ρ1, rfl, g', er, rd, hb, fun σ2 he2 frm => ⟨wipe_frm frm hs, w', ρ1, rfl, g', he2, ?_⟩⟩
        show EvR X.K X.mg _ REq (evc T cl c ρ1 w'.M) w' _
        rw [eM, hcond]
        intro w2 b2 g2 x2 eM2 eb
        cases (show b = b2 from eb)
        have hL2 : w2.H L = some (.lst av) := x2.keep L _ (x'.keep L _ hLi nown fun _ z => nomatch z) (x'.own L _ hLi nown) fun _ z => nomatch z
        rcases hcase with ⟨rfl, x, M2, xs, hev, sm, hcl, rfl⟩ | ⟨rfl, sm, hcl⟩
        · rw [if_pos rfl]
          refine ⟨w2, ρ1, rfl, g2, he2.mono g' x2, ?_⟩
          show EvR X.K X.mg _ (Rep X.K) (ev T cl e ρ1 w2.M) w2 _
          rw [eM2, hev]
          intro w3 yv g3 x3 eM3 rx
          have xx : Ext wi w3 := (x'.trans x2).trans x3
          have hL3 : w3.H L = some (.lst av) := xx.keep L _ hLi nown fun _ z => nomatch z
          have z3 : L ∈ w3.Z := by rw [xx.z]; exact zi
          have hlen : av.length < sizeLine := by
            rw [← ra.length]
            have := congrArg List.length hsum
            rw [List.length_append, List.length_cons] at this
            omega
          have pk := ext_poke (o' := .lst (av ++ [yv])) hL3
          have m3 : Mk1 (HO.lst av) := .inl ⟨_, rfl⟩
          refine ⟨av, hL3, hlen, w3.poke L (.lst (av ++ [yv])), ad ++ [x], xs, av ++ [yv], rfl, good_poke g3 z3 hL3 m3, (xi.trans (ExtD.of xx)).trans pk, by show kk.same w3.M; rw [eM3]; exact sm, upd_same,
            ((ra.mono gi xx).monoD g3 pk z3 hL3 m3).append (.one (rx.monoD g3 pk z3 hL3 m3)), by show compL kk t _ _ _ _ w3.M = _; rw [eM3]; exact hcl, by rw [List.append_assoc]; exact hsum⟩
        · rw [if_neg Bool.false_ne_true]
          have xx : Ext wi w2 := x'.trans x2
          exact ⟨w2, ad, rest, av, rfl, g2, xi.trans (ExtD.of xx), by rw [eM2]; exact sm, hL2, ra.mono gi xx, by rw [eM2]; exact hcl, hsum⟩
      · have ei : i = kk.items.length := by omega
        subst ei
        left
        refine ⟨r1.stops wi up same, ?_⟩
        rw [List.drop_length] at hrest
        have hrest : Res.ok [] wi.M = Res.ok rest Me := hrest
        injection hrest with e2 e3
        subst e2 e3
        rw [List.append_nil] at hsum
        subst hsum
        have hzz : ∀ a ∈ w1.Z, a ∈ wi.Z := fun a ha => by rw [xi.z]; exact List.mem_cons_of_mem _ ha
        cases m with
        | false =>
          have q1 : EvR X.K X.mg (fun c d H => W c d σ H) (Rep X.K) (.ok (D.lst ad) wi.M) w1 Q := q1
          exact q1 (wi.free w1.Z) (.ref L) (good_free hzz gi) (ext_end hL xi) rfl (rep_end hL gi xi hLi g1 ra)
        | true =>
          have q1 : EvR X.K X.mg (fun c d H => W c d σ H) (Rep X.K) (.ok (D.loc wi.M.length) (wi.M ++ [.lst ad])) w1 Q := q1
          exact q1 (wi.adopt L (.lst ad) w1.Z) (.ref L) (good_adopt hL g1 gi xi fun _ => .lst hLi (ra.adopt gi hzz zi)) (ext_adopt hL gi xi) rfl (rep_adopt gi)
    · have q1 : EvR X.K X.mg (fun c d H => W c d σ H) (Rep X.K) ((if all.length ≤ sizeLine then (if m then fun M => .ok (D.loc M.length) (M ++ [.lst all]) else fun M => .ok (D.lst all) M) else (bad : Mo D)) Me) w1 Q := q1
      rw [if_neg hz] at q1
      exact q1.elim
  · simp only [hc] at q1
    exact q1.elim
theorem compL2_cons {w : Wk} {t t1 : Tg} {i1 : Env → Mo Wk} {c : Env → Mo Bool} {e : Env → Mo D} {ow1 : List Nat} {ρ : Env} {d : D} {ds : List D} {M M' : Sto} {out : List D} (h : compL2 w t i1 ow1 t1 c e ρ (d :: ds) M = .ok out M') :
    ∃ ρ1 k M1 xs M2 ys, bindT t d ρ = some ρ1 ∧ i1 ρ1 M = .ok k M1 ∧ compL k t1 c e (wipeE ρ1 ow1) k.items M1 = .ok xs M2 ∧ w.same M2 ∧ compL2 w t i1 ow1 t1 c e ρ ds M2 = .ok ys M' ∧ out = xs ++ ys := by
  rw [compL2] at h
  cases h1 : bindT t d ρ with
  | none => simp only [h1] at h; cases h
  | some ρ1 =>
    simp only [h1] at h
    cases h2 : i1 ρ1 M with
    | exc _ _ _ => simp only [h2] at h; cases h
    | bad => simp only [h2] at h; cases h
    | ok k M1 =>
      simp only [h2] at h
      cases h3 : compL k t1 c e (wipeE ρ1 ow1) k.items M1 with
      | exc _ _ _ => simp only [h3] at h; cases h
      | bad => simp only [h3] at h; cases h
      | ok xs M2 =>
        simp only [h3] at h
        by_cases s : w.same M2
        · rw [if_pos s] at h
          cases h4 : compL2 w t i1 ow1 t1 c e ρ ds M2 with
          | exc _ _ _ => simp only [h4] at h; cases h
          | bad => simp only [h4] at h; cases h
          | ok ys M3 =>
            simp only [h4] at h
            injection h with e1 e2
            subst e1 e2
            exact ⟨ρ1, k, M1, xs, M2, ys, rfl, h2, h3, s, h4, rfl⟩
        · rw [if_neg s] at h; cases h
theorem compL2_ok {w : Wk} {t t1 : Tg} {i1 : Env → Mo Wk} {c : Env → Mo Bool} {e : Env → Mo D} {ow1 : List Nat} {ρ : Env} : ∀ {ds : List D} {M : Sto}, (∃ out M', compL2 w t i1 ow1 t1 c e ρ ds M = .ok out M') ∨ compL2 w t i1 ow1 t1 c e ρ ds M = .bad
  | [], M => .inl ⟨[], M, rfl⟩
  | d :: ds, M => by
    have ih := fun M => @compL2_ok w t t1 i1 c e ow1 ρ ds M
    rw [compL2]
    cases h1 : bindT t d ρ with
    | none => exact .inr rfl
    | some ρ1 =>
      simp only []
      cases h2 : i1 ρ1 M with
      | exc _ _ _ => exact .inr rfl
      | bad => exact .inr rfl
      | ok k M1 =>
        simp only []
        cases h3 : compL k t1 c e (wipeE ρ1 ow1) k.items M1 with
        | exc _ _ _ => exact .inr rfl
        | bad => exact .inr rfl
        | ok xs M2 =>
          simp only []
          by_cases s : w.same M2
          · rw [if_pos s]
            rcases ih M2 with ⟨o, M', h4⟩ | h4
            · rw [h4]; exact .inl ⟨_, _, rfl⟩
            · rw [h4]; exact .inr rfl
          · rw [if_neg s]; exact .inr rfl
theorem lc2_read {m : Bool} {ow ow1 : List Nat} {t t1 : Tg} {it it1 : It} {c : Ox} {e : Ex} (hs : ∀ i ∈ Tg.sl t, i ∈ ow) (hs1 : ∀ i ∈ Tg.sl t1, i ∈ ow1) {σ : L2.St} {H : Hp} {Q : VK} (h : tE T cl X W (.comp2 m ow ow1 t it t1 it1 c e) σ H Q) :
    tLc2 (tI T cl X W it) (GP X.K (Tg.sl t) (bindT t)) (tC' T cl X W0 .non) (tI T cl X W0 it1) (GP X.K (Tg.sl t1) (bindT t1)) (tC' T cl X W0 c) (tE T cl X W0 e) ow ow1 σ H Q := by
  obtain ⟨w, ρ, hH, hg, hr, h⟩ := h
  subst hH
  refine tG.seq (m1 := evi T cl it) (f := fun kk => (compL2 kk t (evi T cl it1) ow1 t1 (evc T cl c) (ev T cl e) (wipeE ρ ow) kk.items).bind fun ds =>
      if ds.length ≤ sizeLine then (if m then fun M => .ok (D.loc M.length) (M ++ [.lst ds]) else fun M => .ok (D.lst ds) M) else bad) hg hr h fun w1 kk J g1 x1 r1 e1 q1 => ?_
  unfold EvG Mo.bind at q1
  rcases @compL2_ok kk t t1 (evi T cl it1) (evc T cl c) (ev T cl e) ow1 (wipeE ρ ow) kk.items w1.M with ⟨all, Me, hc⟩ | hc
  · rw [hc] at q1
    by_cases hz : all.length ≤ sizeLine
    · have q1 : EvR X.K X.mg (fun c d H => W c d σ H) (Rep X.K) ((if all.length ≤ sizeLine then (if m then fun M => .ok (D.loc M.length) (M ++ [.lst all]) else fun M => .ok (D.lst all) M) else (bad : Mo D)) Me) w1 Q := q1
      rw [if_pos hz] at q1
      intro L hL
      let Pv : Nat → Hp → Prop := fun i H => ∃ (wi : Wd) (ad rest : List D) (av : List V), wi.H = H ∧ Good X.K wi ∧ ExtD L (w1.prot L (.lst [])) wi ∧ kk.same wi.M ∧ wi.H L = some (.lst av) ∧ Reps X.K wi ad av ∧
        compL2 kk t (evi T cl it1) ow1 t1 (evc T cl c) (ev T cl e) (wipeE ρ ow) (kk.items.drop i) wi.M = .ok rest Me ∧ ad ++ rest = all
      refine ⟨fun i m H => m = kk.items.length - i ∧ i ≤ kk.items.length ∧ Pv i H, ⟨_, rfl, Nat.zero_le _, w1.prot L (.lst []), [], all, [], rfl, good_prot g1 hL, ExtD.of (Ext.refl _), r1.start, upd_same, .nil, by rw [List.drop_zero]; exact hc, rfl⟩, ?_⟩
      rintro i m' H ⟨rfl, hi, wi, ad, rest, av, eH, gi, xi, same, hLi, ra, hrest, hsum⟩
      subst eH
      have zi : L ∈ wi.Z := by rw [xi.z]; exact prot_in
      have nown := (gi.z L zi).2
      have up : Up X.K w1 wi := ⟨gi, fun d v r => (r.prot g1 hL).monoD (good_prot g1 hL) xi prot_in prot_at (.inl ⟨_, rfl⟩), fun a o ho hn ht _ => xi.keep a o (ne_of_none ho hL) ((upd_ne (ne_of_none ho hL)).trans ho) hn ht, xi.pre⟩
      by_cases hlt : i < kk.items.length
      · right
        refine ⟨r1.goes i wi up same hlt, Pv (i + 1), fun H' p' => ⟨_, by omega, rfl, hlt, p'⟩, fun x H' y => ?_⟩
        obtain ⟨w', d, eH, g', x', eM, hd, rd⟩ := r1.yields i wi x H' up same hlt y
        subst eH
        have hdrop : kk.items.drop i = d :: kk.items.drop (i + 1) := by
          have := List.getElem?_eq_some_iff.mp hd
          obtain ⟨hl, e⟩ := this
          rw [List.drop_eq_getElem_cons hl, e]
        rw [hdrop] at hrest
        obtain ⟨ρ1, k1, M1, xs1, M2, ys, hb, hi1, hc1, sm2, hr2, eo⟩ := compL2_cons hrest
        subst eo
        have er : EnvR X.K w' (wipeE ρ ow) (L2.wipe σ ow) := ((((EnvR.prot g1 hL e1).monoD (good_prot g1 hL) xi prot_in prot_at (.inl ⟨_, rfl⟩)).mono gi x')).wipe ow
        refine ⟨w', d, wipeE ρ ow, ρ1, rfl, g', er, rd, hb, fun σ2 he2 frm => ⟨wipe_frm frm hs, w', ρ1, rfl, g', he2, ?_⟩⟩
        show EvR X.K X.mg _ REq (evc T cl .non ρ1 w'.M) w' _
        intro w2 b2 g2 x2 eM2 eb
        cases (show true = b2 from eb)
        rw [if_pos rfl]
        have eM2 : w2.M = w'.M := eM2
        refine ⟨w2, ρ1, rfl, g2, he2.mono g' x2, ?_⟩
        show EvR X.K X.mg _ (WkR X.K) (evi T cl it1 ρ1 w2.M) w2 _
        rw [eM2, eM, hi1]
        intro w3 J1 g3 x3 eM3 rk
        have xx3 : Ext wi w3 := (x'.trans x2).trans x3
        have hL3 : w3.H L = some (.lst av) := xx3.keep L _ hLi nown fun _ z => nomatch z
        have z3 : L ∈ w3.Z := by rw [xx3.z]; exact zi
        have m3 : Mk1 (HO.lst av) := .inl ⟨_, rfl⟩
        let Pi : Nat → Hp → Prop := fun j H => ∃ (wj : Wd) (bd rs : List D) (bv : List V), wj.H = H ∧ Good X.K wj ∧ ExtD L w3 wj ∧ k1.same wj.M ∧ wj.H L = some (.lst bv) ∧ Reps X.K wj bd bv ∧
          compL k1 t1 (evc T cl c) (ev T cl e) (wipeE ρ1 ow1) (k1.items.drop j) wj.M = .ok rs M2 ∧ bd ++ rs = ad ++ xs1
        refine ⟨fun j m H => m = k1.items.length - j ∧ j ≤ k1.items.length ∧ Pi j H, ⟨_, rfl, Nat.zero_le _, w3, ad, xs1, av, rfl, g3, ExtD.of (Ext.refl _), rk.start, hL3, ra.mono gi xx3, by rw [List.drop_zero, eM3]; exact hc1, rfl⟩, ?_⟩
        rintro j m'' H ⟨rfl, hj, wj, bd, rs, bv, eH, gj, xj, samej, hLj, rb, hrs, hsumj⟩
        subst eH
        have zj : L ∈ wj.Z := by rw [xj.z]; exact z3
        have nownj := (gj.z L zj).2
        have upj : Up X.K w3 wj := ⟨gj, fun d v r => r.monoD g3 xj z3 hL3 m3, fun a o ho hn ht hzz => xj.keep a o (fun ea => by subst ea; rw [hL3] at ho; cases ho; exact hzz z3 m3) ho hn ht, xj.pre⟩
        have xij : ExtD L wi wj := (ExtD.of xx3).trans xj
        by_cases hlt1 : j < k1.items.length
        · right
          refine ⟨rk.goes j wj upj samej hlt1, Pi (j + 1), fun H' p' => ⟨_, by omega, rfl, hlt1, p'⟩, fun x5 H' y5 => ?_⟩
          obtain ⟨w5, d5, eH, g5, x5', eM5, hd5, rd5⟩ := rk.yields j wj x5 H' upj samej hlt1 y5
          subst eH
          have hdrop5 : k1.items.drop j = d5 :: k1.items.drop (j + 1) := by
            have := List.getElem?_eq_some_iff.mp hd5
            obtain ⟨hl, e⟩ := this
            rw [List.drop_eq_getElem_cons hl, e]
          rw [hdrop5] at hrs
          obtain ⟨ρ5, b, M5, hb5, hcond, hcase⟩ := compL_cons hrs
          have er5 : EnvR X.K w5 (wipeE ρ1 ow1) (L2.wipe σ2 ow1) := (((((he2.mono g' x2).mono g2 x3).monoD g3 xj z3 hL3 m3).mono gj x5')).wipe ow1
          refine ⟨w5, d5, wipeE ρ1 ow1, ρ5, rfl, g5, er5, rd5, hb5, fun σ6 he6 frm6 => ⟨wipe_frm frm6 hs1, w5, ρ5, rfl, g5, he6, ?_⟩⟩
          show EvR X.K X.mg _ REq (evc T cl c ρ5 w5.M) w5 _
          rw [eM5, hcond]
          intro w6 b6 g6 x6 eM6 eb6
          cases (show b = b6 from eb6)
          have hL6 : w6.H L = some (.lst bv) := x6.keep L _ (x5'.keep L _ hLj nownj fun _ z => nomatch z) (x5'.own L _ hLj nownj) fun _ z => nomatch z
          rcases hcase with ⟨rfl, x7, M7, xs7, hev, sm7, hcl, rfl⟩ | ⟨rfl, sm7, hcl⟩
          · rw [if_pos rfl]
            refine ⟨w6, ρ5, rfl, g6, he6.mono g5 x6, ?_⟩
            show EvR X.K X.mg _ (Rep X.K) (ev T cl e ρ5 w6.M) w6 _
            rw [eM6, hev]
            intro w7 yv g7 x7' eM7 rx
            have xx : Ext wj w7 := (x5'.trans x6).trans x7'
            have hL7 : w7.H L = some (.lst bv) := xx.keep L _ hLj nownj fun _ z => nomatch z
            have z7 : L ∈ w7.Z := by rw [xx.z]; exact zj
            have hlen : bv.length < sizeLine := by
              rw [← rb.length]
              have h1 := congrArg List.length hsum
              have h2 := congrArg List.length hsumj
              simp only [List.length_append, List.length_cons] at h1 h2
              omega
            have pk := ext_poke (o' := .lst (bv ++ [yv])) hL7
            have m7 : Mk1 (HO.lst bv) := .inl ⟨_, rfl⟩
            refine ⟨bv, hL7, hlen, w7.poke L (.lst (bv ++ [yv])), bd ++ [x7], xs7, bv ++ [yv], rfl, good_poke g7 z7 hL7 m7, (xj.trans (ExtD.of xx)).trans pk, by show k1.same w7.M; rw [eM7]; exact sm7, upd_same,
              ((rb.mono gj xx).monoD g7 pk z7 hL7 m7).append (.one (rx.monoD g7 pk z7 hL7 m7)), by show compL k1 t1 _ _ _ _ w7.M = _; rw [eM7]; exact hcl, by rw [List.append_assoc]; exact hsumj⟩
          · rw [if_neg Bool.false_ne_true]
            have xx : Ext wj w6 := x5'.trans x6
            exact ⟨w6, bd, rs, bv, rfl, g6, xj.trans (ExtD.of xx), by rw [eM6]; exact sm7, hL6, rb.mono gj xx, by rw [eM6]; exact hcl, hsumj⟩
        · have ej : j = k1.items.length := by omega
          subst ej
          left
          refine ⟨rk.stops wj upj samej, ?_⟩
          rw [List.drop_length] at hrs
          have hrs : Res.ok [] wj.M = Res.ok rs M2 := hrs
          injection hrs with e2 e3
          subst e2
          rw [List.append_nil] at hsumj
          subst hsumj
          exact ⟨wj, ad ++ xs1, ys, bv, rfl, gj, xi.trans xij, by rw [e3]; exact sm2, hLj, rb, by rw [e3]; exact hr2, by rw [List.append_assoc]; exact hsum⟩
      · have ei : i = kk.items.length := by omega
        subst ei
        left
        refine ⟨r1.stops wi up same, ?_⟩
        rw [List.drop_length] at hrest
        have hrest : Res.ok [] wi.M = Res.ok rest Me := hrest
        injection hrest with e2 e3
        subst e2 e3
        rw [List.append_nil] at hsum
        subst hsum
        have hzz : ∀ a ∈ w1.Z, a ∈ wi.Z := fun a ha => by rw [xi.z]; exact List.mem_cons_of_mem _ ha
        cases m with
        | false =>
          have q1 : EvR X.K X.mg (fun c d H => W c d σ H) (Rep X.K) (.ok (D.lst ad) wi.M) w1 Q := q1
          exact q1 (wi.free w1.Z) (.ref L) (good_free hzz gi) (ext_end hL xi) rfl (rep_end hL gi xi hLi g1 ra)
        | true =>
          have q1 : EvR X.K X.mg (fun c d H => W c d σ H) (Rep X.K) (.ok (D.loc wi.M.length) (wi.M ++ [.lst ad])) w1 Q := q1
          exact q1 (wi.adopt L (.lst ad) w1.Z) (.ref L) (good_adopt hL g1 gi xi fun _ => .lst hLi (ra.adopt gi hzz zi)) (ext_adopt hL gi xi) rfl (rep_adopt gi)
    · have q1 : EvR X.K X.mg (fun c d H => W c d σ H) (Rep X.K) ((if all.length ≤ sizeLine then (if m then fun M => .ok (D.loc M.length) (M ++ [.lst all]) else fun M => .ok (D.lst all) M) else (bad : Mo D)) Me) w1 Q := q1
      rw [if_neg hz] at q1
      exact q1.elim
  · simp only [hc] at q1
    exact q1.elim
end
end Iv
end

section
set_option Elab.async false
set_option linter.all false
set_option maxHeartbeats 1000000
/-! IvEx4: displays of dicts; a list of the store given away. -/
namespace Iv
open PySem PySem.Spec PyProof.Rows L2
section
variable {T : Lp} {cl : Nat → List D → Mo D} {N : List Str} {k : Nat} {X : Cx} {W : WX} {own sc : Scope}
/-- a list of the store given away as data -/
theorem frz_ok {K : PySem.W.Frag} {w : Wd} (g : Good K w) {n : Nat} {a : Addr} {ds : List D} (h1 : w.ι[n]? = some a) (h2 : w.M[n]? = some (.lst ds)) :
    ∃ w' : Wd, w'.H = w.H ∧ Good K w' ∧ Ext w w' ∧ w'.M = w.M.set n .dead ∧ Rep K w' (.lst ds) (.ref a) := by
  obtain ⟨vs, hl, rr⟩ := g.lst h2 h1
  have hu : upd w.H a (.lst vs) = w.H := by
    funext b
    by_cases c : b = a
    · subst c; rw [upd_same, hl]
    · rw [upd_ne c]
  have x := ext_chg (ob := .dead) (o := .lst vs) h1 h2 rfl
  have gg := good_chg (ob := .dead) (o := .lst vs) g h1 h2 rfl fun h => by cases h
  refine ⟨w.chg n a .dead (.lst vs), hu, gg, x, rfl, .lst upd_same ?_ (fun hz => (g.z a hz).2 ⟨n, _, h1, h2, rfl⟩) (rr.mono g x)⟩
  rintro ⟨m, ob, e1, e2, e3⟩
  have e1 : w.ι[m]? = some a := e1
  have e2 : (w.M.set n .dead)[m]? = some ob := e2
  by_cases c : n = m
  · subst c
    rw [List.getElem?_set_self ((List.getElem?_eq_some_iff.mp h2).1)] at e2
    cases e2
    cases e3
  · rw [List.getElem?_set_ne c] at e2
    exact c (g.inj n m a _ ob h1 e1 h2 e2 rfl e3)
theorem s_frz {a : Ex} {x : Expr} (ha : PE X x (tE T cl X W a)) : PE X x (tE T cl X W (.frz a)) := ha.impV fun σ H Q ⟨w, ρ, hH, hg, hr, h⟩ => by
  subst hH
  refine ⟨w, ρ, rfl, hg, hr, EvG.mono h.bind fun b H1 ⟨w1, d, e1, g1, x1, r1, q⟩ => ?_⟩
  subst e1
  cases r1 with
  | @loc p n h1 =>
    have q : EvR X.K X.mg (fun c d H => W c d σ H) (Rep X.K) (match w1.M[n]? with
      | some (.lst ds) => .ok (.lst ds) (w1.M.set n .dead)
      | _ => .bad) w1 Q := q
    cases qq : w1.M[n]? with
    | none => rw [qq] at q; exact q.elim
    | some ob =>
      rw [qq] at q
      cases ob with
      | lst ds =>
        obtain ⟨w', e, g', x', eM, r'⟩ := frz_ok g1 h1 qq
        have q' := q w' _ g' x' eM r'
        rw [e] at q'
        exact q'
      | dct _ => exact q.elim
      | dead => exact q.elim
  | non => exact q.elim
  | bl _ => exact q.elim
  | int _ => exact q.elim
  | str _ => exact q.elim
  | ty _ => exact q.elim
  | tup _ _ => exact q.elim
  | lst _ _ _ _ => exact q.elim
  | frl _ _ => exact q.elim
  | dt => exact q.elim

/-! ### { .. } -/
def Exs.len : Exs → Nat
  | .nil => 0
  | .cons _ es => es.len + 1
variable (T cl X W) in
noncomputable def trsOf : List Str → Exs → List (TE × TE)
  | x :: xs, .cons e es => (tC (.str x), tE T cl X W e) :: trsOf xs es
  | _, _ => []
theorem pairs_ok : ∀ (xs : List Str) (es : Exs) {σ : L2.St} {H : Hp} {P : List (V × V) → Hp → Prop}, xs.length = es.len → tA T cl X W es σ H (fun vs H2 => P ((xs.map V.str).zip vs) H2) → tPairs (trsOf T cl X W xs es) σ H P
  | [], .nil, σ, H, P, _, ⟨w, ρ, hH, hg, hr, h⟩ => by
    subst hH
    exact EvG.ok (a := ([] : List D)) (b := ([] : List V)) h hg .nil
  | x :: xs, .cons e es, σ, H, P, hl, ⟨w, ρ, hH, hg, hr, h⟩ => by
    subst hH
    show tE T cl X W e σ w.H fun y H2 => tPairs (trsOf T cl X W xs es) σ H2 fun ps H3 => P ((.str x, y) :: ps) H3
    exact tG.seq (m1 := ev T cl e) (f := fun d => (evs T cl es ρ).bind fun ds => fun M => .ok (d :: ds) M) hg hr h fun w1 z v g1 x1 r1 e1 q1 =>
      pairs_ok xs es (Nat.succ.inj hl) (tG.seq (m1 := evs T cl es) (f := fun ds => fun M => .ok (z :: ds) M) g1 e1 q1 fun w2 zs vs g2 x2 r2 e2 q2 => EvG.ok (a := z :: zs) (b := v :: vs) q2 g2 (.cons (r1.mono g1 x2) r2))
/-- under an object that is being made -/
theorem EvG.protd {α β γ δ : Type} {K : PySem.W.Frag} {mg : Str → Option Value} {E : XK} {R : Wd → α → β → Prop} {S : Wd → γ → δ → Prop} {m : Mo α} {f : α → Mo γ} {w : Wd} {Q : δ → Hp → Prop} {L : Addr} {o : HO} (g : Good K w) (hL : w.H L = none) (h : EvG K mg E S (m.bind f) w Q) :
    EvG K mg E R m (w.prot L o) (fun b H1 => ∃ (w1 : Wd) (a : α), w1.H = H1 ∧ Good K w1 ∧ Ext (w.prot L o) w1 ∧ R w1 a b ∧ EvR K mg E S (f a w1.M) w Q) := by
  unfold EvG Mo.bind at h
  show EvR K mg E R (m w.M) (w.prot L o) _
  cases q : m w.M with
  | ok a M' =>
    simp only [q] at h
    intro w1 b g1 e1 hM r
    exact ⟨w1, a, rfl, g1, e1, r, by rw [hM]; exact h⟩
  | bad => simp only [q] at h; exact h
  | exc c p M' =>
    simp only [q] at h
    intro w1 cls d g1 e1 hM r
    have hz : ∀ a ∈ w.Z, a ∈ w1.Z := fun a ha => by rw [e1.z]; exact List.mem_cons_of_mem _ ha
    refine h (w1.free w.Z) cls d (good_free hz g1) (ext_end hL (ExtD.of e1)) hM ?_
    obtain ⟨C, c1, c2, c3⟩ := r
    refine ⟨C, c1, c2, c3.imp id fun ⟨dd, f, v, d1, d2, d3⟩ => ⟨dd, f, v, d1, d2, d3.free hz⟩⟩
theorem mergeK_app : ∀ (more acc : List (Key × V)), (acc ++ more).map (·.1) |>.Nodup → mergeK acc more = acc ++ more
  | [], acc, _ => by simp [mergeK]
  | kv :: r, acc, h => by
    show mergeK (putK acc kv.1 kv.2) r = _
    have h' : ((acc ++ [kv]) ++ r).map (·.1) |>.Nodup := by rw [List.append_assoc]; exact h
    have e : putK acc kv.1 kv.2 = acc ++ [kv] := by
      unfold putK
      rw [if_neg]
      intro hc
      obtain ⟨p, hp, he⟩ := List.any_eq_true.mp hc
      have he : p.1 = kv.1 := by simpa using he
      rw [List.map_append, List.nodup_append] at h
      exact h.2.2 p.1 (List.mem_map_of_mem hp) kv.1 (by simp) he
    rw [e, mergeK_app r _ h', List.append_assoc]; rfl
theorem zip_kV : ∀ (ks : List Str) (vs : List V), (ks.map V.str).zip vs = ((ks.map Sum.inr : List Key).zip vs).map fun kv => (kV kv.1, kv.2)
  | [], _ => rfl
  | _ :: _, [] => rfl
  | k :: ks, v :: vs => by
    show (V.str k, v) :: (ks.map V.str).zip vs = (V.str k, v) :: (((ks.map Sum.inr : List Key).zip vs).map fun kv => (kV kv.1, kv.2))
    rw [zip_kV ks vs]
theorem s_dsp {ks : List Str} {es : Exs} {pos : Pos} {keys : List (Option Expr)} {values : List Expr} (h : PPs X pos keys values (trsOf T cl X W ks es)) (hall : keys.all (·.isSome) = true) (hl : keys.length = values.length) (h0 : keys ≠ []) (h15 : keys.length ≤ 15) (hk : ks.length = es.len) :
    PE X (.Dict keys values pos) (tE T cl X W (.dsp ks es)) :=
  (pe_disp h hall hl h0 h15).impV fun σ H Q ⟨w, ρ, hH, hg, hr, q⟩ => by
    subst hH
    intro p hp
    have q : EvG X.K X.mg (fun c d H => W c d σ H) (Rep X.K) ((evs T cl es ρ).bind fun ds => if ks.length = ds.length ∧ ks.length ≤ 15 ∧ ks.Nodup then fun M => .ok (D.loc M.length) (M ++ [.dct ((ks.map Sum.inr).zip ds)]) else bad) w Q := q
    refine pairs_ok ks es hk ⟨w.prot p (.dK []), ρ, rfl, good_prot hg hp, hr.prot hg hp, EvG.mono (q.protd (R := Reps X.K) hg hp) fun vs H1 ⟨w1, ds, e1, g1, x1, r1, q1⟩ => ?_⟩
    subst e1
    have q1 : EvR X.K X.mg (fun c d H => W c d σ H) (Rep X.K) ((if ks.length = ds.length ∧ ks.length ≤ 15 ∧ ks.Nodup then fun M => .ok (D.loc M.length) (M ++ [.dct ((ks.map Sum.inr).zip ds)]) else (bad : Mo D)) w1.M) w Q := q1
    by_cases c : ks.length = ds.length ∧ ks.length ≤ 15 ∧ ks.Nodup
    · rw [if_pos c] at q1
      obtain ⟨c1, c2, c3⟩ := c
      have zi : p ∈ w1.Z := by rw [x1.z]; exact prot_in
      have hp1 : w1.H p = some (.dK []) := x1.keep p _ prot_at ((good_prot hg hp).z p prot_in).2 fun _ z => nomatch z
      have m1 : Mk1 (HO.dK ([] : List (Key × V))) := .inr ⟨_, rfl⟩
      have lv : vs.length = ks.length := by rw [c1, r1.length]
      let kvs : List (Key × V) := (ks.map Sum.inr).zip vs
      have km : kvs.map (·.1) = ks.map Sum.inr := by
        show ((ks.map Sum.inr).zip vs).map (·.1) = _
        rw [List.map_fst_zip]
        rw [List.length_map, lv]; exact Nat.le_refl _
      have vm : kvs.map (·.2) = vs := by
        show ((ks.map Sum.inr).zip vs).map (·.2) = _
        rw [List.map_snd_zip]
        rw [List.length_map, lv]; exact Nat.le_refl _
      have nd : (kvs.map (·.1)).Nodup := by
        rw [km]
        exact c3.map _ fun a b ab => by
          intro z
          exact ab (Sum.inr.inj z)
      refine ⟨hp1, kvs, ?_, ?_, ?_⟩
      · show (ks.map V.str).zip vs = ((ks.map Sum.inr).zip vs).map fun kv => (kV kv.1, kv.2)
        exact zip_kV ks vs
      · show ((ks.map Sum.inr).zip vs).length ≤ 15
        rw [List.length_zip, List.length_map, lv]; omega
      · rw [mergeK_app kvs [] nd, List.nil_append]
        have pk := ext_poke (o' := .dK kvs) hp1
        have g2 := good_poke (o' := .dK kvs) g1 zi hp1 m1
        have xD := (ExtD.of x1).trans pk
        have hzz : ∀ a ∈ w.Z, a ∈ (w1.poke p (.dK kvs)).Z := fun a ha => by
          show a ∈ w1.Z
          rw [x1.z]; exact List.mem_cons_of_mem _ ha
        have dm : ((ks.map Sum.inr).zip ds).map (·.1) = (ks.map Sum.inr : List Key) := by
          rw [List.map_fst_zip]
          rw [List.length_map, c1]; exact Nat.le_refl _
        have dv : ((ks.map Sum.inr : List Key).zip ds).map (·.2) = ds := by
          rw [List.map_snd_zip]
          rw [List.length_map, c1]; exact Nat.le_refl _
        refine q1 ((w1.poke p (.dK kvs)).adopt p (.dct ((ks.map Sum.inr).zip ds)) w.Z) (.ref p) (good_adopt hp hg g2 xD fun _ => .dct (kws := kvs) upd_same ?_ ?_) (ext_adopt hp g2 xD) rfl (rep_adopt g2)
        · rw [dm, km]
        · rw [dv, vm]
          exact (r1.monoD g1 pk zi hp1 m1).adopt g2 hzz zi
    · rw [if_neg c] at q1
      exact q1.elim
end
end Iv
end

section
set_option Elab.async false
set_option linter.all false
set_option maxHeartbeats 2000000
/-! IvChk: that a text is what a tree of ours says: expressions. -/
namespace Iv
open PySem PySem.Spec PyProof.Rows L2

/-- a BoolOp of one is that one -/
def un1 : Expr → Expr
  | .BoolOp _ [y] _ => y
  | e => e
def visB (sc : Scope) (x : Str) : Bool := match sc.names.lookup x with
  | some .local => true
  | some .cell => true
  | some .free => true
  | _ => false
def locB (sc : Scope) (x : Str) : Bool := match sc.names.lookup x with
  | some .local => true
  | some .cell => true
  | _ => false
def dbg (x : Str) : Bool := !(x == ("__debug__" : Str))
def glB (sc : Scope) (x : Str) : Bool := decide (sc.names.lookup x = some .globalImplicit) && dbg x
def starB : Expr → Bool
  | .Starred _ _ => true
  | _ => false
def setB : Expr → Bool
  | .Set _ _ _ => true
  | _ => false
def sliceB : Expr → Bool
  | .Slice _ _ _ _ => true
  | _ => false
/-- super() -/
def supB : Expr → Bool
  | .Call (.Name _ _) [] [] _ => true
  | _ => false
theorem visB_ok {sc : Scope} {x : Str} (h : visB sc x = true) : Vis sc x := by
  unfold visB at h
  split at h
  · exact .inl (by assumption)
  · exact .inr (.inl (by assumption))
  · exact .inr (.inr (by assumption))
  · cases h
theorem locB_ok {sc : Scope} {x : Str} (h : locB sc x = true) : Loc sc x := by
  unfold locB at h
  split at h
  · exact .inl (by assumption)
  · exact .inr (by assumption)
  · cases h
theorem dbg_ok {x : Str} (h : dbg x = true) : (x == ("__debug__" : Str)) = false := by
  unfold dbg at h
  simpa using h
theorem glB_ok {sc : Scope} {x : Str} (h : glB sc x = true) : sc.names.lookup x = some .globalImplicit ∧ (x == ("__debug__" : Str)) = false := by
  unfold glB at h
  rw [Bool.and_eq_true] at h
  exact ⟨of_decide_eq_true h.1, dbg_ok h.2⟩
theorem star_ok {x : Expr} {xs : List Expr} {env : PySem.Env} (h : starB x = false) : starEach (x :: xs) env = (false, eval x env) :: starEach xs env := by
  cases x <;> first | rfl | cases h
theorem asgE_ok {x : Expr} {xs : List Expr} {env : PySem.Env} (h : starB x = false) : assignEach (x :: xs) env = (false, assign x env) :: assignEach xs env := by
  cases x <;> first | rfl | cases h
theorem plain_ok {pos : Pos} {env : PySem.Env} : ∀ {xs : List Expr}, xs.all (fun x => !starB x) = true → (backTo pos (starEach xs env)).any (·.1) = false ∧ (backTo pos (starEach xs env)).all (fun x => !x.1) = true
  | [], _ => ⟨rfl, rfl⟩
  | x :: xs, h => by
    rw [List.all_cons, Bool.and_eq_true] at h
    have hs : starB x = false := by simpa using h.1
    obtain ⟨h1, h2⟩ := @plain_ok pos env xs h.2
    rw [star_ok hs]
    have e : backTo pos ((false, eval x env) :: starEach xs env) = (false, eval x env) :: backTo pos (starEach xs env) := rfl
    rw [e]
    exact ⟨by rw [List.any_cons, h1]; rfl, by rw [List.all_cons, h2]; rfl⟩
theorem few_ok {pos : Pos} {env : PySem.Env} {xs : List Expr} (h : xs.all (fun x => !starB x) = true) (hl : xs.length < 30) :
    ((backTo pos (starEach xs env)).all (fun x => !x.1) && (backToKw pos (keywordEach [] env)).all (fun x => x.1.isSome) && decide (xs.length + ([] : List Keyword).length + (if ([] : List Keyword).isEmpty then 0 else 1) < 30)) = true := by
  rw [(plain_ok h).2]
  have : decide (xs.length + ([] : List Keyword).length + (if ([] : List Keyword).isEmpty then 0 else 1) < 30) = true := decide_eq_true (by simpa using hl)
  rw [this]; rfl
theorem mark_ok {op : CmpOp} {x : Expr} (h : setB x = false) : behindInMarks op x = false := by
  cases x <;> first | rfl | cases h
theorem ix_ok {x : Expr} (h : sliceB x = false) : PlainIx x := fun o i => by
  cases x <;> first | rfl | cases h
theorem sup_ok {x : Expr} {a : Str} {env : PySem.Env} (h : supB x = false) : attributeBase x a env (eval x env) = eval x env := by
  unfold attributeBase
  split
  · cases h
  · rfl
theorem fold_ok {x : Expr} {env : PySem.Env} (h : setB x = false) (v : Value) : foldedSetIterable x env v = pure v := by
  cases x <;> first | rfl | cases h

/-! ### the checker -/
def tyNm : List (String × Str) := [("int", "int"), ("bool", "bool"), ("str", "str"), ("tuple", "tuple"), ("list", "list"), ("dict", "dict")]
def litB (fr : List Str) (d : D) (sc : Scope) (x : Expr) : Bool := match d with
  | .int i => match x with
    | .Constant (.int j) _ _ => decide (i = j)
    | _ => false
  | .str s => match x with
    | .Constant (.str j) _ _ => decide (s = j)
    | _ => false
  | .bl b => match x with
    | .Constant (.bool j) _ _ => decide (b = j)
    | _ => false
  | .non => match x with
    | .Constant .none _ _ => true
    | _ => false
  | .ty n => match x with
    | .Name y _ => decide ((n, y) ∈ tyNm) && fr.contains y && glB sc y
    | _ => false
  | _ => false
def ownP (N : List Str) (ow : List Nat) : List (Str × Nat) := ow.map fun i => ((N[i]?).getD Str.empty, i)
mutual
def chkTg (N : List Str) : Tg → Scope → Expr → Bool
  | .nm i => fun own x => match x with
    | .Name y _ => decide (N[i]? = some y) && locB own y
    | _ => false
  | .tp ts => fun own x => match x with
    | .Tuple es _ _ => chkTgs N ts own es
    | _ => false
def chkTgs (N : List Str) : Tgs → Scope → List Expr → Bool
  | .nil => fun own xs => xs.isEmpty
  | .cons t ts => fun own xs => match xs with
    | x :: xs => !starB x && chkTg N t own x && chkTgs N ts own xs
    | [] => false
end
def tupB : Expr → Bool
  | .Tuple _ _ _ => true
  | _ => false
/-- the part of a form of one part -/
def p1Args (p : P1) (x : Expr) : Option Expr := match p with
  | .bits => match x with
    | .Call (.Attribute o y apos) [] [] pos => if (decide (y = "bit_length") && (apos.endLine == pos.line) && !supB o) = true then some o else none
    | _ => none
/-- the parts of a form of two parts -/
def p2Args (T : Lp) (p : P2) (sc : Scope) (x : Expr) : Option (Expr × Expr) := match p with
  | .dzip => match x with
    | .Call (.Name y0 _) [.Call (.Name y _) [a, b] [] _] [] _ => if (decide (y0 = "dict") && glB sc y0 && T.free.contains y0 && decide (y = "zip") && glB sc y && T.free.contains y && !starB a && !starB b) = true then some (a, b) else none
    | _ => none
  | .dlz => match x with
    | .Call (.Name y0 _) [.Call (.Name y1 _) [.Call (.Name y _) [a, b] [] _] [] _] [] _ => if (decide (y0 = "dict") && glB sc y0 && T.free.contains y0 && decide (y1 = "list") && glB sc y1 && T.free.contains y1 && decide (y = "zip") && glB sc y && T.free.contains y && !starB a && !starB b) = true then some (a, b) else none
    | _ => none
mutual
def chkB (T : Lp) (N : List Str) : Ex → Scope → Expr → Bool
  | .var i => fun sc x => match x with
    | .Name y _ => decide (N[i]? = some y) && visB sc y && dbg y && !(y == ("__classdict__" : Str))
    | _ => false
  | .lit d => fun sc x => litB T.free d sc x
  | .glob f => fun sc x => match x with
    | .Name y _ => decide (T.nm f = y) && glB sc y
    | _ => false
  | .bin o a b => fun sc x => match x with
    | .BinOp l op r _ => decide (op = o.op) && chkB T N a sc (un1 l) && chkB T N b sc (un1 r)
    | _ => false
  | .neg a => fun sc x => match x with
    | .UnaryOp .USub l _ => chkB T N a sc (un1 l)
    | _ => false
  | .nt a => fun sc x => match x with
    | .UnaryOp .Not l _ => chkB T N a sc (un1 l)
    | _ => false
  | .conj a b => fun sc x => match x with
    | .BoolOp .And (p :: q :: r) pos => chkB T N a sc (un1 p) && chkB T N b sc (un1 (.BoolOp .And (q :: r) pos))
    | _ => false
  | .disj a b => fun sc x => match x with
    | .BoolOp .Or (p :: q :: r) pos => chkB T N a sc (un1 p) && chkB T N b sc (un1 (.BoolOp .Or (q :: r) pos))
    | _ => false
  | .cmp o a b => fun sc x => match x with
    | .Compare l [op] [r] _ => decide (op = o.op) && !setB r && chkB T N a sc (un1 l) && chkB T N b sc (un1 r)
    | _ => false
  | .chn o o' a b c => fun sc x => match x with
    | .Compare l [op, op'] [r, e] _ => decide (op = o.op) && decide (op' = o'.op) && !setB e && chkB T N a sc (un1 l) && chkB T N b sc (un1 r) && chkB T N c sc (un1 e)
    | _ => false
  | .ite c a b => fun sc x => match x with
    | .IfExp e l r _ => chkB T N c sc (un1 e) && chkB T N a sc (un1 l) && chkB T N b sc (un1 r)
    | _ => false
  | .tup es => fun sc x => match x with
    | .Tuple xs _ _ => chkEs T N es sc xs
    | _ => false
  | .lst _ es => fun sc x => match x with
    | .List xs _ => chkEs T N es sc xs
    | _ => false
  | .idx a b => fun sc x => match x with
    | .Subscript l r _ => !sliceB r && chkB T N a sc (un1 l) && chkB T N b sc (un1 r)
    | _ => false
  | .slc a lo hi => fun sc x => match x with
    | .Subscript l (.Slice p q none _) _ => chkB T N a sc (un1 l) && chkO T N lo sc p && chkO T N hi sc q
    | _ => false
  | .call f sh es ks => fun sc x => match x with
    | .Call (.Name y _) args kws _ => decide (T.nm f = y) && glB sc y && (match T.fd f with
      | some fd => match fd.shapes[sh]? with
        | some s => decide (kws.filterMap (fun kw => kw.arg) = s.ks) && kws.all (fun kw => kw.arg.isSome)
        | none => false
      | none => false) && chkEs T N es sc args && chkKs T N ks sc kws
    | _ => false
  | .blt m f es => fun sc x => match x with
    | .Call (.Name y _) (e :: args) [] _ => decide (f.nm = y) && glB sc y && (if f = .gcd then T.gcd else T.free.contains y) && (!m || decide (f = .list) || decide (f = .sorted)) && chkEs T N es sc (e :: args)
    | _ => false
  | .mth m o es => fun sc x => match x with
    | .Call (.Attribute r y apos) args [] cpos => decide (m.nm = y) && (apos.endLine == cpos.line) && chkEs T N es sc args && decide (args.length < 30) &&
        (if m = .tindex then (match o, r, args with
          | .glob c, .Name z _, [_] => decide (T.nm c = z) && glB sc z && T.tix.contains c
          | _, _, _ => false) else !supB r && chkB T N o sc (un1 r))
    | _ => false
  | .comp _ ow t it c e => fun sc x => match x with
    | .ListComp elt [⟨tg, iter, ifs, z⟩] bs _ => decide (z = 0) && !setB iter && blkC N sc bs (ownP N ow) && (Tg.sl t).all (fun i => ow.contains i) && chkTg N t bs tg && chkI T N it sc tg iter && chkC T N c (relS bs sc) ifs && chkB T N e (relS bs sc) (un1 elt)
    | _ => false
  | .comp2 _ ow ow1 t it t1 it1 c e => fun sc x => match x with
    | .ListComp elt [⟨tg, iter, ifs, z⟩, ⟨tg1, iter1, ifs1, z1⟩] bs _ => decide (z = 0) && decide (z1 = 0) && !setB iter && !setB iter1 && blkC N sc bs (ownP N ow) && (Tg.sl t).all (fun i => ow.contains i) && (Tg.sl t1).all (fun i => ow1.contains i) && ow1.all (fun i => ow.contains i) && ifs.isEmpty && chkTg N t bs tg && chkTg N t1 bs tg1 && chkI T N it sc tg iter && chkI T N it1 (relS bs sc) tg1 iter1 && chkC T N c (relS bs sc) ifs1 && chkB T N e (relS bs sc) (un1 elt)
    | _ => false
  | .dsp ks es => fun sc x => match x with
    | .Dict keys values _ => !keys.isEmpty && decide (keys.length ≤ 15) && chkDs T N es sc ks keys values
    | _ => false
  | .frz a => fun sc x => chkB T N a sc x
  | .p1 p a => fun sc x => match p1Args p x with
    | some l => chkB T N a sc (un1 l)
    | none => false
  | .p2 p a b => fun sc x => match p2Args T p sc x with
    | some (l, r) => chkB T N a sc (un1 l) && chkB T N b sc (un1 r)
    | none => false
def chkEs (T : Lp) (N : List Str) : Exs → Scope → List Expr → Bool
  | .nil => fun sc xs => xs.isEmpty
  | .cons e es => fun sc xs => match xs with
    | x :: xs => !starB x && chkB T N e sc (un1 x) && chkEs T N es sc xs
    | [] => false
def chkKs (T : Lp) (N : List Str) : Exs → Scope → List Keyword → Bool
  | .nil => fun sc xs => xs.isEmpty
  | .cons e es => fun sc xs => match xs with
    | ⟨_, x, _⟩ :: xs => chkB T N e sc (un1 x) && chkKs T N es sc xs
    | [] => false
def chkDs (T : Lp) (N : List Str) : Exs → Scope → List Str → List (Option Expr) → List Expr → Bool
  | .nil => fun sc ks keys values => ks.isEmpty && keys.isEmpty && values.isEmpty
  | .cons e es => fun sc ks keys values => match ks, keys, values with
    | k :: ks, some (.Constant (.str y) _ _) :: keys, x :: values => decide (k = y) && chkB T N e sc (un1 x) && chkDs T N es sc ks keys values
    | _, _, _ => false
def chkO (T : Lp) (N : List Str) : Ox → Scope → Option Expr → Bool
  | .non => fun sc x => x.isNone
  | .som e => fun sc x => match x with
    | some x => chkB T N e sc (un1 x)
    | none => false
def chkC (T : Lp) (N : List Str) : Ox → Scope → List Expr → Bool
  | .non => fun sc x => x.isEmpty
  | .som e => fun sc x => match x with
    | [x] => chkB T N e sc (un1 x)
    | _ => false
def chkI (T : Lp) (N : List Str) : It → Scope → Expr → Expr → Bool
  | .seq e => fun sc tg x => chkB T N e sc (un1 x)
  | .rng e => fun sc tg x => match x with
    | .Call (.Name y _) [a] [] _ => decide (y = "range") && glB sc y && T.free.contains y && !starB a && chkB T N e sc (un1 a)
    | _ => false
  | .rng2 e f => fun sc tg x => match x with
    | .Call (.Name y _) [a, b] [] _ => decide (y = "range") && glB sc y && T.free.contains y && !starB a && !starB b && chkB T N e sc (un1 a) && chkB T N f sc (un1 b)
    | _ => false
  | .zip e f => fun sc tg x => match x with
    | .Call (.Name y _) [a, b] [] _ => decide (y = "zip") && glB sc y && T.free.contains y && tupB tg && !starB a && !starB b && chkB T N e sc (un1 a) && chkB T N f sc (un1 b)
    | _ => false
  | .enum e => fun sc tg x => match x with
    | .Call (.Name y _) [a] [] _ => decide (y = "enumerate") && glB sc y && T.free.contains y && tupB tg && !starB a && chkB T N e sc (un1 a)
    | _ => false
  | .dks e => fun sc tg x => chkB T N e sc (un1 x)
  | .dits e => fun sc tg x => false
  | .zip3 e f h => fun sc tg x => match x with
    | .Call (.Name y _) [a, b, c] [] _ => decide (y = "zip") && glB sc y && T.free.contains y && tupB tg && !starB a && !starB b && !starB c && chkB T N e sc (un1 a) && chkB T N f sc (un1 b) && chkB T N h sc (un1 c)
    | _ => false
end
end Iv
end

section
set_option Elab.async false
set_option linter.all false
set_option maxHeartbeats 4000000
/-! IvSnd: what is checked is so: expressions. -/
namespace Iv
open PySem PySem.Spec PyProof.Rows L2
theorem un1_pe {X : Cx} {x : Expr} {t : TE} (h : PE X (un1 x) t) : PE X x t := by
  unfold un1 at h
  split at h
  · exact pe_one h
  · exact h
theorem un1_pt {X : Cx} {x : Expr} {t : TT} (h : PT X (un1 x) t) : PT X x t := by
  unfold un1 at h
  split at h
  · rename_i op y p
    cases op with
    | And => exact (pw_and1 h).pt
    | Or => exact (pw_or1 h).pt
  · exact h
theorem un1_star {x : Expr} (h : starB x = false) : True := trivial
theorem tyNm_ok {n : String} {y : Str} (h : (n, y) ∈ tyNm) : bootBuiltins y = some (.type n) ∧ y ≠ "__name__" := by
  unfold tyNm at h
  simp only [List.mem_cons, List.not_mem_nil, or_false, Prod.mk.injEq] at h
  rcases h with ⟨rfl, rfl⟩ | ⟨rfl, rfl⟩ | ⟨rfl, rfl⟩ | ⟨rfl, rfl⟩ | ⟨rfl, rfl⟩ | ⟨rfl, rfl⟩ <;> exact ⟨by decide +kernel, by decide +kernel⟩
section
variable {T : Lp} {cl : Nat → List D → Mo D} {N : List Str} {k : Nat}
theorem lit_ok {X : Cx} {W : WX} {own sc : Scope} (g : CxG T cl N k X W own sc) {d : D} {x : Expr} (h : litB T.free d sc x = true) : PE X x (tE T cl X W (.lit d)) := by
  unfold litB at h
  cases d with
  | int i =>
    cases x <;> first | (cases h; done) | skip
    rename_i c n p
    cases c <;> first | (cases h; done) | skip
    cases of_decide_eq_true h
    exact s_c pe_int fun _ => .int _
  | str i =>
    cases x <;> first | (cases h; done) | skip
    rename_i c n p
    cases c <;> first | (cases h; done) | skip
    cases of_decide_eq_true h
    exact s_c pe_str fun _ => .str _
  | bl i =>
    cases x <;> first | (cases h; done) | skip
    rename_i c n p
    cases c <;> first | (cases h; done) | skip
    cases of_decide_eq_true h
    exact s_c pe_bl fun _ => .bl _
  | non =>
    cases x <;> first | (cases h; done) | skip
    rename_i c n p
    cases c <;> first | (cases h; done) | skip
    exact s_c pe_non fun _ => .non
  | ty n =>
    cases x <;> first | (cases h; done) | skip
    rename_i y p
    simp only [Bool.and_eq_true, decide_eq_true_eq] at h
    obtain ⟨⟨h1, h2⟩, h3⟩ := h
    obtain ⟨b1, b2⟩ := tyNm_ok h1
    obtain ⟨g1, g2⟩ := glB_ok h3
    exact s_c (pe_bltn (v := .ty n) (show X.env.scope.names.lookup y = _ by rw [g.scope]; exact g1) (g.lib.free y (List.contains_iff_mem.mp h2)) b1 rfl b2 g2) fun _ => .ty n
  | _ => cases h
theorem args_plain {N : List Str} {T : Lp} {sc : Scope} : ∀ {es : Exs} {xs : List Expr}, chkEs T N es sc xs = true → xs.all (fun x => !starB x) = true
  | .nil, xs, h => by
    have h : xs.isEmpty = true := h
    cases xs with
    | nil => rfl
    | cons => cases h
  | .cons e es, [], h => by cases h
  | .cons e es, x :: xs, h => by
    have h : (!starB x && chkB T N e sc (un1 x) && chkEs T N es sc xs) = true := h
    rw [Bool.and_eq_true, Bool.and_eq_true] at h
    rw [List.all_cons, h.1.1, args_plain h.2] <;> rfl
theorem es_nil {N : List Str} {T : Lp} {sc : Scope} {es : Exs} (h : chkEs T N es sc [] = true) : es = .nil := by
  cases es with
  | nil => rfl
  | cons => cases h
theorem tT_bad {X : Cx} {W : WX} {x : Expr} {e : Ex} (h : ∀ ρ, evt T cl e ρ = bad) : PT X x (tT T cl X W e) := ⟨fun pins s σ H Q I ⟨w, ρ, hH, hg, hr, q⟩ => by
  rw [h] at q
  exact q.elim⟩
theorem fst_not {a b : Bool} (h : (!a && b) = true) : a = false ∧ b = true := by
  cases a <;> simp_all
mutual
theorem okTg {X : Cx} {W : WX} {own sc : Scope} (g : CxG T cl N k X W own sc) : ∀ (t : Tg) {x : Expr}, chkTg N t own x = true → PG X x (GP X.K (Tg.sl t) (bindT t))
  | .nm i, x, h => by
    cases x <;> first | (cases h; done) | skip
    rename_i y p
    have h : (decide (N[i]? = some y) && locB own y) = true := h
    rw [Bool.and_eq_true] at h
    exact s_gname g (of_decide_eq_true h.1) (locB_ok h.2)
  | .tp ts, x, h => by
    cases x <;> first | (cases h; done) | skip
    rename_i es n p
    have h : chkTgs N ts own es = true := h
    obtain ⟨h1, h2, h3⟩ := okTgs g ts h
    exact s_gtup g h1 h2 h3
theorem okTgs {X : Cx} {W : WX} {own sc : Scope} (g : CxG T cl N k X W own sc) : ∀ (t : Tgs) {xs : List Expr}, chkTgs N t own xs = true → PGs X xs (GPs X.K (Tgs.sl t) (bindTs t)) ∧ (assignEach xs X.env).length = t.len ∧ (assignEach xs X.env).findIdx? (·.1) = none
  | .nil, xs, h => by
    have h : xs.isEmpty = true := h
    cases xs with
    | nil => exact ⟨s_gnil, rfl, rfl⟩
    | cons => cases h
  | .cons t ts, [], h => by cases h
  | .cons t ts, x :: xs, h => by
    have h : (!starB x && chkTg N t own x && chkTgs N ts own xs) = true := h
    rw [Bool.and_eq_true, Bool.and_eq_true] at h
    have hs : starB x = false := by simpa using h.1.1
    obtain ⟨h1, h2, h3⟩ := okTgs g ts h.2
    have e := asgE_ok (xs := xs) (env := X.env) hs
    refine ⟨s_gcons (okTg g t h.1.2) h1 (by rw [e]; rfl), ?_, ?_⟩
    · rw [e, List.length_cons, h2]; rfl
    · rw [e, List.findIdx?_cons]
      simp [h3]
end
/-- a block's context -/
theorem blkG {X : Cx} {W : WX} {own sc bs : Scope} (g : CxG T cl N k X W own sc) {ow : List (Str × Nat)} (ok : BlkOk N sc bs ow) (s : Shared) (H : Hp) (C : Addr) (clo : List (Str × Addr)) (fp : List Addr) :
    CxG T cl N k (X.blk s H bs (compEnvC bs clo C X.env) fp) W0 bs (relS bs sc) where
  names := g.names
  nodup := g.nodup
  scope := by show relS bs X.env.scope = _; rw [g.scope]
  kind := ok.kind
  calm := g.calm
  room := g.room
  gds := g.gds
  takes := takes0
  store := fun x hx => by
    rcases hx with h | h
    · have e := lookup_relS_keep (sc := sc) (names := bs.names) (x := x) (k := .local) (by decide) h
      exact ⟨.inl e, .inr e⟩
    · have e := lookup_relS_keep (sc := sc) (names := bs.names) (x := x) (k := .cell) (by decide) h
      exact ⟨.inr e, .inl (by show (bs.names.lookup x == some .cell) = true; rw [h]; rfl)⟩
  lib := g.lib
theorem ownP_snd (ow : List Nat) : (ownP N ow).map (·.2) = ow := by
  unfold ownP
  rw [List.map_map]
  exact List.map_id' ow

theorem Mo.bind_assoc {α β γ : Type} (m : Mo α) (f : α → Mo β) (h : β → Mo γ) : (m.bind f).bind h = m.bind fun x => (f x).bind h := by
  funext M
  unfold Mo.bind
  cases m M <;> rfl
theorem Mo.bind_congr {α β : Type} {m : Mo α} {f f' : α → Mo β} (h : ∀ x, f x = f' x) : m.bind f = m.bind f' := by
  rw [show f = f' from funext h]
theorem tru_bin {o : Bop} {a b : Ex} (ρ : Env) : evt T cl (.bin o a b) ρ = (ev T cl (.bin o a b) ρ).bind fun z M => ofO (tru M z) M := by
  show (ev T cl a ρ).bind (fun x => (ev T cl b ρ).bind fun y => (ofO (binop o x y)).bind fun z => fun M => ofO (tru M z) M) = ((ev T cl a ρ).bind fun x => (ev T cl b ρ).bind fun y => ofO (binop o x y)).bind fun z M => ofO (tru M z) M
  rw [Mo.bind_assoc]
  exact Mo.bind_congr fun x => (Mo.bind_assoc _ _ _).symm
theorem tru_idx {a b : Ex} (ρ : Env) : evt T cl (.idx a b) ρ = (ev T cl (.idx a b) ρ).bind fun z M => ofO (tru M z) M := by
  show (ev T cl a ρ).bind (fun x => (ev T cl b ρ).bind fun y => fun M => (ofO (idx M x y)).bind (fun z => fun M => ofO (tru M z) M) M) = ((ev T cl a ρ).bind fun x => (ev T cl b ρ).bind fun y => fun M => ofO (idx M x y) M).bind fun z M => ofO (tru M z) M
  rw [Mo.bind_assoc]
  exact Mo.bind_congr fun x => (Mo.bind_assoc _ _ _).symm
theorem tru_call {f sh : Nat} {es ks : Exs} (ρ : Env) : evt T cl (.call f sh es ks) ρ = (ev T cl (.call f sh es ks) ρ).bind fun z M => ofO (tru M z) M := by
  have e1 : evt T cl (.call f sh es ks) ρ = (evs T cl es ρ).bind fun ds => (evs T cl ks ρ).bind fun zs => match T.fd f with
    | some fd => match fd.shapes[sh]? with
      | some s => if ds.length = s.np ∧ zs.length = s.ks.length then match s.place (ds ++ zs) with
        | some vs => (cl f vs).bind fun z => fun M => ofO (tru M z) M
        | none => bad
        else bad
      | none => bad
    | none => bad := rfl
  have e2 : ev T cl (.call f sh es ks) ρ = evCall T cl f sh es ks ρ := rfl
  rw [e1, e2]
  unfold evCall
  rw [Mo.bind_assoc]
  refine Mo.bind_congr fun ds => ?_
  rw [Mo.bind_assoc]
  refine Mo.bind_congr fun zs => ?_
  cases T.fd f with
  | none => rfl
  | some fd =>
    simp only []
    cases fd.shapes[sh]? with
    | none => rfl
    | some s =>
      simp only []
      by_cases c : ds.length = s.np ∧ zs.length = s.ks.length
      · rw [if_pos c, if_pos c]
        cases s.place (ds ++ zs) with
        | none => rfl
        | some vs => rfl
      · rw [if_neg c, if_neg c]; rfl
theorem tru_blt {f : Bf} {es : Exs} (ρ : Env) : evt T cl (.blt false f es) ρ = (ev T cl (.blt false f es) ρ).bind fun z M => ofO (tru M z) M := by
  have e1 : evt T cl (.blt false f es) ρ = (evs T cl es ρ).bind fun ds => fun M => match blt M f ds with
    | some d => ofO (tru M d) M
    | none => .bad := rfl
  have e2 : ev T cl (.blt false f es) ρ = (evs T cl es ρ).bind fun ds => fun M => match blt M f ds with
    | some d => match false, d with
      | true, .lst xs => .ok (.loc M.length) (M ++ [.lst xs])
      | true, _ => .bad
      | false, d => .ok d M
    | none => .bad := rfl
  rw [e1, e2, Mo.bind_assoc]
  refine Mo.bind_congr fun ds => ?_
  funext M
  show _ = Mo.bind _ _ M
  unfold Mo.bind
  cases hb : blt M f ds <;> simp only [hb]
theorem pw_one {X : Cx} {op : BoolOp} {x : Expr} {t : TT} {p : Pos} (h : PT X x t) : PW X (.BoolOp op [x] p) t := by
  cases op with
  | And => exact pw_and1 h
  | Or => exact pw_or1 h
theorem i_seq {X : Cx} {W : WX} {tg x : Expr} {e : Ex} (ha : PE X x (tE T cl X W e)) : PI X tg x (tI T cl X W (.seq e)) :=
  (pi_sq ha).impV fun σ H R ⟨w, ρ, hH, hg, hr, h⟩ => by
    subst hH
    exact tG.seq (m1 := ev T cl e) (f := fun x => fun M => match seqOf M x with
      | some ds => Res.ok (Wk.mk ds (srcOf M x)) M
      | none => .bad) hg hr h fun w1 d v g1 x1 r1 e1 q1 => by
      have q1 : EvR X.K X.mg _ (WkR X.K) (match seqOf w1.M d with
        | some ds => Res.ok (Wk.mk ds (srcOf w1.M d)) w1.M
        | none => .bad) w1 R := q1
      cases hs : seqOf w1.M d with
      | none => rw [hs] at q1; exact q1.elim
      | some ds =>
        rw [hs] at q1
        obtain ⟨a, k, rfl, up⟩ := seq_up g1 r1 hs
        obtain ⟨vs, sq, _⟩ := up w1 (Up.refl g1) src_same
        exact ⟨a, k, vs, rfl, sq, q1 w1 _ g1 (Ext.refl w1) rfl (wk_seq src_same up)⟩

theorem one_args {X : Cx} {W : WX} {a : Expr} {e : Ex} (hs : starB a = false) (ha : PE X a (tE T cl X W e)) : PA X [a] (tA T cl X W (.cons e .nil)) := s_cons ha s_nil (star_ok hs)
theorem two_args {X : Cx} {W : WX} {a b : Expr} {e f : Ex} (hs : starB a = false) (ht : starB b = false) (ha : PE X a (tE T cl X W e)) (hb : PE X b (tE T cl X W f)) : PA X [a, b] (tA T cl X W (.cons e (.cons f .nil))) := s_cons ha (one_args ht hb) (star_ok hs)
theorem i_rng {X : Cx} {W : WX} {own sc : Scope} (g : CxG T cl N k X W own sc) {tg a : Expr} {e : Ex} {py p : Pos} (hv : sc.names.lookup ("range" : Str) = some .globalImplicit) (hf : ("range" : Str) ∈ T.free) (hs : starB a = false) (ha : PE X a (tE T cl X W e)) : PI X tg (.Call (.Name "range" py) [a] [] p) (tI T cl X W (.rng e)) :=
  (pi_range1 (show X.env.scope.names.lookup ("range" : Str) = _ by rw [g.scope]; exact hv) (g.lib.free _ hf) (one_args hs ha) (star_ok hs)).impV fun σ H R ⟨w, ρ, hH, hg, hr, h⟩ => by
    subst hH
    have h : EvG X.K X.mg (fun c d H => W c d σ H) (WkR X.K) ((ev T cl e ρ).bind fun x => match x with
      | .int j => if -(2 ^ 62) ≤ j ∧ j < 2 ^ 62 then fun M => Res.ok (Wk.mk ((List.range j.toNat).map fun i => D.int (i : Nat)) []) M else bad
      | _ => bad) w R := h
    have h1 : (evs T cl (.cons e .nil) ρ).bind (fun ds => match ds with
      | [x] => (match x with
        | .int j => if -(2 ^ 62) ≤ j ∧ j < 2 ^ 62 then fun M => Res.ok (Wk.mk ((List.range j.toNat).map fun i => D.int (i : Nat)) []) M else bad
        | _ => bad)
      | _ => bad) = (ev T cl e ρ).bind fun x => match x with
      | .int j => if -(2 ^ 62) ≤ j ∧ j < 2 ^ 62 then fun M => Res.ok (Wk.mk ((List.range j.toNat).map fun i => D.int (i : Nat)) []) M else (bad : Mo Wk)
      | _ => bad := by
      show ((ev T cl e ρ).bind fun d => (evs T cl .nil ρ).bind fun ds => fun M => Res.ok (d :: ds) M).bind _ = _
      rw [Mo.bind_assoc]
      rfl
    rw [← h1] at h
    exact tG.seq (m1 := evs T cl (.cons e .nil)) hg hr h fun w1 ds vs g1 x1 r1 e1 q1 => by
      match ds, r1, q1 with
      | [x], r1, q1 =>
        obtain ⟨v, rfl, r2⟩ := one_inv r1
        cases x with
        | int j =>
          cases r2
          have q1 : EvG X.K X.mg (fun c d H => W c d σ H) (WkR X.K) (if -(2 ^ 62) ≤ j ∧ j < 2 ^ 62 then fun M => Res.ok (Wk.mk ((List.range j.toNat).map fun i => D.int (i : Nat)) []) M else bad) w1 R := q1
          by_cases c : -(2 ^ 62) ≤ j ∧ j < 2 ^ 62
          · rw [if_pos c] at q1
            refine ⟨j, rfl, c.1, c.2, EvG.ok q1 g1 ?_⟩
            have := @wk_rng X.K w1 0 j.toNat
            simpa using this
          · rw [if_neg c] at q1
            exact q1.elim
        | _ => exact q1.elim
      | [], r1, q1 => exact q1.elim
      | _ :: _ :: _, r1, q1 => exact q1.elim
theorem evs2 {e f : Ex} {γ : Type} (ρ : Env) (F : D → D → Mo γ) : (evs T cl (.cons e (.cons f .nil)) ρ).bind (fun ds => match ds with
      | [x, y] => F x y
      | _ => bad) = (ev T cl e ρ).bind fun x => (ev T cl f ρ).bind fun y => F x y := by
  show ((ev T cl e ρ).bind fun d => ((ev T cl f ρ).bind fun d2 => (evs T cl .nil ρ).bind fun ds => fun M => Res.ok (d2 :: ds) M).bind fun ds => fun M => Res.ok (d :: ds) M).bind _ = _
  rw [Mo.bind_assoc]
  refine Mo.bind_congr fun x => ?_
  rw [Mo.bind_assoc, Mo.bind_assoc]
  rfl
theorem evs1 {e : Ex} {γ : Type} (ρ : Env) (F : D → Mo γ) : (evs T cl (.cons e .nil) ρ).bind (fun ds => match ds with
      | [x] => F x
      | _ => bad) = (ev T cl e ρ).bind F := by
  show ((ev T cl e ρ).bind fun d => (evs T cl .nil ρ).bind fun ds => fun M => Res.ok (d :: ds) M).bind _ = _
  rw [Mo.bind_assoc]
  rfl
theorem i_rng2 {X : Cx} {W : WX} {own sc : Scope} (g : CxG T cl N k X W own sc) {tg a b : Expr} {e f : Ex} {py p : Pos} (hv : sc.names.lookup ("range" : Str) = some .globalImplicit) (hf : ("range" : Str) ∈ T.free) (hs : starB a = false) (ht : starB b = false) (ha : PE X a (tE T cl X W e)) (hb : PE X b (tE T cl X W f)) :
    PI X tg (.Call (.Name "range" py) [a, b] [] p) (tI T cl X W (.rng2 e f)) :=
  (pi_range2 (show X.env.scope.names.lookup ("range" : Str) = _ by rw [g.scope]; exact hv) (g.lib.free _ hf) (two_args hs ht ha hb) (by rw [star_ok hs, star_ok ht]; rfl) (star_ok ht)).impV fun σ H R ⟨w, ρ, hH, hg, hr, h⟩ => by
    subst hH
    have h : EvG X.K X.mg (fun c d H => W c d σ H) (WkR X.K) ((ev T cl e ρ).bind fun x => (ev T cl f ρ).bind fun y => match x, y with
      | .int i, .int j => if -(2 ^ 62) ≤ i ∧ i < 2 ^ 62 ∧ -(2 ^ 62) ≤ j ∧ j < 2 ^ 62 then fun M => Res.ok (Wk.mk ((List.range (j - i).toNat).map fun k => D.int (i + (k : Nat))) []) M else bad
      | _, _ => bad) w R := h
    rw [← evs2] at h
    exact tG.seq (m1 := evs T cl (.cons e (.cons f .nil))) hg hr h fun w1 ds vs g1 x1 r1 e1 q1 => by
      match ds, r1, q1 with
      | [x, y], r1, q1 =>
        obtain ⟨v, u, rfl, r2, r3⟩ := two_inv r1
        cases x with
        | int i =>
          cases y with
          | int j =>
            cases r2
            cases r3
            have q1 : EvG X.K X.mg (fun c d H => W c d σ H) (WkR X.K) (if -(2 ^ 62) ≤ i ∧ i < 2 ^ 62 ∧ -(2 ^ 62) ≤ j ∧ j < 2 ^ 62 then fun M => Res.ok (Wk.mk ((List.range (j - i).toNat).map fun k => D.int (i + (k : Nat))) []) M else bad) w1 R := q1
            by_cases c : -(2 ^ 62) ≤ i ∧ i < 2 ^ 62 ∧ -(2 ^ 62) ≤ j ∧ j < 2 ^ 62
            · rw [if_pos c] at q1
              exact ⟨i, j, rfl, c, EvG.ok q1 g1 wk_rng⟩
            · rw [if_neg c] at q1
              exact q1.elim
          | _ => exact q1.elim
        | _ => cases y <;> exact q1.elim
      | [], r1, q1 => exact q1.elim
      | [_], r1, q1 => exact q1.elim
      | _ :: _ :: _ :: _, r1, q1 => exact q1.elim
theorem i_zip {X : Cx} {W : WX} {own sc : Scope} (g : CxG T cl N k X W own sc) {elts : List Expr} {n : Nat} {tpos : Pos} {a b : Expr} {e f : Ex} {py p : Pos} (hv : sc.names.lookup ("zip" : Str) = some .globalImplicit) (hf : ("zip" : Str) ∈ T.free) (hs : starB a = false) (ht : starB b = false) (ha : PE X a (tE T cl X W e)) (hb : PE X b (tE T cl X W f)) :
    PI X (.Tuple elts n tpos) (.Call (.Name "zip" py) [a, b] [] p) (tI T cl X W (.zip e f)) :=
  (pi_z2 (show X.env.scope.names.lookup ("zip" : Str) = _ by rw [g.scope]; exact hv) (g.lib.free _ hf) (two_args hs ht ha hb) (star_ok hs) (plain_ok (xs := [b]) (by rw [List.all_cons, ht]; rfl)).1).impV fun σ H R ⟨w, ρ, hH, hg, hr, h⟩ => by
    subst hH
    have h : EvG X.K X.mg (fun c d H => W c d σ H) (WkR X.K) ((ev T cl e ρ).bind fun x => (ev T cl f ρ).bind fun y => fun M => match seqOf M x, seqOf M y with
      | some xs, some ys => Res.ok (Wk.mk ((xs.zip ys).map fun p => D.tup [p.1, p.2]) (srcOf M x ++ srcOf M y)) M
      | _, _ => .bad) w R := h
    rw [← evs2] at h
    exact tG.seq (m1 := evs T cl (.cons e (.cons f .nil))) hg hr h fun w1 ds vs g1 x1 r1 e1 q1 => by
      match ds, r1, q1 with
      | [x, y], r1, q1 =>
        obtain ⟨v, u, rfl, r2, r3⟩ := two_inv r1
        have q1 : EvR X.K X.mg (fun c d H => W c d σ H) (WkR X.K) (match seqOf w1.M x, seqOf w1.M y with
          | some xs, some ys => Res.ok (Wk.mk ((xs.zip ys).map fun p => D.tup [p.1, p.2]) (srcOf w1.M x ++ srcOf w1.M y)) w1.M
          | _, _ => .bad) w1 R := q1
        cases s1 : seqOf w1.M x with
        | none => simp only [s1] at q1; exact q1.elim
        | some xs =>
          cases s2 : seqOf w1.M y with
          | none => simp only [s1, s2] at q1; exact q1.elim
          | some ys =>
            simp only [s1, s2] at q1
            obtain ⟨a, k1, rfl, u1⟩ := seq_up g1 r2 s1
            obtain ⟨b, k2, rfl, u2⟩ := seq_up g1 r3 s2
            obtain ⟨vs, q2, _⟩ := u1 w1 (Up.refl g1) src_same
            obtain ⟨us, q3, _⟩ := u2 w1 (Up.refl g1) src_same
            exact ⟨a, b, k1, k2, vs, us, rfl, q2, q3, q1 w1 _ g1 (Ext.refl w1) rfl (wk_zip src_same src_same u1 u2)⟩
      | [], r1, q1 => exact q1.elim
      | [_], r1, q1 => exact q1.elim
      | _ :: _ :: _ :: _, r1, q1 => exact q1.elim
/-! forms of one part -/
theorem p1_ok {X : Cx} {W : WX} {p : P1} {x l : Expr} {e : Ex} (h : p1Args p x = some l) (ha : PE X l (tE T cl X W e)) : PE X x (tE T cl X W (.p1 p e)) := by
  unfold p1Args at h
  cases p with
  | bits =>
    simp only at h
    split at h
    · obtain ⟨c, e1⟩ := if_some h
      cases e1
      simp only [Bool.and_eq_true, decide_eq_true_eq, Bool.not_eq_true'] at c
      obtain ⟨⟨c1, c2⟩, c3⟩ := c
      subst c1
      exact (pe_bits ha (sup_ok c3) c2).impV fun σ H Q ⟨w, ρ, hH, hg, hr, h⟩ => by
        subst hH
        exact tG.seq (m1 := ev T cl e) (f := fun x => ofO (p1op .bits x)) hg hr h fun w1 z v g1 x1 r1 e1 q1 => by
          have q1 : EvG X.K X.mg (fun c d H => W c d σ H) (Rep X.K) (ofO (p1op .bits z)) w1 Q := q1
          obtain ⟨y, hy, q⟩ := q1.ofO
          cases z <;> first | (cases hy; done) | skip
          cases hy
          cases r1
          exact ⟨_, rfl, q w1 _ g1 (Ext.refl w1) rfl (.int _)⟩
    · cases h
/-! forms of two parts, dicts walked, zip of three -/
theorem reps_zip1 {K : PySem.W.Frag} {w : Wd} : ∀ {ds es : List D} {vs us : List V}, Reps K w ds vs → Reps K w es us → Reps K w ((ds.zip es).map (·.1)) ((vs.zip us).map (·.1))
  | _, _, _, _, .nil, _ => .nil
  | _, _, _, _, .cons _ _, .nil => .nil
  | _, _, _, _, .cons r t, .cons _ u => .cons r (reps_zip1 t u)
theorem reps_zip2 {K : PySem.W.Frag} {w : Wd} : ∀ {ds es : List D} {vs us : List V}, Reps K w ds vs → Reps K w es us → Reps K w ((ds.zip es).map (·.2)) ((vs.zip us).map (·.2))
  | _, _, _, _, .nil, _ => .nil
  | _, _, _, _, .cons _ _, .nil => .nil
  | _, _, _, _, .cons _ t, .cons r u => .cons r (reps_zip2 t u)
theorem keys_of {K : PySem.W.Frag} {w : Wd} : ∀ {ds : List D} {vs : List V} {ks : List (List Int)}, Reps K w ds vs → tupsOf ds = some ks → Paired (KeyV K w.H) vs ks
  | [], _, ks, .nil, h => by cases h; exact .nil
  | d :: ds, _, ks, .cons r t, h => by
    have h : (match tupInts d, tupsOf ds with
      | some x, some y => some (x :: y)
      | _, _ => none) = some ks := h
    cases h1 : tupInts d with
    | none => rw [h1] at h; cases h
    | some k =>
      cases h2 : tupsOf ds with
      | none => rw [h1, h2] at h; cases h
      | some ks' =>
        rw [h1, h2] at h
        cases h
        refine .cons ?_ (keys_of t h2)
        cases d <;> first | (cases h1; done) | skip
        rename_i es
        have h1 : intsOf es = some k := h1
        obtain ⟨a, us, e, sq, rr⟩ := r.tup_inv
        subst e
        exact ⟨a, rfl, by rw [← ints_of_reps rr h1]; exact sq⟩
theorem s_dz {X : Cx} {W : WX} {p : P2} {e f : Ex} {x : Expr} (hp : PE X x (tDz X.K (tA T cl X W (.cons e (.cons f .nil))))) : PE X x (tE T cl X W (.p2 p e f)) :=
  hp.impV fun σ H Q ⟨w, ρ, hH, hg, hr, h⟩ => by
    subst hH
    have h : EvG X.K X.mg (fun c d H => W c d σ H) (Rep X.K) ((ev T cl e ρ).bind fun x => (ev T cl f ρ).bind fun y => fun M => ofO (p2op p M x y) M) w Q := h
    rw [← evs2] at h
    exact tG.seq (m1 := evs T cl (.cons e (.cons f .nil))) hg hr h fun w1 ds vs g1 x1 r1 e1 q1 => by
      match ds, r1, q1 with
      | [x, y], r1, q1 =>
        obtain ⟨v, u, rfl, r2, r3⟩ := two_inv r1
        have q1 : EvG X.K X.mg (fun c d H => W c d σ H) (Rep X.K) (ofO (p2op p w1.M x y)) w1 Q := q1
        obtain ⟨z, hz, q⟩ := q1.ofO
        have hz : (match seqOf w1.M x, seqOf w1.M y with
          | some xs, some ys => dtOf (tupsOf ((xs.zip ys).map (·.1))) ((xs.zip ys).map (·.2))
          | _, _ => none) = some z := hz
        cases s1 : seqOf w1.M x with
        | none => simp only [s1] at hz; cases hz
        | some xs =>
          cases s2 : seqOf w1.M y with
          | none => simp only [s1, s2] at hz; cases hz
          | some ys =>
            simp only [s1, s2] at hz
            cases h3 : tupsOf ((xs.zip ys).map (·.1)) with
            | none => rw [h3] at hz; cases hz
            | some ks =>
              rw [h3] at hz
              obtain ⟨⟨nd, few, el⟩, ez⟩ := if_some (show (if ks.Nodup ∧ ks.length ≤ sizeLine ∧ ks.length = ((xs.zip ys).map (·.2)).length then some (D.dt ks ((xs.zip ys).map (·.2))) else none) = some z from hz)
              subst ez
              obtain ⟨a, k1, rfl, u1⟩ := seq_up g1 r2 s1
              obtain ⟨b, k2, rfl, u2⟩ := seq_up g1 r3 s2
              obtain ⟨vs, q2, t1⟩ := u1 w1 (Up.refl g1) src_same
              obtain ⟨us, q3, t2⟩ := u2 w1 (Up.refl g1) src_same
              refine ⟨a, b, k1, k2, vs, us, rfl, q2, q3, ks, keys_of (reps_zip1 t1 t2) h3, nd, fun p o L hp ok e1 sq vv => ?_⟩
              exact q (w1.put p (.ext (DtP p o))) _ (good_put g1 hp) (ext_put hp) rfl (.dt upd_same ok e1 (fun x hx => sqT_mono g1 (ext_put hp) (sq x hx)) vv ((reps_zip2 t1 t2).mono g1 (ext_put hp)))
      | [], r1, q1 => exact q1.elim
      | [_], r1, q1 => exact q1.elim
      | _ :: _ :: _ :: _, r1, q1 => exact q1.elim
theorem p2_ok {X : Cx} {W : WX} {own sc : Scope} (g : CxG T cl N k X W own sc) {p : P2} {x l r : Expr} {e f : Ex} (h : p2Args T p sc x = some (l, r)) (ha : PE X l (tE T cl X W e)) (hb : PE X r (tE T cl X W f)) : PE X x (tE T cl X W (.p2 p e f)) := by
  have gl : ∀ {y : Str}, glB sc y = true → Gl X y := fun h => by
    show X.env.scope.names.lookup _ = _
    rw [g.scope]; exact (glB_ok h).1
  have hu : X.A.units + 3 < cLine := by have := g.room.un; omega
  unfold p2Args at h
  cases p with
  | dzip =>
    simp only at h
    split at h
    · obtain ⟨c, e1⟩ := if_some h
      cases e1
      simp only [Bool.and_eq_true, decide_eq_true_eq, Bool.not_eq_true'] at c
      obtain ⟨⟨⟨⟨⟨⟨⟨c1, c2⟩, c3⟩, c4⟩, c5⟩, c6⟩, c7⟩, c8⟩ := c
      subst c1 c4
      exact s_dz (pe_dzip (gl c5) (g.lib.free _ (List.contains_iff_mem.mp c6)) (gl c2) (g.lib.free _ (List.contains_iff_mem.mp c3)) g.calm hu (two_args c7 c8 ha hb) (star_ok c7) (plain_ok (xs := [r]) (by rw [List.all_cons, c8]; rfl)).1)
    · cases h
  | dlz =>
    simp only at h
    split at h
    · obtain ⟨c, e1⟩ := if_some h
      cases e1
      simp only [Bool.and_eq_true, decide_eq_true_eq, Bool.not_eq_true'] at c
      obtain ⟨⟨⟨⟨⟨⟨⟨⟨⟨⟨c1, c2⟩, c3⟩, d1⟩, d2⟩, d3⟩, c4⟩, c5⟩, c6⟩, c7⟩, c8⟩ := c
      subst c1 c4 d1
      exact s_dz (pe_dlz (gl c5) (g.lib.free _ (List.contains_iff_mem.mp c6)) (gl c2) (g.lib.free _ (List.contains_iff_mem.mp c3)) (gl d2) (g.lib.free _ (List.contains_iff_mem.mp d3)) g.calm hu (two_args c7 c8 ha hb) (star_ok c7) (plain_ok (xs := [r]) (by rw [List.all_cons, c8]; rfl)).1)
    · cases h
theorem i_dks {X : Cx} {W : WX} {tg a : Expr} {e : Ex} (ha : PE X a (tE T cl X W e)) : PI X tg a (tI T cl X W (.dks e)) :=
  (pi_dk ha).impV fun σ H R ⟨w, ρ, hH, hg, hr, h⟩ => by
    subst hH
    exact tG.seq (m1 := ev T cl e) (f := fun x => fun M => match keysD x with
      | some ds => Res.ok (Wk.mk ds []) M
      | none => .bad) hg hr h fun w1 z v g1 x1 r1 e1 q1 => by
      have q1 : EvR X.K X.mg (fun c d H => W c d σ H) (WkR X.K) (match keysD z with
        | some ds => Res.ok (Wk.mk ds []) w1.M
        | none => .bad) w1 R := q1
      cases r1 with
      | @dt a o ks ds vs xs h1 ok hk sq hv hr =>
        subst hk
        exact ⟨a, o, xs, rfl, h1, ok, q1 w1 _ g1 (Ext.refl w1) rfl (wk_dk h1 (g1.ext_own h1) sq g1)⟩
      | _ => exact q1.elim
theorem three_args {X : Cx} {W : WX} {a b c : Expr} {e f h : Ex} (hs : starB a = false) (ht : starB b = false) (hq : starB c = false) (ha : PE X a (tE T cl X W e)) (hb : PE X b (tE T cl X W f)) (hc : PE X c (tE T cl X W h)) : PA X [a, b, c] (tA T cl X W (.cons e (.cons f (.cons h .nil)))) := s_cons ha (two_args ht hq hb hc) (star_ok hs)
theorem evs3 {e f h : Ex} {γ : Type} (ρ : Env) (F : D → D → D → Mo γ) : (evs T cl (.cons e (.cons f (.cons h .nil))) ρ).bind (fun ds => match ds with
      | [x, y, z] => F x y z
      | _ => bad) = (ev T cl e ρ).bind fun x => (ev T cl f ρ).bind fun y => (ev T cl h ρ).bind fun z => F x y z := by
  show ((ev T cl e ρ).bind fun d => (evs T cl (.cons f (.cons h .nil)) ρ).bind fun ds => fun M => Res.ok (d :: ds) M).bind _ = _
  rw [Mo.bind_assoc]
  refine Mo.bind_congr fun x => ?_
  rw [Mo.bind_assoc, ← evs2 (e := f) (f := h) ρ (F x)]
  refine Mo.bind_congr fun ds => ?_
  funext M
  match ds with
  | [] => rfl
  | [_] => rfl
  | [_, _] => rfl
  | _ :: _ :: _ :: _ => rfl
theorem rep3_inv {K : PySem.W.Frag} {w : Wd} {x y z : D} {vs : List V} (r : Reps K w [x, y, z] vs) : ∃ a b c, vs = [a, b, c] ∧ Rep K w x a ∧ Rep K w y b ∧ Rep K w z c := by
  cases r with
  | cons r1 t => cases t with
    | cons r2 t => cases t with
      | cons r3 t => cases t; exact ⟨_, _, _, rfl, r1, r2, r3⟩
theorem i_zip3 {X : Cx} {W : WX} {own sc : Scope} (g : CxG T cl N k X W own sc) {elts : List Expr} {n : Nat} {tpos : Pos} {a b c : Expr} {e f h : Ex} {py p : Pos} (hv : sc.names.lookup ("zip" : Str) = some .globalImplicit) (hf : ("zip" : Str) ∈ T.free) (hs : starB a = false) (ht : starB b = false) (hq : starB c = false) (ha : PE X a (tE T cl X W e)) (hb : PE X b (tE T cl X W f)) (hc : PE X c (tE T cl X W h)) :
    PI X (.Tuple elts n tpos) (.Call (.Name "zip" py) [a, b, c] [] p) (tI T cl X W (.zip3 e f h)) :=
  (pi_z3 (show X.env.scope.names.lookup ("zip" : Str) = _ by rw [g.scope]; exact hv) (g.lib.free _ hf) (three_args hs ht hq ha hb hc) (star_ok hs) (plain_ok (xs := [b, c]) (by rw [List.all_cons, ht, List.all_cons, hq]; rfl)).1).impV fun σ H R ⟨w, ρ, hH, hg, hr, h0⟩ => by
    subst hH
    have h0 : EvG X.K X.mg (fun c d H => W c d σ H) (WkR X.K) ((ev T cl e ρ).bind fun x => (ev T cl f ρ).bind fun y => (ev T cl h ρ).bind fun z => fun M => match seqOf M x, seqOf M y, seqOf M z with
      | some xs, some ys, some zs => Res.ok (Wk.mk ((xs.zip (ys.zip zs)).map fun p => D.tup [p.1, p.2.1, p.2.2]) (srcOf M x ++ (srcOf M y ++ srcOf M z))) M
      | _, _, _ => .bad) w R := h0
    rw [← evs3] at h0
    exact tG.seq (m1 := evs T cl (.cons e (.cons f (.cons h .nil)))) hg hr h0 fun w1 ds vs g1 x1 r1 e1 q1 => by
      match ds, r1, q1 with
      | [x, y, z], r1, q1 =>
        obtain ⟨v, u, t, rfl, r2, r3, r4⟩ := rep3_inv r1
        have q1 : EvR X.K X.mg (fun c d H => W c d σ H) (WkR X.K) (match seqOf w1.M x, seqOf w1.M y, seqOf w1.M z with
          | some xs, some ys, some zs => Res.ok (Wk.mk ((xs.zip (ys.zip zs)).map fun p => D.tup [p.1, p.2.1, p.2.2]) (srcOf w1.M x ++ (srcOf w1.M y ++ srcOf w1.M z))) w1.M
          | _, _, _ => .bad) w1 R := q1
        cases s1 : seqOf w1.M x with
        | none => simp only [s1] at q1; exact q1.elim
        | some xs =>
          cases s2 : seqOf w1.M y with
          | none => simp only [s1, s2] at q1; exact q1.elim
          | some ys =>
            cases s3 : seqOf w1.M z with
            | none => simp only [s1, s2, s3] at q1; exact q1.elim
            | some zs =>
              simp only [s1, s2, s3] at q1
              obtain ⟨a, k1, rfl, u1⟩ := seq_up g1 r2 s1
              obtain ⟨b, k2, rfl, u2⟩ := seq_up g1 r3 s2
              obtain ⟨c, k3, rfl, u3⟩ := seq_up g1 r4 s3
              obtain ⟨vs, q2, _⟩ := u1 w1 (Up.refl g1) src_same
              obtain ⟨us, q3, _⟩ := u2 w1 (Up.refl g1) src_same
              obtain ⟨ws, q4, _⟩ := u3 w1 (Up.refl g1) src_same
              exact ⟨a, b, c, k1, k2, k3, vs, us, ws, rfl, q2, q3, q4, q1 w1 _ g1 (Ext.refl w1) rfl (wk_zip3 src_same src_same src_same u1 u2 u3)⟩
      | [], r1, q1 => exact q1.elim
      | [_], r1, q1 => exact q1.elim
      | [_, _], r1, q1 => exact q1.elim
      | _ :: _ :: _ :: _ :: _, r1, q1 => exact q1.elim
theorem i_enum {X : Cx} {W : WX} {own sc : Scope} (g : CxG T cl N k X W own sc) {elts : List Expr} {n : Nat} {tpos : Pos} {a : Expr} {e : Ex} {py p : Pos} (hv : sc.names.lookup ("enumerate" : Str) = some .globalImplicit) (hf : ("enumerate" : Str) ∈ T.free) (hs : starB a = false) (ha : PE X a (tE T cl X W e)) :
    PI X (.Tuple elts n tpos) (.Call (.Name "enumerate" py) [a] [] p) (tI T cl X W (.enum e)) :=
  (pi_enum (show X.env.scope.names.lookup ("enumerate" : Str) = _ by rw [g.scope]; exact hv) (g.lib.free _ hf) (one_args hs ha) (star_ok hs)).impV fun σ H R ⟨w, ρ, hH, hg, hr, h⟩ => by
    subst hH
    have h : EvG X.K X.mg (fun c d H => W c d σ H) (WkR X.K) ((ev T cl e ρ).bind fun x => fun M => match lstOf M x with
      | some xs => Res.ok (Wk.mk (xs.zipIdx.map fun p => D.tup [.int (p.2 : Nat), p.1]) (srcOf M x)) M
      | none => .bad) w R := h
    rw [← evs1] at h
    exact tG.seq (m1 := evs T cl (.cons e .nil)) hg hr h fun w1 ds vs g1 x1 r1 e1 q1 => by
      match ds, r1, q1 with
      | [x], r1, q1 =>
        obtain ⟨v, rfl, r2⟩ := one_inv r1
        have q1 : EvR X.K X.mg (fun c d H => W c d σ H) (WkR X.K) (match lstOf w1.M x with
          | some xs => Res.ok (Wk.mk (xs.zipIdx.map fun p => D.tup [.int (p.2 : Nat), p.1]) (srcOf w1.M x)) w1.M
          | none => .bad) w1 R := q1
        cases s1 : lstOf w1.M x with
        | none => simp only [s1] at q1; exact q1.elim
        | some xs =>
          simp only [s1] at q1
          have s2 : seqOf w1.M x = some xs := by cases x <;> first | exact s1 | cases s1
          obtain ⟨a, k1, rfl, u1⟩ := seq_up g1 r2 s2
          have hk : ∃ (vs : List V), SqL X.K w1.H a vs := by
            obtain ⟨a', vs', e', sq', _⟩ := lstOf_sq g1 r2 s1
            cases e'
            exact ⟨vs', sq'⟩
          have u2 : ∀ w, Up X.K w1 w → (∀ p ∈ srcOf w1.M x, w.M[p.1]? = some (.lst p.2)) → ∃ vs, SqL X.K w.H a vs ∧ Reps X.K w xs vs := fun w u s => by
            have hl : lstOf w.M x = some xs := by
              cases x <;> first | exact s1 | (cases s1; done) | skip
              rename_i n _
              have s1 : (match w1.M[n]? with
                | some (.lst ds) => some ds
                | _ => none) = some xs := s1
              cases q : w1.M[n]? with
              | none => rw [q] at s1; cases s1
              | some ob =>
                rw [q] at s1
                cases ob with
                | lst es =>
                  cases s1
                  have := s (n, xs) (by
                    show (n, xs) ∈ (match w1.M[n]? with
                      | some (.lst ds) => [(n, ds)]
                      | _ => [])
                    rw [q]; exact List.mem_singleton.mpr rfl)
                  show (match w.M[n]? with
                    | some (.lst ds) => some ds
                    | _ => none) = some xs
                  rw [this]
                | dct _ => cases s1
                | dead => cases s1
            obtain ⟨a', vs', e', sq', rr⟩ := lstOf_sq u.good (u.rep _ _ r2) hl
            cases e'
            exact ⟨vs', sq', rr⟩
          obtain ⟨vs, q2⟩ := hk
          exact ⟨a, vs, rfl, q2, q1 w1 _ g1 (Ext.refl w1) rfl (wk_enum src_same u2)⟩
      | [], r1, q1 => exact q1.elim
      | _ :: _ :: _, r1, q1 => exact q1.elim

theorem a2 {a b : Bool} (h : (a && b) = true) : a = true ∧ b = true := by
  rwa [Bool.and_eq_true] at h
theorem n1 {a : Bool} (h : (!a) = true) : a = false := by simpa using h
theorem dd {p : Prop} [Decidable p] (h : decide p = true) : p := of_decide_eq_true h
variable (T cl N) in
/-- what a test's check tells -/
def TW (X : Cx) (W : WX) (sc : Scope) (e : Ex) : Prop := (∀ {x : Expr}, chkB T N e sc x = true → PT X x (tT T cl X W e)) ∧
  ∀ {op : BoolOp} {p q : Expr} {r : List Expr} {pos : Pos}, chkB T N e sc (.BoolOp op (p :: q :: r) pos) = true → PW X (.BoolOp op (p :: q :: r) pos) (tT T cl X W e)
theorem TW.of {X : Cx} {W : WX} {sc : Scope} {e : Ex} (h : ∀ {x : Expr}, chkB T N e sc x = true → PT X x (tT T cl X W e)) (n : ∀ {op : BoolOp} {p q : Expr} {r : List Expr} {pos : Pos}, chkB T N e sc (.BoolOp op (p :: q :: r) pos) = true → False) : TW T cl N X W sc e :=
  ⟨h, fun z => (n z).elim⟩
theorem TW.bad {X : Cx} {W : WX} {sc : Scope} {e : Ex} (h : ∀ ρ, evt T cl e ρ = bad) : TW T cl N X W sc e :=
  ⟨fun _ => tT_bad h, fun _ => ⟨fun wh pins s σ H Q I ⟨w, ρ, hH, hg, hr, q⟩ => by
    rw [h] at q
    exact q.elim⟩⟩
theorem TW.w {X : Cx} {W : WX} {sc : Scope} {e : Ex} (t : TW T cl N X W sc e) {op : BoolOp} {q : Expr} {r : List Expr} {pos : Pos} (h : chkB T N e sc (un1 (.BoolOp op (q :: r) pos)) = true) : PW X (.BoolOp op (q :: r) pos) (tT T cl X W e) := by
  cases r with
  | nil => exact pw_one (t.1 h)
  | cons v r => exact t.2 h
mutual
theorem okE : ∀ (e : Ex) {X : Cx} {W : WX} {own sc : Scope}, CxG T cl N k X W own sc → ∀ {x : Expr}, chkB T N e sc x = true → PE X x (tE T cl X W e)
  | .var i, X, W, own, sc, g, x, h => by
    cases x <;> first | (cases h; done) | skip
    rename_i y p
    obtain ⟨h, h4⟩ := a2 (show (decide (N[i]? = some y) && visB sc y && dbg y && !(y == ("__classdict__" : Str))) = true from h)
    obtain ⟨h, h3⟩ := a2 h
    obtain ⟨h1, h2⟩ := a2 h
    exact s_var g (dd h1) (visB_ok h2) (dbg_ok h3) (n1 h4)
  | .lit d, X, W, own, sc, g, x, h => lit_ok g h
  | .glob f, X, W, own, sc, g, x, h => by
    cases x <;> first | (cases h; done) | skip
    rename_i y p
    obtain ⟨h1, h2⟩ := a2 (show (decide (T.nm f = y) && glB sc y) = true from h)
    exact s_glob g (dd h1) (glB_ok h2).1 (glB_ok h2).2
  | .bin o a b, X, W, own, sc, g, x, h => by
    cases x <;> first | (cases h; done) | skip
    rename_i l op r p
    obtain ⟨h, h3⟩ := a2 (show (decide (op = o.op) && chkB T N a sc (un1 l) && chkB T N b sc (un1 r)) = true from h)
    obtain ⟨h1, h2⟩ := a2 h
    cases dd h1
    exact s_bin (un1_pe (okE a g h2)) (un1_pe (okE b g h3))
  | .neg a, X, W, own, sc, g, x, h => by
    cases x <;> first | (cases h; done) | skip
    rename_i op l p
    cases op <;> first | (cases h; done) | skip
    exact s_neg (un1_pe (okE a g h))
  | .nt a, X, W, own, sc, g, x, h => by
    cases x <;> first | (cases h; done) | skip
    rename_i op l p
    cases op <;> first | (cases h; done) | skip
    exact s_not (un1_pe (okE a g h))
  | .conj a b, X, W, own, sc, g, x, h => by
    cases x <;> first | (cases h; done) | skip
    rename_i op l p
    cases op <;> first | (cases h; done) | skip
    match l, h with
    | u :: v :: r, h =>
      obtain ⟨h1, h2⟩ := a2 (show (chkB T N a sc (un1 u) && chkB T N b sc (un1 (.BoolOp .And (v :: r) p))) = true from h)
      exact s_conj (un1_pe (okE a g h1)) (un1_pe (okE b g h2))
    | [], h => cases h
    | [_], h => cases h
  | .disj a b, X, W, own, sc, g, x, h => by
    cases x <;> first | (cases h; done) | skip
    rename_i op l p
    cases op <;> first | (cases h; done) | skip
    match l, h with
    | u :: v :: r, h =>
      obtain ⟨h1, h2⟩ := a2 (show (chkB T N a sc (un1 u) && chkB T N b sc (un1 (.BoolOp .Or (v :: r) p))) = true from h)
      exact s_disj (un1_pe (okE a g h1)) (un1_pe (okE b g h2))
    | [], h => cases h
    | [_], h => cases h
  | .cmp o a b, X, W, own, sc, g, x, h => by
    cases x <;> first | (cases h; done) | skip
    rename_i l ops rs p
    match ops, rs, h with
    | [op], [r], h =>
      obtain ⟨h, h4⟩ := a2 (show (decide (op = o.op) && !setB r && chkB T N a sc (un1 l) && chkB T N b sc (un1 r)) = true from h)
      obtain ⟨h, h3⟩ := a2 h
      obtain ⟨h1, h2⟩ := a2 h
      cases dd h1
      exact s_cmp g (mark_ok (n1 h2)) (un1_pe (okE a g h3)) (un1_pe (okE b g h4))
    | [], _, h => cases h
    | _ :: _ :: _, _, h => cases h
    | [_], [], h => cases h
    | [_], _ :: _ :: _, h => cases h
  | .chn o o' a b c, X, W, own, sc, g, x, h => by
    cases x <;> first | (cases h; done) | skip
    rename_i l ops rs p
    match ops, rs, h with
    | [op, op'], [r, e], h =>
      obtain ⟨h, h6⟩ := a2 (show (decide (op = o.op) && decide (op' = o'.op) && !setB e && chkB T N a sc (un1 l) && chkB T N b sc (un1 r) && chkB T N c sc (un1 e)) = true from h)
      obtain ⟨h, h5⟩ := a2 h
      obtain ⟨h, h4⟩ := a2 h
      obtain ⟨h, h3⟩ := a2 h
      obtain ⟨h1, h2⟩ := a2 h
      cases dd h1
      cases dd h2
      exact s_chn g (show behindInMarks o'.op e = false from mark_ok (n1 h3)) (un1_pe (okE a g h4)) (un1_pe (okE b g h5)) (un1_pe (okE c g h6))
    | [], _, h => cases h
    | [_], _, h => cases h
    | _ :: _ :: _ :: _, _, h => cases h
    | [_, _], [], h => cases h
    | [_, _], [_], h => cases h
    | [_, _], _ :: _ :: _ :: _, h => cases h
  | .ite c a b, X, W, own, sc, g, x, h => by
    cases x <;> first | (cases h; done) | skip
    rename_i e l r p
    obtain ⟨h, h3⟩ := a2 (show (chkB T N c sc (un1 e) && chkB T N a sc (un1 l) && chkB T N b sc (un1 r)) = true from h)
    obtain ⟨h1, h2⟩ := a2 h
    exact s_ite (un1_pt ((okTW c g).1 h1)) (un1_pe (okE a g h2)) (un1_pe (okE b g h3))
  | .tup es, X, W, own, sc, g, x, h => by
    cases x <;> first | (cases h; done) | skip
    exact s_tup (okEs es g h)
  | .lst m es, X, W, own, sc, g, x, h => by
    cases x <;> first | (cases h; done) | skip
    exact s_lst (okEs es g h)
  | .idx a b, X, W, own, sc, g, x, h => by
    cases x <;> first | (cases h; done) | skip
    rename_i l r p
    obtain ⟨h, h3⟩ := a2 (show (!sliceB r && chkB T N a sc (un1 l) && chkB T N b sc (un1 r)) = true from h)
    obtain ⟨h1, h2⟩ := a2 h
    exact s_ix g (un1_pe (okE a g h2)) (un1_pe (okE b g h3)) (ix_ok (n1 h1))
  | .slc a lo hi, X, W, own, sc, g, x, h => by
    cases x <;> first | (cases h; done) | skip
    rename_i l r p
    cases r <;> first | (cases h; done) | skip
    rename_i u v st p2
    cases st <;> first | (cases h; done) | skip
    obtain ⟨h, h3⟩ := a2 (show (chkB T N a sc (un1 l) && chkO T N lo sc u && chkO T N hi sc v) = true from h)
    obtain ⟨h1, h2⟩ := a2 h
    exact s_slc (un1_pe (okE a g h1)) (okO lo g h2) (okO hi g h3)
  | .call f sh es ks, X, W, own, sc, g, x, h => by
    cases x <;> first | (cases h; done) | skip
    rename_i fn args kws p
    cases fn <;> first | (cases h; done) | skip
    rename_i y py
    obtain ⟨h, h5⟩ := a2 (show (decide (T.nm f = y) && glB sc y && (match T.fd f with
      | some fd => match fd.shapes[sh]? with
        | some s => decide (kws.filterMap (fun kw => kw.arg) = s.ks) && kws.all (fun kw => kw.arg.isSome)
        | none => false
      | none => false) && chkEs T N es sc args && chkKs T N ks sc kws) = true from h)
    obtain ⟨h, h4⟩ := a2 h
    obtain ⟨h, h3⟩ := a2 h
    obtain ⟨h1, h2⟩ := a2 h
    obtain ⟨g1, g2⟩ := glB_ok h2
    have pl := args_plain h4
    cases hf : T.fd f with
    | none => rw [hf] at h3; cases h3
    | some fd =>
      rw [hf] at h3
      cases hs : fd.shapes[sh]? with
      | none => simp only [hs] at h3; cases h3
      | some s =>
        simp only [hs] at h3
        obtain ⟨k1, k2⟩ := a2 h3
        refine s_call g (dd h1) g1 g2 hf hs (dd k1) k2 (okEs es g h4) (okKs ks g h5) (fun e => es_nil (by rw [e] at h4; exact h4)) (fun e r he => ?_) fun e r he => ?_
        · rw [he, List.all_cons] at pl
          exact star_ok (n1 (a2 pl).1)
        · rw [he, List.all_cons] at pl
          exact (plain_ok (a2 pl).2).1
  | .blt m f es, X, W, own, sc, g, x, h => by
    cases x <;> first | (cases h; done) | skip
    rename_i fn args kws p
    cases fn <;> first | (cases h; done) | skip
    rename_i y py
    match args, kws, h with
    | e :: args, [], h =>
      obtain ⟨h, h5⟩ := a2 (show (decide (f.nm = y) && glB sc y && (if f = .gcd then T.gcd else T.free.contains y) && (!m || decide (f = .list) || decide (f = .sorted)) && chkEs T N es sc (e :: args)) = true from h)
      obtain ⟨h, h4⟩ := a2 h
      obtain ⟨h, h3⟩ := a2 h
      obtain ⟨h1, h2⟩ := a2 h
      cases dd h1
      have pl := args_plain h5
      rw [List.all_cons] at pl
      have st := star_ok (xs := args) (env := X.env) (n1 (a2 pl).1)
      have pp := (plain_ok (pos := p) (env := X.env) (a2 pl).2).1
      have bo : BfOk T f := by
        by_cases c : f = .gcd
        · rw [if_pos c] at h3; exact .inl ⟨c, h3⟩
        · rw [if_neg c] at h3; exact .inr ⟨c, List.contains_iff_mem.mp h3⟩
      cases m with
      | false => exact s_blt g bo (glB_ok h2).1 (okEs es g h5) st pp
      | true =>
        have hm : f = .list ∨ f = .sorted := by simpa using h4
        exact s_bltm g hm bo (glB_ok h2).1 (okEs es g h5) st pp
    | [], _, h => cases h
    | _ :: _, _ :: _, h => cases h
  | .mth m o es, X, W, own, sc, g, x, h => by
    cases x <;> first | (cases h; done) | skip
    rename_i fn args kws p
    cases fn <;> first | (cases h; done) | skip
    rename_i r y apos
    cases kws with
    | cons => cases h
    | nil =>
      obtain ⟨h, h5⟩ := a2 (show (decide (m.nm = y) && (apos.endLine == p.line) && chkEs T N es sc args && decide (args.length < 30) &&
        (if m = .tindex then (match (generalizing := false) o, r, args with
          | .glob c, .Name z _, [_] => decide (T.nm c = z) && glB sc z && T.tix.contains c
          | _, _, _ => false) else !supB r && chkB T N o sc (un1 r))) = true from h)
      obtain ⟨h, h4⟩ := a2 h
      obtain ⟨h, h3⟩ := a2 h
      obtain ⟨h1, h2⟩ := a2 h
      cases dd h1
      have pl := args_plain h3
      have few := few_ok (pos := p) (env := X.env) pl (dd h4)
      by_cases c : m = .tindex
      · subst c
        rw [if_pos rfl] at h5
        cases o <;> first | (cases h5; done) | skip
        cases r <;> first | (cases h5; done) | skip
        rename_i c z pz
        clear h
        match args, h5, h3, pl, few with
        | [a], h5, h3, pl, few =>
          obtain ⟨h5, h8⟩ := a2 (show (decide (T.nm c = z) && glB sc z && T.tix.contains c) = true from h5)
          obtain ⟨h6, h7⟩ := a2 h5
          rw [List.all_cons] at pl
          exact s_tindex g (List.contains_iff_mem.mp h8) (dd h6) (glB_ok h7).1 (glB_ok h7).2 (okEs es g h3) h2 few (star_ok (n1 (a2 pl).1)) rfl
        | [], h5, _, _, _ => cases h5
        | _ :: _ :: _, h5, _, _, _ => cases h5
      · rw [if_neg c] at h5
        obtain ⟨h5, h6⟩ := a2 h5
        have ho := un1_pe (okE o g h6)
        cases args with
        | nil =>
          cases es_nil h3
          exact s_mth0 g c ho (sup_ok (n1 h5)) h2
        | cons a args =>
          rw [List.all_cons] at pl
          exact s_mth g c ho (okEs es g h3) (sup_ok (n1 h5)) h2 few (star_ok (n1 (a2 pl).1)) (plain_ok (a2 pl).2).1
  | .comp m ow t it c e, X, W, own, sc, g, x, h => by
    cases x <;> first | (cases h; done) | skip
    rename_i elt gens bs p
    match gens, h with
    | [⟨tg, iter, ifs, z⟩], h =>
      obtain ⟨h, h8⟩ := a2 (show (decide (z = 0) && !setB iter && blkC N sc bs (ownP N ow) && (Tg.sl t).all (fun i => ow.contains i) && chkTg N t bs tg && chkI T N it sc tg iter && chkC T N c (relS bs sc) ifs && chkB T N e (relS bs sc) (un1 elt)) = true from h)
      obtain ⟨h, h7⟩ := a2 h
      obtain ⟨h, h6⟩ := a2 h
      obtain ⟨h, h5⟩ := a2 h
      obtain ⟨h, h4⟩ := a2 h
      obtain ⟨h, h3⟩ := a2 h
      obtain ⟨h1, h2⟩ := a2 h
      cases dd h1
      have bk := blkOk_by h3
      have G := blkG g bk
      have hs : ∀ i ∈ Tg.sl t, i ∈ ow := fun i hi => List.contains_iff_mem.mp (List.all_eq_true.mp h4 i hi)
      refine (pe_lc (wi := tI T cl X W it) (g := GP X.K (Tg.sl t) (bindT t)) (tt := tC' T cl X W0 c) (te := tE T cl X W0 e) g.calm (by rw [g.names]; exact g.nodup) (okI it g h6) (own := ownP N ow) (by rw [g.names, g.scope]; exact bk) (fun s H C clo fp => okTg (G s H C clo fp) t h5) (fun s H C clo fp => okC c (G s H C clo fp) h7)
        (fun s H C clo fp => un1_pe (okE e (G s H C clo fp) h8)) (fold_ok (n1 h2))).impV fun σ H Q q => ?_
      rw [ownP_snd]
      exact lc_read hs q
    | [], h => cases h
    | ⟨_, _, _, _⟩ :: ⟨_, _, _, _⟩ :: _, h => cases h
  | .comp2 m ow ow1 t it t1 it1 c e, X, W, own, sc, g, x, h => by
    cases x <;> first | (cases h; done) | skip
    rename_i elt gens bs p
    match gens, h with
    | [⟨tg, iter, ifs, z⟩, ⟨tg1, iter1, ifs1, z1⟩], h =>
      obtain ⟨h, k15⟩ := a2 (show (decide (z = 0) && decide (z1 = 0) && !setB iter && !setB iter1 && blkC N sc bs (ownP N ow) && (Tg.sl t).all (fun i => ow.contains i) && (Tg.sl t1).all (fun i => ow1.contains i) && ow1.all (fun i => ow.contains i) && ifs.isEmpty && chkTg N t bs tg && chkTg N t1 bs tg1 && chkI T N it sc tg iter && chkI T N it1 (relS bs sc) tg1 iter1 && chkC T N c (relS bs sc) ifs1 && chkB T N e (relS bs sc) (un1 elt)) = true from h)
      obtain ⟨h, k14⟩ := a2 h
      obtain ⟨h, k13⟩ := a2 h
      obtain ⟨h, k12⟩ := a2 h
      obtain ⟨h, k11⟩ := a2 h
      obtain ⟨h, k10⟩ := a2 h
      obtain ⟨h, k9⟩ := a2 h
      obtain ⟨h, k8⟩ := a2 h
      obtain ⟨h, k7⟩ := a2 h
      obtain ⟨h, k6⟩ := a2 h
      obtain ⟨h, k5⟩ := a2 h
      obtain ⟨h, k4⟩ := a2 h
      obtain ⟨h, k3⟩ := a2 h
      obtain ⟨k1, k2⟩ := a2 h
      cases dd k1
      cases dd k2
      cases ifs with
      | cons _ _ => cases k9
      | nil =>
        have bk := blkOk_by k5
        have G := blkG g bk
        have hs : ∀ i ∈ Tg.sl t, i ∈ ow := fun i hi => List.contains_iff_mem.mp (List.all_eq_true.mp k6 i hi)
        have hs1 : ∀ i ∈ Tg.sl t1, i ∈ ow1 := fun i hi => List.contains_iff_mem.mp (List.all_eq_true.mp k7 i hi)
        have hs2 : ∀ i ∈ ow1, i ∈ ow := fun i hi => List.contains_iff_mem.mp (List.all_eq_true.mp k8 i hi)
        refine (pe_lc2 (wi := tI T cl X W it) (g := GP X.K (Tg.sl t) (bindT t)) (tt := tC' T cl X W0 .non) (wi1 := tI T cl X W0 it1) (g1 := GP X.K (Tg.sl t1) (bindT t1)) (tt1 := tC' T cl X W0 c) (te := tE T cl X W0 e) (vs1 := ow1) g.calm (by rw [g.names]; exact g.nodup) (okI it g k12) (own := ownP N ow) (by rw [g.names, g.scope]; exact bk) (by rw [ownP_snd]; exact hs2) (fun s H C clo fp => okTg (G s H C clo fp) t k10) (fun s H C clo fp => okC .non (G s H C clo fp) rfl)
          (fun s H C clo fp => okI it1 (G s H C clo fp) k13) (fun s H C clo fp => okTg (G s H C clo fp) t1 k11) (fun s H C clo fp => okC c (G s H C clo fp) k14)
          (fun s H C clo fp => un1_pe (okE e (G s H C clo fp) k15)) (fold_ok (n1 k3)) (fun env x => fold_ok (n1 k4) x)).impV fun σ H Q q => ?_
        rw [ownP_snd]
        exact lc2_read hs hs1 q
    | [], h => cases h
    | [⟨_, _, _, _⟩], h => cases h
    | ⟨_, _, _, _⟩ :: ⟨_, _, _, _⟩ :: ⟨_, _, _, _⟩ :: _, h => cases h
  | .dsp ks es, X, W, own, sc, g, x, h => by
    cases x <;> first | (cases h; done) | skip
    rename_i keys values p
    obtain ⟨h, h3⟩ := a2 (show (!keys.isEmpty && decide (keys.length ≤ 15) && chkDs T N es sc ks keys values) = true from h)
    obtain ⟨h1, h2⟩ := a2 h
    obtain ⟨d1, d2, d3, d4⟩ := okDs es g h3
    exact s_dsp d1 d2 d3 (fun e => by rw [e] at h1; cases h1) (dd h2) d4
  | .frz a, X, W, own, sc, g, x, h => s_frz (okE a g h)
  | .p1 p a, X, W, own, sc, g, x, h => by
    have h : (match p1Args p x with
      | some l => chkB T N a sc (un1 l)
      | none => false) = true := h
    cases q : p1Args p x with
    | none => rw [q] at h; cases h
    | some l =>
      rw [q] at h
      exact p1_ok q (un1_pe (okE a g h))
  | .p2 p a b, X, W, own, sc, g, x, h => by
    have h : (match p2Args T p sc x with
      | some (l, r) => chkB T N a sc (un1 l) && chkB T N b sc (un1 r)
      | none => false) = true := h
    cases q : p2Args T p sc x with
    | none => rw [q] at h; cases h
    | some lr =>
      obtain ⟨l, r⟩ := lr
      rw [q] at h
      obtain ⟨h1, h2⟩ := a2 h
      exact p2_ok g q (un1_pe (okE a g h1)) (un1_pe (okE b g h2))
theorem okTW : ∀ (e : Ex) {X : Cx} {W : WX} {own sc : Scope}, CxG T cl N k X W own sc → TW T cl N X W sc e
  | .var i, X, W, own, sc, g => by
    refine TW.of (fun {x} h => ?_) fun {op p q r pos} h => ?_
    · have hp : PE X x (tE T cl X W (.var i)) := by
        cases x <;> first | (cases h; done) | skip
        rename_i y p
        obtain ⟨h, h4⟩ := a2 (show (decide (N[i]? = some y) && visB sc y && dbg y && !(y == ("__classdict__" : Str))) = true from h)
        obtain ⟨h, h3⟩ := a2 h
        obtain ⟨h1, h2⟩ := a2 h
        exact s_var g (dd h1) (visB_ok h2) (dbg_ok h3) (n1 h4)
      cases x <;> first | (cases h; done) | skip
      exact s_tru hp (fun _ => rfl) fun _ => rfl
    · cases h
  | .lit d, X, W, own, sc, g => by
    refine TW.of (fun {x} h => ?_) fun {op p q r pos} h => ?_
    · have hp := lit_ok (cl := cl) g h
      have h : litB T.free d sc x = true := h
      refine s_tru hp (fun wh => ?_) fun _ => rfl
      cases x <;> first | rfl | skip
      all_goals (cases d <;> cases h)
    · cases d <;> cases h
  | .glob f, X, W, own, sc, g => by
    refine TW.of (fun {x} h => ?_) fun {op p q r pos} h => ?_
    · have hp : PE X x (tE T cl X W (.glob f)) := by
        cases x <;> first | (cases h; done) | skip
        rename_i y p
        obtain ⟨h1, h2⟩ := a2 (show (decide (T.nm f = y) && glB sc y) = true from h)
        exact s_glob g (dd h1) (glB_ok h2).1 (glB_ok h2).2
      cases x <;> first | (cases h; done) | skip
      exact s_tru hp (fun _ => rfl) fun _ => rfl
    · cases h
  | .bin o a b, X, W, own, sc, g => by
    refine TW.of (fun {x} h => ?_) fun {op p q r pos} h => ?_
    · cases x <;> first | (cases h; done) | skip
      rename_i l op r p
      obtain ⟨h, h3⟩ := a2 (show (decide (op = o.op) && chkB T N a sc (un1 l) && chkB T N b sc (un1 r)) = true from h)
      obtain ⟨h1, h2⟩ := a2 h
      cases dd h1
      exact s_tru (s_bin (un1_pe (okE a g h2)) (un1_pe (okE b g h3))) (fun _ => rfl) fun ρ => tru_bin ρ
    · cases h
  | .nt a, X, W, own, sc, g => by
    refine TW.of (fun {x} h => ?_) fun {op p q r pos} h => ?_
    · cases x <;> first | (cases h; done) | skip
      rename_i op l p
      cases op <;> first | (cases h; done) | skip
      exact s_notT (un1_pt ((okTW a g).1 h))
    · cases h
  | .conj a b, X, W, own, sc, g => by
    refine ⟨fun {x} h => ?_, fun {op p q r pos} h => ?_⟩
    · cases x <;> first | (cases h; done) | skip
      rename_i op l p
      cases op <;> first | (cases h; done) | skip
      match l, h with
      | u :: v :: r, h =>
        obtain ⟨h1, h2⟩ := a2 (show (chkB T N a sc (un1 u) && chkB T N b sc (un1 (.BoolOp .And (v :: r) p))) = true from h)
        exact (s_conjW (un1_pt ((okTW a g).1 h1)) ((okTW b g).w h2)).pt
      | [], h => cases h
      | [_], h => cases h
    · cases op <;> first | (cases h; done) | skip
      obtain ⟨h1, h2⟩ := a2 (show (chkB T N a sc (un1 p) && chkB T N b sc (un1 (.BoolOp .And (q :: r) pos))) = true from h)
      exact s_conjW (un1_pt ((okTW a g).1 h1)) ((okTW b g).w h2)
  | .disj a b, X, W, own, sc, g => by
    refine ⟨fun {x} h => ?_, fun {op p q r pos} h => ?_⟩
    · cases x <;> first | (cases h; done) | skip
      rename_i op l p
      cases op <;> first | (cases h; done) | skip
      match l, h with
      | u :: v :: r, h =>
        obtain ⟨h1, h2⟩ := a2 (show (chkB T N a sc (un1 u) && chkB T N b sc (un1 (.BoolOp .Or (v :: r) p))) = true from h)
        exact (s_disjW (un1_pt ((okTW a g).1 h1)) ((okTW b g).w h2)).pt
      | [], h => cases h
      | [_], h => cases h
    · cases op <;> first | (cases h; done) | skip
      obtain ⟨h1, h2⟩ := a2 (show (chkB T N a sc (un1 p) && chkB T N b sc (un1 (.BoolOp .Or (q :: r) pos))) = true from h)
      exact s_disjW (un1_pt ((okTW a g).1 h1)) ((okTW b g).w h2)
  | .cmp o a b, X, W, own, sc, g => by
    refine TW.of (fun {x} h => ?_) fun {op p q r pos} h => ?_
    · cases x <;> first | (cases h; done) | skip
      rename_i l ops rs p
      match ops, rs, h with
      | [op], [r], h =>
        obtain ⟨h, h4⟩ := a2 (show (decide (op = o.op) && !setB r && chkB T N a sc (un1 l) && chkB T N b sc (un1 r)) = true from h)
        obtain ⟨h, h3⟩ := a2 h
        obtain ⟨h1, h2⟩ := a2 h
        cases dd h1
        exact s_cmpT g (mark_ok (n1 h2)) (un1_pe (okE a g h3)) (un1_pe (okE b g h4))
      | [], _, h => cases h
      | _ :: _ :: _, _, h => cases h
      | [_], [], h => cases h
      | [_], _ :: _ :: _, h => cases h
    · cases h
  | .chn o o' a b c, X, W, own, sc, g => by
    refine TW.of (fun {x} h => ?_) fun {op p q r pos} h => ?_
    · cases x <;> first | (cases h; done) | skip
      rename_i l ops rs p
      match ops, rs, h with
      | [op, op'], [r, e], h =>
        obtain ⟨h, h6⟩ := a2 (show (decide (op = o.op) && decide (op' = o'.op) && !setB e && chkB T N a sc (un1 l) && chkB T N b sc (un1 r) && chkB T N c sc (un1 e)) = true from h)
        obtain ⟨h, h5⟩ := a2 h
        obtain ⟨h, h4⟩ := a2 h
        obtain ⟨h, h3⟩ := a2 h
        obtain ⟨h1, h2⟩ := a2 h
        cases dd h1
        cases dd h2
        exact s_chnT g (show behindInMarks o'.op e = false from mark_ok (n1 h3)) (un1_pe (okE a g h4)) (un1_pe (okE b g h5)) (un1_pe (okE c g h6))
      | [], _, h => cases h
      | [_], _, h => cases h
      | _ :: _ :: _ :: _, _, h => cases h
      | [_, _], [], h => cases h
      | [_, _], [_], h => cases h
      | [_, _], _ :: _ :: _ :: _, h => cases h
    · cases h
  | .idx a b, X, W, own, sc, g => by
    refine TW.of (fun {x} h => ?_) fun {op p q r pos} h => ?_
    · cases x <;> first | (cases h; done) | skip
      rename_i l r p
      obtain ⟨h, h3⟩ := a2 (show (!sliceB r && chkB T N a sc (un1 l) && chkB T N b sc (un1 r)) = true from h)
      obtain ⟨h1, h2⟩ := a2 h
      exact s_tru (s_ix g (un1_pe (okE a g h2)) (un1_pe (okE b g h3)) (ix_ok (n1 h1))) (fun _ => rfl) fun ρ => tru_idx ρ
    · cases h
  | .call f sh es ks, X, W, own, sc, g => by
    refine TW.of (fun {x} h => ?_) fun {op p q r pos} h => ?_
    · cases x <;> first | (cases h; done) | skip
      rename_i fn args kws p
      cases fn <;> first | (cases h; done) | skip
      rename_i y py
      obtain ⟨h, h5⟩ := a2 (show (decide (T.nm f = y) && glB sc y && (match T.fd f with
        | some fd => match fd.shapes[sh]? with
          | some s => decide (kws.filterMap (fun kw => kw.arg) = s.ks) && kws.all (fun kw => kw.arg.isSome)
          | none => false
        | none => false) && chkEs T N es sc args && chkKs T N ks sc kws) = true from h)
      obtain ⟨h, h4⟩ := a2 h
      obtain ⟨h, h3⟩ := a2 h
      obtain ⟨h1, h2⟩ := a2 h
      obtain ⟨g1, g2⟩ := glB_ok h2
      have pl := args_plain h4
      cases hf : T.fd f with
      | none => rw [hf] at h3; cases h3
      | some fd =>
        rw [hf] at h3
        cases hs : fd.shapes[sh]? with
        | none => simp only [hs] at h3; cases h3
        | some s =>
          simp only [hs] at h3
          obtain ⟨k1, k2⟩ := a2 h3
          refine s_tru (s_call g (dd h1) g1 g2 hf hs (dd k1) k2 (okEs es g h4) (okKs ks g h5) (fun e => es_nil (by rw [e] at h4; exact h4)) (fun e r he => ?_) fun e r he => ?_) (fun _ => rfl) fun ρ => tru_call ρ
          · rw [he, List.all_cons] at pl
            exact star_ok (n1 (a2 pl).1)
          · rw [he, List.all_cons] at pl
            exact (plain_ok (a2 pl).2).1
    · cases h
  | .blt m f es, X, W, own, sc, g => by
    refine TW.of (fun {x} h => ?_) fun {op p q r pos} h => ?_
    · cases x <;> first | (cases h; done) | skip
      rename_i fn args kws p
      cases fn <;> first | (cases h; done) | skip
      rename_i y py
      match args, kws, h with
      | e :: args, [], h =>
        obtain ⟨h, h5⟩ := a2 (show (decide (f.nm = y) && glB sc y && (if f = .gcd then T.gcd else T.free.contains y) && (!m || decide (f = .list) || decide (f = .sorted)) && chkEs T N es sc (e :: args)) = true from h)
        obtain ⟨h, h4⟩ := a2 h
        obtain ⟨h, h3⟩ := a2 h
        obtain ⟨h1, h2⟩ := a2 h
        cases dd h1
        have pl := args_plain h5
        rw [List.all_cons] at pl
        have st := star_ok (xs := args) (env := X.env) (n1 (a2 pl).1)
        have pp := (plain_ok (pos := p) (env := X.env) (a2 pl).2).1
        have bo : BfOk T f := by
          by_cases c : f = .gcd
          · rw [if_pos c] at h3; exact .inl ⟨c, h3⟩
          · rw [if_neg c] at h3; exact .inr ⟨c, List.contains_iff_mem.mp h3⟩
        cases m with
        | false => exact s_tru (s_blt g bo (glB_ok h2).1 (okEs es g h5) st pp) (fun _ => rfl) fun ρ => tru_blt ρ
        | true => exact tT_bad fun _ => rfl
      | [], _, h => cases h
      | _ :: _, _ :: _, h => cases h
    · cases h
  | .neg a, X, W, own, sc, g => TW.bad fun _ => rfl
  | .ite c a b, X, W, own, sc, g => TW.bad fun _ => rfl
  | .tup es, X, W, own, sc, g => TW.bad fun _ => rfl
  | .lst m es, X, W, own, sc, g => TW.bad fun _ => rfl
  | .slc a lo hi, X, W, own, sc, g => TW.bad fun _ => rfl
  | .mth m o es, X, W, own, sc, g => TW.bad fun _ => rfl
  | .comp m ow t it c e, X, W, own, sc, g => TW.bad fun _ => rfl
  | .comp2 m ow ow1 t it t1 it1 c e, X, W, own, sc, g => TW.bad fun _ => rfl
  | .dsp ks es, X, W, own, sc, g => TW.bad fun _ => rfl
  | .frz a, X, W, own, sc, g => TW.bad fun _ => rfl
  | .p1 p a, X, W, own, sc, g => TW.bad fun _ => rfl
  | .p2 p a b, X, W, own, sc, g => TW.bad fun _ => rfl
theorem okEs : ∀ (es : Exs) {X : Cx} {W : WX} {own sc : Scope}, CxG T cl N k X W own sc → ∀ {xs : List Expr}, chkEs T N es sc xs = true → PA X xs (tA T cl X W es)
  | .nil, X, W, own, sc, g, xs, h => by
    cases xs with
    | nil => exact s_nil
    | cons => cases h
  | .cons e es, X, W, own, sc, g, [], h => by cases h
  | .cons e es, X, W, own, sc, g, x :: xs, h => by
    obtain ⟨h, h3⟩ := a2 (show (!starB x && chkB T N e sc (un1 x) && chkEs T N es sc xs) = true from h)
    obtain ⟨h1, h2⟩ := a2 h
    exact s_cons (un1_pe (okE e g h2)) (okEs es g h3) (star_ok (n1 h1))
theorem okKs : ∀ (es : Exs) {X : Cx} {W : WX} {own sc : Scope}, CxG T cl N k X W own sc → ∀ {xs : List Keyword}, chkKs T N es sc xs = true → PK X xs (tA T cl X W es)
  | .nil, X, W, own, sc, g, xs, h => by
    cases xs with
    | nil => exact s_knil
    | cons => cases h
  | .cons e es, X, W, own, sc, g, [], h => by cases h
  | .cons e es, X, W, own, sc, g, ⟨nm, x, kp⟩ :: xs, h => by
    obtain ⟨h1, h2⟩ := a2 (show (chkB T N e sc (un1 x) && chkKs T N es sc xs) = true from h)
    exact s_kcons (un1_pe (okE e g h1)) (okKs es g h2)
theorem okDs : ∀ (es : Exs) {X : Cx} {W : WX} {own sc : Scope}, CxG T cl N k X W own sc → ∀ {ks : List Str} {keys : List (Option Expr)} {values : List Expr} {pos : Pos}, chkDs T N es sc ks keys values = true →
    PPs X pos keys values (trsOf T cl X W ks es) ∧ keys.all (·.isSome) = true ∧ keys.length = values.length ∧ ks.length = es.len
  | .nil, X, W, own, sc, g, ks, keys, values, pos, h => by
    obtain ⟨h, h3⟩ := a2 (show (ks.isEmpty && keys.isEmpty && values.isEmpty) = true from h)
    obtain ⟨h1, h2⟩ := a2 h
    cases ks with
    | cons => cases h1
    | nil =>
      cases keys with
      | cons => cases h2
      | nil =>
        cases values with
        | cons => cases h3
        | nil => exact ⟨pps_nil, rfl, rfl, rfl⟩
  | .cons e es, X, W, own, sc, g, ks, keys, values, pos, h => by
    match ks, keys, values, h with
    | k :: ks, some (.Constant (.str y) n p) :: keys, x :: values, h =>
      obtain ⟨h, h3⟩ := a2 (show (decide (k = y) && chkB T N e sc (un1 x) && chkDs T N es sc ks keys values) = true from h)
      obtain ⟨h1, h2⟩ := a2 h
      cases dd h1
      obtain ⟨d1, d2, d3, d4⟩ := okDs es g (pos := pos) h3
      exact ⟨pps_cons pe_str (un1_pe (okE e g h2)) d1, by rw [List.all_cons, d2]; rfl, by rw [List.length_cons, List.length_cons, d3], by rw [List.length_cons, d4]; rfl⟩
theorem okO : ∀ (o : Ox) {X : Cx} {W : WX} {own sc : Scope}, CxG T cl N k X W own sc → ∀ {x : Option Expr}, chkO T N o sc x = true → PO X x (tO T cl X W o)
  | .non, X, W, own, sc, g, x, h => by
    cases x with
    | none => exact s_onon
    | some => cases h
  | .som e, X, W, own, sc, g, x, h => by
    cases x with
    | none => cases h
    | some x => exact s_osom (un1_pe (okE e g h))
theorem okC : ∀ (o : Ox) {X : Cx} {W : WX} {own sc : Scope}, CxG T cl N k X W own sc → ∀ {xs : List Expr}, chkC T N o sc xs = true → PTs X xs (tC' T cl X W o)
  | .non, X, W, own, sc, g, xs, h => by
    cases xs with
    | cons => cases h
    | nil =>
      refine pts_nil.impV fun σ H Q ⟨w, ρ, hH, hg, hr, q⟩ => ?_
      subst hH
      exact EvG.ok (a := true) (b := true) q hg rfl
  | .som e, X, W, own, sc, g, xs, h => by
    match xs, h with
    | [x], h => exact pts_one (un1_pt ((okTW e g).1 h))
    | [], h => cases h
    | _ :: _ :: _, h => cases h
theorem okI : ∀ (i : It) {X : Cx} {W : WX} {own sc : Scope}, CxG T cl N k X W own sc → ∀ {tg x : Expr}, chkI T N i sc tg x = true → PI X tg x (tI T cl X W i)
  | .seq e, X, W, own, sc, g, tg, x, h => i_seq (un1_pe (okE e g h))
  | .rng e, X, W, own, sc, g, tg, x, h => by
    cases x <;> first | (cases h; done) | skip
    rename_i fn args kws p
    cases fn <;> first | (cases h; done) | skip
    rename_i y py
    match args, kws, h with
    | [a], [], h =>
      obtain ⟨h, h5⟩ := a2 (show (decide (y = "range") && glB sc y && T.free.contains y && !starB a && chkB T N e sc (un1 a)) = true from h)
      obtain ⟨h, h4⟩ := a2 h
      obtain ⟨h, h3⟩ := a2 h
      obtain ⟨h1, h2⟩ := a2 h
      cases dd h1
      exact i_rng g (glB_ok h2).1 (List.contains_iff_mem.mp h3) (n1 h4) (un1_pe (okE e g h5))
    | [], _, h => cases h
    | [_], _ :: _, h => cases h
    | _ :: _ :: _, _, h => cases h
  | .rng2 e f, X, W, own, sc, g, tg, x, h => by
    cases x <;> first | (cases h; done) | skip
    rename_i fn args kws p
    cases fn <;> first | (cases h; done) | skip
    rename_i y py
    match args, kws, h with
    | [a, b], [], h =>
      obtain ⟨h, h7⟩ := a2 (show (decide (y = "range") && glB sc y && T.free.contains y && !starB a && !starB b && chkB T N e sc (un1 a) && chkB T N f sc (un1 b)) = true from h)
      obtain ⟨h, h6⟩ := a2 h
      obtain ⟨h, h5⟩ := a2 h
      obtain ⟨h, h4⟩ := a2 h
      obtain ⟨h, h3⟩ := a2 h
      obtain ⟨h1, h2⟩ := a2 h
      cases dd h1
      exact i_rng2 g (glB_ok h2).1 (List.contains_iff_mem.mp h3) (n1 h4) (n1 h5) (un1_pe (okE e g h6)) (un1_pe (okE f g h7))
    | [], _, h => cases h
    | [_], _, h => cases h
    | [_, _], _ :: _, h => cases h
    | _ :: _ :: _ :: _, _, h => cases h
  | .zip e f, X, W, own, sc, g, tg, x, h => by
    cases x <;> first | (cases h; done) | skip
    rename_i fn args kws p
    cases fn <;> first | (cases h; done) | skip
    rename_i y py
    match args, kws, h with
    | [a, b], [], h =>
      obtain ⟨h, h8⟩ := a2 (show (decide (y = "zip") && glB sc y && T.free.contains y && tupB tg && !starB a && !starB b && chkB T N e sc (un1 a) && chkB T N f sc (un1 b)) = true from h)
      obtain ⟨h, h7⟩ := a2 h
      obtain ⟨h, h6⟩ := a2 h
      obtain ⟨h, h5⟩ := a2 h
      obtain ⟨h, h4⟩ := a2 h
      obtain ⟨h, h3⟩ := a2 h
      obtain ⟨h1, h2⟩ := a2 h
      cases dd h1
      cases tg <;> first | (cases h4; done) | skip
      exact i_zip g (glB_ok h2).1 (List.contains_iff_mem.mp h3) (n1 h5) (n1 h6) (un1_pe (okE e g h7)) (un1_pe (okE f g h8))
    | [], _, h => cases h
    | [_], _, h => cases h
    | [_, _], _ :: _, h => cases h
    | _ :: _ :: _ :: _, _, h => cases h
  | .enum e, X, W, own, sc, g, tg, x, h => by
    cases x <;> first | (cases h; done) | skip
    rename_i fn args kws p
    cases fn <;> first | (cases h; done) | skip
    rename_i y py
    match args, kws, h with
    | [a], [], h =>
      obtain ⟨h, h6⟩ := a2 (show (decide (y = "enumerate") && glB sc y && T.free.contains y && tupB tg && !starB a && chkB T N e sc (un1 a)) = true from h)
      obtain ⟨h, h5⟩ := a2 h
      obtain ⟨h, h4⟩ := a2 h
      obtain ⟨h, h3⟩ := a2 h
      obtain ⟨h1, h2⟩ := a2 h
      cases dd h1
      cases tg <;> first | (cases h4; done) | skip
      exact i_enum g (glB_ok h2).1 (List.contains_iff_mem.mp h3) (n1 h5) (un1_pe (okE e g h6))
    | [], _, h => cases h
    | [_], _ :: _, h => cases h
    | _ :: _ :: _, _, h => cases h
  | .dks e, X, W, own, sc, g, tg, x, h => i_dks (un1_pe (okE e g h))
  | .dits e, X, W, own, sc, g, tg, x, h => by cases h
  | .zip3 e f h3, X, W, own, sc, g, tg, x, h => by
    cases x <;> first | (cases h; done) | skip
    rename_i fn args kws p
    cases fn <;> first | (cases h; done) | skip
    rename_i y py
    match args, kws, h with
    | [a, b, c], [], h =>
      have h : (decide (y = "zip") && glB sc y && T.free.contains y && tupB tg && !starB a && !starB b && !starB c && chkB T N e sc (un1 a) && chkB T N f sc (un1 b) && chkB T N h3 sc (un1 c)) = true := h
      obtain ⟨h, c10⟩ := a2 h
      obtain ⟨h, c9⟩ := a2 h
      obtain ⟨h, c8⟩ := a2 h
      obtain ⟨h, c7⟩ := a2 h
      obtain ⟨h, c6⟩ := a2 h
      obtain ⟨h, c5⟩ := a2 h
      obtain ⟨h, c4⟩ := a2 h
      obtain ⟨h, c3⟩ := a2 h
      obtain ⟨c1, c2⟩ := a2 h
      cases dd c1
      cases tg <;> first | (cases c4; done) | skip
      exact i_zip3 g (glB_ok c2).1 (List.contains_iff_mem.mp c3) (n1 c5) (n1 c6) (n1 c7) (un1_pe (okE e g c8)) (un1_pe (okE f g c9)) (un1_pe (okE h3 g c10))
    | [], _, h => cases h
    | [_], _, h => cases h
    | [_, _], _, h => cases h
    | [_, _, _], _ :: _, h => cases h
    | _ :: _ :: _ :: _ :: _, _, h => cases h
end
end
end Iv
end

section
set_option Elab.async false
set_option linter.all false
set_option maxHeartbeats 2000000
/-! IvSt: statements. -/
namespace Iv
open PySem PySem.Spec PyProof.Rows L2

/-! ### the stores of a, b = .. -/
theorem swap2 {x y : Str} {px py pt p2 : Pos} {kt k2 : Nat} {a b : Expr} {env : PySem.Env} (hk : env.scope.kind = .function) (hx : env.scope.names.lookup x = some .local) (hy : env.scope.names.lookup y = some .local) (hxy : x ≠ y) (hl : py.line = px.line)
    (ha : starB a = false) (hb : starB b = false) (hf : (foldedForSure 8 a && foldedForSure 8 b) = false) (hc : (constantsAlone 8 a && constantsAlone 8 b) = false) :
    swappedStores [.Tuple [.Name x px, .Name y py] kt pt] (.Tuple [a, b] k2 p2) env = pure (some [x, y]) := by
  have e1 : env.kindOf x = some .local := hx
  have e2 : env.kindOf y = some .local := hy
  have e3 : env.blockKind = .function := by unfold PySem.Env.blockKind; rw [hk] <;> rfl
  have f1 : [a, b].all (foldedForSure 8) = false := by simpa using hf
  have c1 : [a, b].all (constantsAlone 8) = false := by simpa using hc
  have hyx : ¬ y = x := fun e => hxy e.symm
  unfold swappedStores
  simp only [e3, f1, c1]
  rw [if_neg (by simp), if_neg (by
    simp only [List.any_cons, List.any_nil, Bool.or_false, Bool.or_eq_true]
    rintro (h | h)
    · split at h
      · cases ha
      · cases h
    · split at h
      · cases hb
      · cases h)]
  simp [e1, e2, hl, hxy, hyx, Expr.pos, List.eraseDups_cons]
theorem swap3 {x y z : Str} {px py pz pt p2 : Pos} {kt k2 : Nat} {a b c : Expr} {env : PySem.Env} (hk : env.scope.kind = .function) (hx : env.scope.names.lookup x = some .local) (hy : env.scope.names.lookup y = some .local) (hz : env.scope.names.lookup z = some .local) (hxy : x ≠ y) (hxz : x ≠ z) (hyz : y ≠ z) (hl : py.line = px.line) (hl2 : pz.line = px.line)
    (ha : starB a = false) (hb : starB b = false) (hc' : starB c = false) (hf : (foldedForSure 8 a && foldedForSure 8 b && foldedForSure 8 c) = false) (hc : (constantsAlone 8 a && constantsAlone 8 b && constantsAlone 8 c) = false) :
    swappedStores [.Tuple [.Name x px, .Name y py, .Name z pz] kt pt] (.Tuple [a, b, c] k2 p2) env = pure (some [x, y, z]) := by
  have e1 : env.kindOf x = some .local := hx
  have e2 : env.kindOf y = some .local := hy
  have e4 : env.kindOf z = some .local := hz
  have e3 : env.blockKind = .function := by unfold PySem.Env.blockKind; rw [hk] <;> rfl
  have f1 : [a, b, c].all (foldedForSure 8) = false := by
    rw [List.all_cons, List.all_cons, List.all_cons, List.all_nil, Bool.and_true, ← Bool.and_assoc]; exact hf
  have c1 : [a, b, c].all (constantsAlone 8) = false := by
    rw [List.all_cons, List.all_cons, List.all_cons, List.all_nil, Bool.and_true, ← Bool.and_assoc]; exact hc
  have hyx : ¬ y = x := fun e => hxy e.symm
  have hzx : ¬ z = x := fun e => hxz e.symm
  have hzy : ¬ z = y := fun e => hyz e.symm
  unfold swappedStores
  simp only [e3, f1, c1]
  rw [if_neg (by simp), if_neg (by
    simp only [List.any_cons, List.any_nil, Bool.or_false, Bool.or_eq_true]
    rintro (h | h | h)
    · split at h
      · cases ha
      · cases h
    · split at h
      · cases hb
      · cases h
    · split at h
      · cases hc'
      · cases h)]
  simp [e1, e2, e4, hl, hl2, hxy, hyx, hxz, hzx, hyz, hzy, Expr.pos, List.eraseDups_cons]
/-- a target that is a plain local -/
def locT (sc : Scope) : Expr → Bool
  | .Name id _ => decide (sc.names.lookup id = some .local)
  | _ => false
/-- no exchange of the stores -/
def nosw (sc : Scope) (ts vs : List Expr) : Bool := ts.any (fun t => !locT sc t) || !(ts.length == 2 || ts.length == 3) || vs.all (foldedForSure 8)
theorem filterMap_lt {α β : Type} {f : α → Option β} : ∀ {l : List α} {a : α}, a ∈ l → f a = none → (l.filterMap f).length < l.length
  | b :: l, a, h, e => by
    have le : ∀ l : List α, (l.filterMap f).length ≤ l.length := fun l => List.length_filterMap_le f l
    rcases List.mem_cons.mp h with q | q
    · subst q
      rw [List.filterMap_cons_none e, List.length_cons]
      exact Nat.lt_succ_of_le (le l)
    · have ih := filterMap_lt q e
      cases hb : f b with
      | none => rw [List.filterMap_cons_none hb, List.length_cons]; omega
      | some c => rw [List.filterMap_cons_some hb, List.length_cons, List.length_cons]; omega
theorem nosw_ok {ts vs : List Expr} {k k2 : Nat} {p p2 : Pos} {env : PySem.Env} {sc : Scope} (hs : env.scope = sc) (h : nosw sc ts vs = true) : swappedStores [.Tuple ts k p] (.Tuple vs k2 p2) env = pure none := by
  unfold nosw at h
  unfold swappedStores
  simp only []
  split
  · rfl
  · rename_i n1
    split
    · rfl
    · split
      · rfl
      · rename_i n3
        split
        · rfl
        · rename_i n4
          exfalso
          rw [Bool.or_eq_true, Bool.or_eq_true] at h
          rcases h with (h | h) | h
          · obtain ⟨t, ht, hn⟩ := List.any_eq_true.mp h
            refine n3 ?_
            rw [Bool.or_eq_true]
            left
            refine bne_iff_ne.mpr (Nat.ne_of_lt (filterMap_lt ht ?_))
            cases t <;> first | rfl | skip
            rename_i id pos
            have e : env.kindOf id ≠ some .local := by
              intro e
              have e : env.scope.names.lookup id = some .local := e
              rw [hs] at e
              simp [locT, e] at hn
            simp [e]
          · refine n1 ?_
            rw [Bool.or_eq_true, Bool.or_eq_true]
            exact .inl (.inl h)
          · exact n4 h
end Iv
end

section
set_option Elab.async false
set_option linter.all false
set_option maxHeartbeats 2000000
/-! IvStm: each form of statement by its rule. -/
namespace Iv
open PySem PySem.Spec PyProof.Rows L2
/-- what is asked of a statement's run -/
def SrR (K : PySem.W.Frag) (mg : Str → Option Value) (W : WX) (Dn : Ends) (r : SR) (w : Wd) : Prop := match r with
  | .ok f ρ M => ∀ (w' : Wd) (σ : L2.St), Good K w' → Ext w w' → w'.M = M → EnvR K w' ρ σ → (match f with
    | .nx => Dn.nx σ w'.H
    | .bk => Dn.bk σ w'.H
    | .ct => Dn.ct σ w'.H
    | .rt d => ∀ v, Rep K w' d v → Dn.rt v w'.H)
  | .exc c p ρ M => ∀ (w' : Wd) (σ : L2.St) (cls : Value) (d : Option Addr), Good K w' → Ext w w' → w'.M = M → EnvR K w' ρ σ → ExcR K mg w' c p cls d → W cls d σ w'.H
  | .bad => False
def tS (K : PySem.W.Frag) (mg : Str → Option Value) (W : WX) (m : Env → Sto → SR) : TS := fun Dn σ H => ∃ (w : Wd) (ρ : Env), w.H = H ∧ Good K w ∧ EnvR K w ρ σ ∧ SrR K mg W Dn (m ρ w.M) w
section
variable {K : PySem.W.Frag} {mg : Str → Option Value} {W : WX} {Dn : Ends} {w w' : Wd} {ρ : Env} {σ : L2.St}
theorem SrR.ext {r : SR} (h : SrR K mg W Dn r w) (x : Ext w w') : SrR K mg W Dn r w' := by
  cases r with
  | ok f ρ M => exact fun w2 σ g e q r => h w2 σ g (x.trans e) q r
  | exc c p ρ M => exact fun w2 σ cls d g e q r => h w2 σ cls d g (x.trans e) q r
  | bad => exact h
theorem SrR.at {r : Sto → SR} (h : SrR K mg W Dn (r w.M) w) (e : Ext w w') (hM : w'.M = w.M) : SrR K mg W Dn (r w'.M) w' := by
  rw [hM]; exact h.ext e
theorem SrR.nx {ρ : Env} (h : SrR K mg W Dn (.ok .nx ρ w.M) w) (g : Good K w) (r : EnvR K w ρ σ) : Dn.nx σ w.H := h w σ g (Ext.refl w) rfl r
/-- first an expression -/
theorem SrR.ex {α β : Type} {R : Wd → α → β → Prop} {m : Mo α} {F : α → Sto → SR} (hg : Good K w) (he : EnvR K w ρ σ) (h : SrR K mg W Dn (.bd ρ (m w.M) F) w) {Q : β → Hp → Prop}
    (k : ∀ (w1 : Wd) (a : α) (b : β), Good K w1 → Ext w w1 → R w1 a b → EnvR K w1 ρ σ → SrR K mg W Dn (F a w1.M) w1 → Q b w1.H) : EvG K mg (fun c d H => W c d σ H) R m w Q := by
  show EvR K mg _ R (m w.M) w Q
  cases q : m w.M with
  | ok a M' =>
    rw [q] at h
    intro w1 b g1 e1 hM r
    have h : SrR K mg W Dn (F a M') w := h
    exact k w1 a b g1 e1 r (he.mono hg e1) (by rw [hM]; exact h.ext e1)
  | exc c p M' =>
    rw [q] at h
    intro w1 cls d g1 e1 hM r
    exact h w1 σ cls d g1 e1 hM (he.mono hg e1) r
  | bad => rw [q] at h; exact h
theorem tS.seq {α β : Type} {R : Wd → α → β → Prop} {m : Env → Mo α} {F : α → Sto → SR} {Q : β → Hp → Prop} (hg : Good K w) (he : EnvR K w ρ σ) (h : SrR K mg W Dn (.bd ρ (m ρ w.M) F) w)
    (k : ∀ (w1 : Wd) (a : α) (b : β), Good K w1 → Ext w w1 → R w1 a b → EnvR K w1 ρ σ → SrR K mg W Dn (F a w1.M) w1 → Q b w1.H) : tG K mg W R m σ w.H Q :=
  ⟨w, ρ, rfl, hg, he, SrR.ex hg he h k⟩
end
theorem _root_.L2.PS.impV {X : Cx} {e : Stmt} {t t' : TS} (h : PS X e t) (k : ∀ D σ H, t' D σ H → t D σ H) : PS X e t' := ⟨fun pins s σ H D I q => h.run pins s σ H D I (k D σ H q)⟩
theorem _root_.L2.PSs.impV {X : Cx} {e : List Stmt} {t t' : TS} (h : PSs X e t) (k : ∀ D σ H, t' D σ H → t D σ H) : PSs X e t' := ⟨fun pins s σ H D I q => h.run pins s σ H D I (k D σ H q)⟩

/-! ### a store into a list, a dict -/
theorem put_rep {K : PySem.W.Frag} {w : Wd} {k : Key} {x : D} {v : V} (rx : Rep K w x v) : ∀ {kvs : List (Key × D)} {kws : List (Key × V)}, kvs.map (·.1) = kws.map (·.1) → Reps K w (kvs.map (·.2)) (kws.map (·.2)) →
    (putD kvs k x).map (·.1) = (putK kws k v).map (·.1) ∧ Reps K w ((putD kvs k x).map (·.2)) ((putK kws k v).map (·.2)) := by
  intro kvs kws e r
  have ae : (kvs.any fun p => decide (p.1 = k)) = (kws.any fun p => decide (p.1 = k)) := by
    have h1 : (kvs.any fun p => decide (p.1 = k)) = (kvs.map (·.1)).any fun q => decide (q = k) := by rw [List.any_map]; rfl
    have h2 : (kws.any fun p => decide (p.1 = k)) = (kws.map (·.1)).any fun q => decide (q = k) := by rw [List.any_map]; rfl
    rw [h1, h2, e]
  have mp : ∀ {kvs : List (Key × D)} {kws : List (Key × V)}, kvs.map (·.1) = kws.map (·.1) → Reps K w (kvs.map (·.2)) (kws.map (·.2)) →
      (kvs.map fun p => if p.1 = k then (p.1, x) else p).map (·.1) = (kws.map fun p => if p.1 = k then (p.1, v) else p).map (·.1) ∧ Reps K w ((kvs.map fun p => if p.1 = k then (p.1, x) else p).map (·.2)) ((kws.map fun p => if p.1 = k then (p.1, v) else p).map (·.2)) := by
    intro kvs
    induction kvs with
    | nil =>
      intro kws e r
      cases kws with
      | nil => exact ⟨rfl, .nil⟩
      | cons => cases e
    | cons p kvs ih =>
      intro kws e r
      cases kws with
      | nil => cases e
      | cons q kws =>
        rw [List.map_cons, List.map_cons] at e
        injection e with e1 e2
        have r : Reps K w (p.2 :: kvs.map (·.2)) (q.2 :: kws.map (·.2)) := r
        cases r with
        | cons r1 r2 =>
          obtain ⟨i1, i2⟩ := ih e2 r2
          by_cases c : p.1 = k
          · have c' : q.1 = k := e1 ▸ c
            simp only [List.map_cons, if_pos c, if_pos c']
            exact ⟨by rw [i1, c, c'], .cons rx i2⟩
          · have c' : ¬ q.1 = k := fun z => c (e1.trans z)
            simp only [List.map_cons, if_neg c, if_neg c']
            exact ⟨by rw [i1, e1], .cons r1 i2⟩
  unfold putD putK
  rw [ae]
  by_cases c : (kws.any fun p => decide (p.1 = k)) = true
  · rw [if_pos c, if_pos c]
    exact mp e r
  · rw [if_neg c, if_neg c]
    rw [List.map_append, List.map_append, List.map_append, List.map_append, e]
    exact ⟨rfl, r.append (.one rx)⟩
def rSt (K : PySem.W.Frag) (mg : Str → Option Value) : TSet := fun o i v H Q => ∃ (w : Wd) (d e x : D) (E : XK), w.H = H ∧ Good K w ∧ Rep K w d o ∧ Rep K w e i ∧ Rep K w x v ∧ EvG K mg E (fun _ _ _ => True) (setItem d e x) w (fun (_ : Unit) H' => Q H')
theorem set_ok {X : Cx} (hu : X.A.units + 1 < cLine) : PSet X (rSt X.K X.mg) := by
  intro pins s σ H o i v ov iv u Q I ro ri rv ⟨w, d, e, x, E, hH, g, r1, r2, r3, q⟩
  subst hH
  cases r1 with
  | @loc a n h1 =>
    have q : EvR X.K X.mg E (fun _ _ _ => True) (match w.M[n]? with
      | some (.lst ds) => match e with
        | .int k => match ixN ds.length k with
          | some j => .ok () (w.M.set n (.lst (ds.set j x)))
          | none => .bad
        | _ => .bad
      | some (.dct kvs) => match keyD e with
        | some k => if kvs.length < sizeLine then .ok () (w.M.set n (.dct (putD kvs k x))) else .bad
        | none => .bad
      | _ => .bad) w (fun (_ : Unit) H' => Q H') := q
    cases qq : w.M[n]? with
    | none => rw [qq] at q; exact q.elim
    | some ob =>
      rw [qq] at q
      cases ob with
      | lst ds =>
        cases e with
        | int k =>
          cases r2
          obtain ⟨vs, g1, g2⟩ := g.lst qq h1
          cases hj : ixN ds.length k with
          | none => simp only [hj] at q; exact q.elim
          | some j =>
            simp only [hj] at q
            have xx := ext_chg (ob := .lst (ds.set j x)) (o := .lst (vs.set j v)) h1 qq rfl
            exact set_list pins s σ _ _ _ v ov iv u Q I ro ri rv ⟨a, vs, k, j, rfl, rfl, g1, by rw [← g2.length]; exact hj,
              q (w.chg n a (.lst (ds.set j x)) (.lst (vs.set j v))) () (good_chg g h1 qq rfl fun _ => .lst upd_same ((g2.set r3 j).mono g xx)) xx rfl trivial⟩
        | _ => exact q.elim
      | dct kvs =>
        cases hk : keyD e with
        | none => simp only [hk] at q; exact q.elim
        | some k =>
          simp only [hk] at q
          by_cases c : kvs.length < sizeLine
          · rw [if_pos c] at q
            obtain ⟨kws, g1, g2, g3⟩ := g.dct qq h1
            have lk : kws.length = kvs.length := by rw [← List.length_map (f := (·.1)) (as := kws), ← g2, List.length_map]
            obtain ⟨p1, p2⟩ := put_rep r3 (k := k) g2 g3
            have xx := ext_chg (ob := .dct (putD kvs k x)) (o := .dK (putK kws k v)) h1 qq rfl
            have ei : i = kV k := by
              cases e <;> first | (cases hk; done) | skip
              · cases r2; cases hk; rfl
              · cases r2; cases hk; rfl
            subst ei
            cases (show ov = Value.ref a from ro)
            refine d_setItem hu I (DPut.k (k := k) (v := v) g1 (by rw [lk]; exact c)) ri rv fun s' I' => ⟨_, I', ?_⟩
            exact q (w.chg n a (.dct (putD kvs k x)) (.dK (putK kws k v))) () (good_chg g h1 qq rfl fun _ => .dct upd_same p1 (p2.mono g xx)) xx rfl trivial
          · rw [if_neg c] at q
            exact q.elim
      | dead => exact q.elim
  | _ => exact q.elim

/-! ### statements -/
section
variable {T : Lp} {cl : Nat → List D → Mo D} {N : List Str} {k : Nat} {X : Cx} {W : WX} {own sc : Scope}
variable (T cl X W) in
noncomputable abbrev tX (s : St) : TS := tS X.K X.mg W (xs T cl s)
variable (T cl X W) in
noncomputable abbrev tXs (s : Sts) : TS := tS X.K X.mg W (xss T cl s)
theorem t_ex {e : Ex} {x : Expr} {pos : Pos} (ha : PE X x (tE T cl X W e)) (hs : swapsWith x none pos.line X.env = pure false) : PS X (.Expr x pos) (tX T cl X W (.ex e)) :=
  (ps_expr ha hs).impV fun Dn σ H ⟨w, ρ, hH, hg, hr, h⟩ => by
    subst hH
    exact tS.seq (m := ev T cl e) (F := fun _ M' => .ok .nx ρ M') hg hr h fun w1 a b g1 e1 r1 er q1 => q1.nx g1 er
theorem asg_read {t : Tg} {e : Ex} {Dn : Ends} {σ : L2.St} {H : Hp} (h : tX T cl X W (.asg t e) Dn σ H) : tE T cl X W e σ H fun x H1 => GP X.K (Tg.sl t) (bindT t) x σ H1 Dn.nx := by
  obtain ⟨w, ρ, hH, hg, hr, h⟩ := h
  subst hH
  refine tS.seq (m := ev T cl e) (F := fun d M' => match bindT t d ρ with
    | some ρ' => .ok .nx ρ' M'
    | none => .bad) hg hr h fun w1 a b g1 e1 r1 er q1 => ?_
  cases hb : bindT t a ρ with
  | none => simp only [hb] at q1; exact q1.elim
  | some ρ' =>
    simp only [hb] at q1
    exact ⟨w1, a, ρ, ρ', rfl, g1, er, r1, hb, fun σ' he' _ => q1.nx g1 he'⟩
/-- t = e -/
theorem t_asg {t : Tg} {e : Ex} {tg x : Expr} {pos : Pos} (ha : PE X x (tE T cl X W e)) (hg : PG X tg (GP X.K (Tg.sl t) (bindT t))) (hs : swapsWithSole [tg] x pos.line X.env = pure false) (hw : swappedStores [tg] x X.env = pure none) (hst : starB tg = false) :
    PS X (.Assign [tg] x pos) (tX T cl X W (.asg t e)) :=
  (ps_asg ha hg hs hw (by rw [asgE_ok hst]; rfl)).impV fun Dn σ H h => asg_read h
theorem t_name (g : CxG T cl N k X W own sc) {i : Nat} {y : Str} {e : Ex} {x : Expr} {py pos : Pos} (hi : N[i]? = some y) (hy : Loc own y) (ha : PE X x (tE T cl X W e)) (hs : swapsWith x (some (.Name y py)) pos.line X.env = pure false) :
    PS X (.Assign [.Name y py] x pos) (tX T cl X W (.asg (.nm i) e)) := by
  obtain ⟨h1, h2⟩ := g.store y hy
  refine (ps_set (by rw [g.names]; exact g.nodup) (by rw [g.names]; exact hi) (by rw [g.scope]; exact h1) ha hs (by rw [g.scope]; exact h2)).impV fun Dn σ H h => ?_
  obtain ⟨w, ρ, eH, gg, er, q⟩ := asg_read h
  exact ⟨w, ρ, eH, gg, er, EvG.mono q fun x H1 ⟨w1, d, ρ1, ρ2, e1, g1, he1, r1, b1, k1⟩ => by
    subst e1
    cases (show some (ρ1.set i (some d)) = some ρ2 from b1)
    exact k1 _ (he1.set i r1) ⟨List.length_set, fun j h => List.getElem?_set_ne fun z => h (by subst z; exact List.mem_singleton.mpr rfl)⟩⟩
/-- name = [..], the name a local -/
theorem t_lc (g : CxG T cl N k X W own sc) {i : Nat} {y : Str} {m : Bool} {ow : List Nat} {t : Tg} {it : It} {c : Ox} {e : Ex} {elt tg iter : Expr} {ifs : List Expr} {bs : Scope} {py lpos pos : Pos} (hi : N[i]? = some y) (hy : sc.names.lookup y = some .local)
    (hl : (py.line == lpos.line) = true) (hn : (bs.names.any fun (n, k) => n == y && (k == .local || k == .cell)) = false) (hs : ∀ i ∈ Tg.sl t, i ∈ ow) (bk : BlkOk N sc bs (ownP N ow)) (pit : PI X tg iter (tI T cl X W it))
    (pg : ∀ (s : Shared) (H : Hp) (C : Addr) (clo : List (Str × Addr)) (fp : List Addr), PG (X.blk s H bs (compEnvC bs clo C X.env) fp) tg (GP X.K (Tg.sl t) (bindT t)))
    (pt : ∀ (s : Shared) (H : Hp) (C : Addr) (clo : List (Str × Addr)) (fp : List Addr), PTs (X.blk s H bs (compEnvC bs clo C X.env) fp) ifs (tC' T cl X W0 c))
    (pe : ∀ (s : Shared) (H : Hp) (C : Addr) (clo : List (Str × Addr)) (fp : List Addr), PE (X.blk s H bs (compEnvC bs clo C X.env) fp) elt (tE T cl X W0 e)) (hf : setB iter = false) :
    PS X (.Assign [.Name y py] (.ListComp elt [⟨tg, iter, ifs, 0⟩] bs lpos) pos) (tX T cl X W (.asg (.nm i) (.comp m ow t it c e))) := by
  refine (ps_setLc (own := ownP N ow) g.calm (by rw [g.names]; exact g.nodup) (by rw [g.names]; exact hi) (by rw [g.scope]; exact hy) (sw_true (by rw [g.scope]; exact g.kind) (by rw [g.scope]; exact hy) hl hn) pit (by rw [g.names, g.scope]; exact bk) pg pt pe (fold_ok hf)).impV fun Dn σ H h => ?_
  rw [ownP_snd]
  refine lc_read (X := X) (m := m) hs ?_
  obtain ⟨w, ρ, eH, gg, er, q⟩ := asg_read h
  exact ⟨w, ρ, eH, gg, er, EvG.mono q fun x H1 ⟨w1, d, ρ1, ρ2, e1, g1, he1, r1, b1, k1⟩ => by
    subst e1
    cases (show some (ρ1.set i (some d)) = some ρ2 from b1)
    exact k1 _ (he1.set i r1) ⟨List.length_set, fun j h => List.getElem?_set_ne fun z => h (by subst z; exact List.mem_singleton.mpr rfl)⟩⟩
theorem t_lc2 (g : CxG T cl N k X W own sc) {i : Nat} {y : Str} {m : Bool} {ow ow1 : List Nat} {t t1 : Tg} {it it1 : It} {c : Ox} {e : Ex} {elt tg iter tg1 iter1 : Expr} {ifs1 : List Expr} {bs : Scope} {py lpos pos : Pos} (hi : N[i]? = some y) (hy : sc.names.lookup y = some .local)
    (hl : (py.line == lpos.line) = true) (hn : (bs.names.any fun (n, k) => n == y && (k == .local || k == .cell)) = false) (hs : ∀ i ∈ Tg.sl t, i ∈ ow) (hs1 : ∀ i ∈ Tg.sl t1, i ∈ ow1) (hs2 : ∀ i ∈ ow1, i ∈ ow) (bk : BlkOk N sc bs (ownP N ow)) (pit : PI X tg iter (tI T cl X W it))
    (pg : ∀ (s : Shared) (H : Hp) (C : Addr) (clo : List (Str × Addr)) (fp : List Addr), PG (X.blk s H bs (compEnvC bs clo C X.env) fp) tg (GP X.K (Tg.sl t) (bindT t)))
    (pt0 : ∀ (s : Shared) (H : Hp) (C : Addr) (clo : List (Str × Addr)) (fp : List Addr), PTs (X.blk s H bs (compEnvC bs clo C X.env) fp) [] (tC' T cl X W0 .non))
    (pit1 : ∀ (s : Shared) (H : Hp) (C : Addr) (clo : List (Str × Addr)) (fp : List Addr), PI (X.blk s H bs (compEnvC bs clo C X.env) fp) tg1 iter1 (tI T cl X W0 it1))
    (pg1 : ∀ (s : Shared) (H : Hp) (C : Addr) (clo : List (Str × Addr)) (fp : List Addr), PG (X.blk s H bs (compEnvC bs clo C X.env) fp) tg1 (GP X.K (Tg.sl t1) (bindT t1)))
    (pt : ∀ (s : Shared) (H : Hp) (C : Addr) (clo : List (Str × Addr)) (fp : List Addr), PTs (X.blk s H bs (compEnvC bs clo C X.env) fp) ifs1 (tC' T cl X W0 c))
    (pe : ∀ (s : Shared) (H : Hp) (C : Addr) (clo : List (Str × Addr)) (fp : List Addr), PE (X.blk s H bs (compEnvC bs clo C X.env) fp) elt (tE T cl X W0 e)) (hf : setB iter = false) (hf1 : setB iter1 = false) :
    PS X (.Assign [.Name y py] (.ListComp elt [⟨tg, iter, [], 0⟩, ⟨tg1, iter1, ifs1, 0⟩] bs lpos) pos) (tX T cl X W (.asg (.nm i) (.comp2 m ow ow1 t it t1 it1 c e))) := by
  refine (ps_setLc2 (own := ownP N ow) (vs1 := ow1) g.calm (by rw [g.names]; exact g.nodup) (by rw [g.names]; exact hi) (by rw [g.scope]; exact hy) (sw_true (by rw [g.scope]; exact g.kind) (by rw [g.scope]; exact hy) hl hn) pit (by rw [g.names, g.scope]; exact bk) (by rw [ownP_snd]; exact hs2) pg pt0 pit1 pg1 pt pe (fold_ok hf) (fun env x => fold_ok hf1 x)).impV fun Dn σ H h => ?_
  rw [ownP_snd]
  refine lc2_read (X := X) (m := m) hs hs1 ?_
  obtain ⟨w, ρ, eH, gg, er, q⟩ := asg_read h
  exact ⟨w, ρ, eH, gg, er, EvG.mono q fun x H1 ⟨w1, d, ρ1, ρ2, e1, g1, he1, r1, b1, k1⟩ => by
    subst e1
    cases (show some (ρ1.set i (some d)) = some ρ2 from b1)
    exact k1 _ (he1.set i r1) ⟨List.length_set, fun j h => List.getElem?_set_ne fun z => h (by subst z; exact List.mem_singleton.mpr rfl)⟩⟩
end
end Iv
end

section
set_option Elab.async false
set_option linter.all false
set_option maxHeartbeats 2000000
/-! IvStn: the other statements; loops. -/
namespace Iv
open PySem PySem.Spec PyProof.Rows L2
section
variable {T : Lp} {cl : Nat → List D → Mo D} {N : List Str} {k : Nat} {X : Cx} {W : WX} {own sc : Scope}
/-- a, b = x, y -/
theorem t_par (g : CxG T cl N k X W own sc) {i j : Nat} {x y : Str} {a b : Ex} {p q : Expr} {px py pt p2 pos : Pos} {kt k2 : Nat} (hi : N[i]? = some x) (hj : N[j]? = some y) (hij : i ≠ j) (hx : sc.names.lookup x = some .local) (hy : sc.names.lookup y = some .local)
    (ha : PE X p (tE T cl X W a)) (hb : PE X q (tE T cl X W b)) (sa : starB p = false) (sb : starB q = false) (hw : swappedStores [.Tuple [.Name x px, .Name y py] kt pt] (.Tuple [p, q] k2 p2) X.env = pure (some [x, y])) :
    PS X (.Assign [.Tuple [.Name x px, .Name y py] kt pt] (.Tuple [p, q] k2 p2) pos) (tX T cl X W (.par i j a b)) :=
  (ps_par g.calm (by rw [g.names]; exact g.nodup) (by rw [g.names]; exact hi) (by rw [g.names]; exact hj) hij (by rw [g.scope]; exact hx) (by rw [g.scope]; exact hy) (two_args sa sb ha hb) hw).impV fun Dn σ H ⟨w, ρ, hH, hg, hr, h⟩ => by
    subst hH
    exact tS.seq (m := evs T cl (.cons a (.cons b .nil))) (F := fun ds M' => match ds with
      | [x, y] => .ok .nx ((ρ.set i (some x)).set j (some y)) M'
      | _ => .bad) hg hr h fun w1 ds vs g1 e1 r1 er q1 => by
      match ds, r1, q1 with
      | [d1, d2], r1, q1 =>
        obtain ⟨v, u, rfl, r2, r3⟩ := two_inv r1
        have q1 : SrR X.K X.mg W Dn (.ok .nx ((ρ.set i (some d1)).set j (some d2)) w1.M) w1 := q1
        exact ⟨v, u, rfl, q1.nx g1 ((er.set i r2).set j r3)⟩
      | [], r1, q1 => exact q1.elim
      | [_], r1, q1 => exact q1.elim
      | _ :: _ :: _ :: _, r1, q1 => exact q1.elim
theorem three_inv {K : PySem.W.Frag} {w : Wd} {d e f : D} {vs : List V} (r : Reps K w [d, e, f] vs) : ∃ v u z, vs = [v, u, z] ∧ Rep K w d v ∧ Rep K w e u ∧ Rep K w f z := by
  cases r with
  | cons h t => cases t with
    | cons h2 t => cases t with
      | cons h3 t =>
        cases t
        exact ⟨_, _, _, rfl, h, h2, h3⟩
/-- a, b, c = x, y, z -/
theorem t_par3 (g : CxG T cl N k X W own sc) {i j l : Nat} {x y z : Str} {a b c : Ex} {p q r : Expr} {px py pz pt p2 pos : Pos} {kt k2 : Nat} (hi : N[i]? = some x) (hj : N[j]? = some y) (hl : N[l]? = some z) (hij : i ≠ j) (hil : i ≠ l) (hjl : j ≠ l)
    (hx : sc.names.lookup x = some .local) (hy : sc.names.lookup y = some .local) (hz : sc.names.lookup z = some .local)
    (ha : PE X p (tE T cl X W a)) (hb : PE X q (tE T cl X W b)) (hc : PE X r (tE T cl X W c)) (sa : starB p = false) (sb : starB q = false) (sr : starB r = false) (hw : swappedStores [.Tuple [.Name x px, .Name y py, .Name z pz] kt pt] (.Tuple [p, q, r] k2 p2) X.env = pure (some [x, y, z])) :
    PS X (.Assign [.Tuple [.Name x px, .Name y py, .Name z pz] kt pt] (.Tuple [p, q, r] k2 p2) pos) (tX T cl X W (.par3 i j l a b c)) :=
  (ps_par3 g.calm (by rw [g.names]; exact g.nodup) (by rw [g.names]; exact hi) (by rw [g.names]; exact hj) (by rw [g.names]; exact hl) hij hil hjl (by rw [g.scope]; exact hx) (by rw [g.scope]; exact hy) (by rw [g.scope]; exact hz) (s_cons ha (two_args sb sr hb hc) (star_ok sa)) hw).impV fun Dn σ H ⟨w, ρ, hH, hg, hr, h⟩ => by
    subst hH
    exact tS.seq (m := evs T cl (.cons a (.cons b (.cons c .nil)))) (F := fun ds M' => match ds with
      | [x, y, z] => .ok .nx (((ρ.set i (some x)).set j (some y)).set l (some z)) M'
      | _ => .bad) hg hr h fun w1 ds vs g1 e1 r1 er q1 => by
      match ds, r1, q1 with
      | [d1, d2, d3], r1, q1 =>
        obtain ⟨v, u, z, rfl, r2, r3, r4⟩ := three_inv r1
        have q1 : SrR X.K X.mg W Dn (.ok .nx (((ρ.set i (some d1)).set j (some d2)).set l (some d3)) w1.M) w1 := q1
        exact ⟨v, u, z, rfl, q1.nx g1 (((er.set i r2).set j r3).set l r4)⟩
      | [], r1, q1 => exact q1.elim
      | [_], r1, q1 => exact q1.elim
      | [_, _], r1, q1 => exact q1.elim
      | _ :: _ :: _ :: _ :: _, r1, q1 => exact q1.elim
theorem t_ret {e : Ex} {x : Expr} {pos : Pos} (ha : PE X x (tE T cl X W e)) : PS X (.Return (some x) pos) (tX T cl X W (.ret e)) :=
  (ps_ret ha).impV fun Dn σ H ⟨w, ρ, hH, hg, hr, h⟩ => by
    subst hH
    exact tS.seq (m := ev T cl e) (F := fun d M' => .ok (.rt d) ρ M') hg hr h fun w1 d v g1 e1 r1 er q1 => q1 w1 σ g1 (Ext.refl w1) rfl er v r1
theorem t_retN {pos : Pos} : PS X (.Return none pos) (tX T cl X W .retN) :=
  ps_retN.impV fun Dn σ H ⟨w, ρ, hH, hg, hr, h⟩ => by
    subst hH
    exact h w σ hg (Ext.refl w) rfl hr .non .non
theorem t_pas {pos : Pos} : PS X (.Pass pos) (tX T cl X W .pas) :=
  ps_pass.impV fun Dn σ H ⟨w, ρ, hH, hg, hr, h⟩ => by
    subst hH
    exact h w σ hg (Ext.refl w) rfl hr
theorem t_doc {x j pos pos'} : PS X (.Expr (.Constant (.str x) j pos) pos') (tX T cl X W .pas) :=
  ps_doc.impV fun Dn σ H ⟨w, ρ, hH, hg, hr, h⟩ => by
    subst hH
    exact h w σ hg (Ext.refl w) rfl hr
theorem t_brk {pos : Pos} : PS X (.Break pos) (tX T cl X W .brk) :=
  ps_break.impV fun Dn σ H ⟨w, ρ, hH, hg, hr, h⟩ => by
    subst hH
    exact h w σ hg (Ext.refl w) rfl hr
theorem t_cnt {pos : Pos} : PS X (.Continue pos) (tX T cl X W .cnt) :=
  ps_continue.impV fun Dn σ H ⟨w, ρ, hH, hg, hr, h⟩ => by
    subst hH
    exact h w σ hg (Ext.refl w) rfl hr
theorem t_nev {s : Stmt} : PS X s (tX T cl X W .nev) := ps_never.impV fun Dn σ H ⟨w, ρ, hH, hg, hr, h⟩ => h
theorem t_iff {c : Ex} {a b : Sts} {x : Expr} {p q : List Stmt} {pos : Pos} (hc : PT X x (tT T cl X W c)) (ha : PSs X p (tXs T cl X W a)) (hb : PSs X q (tXs T cl X W b)) : PS X (.If x p q pos) (tX T cl X W (.iff c a b)) :=
  (ps_if hc ha hb).impV fun Dn σ H ⟨w, ρ, hH, hg, hr, h⟩ => by
    subst hH
    exact tS.seq (m := evt T cl c) (F := fun k M' => if k then xss T cl a ρ M' else xss T cl b ρ M') hg hr h fun w1 d v g1 e1 r1 er q1 => by
      cases (show d = v from r1)
      cases d with
      | true => exact ⟨w1, ρ, rfl, g1, er, q1⟩
      | false => exact ⟨w1, ρ, rfl, g1, er, q1⟩
theorem ts_nil : PSs X [] (tXs T cl X W .nil) := pss_nil.impV fun Dn σ H ⟨w, ρ, hH, hg, hr, h⟩ => by
  subst hH
  exact h w σ hg (Ext.refl w) rfl hr
theorem ts_cons {s : St} {ss : Sts} {x : Stmt} {xs : List Stmt} (h1 : PS X x (tX T cl X W s)) (h2 : PSs X xs (tXs T cl X W ss)) : PSs X (x :: xs) (tXs T cl X W (.cons s ss)) :=
  (pss_cons h1 h2).impV fun Dn σ H ⟨w, ρ, hH, hg, hr, h⟩ => by
    subst hH
    refine ⟨w, ρ, rfl, hg, hr, ?_⟩
    have h : SrR X.K X.mg W Dn (.sq (Iv.xs T cl s ρ w.M) (xss T cl ss)) w := h
    cases q : Iv.xs T cl s ρ w.M with
    | bad => rw [q] at h; exact h
    | exc c p ρ' M' => rw [q] at h; exact h
    | ok f ρ' M' =>
      rw [q] at h
      cases f with
      | nx =>
        have h : SrR X.K X.mg W Dn (xss T cl ss ρ' M') w := h
        intro w' σ' g' e' hM r'
        exact ⟨w', ρ', rfl, g', r', by rw [hM]; exact h.ext e'⟩
      | rt d => exact h
      | bk => exact h
      | ct => exact h
theorem t_aug (g : CxG T cl N k X W own sc) {i : Nat} {o : Bop} {y : Str} {e : Ex} {x : Expr} {py pos : Pos} (ho : o = .add ∨ o = .sub) (hi : N[i]? = some y) (hy : Loc own y) (ha : PE X x (tE T cl X W e)) : PS X (.AugAssign (.Name y py) o.op x pos) (tX T cl X W (.aug i o e)) := by
  obtain ⟨h1, h2⟩ := g.store y hy
  have ip : PIp X o.op (fun x y H Q => ∃ (w : Wd) (d e z : D), w.H = H ∧ Rep X.K w d x ∧ Rep X.K w e y ∧ augD o d e = some z ∧ ∀ v, Rep X.K w z v → Q v H) := by
    intro pins s σ H x y v u Q I r1 r2 ⟨w, d, e, z, hH, rd, re, hz, q⟩
    subst hH
    rcases ho with e1 | e1
    · subst e1
      cases d <;> cases e <;> first | (cases hz; done) | skip
      cases rd; cases re; cases hz
      exact ip_add pins s σ _ _ _ v u Q I r1 r2 ⟨_, _, rfl, rfl, q _ (.int _)⟩
    · subst e1
      cases d <;> cases e <;> first | (cases hz; done) | skip
      cases rd; cases re; cases hz
      exact ip_sub pins s σ _ _ _ v u Q I r1 r2 ⟨_, _, rfl, rfl, q _ (.int _)⟩
  refine (ps_aug (by rw [g.names]; exact g.nodup) (by rw [g.names]; exact hi) (by rw [g.scope]; exact h1) ha ip (by rw [g.scope]; exact h2)).impV fun Dn σ H ⟨w, ρ, hH, hg, hr, h⟩ => ?_
  subst hH
  have h : SrR X.K X.mg W Dn (match ρ[i]?.join with
    | some x => .bd ρ (ev T cl e ρ w.M) fun y M' => match augD o x y with
      | some z => .ok .nx (ρ.set i (some z)) M'
      | none => .bad
    | none => .bad) w := h
  cases hj : ρ[i]?.join with
  | none => rw [hj] at h; exact h.elim
  | some d =>
    rw [hj] at h
    have e1 : ρ[i]? = some (some d) := by
      cases z : ρ[i]? with
      | none => rw [z] at hj; cases hj
      | some o => rw [z] at hj; exact congrArg some hj
    obtain ⟨v, v1, v2⟩ := hr.get i d e1
    refine ⟨v, v1, tS.seq (m := ev T cl e) (F := fun y M' => match augD o d y with
      | some z => .ok .nx (ρ.set i (some z)) M'
      | none => .bad) hg hr h fun w1 y u g1 x1 r1 er q1 => ?_⟩
    cases hz : augD o d y with
    | none => simp only [hz] at q1; exact q1.elim
    | some z =>
      simp only [hz] at q1
      exact ⟨w1, d, y, z, rfl, v2.mono hg x1, r1, hz, fun vz rz => q1.nx g1 (er.set i rz)⟩
theorem asg_ok {p q : Expr} {tpos : Pos} {env : PySem.Env} (h : sliceB q = false) (v : Value) : assign (.Subscript p q tpos) env v = (do
      let a ← holding [v] (eval p env)
      let b ← holding [v, a] (eval q env)
      standAt tpos
      holding [v, a, b] (PySem.setItem a b v)
      release [v, a, b] []) := by
  cases q <;> first | rfl | cases h
/-- o[i] = e -/
theorem t_sub (g : CxG T cl N k X W own sc) {o i e : Ex} {p q x : Expr} {tpos pos : Pos} (ho : PE X p (tE T cl X W o)) (hi : PE X q (tE T cl X W i)) (ha : PE X x (tE T cl X W e)) (nq : sliceB q = false) (hs : swapsWithSole [.Subscript p q tpos] x pos.line X.env = pure false) :
    PS X (.Assign [.Subscript p q tpos] x pos) (tX T cl X W (.sub o i e)) :=
  (ps_asg ha (pg_sub ho hi (set_ok (by have := g.room.un; omega)) (asg_ok nq)) hs rfl rfl).impV fun Dn σ H ⟨w, ρ, hH, hg, hr, h⟩ => by
    subst hH
    exact tS.seq (m := ev T cl e) (F := fun v M1 => .bd ρ (ev T cl o ρ M1) fun x M2 => .bd ρ (ev T cl i ρ M2) fun y M3 => .bd ρ (setItem x y v M3) fun _ M4 => .ok .nx ρ M4) hg hr h fun w1 d v g1 x1 r1 er q1 =>
      tS.seq (m := ev T cl o) (F := fun x M2 => .bd ρ (ev T cl i ρ M2) fun y M3 => .bd ρ (setItem x y d M3) fun _ M4 => .ok .nx ρ M4) g1 er q1 fun w2 d2 v2 g2 x2 r2 er2 q2 =>
        tS.seq (m := ev T cl i) (F := fun y M3 => .bd ρ (setItem d2 y d M3) fun _ M4 => .ok .nx ρ M4) g2 er2 q2 fun w3 d3 v3 g3 x3 r3 er3 q3 =>
          ⟨w3, d2, d3, d, _, rfl, g3, r2.mono g2 x3, r3, (r1.mono g1 x2).mono g2 x3, SrR.ex g3 er3 q3 fun w4 _ _ g4 x4 _ er4 q4 => q4.nx g4 er4⟩
/-- o[i], p[j] = e -/
theorem t_sub2 (g : CxG T cl N k X W own sc) {o i o2 i2 e : Ex} {p q p2 q2 x : Expr} {tp tp2 tt pos : Pos} {kt : Nat} (ho : PE X p (tE T cl X W o)) (hi : PE X q (tE T cl X W i)) (ho2 : PE X p2 (tE T cl X W o2)) (hi2 : PE X q2 (tE T cl X W i2)) (ha : PE X x (tE T cl X W e)) (nq : sliceB q = false) (nq2 : sliceB q2 = false)
    (hs : swapsWithSole [.Tuple [.Subscript p q tp, .Subscript p2 q2 tp2] kt tt] x pos.line X.env = pure false) (hw : swappedStores [.Tuple [.Subscript p q tp, .Subscript p2 q2 tp2] kt tt] x X.env = pure none) :
    PS X (.Assign [.Tuple [.Subscript p q tp, .Subscript p2 q2 tp2] kt tt] x pos) (tX T cl X W (.sub2 o i o2 i2 e)) :=
  (ps_asg ha (pg_tup g.calm (pgs_cons (pg_sub ho hi (set_ok (by have := g.room.un; omega)) (asg_ok nq)) (pgs_cons (pg_sub ho2 hi2 (set_ok (by have := g.room.un; omega)) (asg_ok nq2)) pgs_nil)) (n := 2)) hs hw rfl).impV fun Dn σ H ⟨w, ρ, hH, hg, hr, h⟩ => by
    subst hH
    refine tS.seq (m := ev T cl e) (F := fun z M0 => match z with
      | .tup [v, w] => .bd ρ (ev T cl o ρ M0) fun x M1 => .bd ρ (ev T cl i ρ M1) fun y M2 => .bd ρ (setItem x y v M2) fun _ M3 => .bd ρ (ev T cl o2 ρ M3) fun x' M4 => .bd ρ (ev T cl i2 ρ M4) fun y' M5 => .bd ρ (setItem x' y' w M5) fun _ M6 => .ok .nx ρ M6
      | _ => .bad) hg hr h fun w1 d v g1 x1 r1 er q1 => ?_
    cases d with
    | tup ds =>
      match ds, r1, q1 with
      | [d1, d2], r1, q1 =>
        obtain ⟨a, vs, rfl, sq, rr⟩ := r1.tup_inv
        obtain ⟨v1, v2, rfl, ra, rb⟩ := two_inv rr
        refine ⟨a, [v1, v2], rfl, sq, rfl, v1, [v2], rfl, ?_⟩
        exact tS.seq (m := ev T cl o) (F := fun x M1 => .bd ρ (ev T cl i ρ M1) fun y M2 => .bd ρ (setItem x y d1 M2) fun _ M3 => .bd ρ (ev T cl o2 ρ M3) fun x' M4 => .bd ρ (ev T cl i2 ρ M4) fun y' M5 => .bd ρ (setItem x' y' d2 M5) fun _ M6 => .ok .nx ρ M6) g1 er q1 fun w2 e2 u2 g2 x2 r2 er2 q2 =>
          tS.seq (m := ev T cl i) (F := fun y M2 => .bd ρ (setItem e2 y d1 M2) fun _ M3 => .bd ρ (ev T cl o2 ρ M3) fun x' M4 => .bd ρ (ev T cl i2 ρ M4) fun y' M5 => .bd ρ (setItem x' y' d2 M5) fun _ M6 => .ok .nx ρ M6) g2 er2 q2 fun w3 e3 u3 g3 x3 r3 er3 q3 =>
            ⟨w3, e2, e3, d1, _, rfl, g3, r2.mono g2 x3, r3, (ra.mono g1 x2).mono g2 x3, SrR.ex g3 er3 q3 fun w4 _ _ g4 x4 _ er4 q4 => ⟨v2, [], rfl,
              tS.seq (m := ev T cl o2) (F := fun x' M4 => .bd ρ (ev T cl i2 ρ M4) fun y' M5 => .bd ρ (setItem x' y' d2 M5) fun _ M6 => .ok .nx ρ M6) g4 er4 q4 fun w5 e5 u5 g5 x5 r5 er5 q5 =>
                tS.seq (m := ev T cl i2) (F := fun y' M5 => .bd ρ (setItem e5 y' d2 M5) fun _ M6 => .ok .nx ρ M6) g5 er5 q5 fun w6 e6 u6 g6 x6 r6 er6 q6 =>
                  ⟨w6, e5, e6, d2, _, rfl, g6, r5.mono g5 x6, r6, ((((rb.mono g1 x2).mono g2 x3).mono g3 x4).mono g4 x5).mono g5 x6, SrR.ex g6 er6 q6 fun w7 _ _ g7 x7 _ er7 q7 => ⟨rfl, q7.nx g7 er7⟩⟩⟩⟩
      | [], r1, q1 => exact q1.elim
      | [_], r1, q1 => exact q1.elim
      | _ :: _ :: _ :: _, r1, q1 => exact q1.elim
    | _ => exact q1.elim

/-! ### loops -/
theorem whileN_det {c : Env → Mo Bool} {b : Env → Sto → SR} : ∀ {n m : Nat} {ρ : Env} {M : Sto} {r r' : SR}, whileN c b n ρ M = some r → whileN c b m ρ M = some r' → r = r'
  | 0, _, _, _, _, _, h, _ => by cases h
  | _ + 1, 0, _, _, _, _, _, h => by cases h
  | n + 1, m + 1, ρ, M, r, r', h, h' => by
    rw [whileN] at h h'
    cases q : c ρ M with
    | bad => simp only [q] at h h'; cases h; cases h'; rfl
    | exc x p M1 => simp only [q] at h h'; cases h; cases h'; rfl
    | ok k M1 =>
      cases k with
      | false => simp only [q] at h h'; cases h; cases h'; rfl
      | true =>
        simp only [q] at h h'
        cases q2 : b ρ M1 with
        | bad => simp only [q2] at h h'; cases h; cases h'; rfl
        | exc x p ρ' M1 => simp only [q2] at h h'; cases h; cases h'; rfl
        | ok f ρ' M' =>
          cases f with
          | nx => simp only [q2] at h h'; exact whileN_det h h'
          | ct => simp only [q2] at h h'; exact whileN_det h h'
          | bk => simp only [q2] at h h'; cases h; cases h'; rfl
          | rt d => simp only [q2] at h h'; cases h; cases h'; rfl
theorem whileC_eq {c : Env → Mo Bool} {b : Env → Sto → SR} {n : Nat} {ρ : Env} {M : Sto} {r : SR} (h : whileN c b n ρ M = some r) : whileC c b ρ M = r := by
  have hx : ∃ n r, whileN c b n ρ M = some r := ⟨n, r, h⟩
  unfold whileC
  rw [dif_pos hx]
  exact whileN_det hx.choose_spec.choose_spec h
theorem whileC_some {c : Env → Mo Bool} {b : Env → Sto → SR} {ρ : Env} {M : Sto} (h : whileC c b ρ M ≠ .bad) : ∃ n, whileN c b n ρ M = some (whileC c b ρ M) := by
  by_cases hx : ∃ n r, whileN c b n ρ M = some r
  · obtain ⟨n, r, e⟩ := hx
    exact ⟨n, by rw [whileC_eq e]; exact e⟩
  · unfold whileC at h
    rw [dif_neg hx] at h
    exact absurd rfl h
theorem t_whl (hp : PassesOwn (model X.prog X.w) X.A X.env X.xe) {c : Ex} {b : Sts} {x : Expr} {body : List Stmt} {pos : Pos} (hc : PT X x (tT T cl X W c)) (hb : PSs X body (tXs T cl X W b)) : PS X (.While x body [] pos) (tX T cl X W (.whl c b)) :=
  (ps_while hp hc hb).impV fun Dn σ H ⟨w, ρ, hH, hg, hr, h⟩ => by
    subst hH
    have h : SrR X.K X.mg W Dn (whileC (evt T cl c) (xss T cl b) ρ w.M) w := h
    have nb : whileC (evt T cl c) (xss T cl b) ρ w.M ≠ .bad := fun e => by rw [e] at h; exact h
    obtain ⟨n, hn⟩ := whileC_some nb
    refine ⟨fun m σ H => ∃ (w : Wd) (ρ : Env) (r : SR), w.H = H ∧ Good X.K w ∧ EnvR X.K w ρ σ ∧ whileN (evt T cl c) (xss T cl b) m ρ w.M = some r ∧ SrR X.K X.mg W Dn r w, ⟨n, w, ρ, _, rfl, hg, hr, hn, h⟩, ?_⟩
    rintro m σ2 H2 ⟨w2, ρ2, r, hH, g2, er, hm, hq⟩
    subst hH
    cases m with
    | zero => cases hm
    | succ m =>
      rw [whileN] at hm
      have hb2 : SrR X.K X.mg W Dn (.bd ρ2 (evt T cl c ρ2 w2.M) fun k M1 => if k then (match xss T cl b ρ2 M1 with
          | .ok .nx ρ3 M2 => (whileN (evt T cl c) (xss T cl b) m ρ3 M2).getD .bad
          | .ok .ct ρ3 M2 => (whileN (evt T cl c) (xss T cl b) m ρ3 M2).getD .bad
          | .ok .bk ρ3 M2 => .ok .nx ρ3 M2
          | r => r) else .ok .nx ρ2 M1) w2 := by
        cases q : evt T cl c ρ2 w2.M with
        | bad => simp only [q] at hm; cases hm; exact hq
        | exc x p M1 => simp only [q] at hm; cases hm; exact hq
        | ok k M1 =>
          cases k with
          | false => simp only [q] at hm; cases hm; exact hq
          | true =>
            simp only [q] at hm
            show SrR X.K X.mg W Dn (match xss T cl b ρ2 M1 with
              | .ok .nx ρ3 M2 => (whileN (evt T cl c) (xss T cl b) m ρ3 M2).getD .bad
              | .ok .ct ρ3 M2 => (whileN (evt T cl c) (xss T cl b) m ρ3 M2).getD .bad
              | .ok .bk ρ3 M2 => .ok .nx ρ3 M2
              | r => r) w2
            cases q2 : xss T cl b ρ2 M1 with
            | bad => simp only [q2] at hm; cases hm; exact hq
            | exc x p ρ' M1 => simp only [q2] at hm; cases hm; exact hq
            | ok f ρ' M' =>
              cases f with
              | nx => simp only [q2] at hm; simp only [hm]; exact hq
              | ct => simp only [q2] at hm; simp only [hm]; exact hq
              | bk => simp only [q2] at hm; cases hm; exact hq
              | rt d => simp only [q2] at hm; cases hm; exact hq
      refine tS.seq (m := evt T cl c) g2 er hb2 fun w3 k k' g3 x3 r3 er3 q3 => ?_
      cases (show k = k' from r3)
      cases k with
      | false =>
        rw [if_neg Bool.false_ne_true]
        exact SrR.nx q3 g3 er3
      | true =>
        rw [if_pos rfl]
        refine ⟨fun σ' H' => ∃ (w : Wd) (ρ : Env) (r : SR), w.H = H' ∧ Good X.K w ∧ EnvR X.K w ρ σ' ∧ whileN (evt T cl c) (xss T cl b) m ρ w.M = some r ∧ SrR X.K X.mg W Dn r w, fun σ' H' z => ⟨m, Nat.lt_succ_self m, z⟩, w3, ρ2, rfl, g3, er3, ?_⟩
        have q3 : SrR X.K X.mg W Dn (match xss T cl b ρ2 w3.M with
          | .ok .nx ρ3 M2 => (whileN (evt T cl c) (xss T cl b) m ρ3 M2).getD .bad
          | .ok .ct ρ3 M2 => (whileN (evt T cl c) (xss T cl b) m ρ3 M2).getD .bad
          | .ok .bk ρ3 M2 => .ok .nx ρ3 M2
          | r => r) w3 := q3
        have go : ∀ {ρ' : Env} {M' : Sto}, SrR X.K X.mg W Dn ((whileN (evt T cl c) (xss T cl b) m ρ' M').getD .bad) w3 → ∀ (w' : Wd) (σ' : L2.St), Good X.K w' → Ext w3 w' → w'.M = M' → EnvR X.K w' ρ' σ' →
            ∃ (w : Wd) (ρ : Env) (r : SR), w.H = w'.H ∧ Good X.K w ∧ EnvR X.K w ρ σ' ∧ whileN (evt T cl c) (xss T cl b) m ρ w.M = some r ∧ SrR X.K X.mg W Dn r w := fun {ρ' M'} q w' σ' g' e' hM r' => by
          cases hw : whileN (evt T cl c) (xss T cl b) m ρ' M' with
          | none => rw [hw] at q; exact q.elim
          | some r =>
            rw [hw] at q
            exact ⟨w', ρ', r, rfl, g', r', by rw [hM]; exact hw, SrR.ext (r := r) q e'⟩
        cases q4 : xss T cl b ρ2 w3.M with
        | bad => simp only [q4] at q3; exact q3
        | exc x p ρ' M1 => simp only [q4] at q3; exact q3
        | ok f ρ' M' =>
          cases f with
          | nx => simp only [q4] at q3; exact go q3
          | ct => simp only [q4] at q3; exact go q3
          | bk => simp only [q4] at q3; exact q3
          | rt d => simp only [q4] at q3; exact q3
open Classical in
theorem t_fr (g : CxG T cl N k X W own sc) (hp : PassesOwn (model X.prog X.w) X.A X.env X.xe) {t : Tg} {it : It} {b : Sts} {tg iter : Expr} {body : List Stmt} {pos : Pos} (hi : PI X tg iter (tI T cl X W it)) (hg : PG X tg (GP X.K (Tg.sl t) (bindT t))) (hb : PSs X body (tXs T cl X W b)) (hf : setB iter = false) :
    PS X (.For tg iter body [] pos) (tX T cl X W (.fr t it b)) :=
  (ps_for hp g.calm hi hg hb (fold_ok hf)).impV fun Dn σ H ⟨w, ρ, hH, hgd, hr, h⟩ => by
    subst hH
    refine tS.seq (m := evi T cl it) (F := fun kk M' => forL kk t (xss T cl b) kk.items ρ M') hgd hr h fun w1 kk J g1 x1 r1 er q1 => ?_
    refine ⟨fun i m σ H => m = kk.items.length - i ∧ i ≤ kk.items.length ∧ ∃ (wi : Wd) (ρi : Env), wi.H = H ∧ Good X.K wi ∧ Ext w1 wi ∧ kk.same wi.M ∧ EnvR X.K wi ρi σ ∧ SrR X.K X.mg W Dn (forL kk t (xss T cl b) (kk.items.drop i) ρi wi.M) wi,
      ⟨_, rfl, Nat.zero_le _, w1, ρ, rfl, g1, Ext.refl w1, r1.start, er, by rw [List.drop_zero]; exact q1⟩, ?_⟩
    rintro i m σ2 H2 ⟨rfl, hi2, wi, ρi, eH, gi, xi, same, eri, hq⟩
    subst eH
    have up : Up X.K w1 wi := Up.of g1 gi xi
    by_cases hlt : i < kk.items.length
    · right
      refine ⟨r1.goes i wi up same hlt, fun σ' H' => ∃ (w : Wd) (ρ' : Env), w.H = H' ∧ Good X.K w ∧ Ext w1 w ∧ kk.same w.M ∧ EnvR X.K w ρ' σ' ∧ SrR X.K X.mg W Dn (forL kk t (xss T cl b) (kk.items.drop (i + 1)) ρ' w.M) w, fun σ' H' p' => ⟨_, by omega, rfl, hlt, p'⟩, fun x H' y => ?_⟩
      obtain ⟨w', d, eH, g', x', eM, hd, rd⟩ := r1.yields i wi x H' up same hlt y
      subst eH
      have hdrop : kk.items.drop i = d :: kk.items.drop (i + 1) := by
        obtain ⟨hl, e⟩ := List.getElem?_eq_some_iff.mp hd
        rw [List.drop_eq_getElem_cons hl, e]
      rw [hdrop, forL] at hq
      cases hbt : bindT t d ρi with
      | none => simp only [hbt] at hq; exact hq.elim
      | some ρ1 =>
        simp only [hbt] at hq
        refine ⟨w', d, ρi, ρ1, rfl, g', eri.mono gi x', rd, hbt, fun σ3 he3 frm => ⟨w', ρ1, rfl, g', he3, ?_⟩⟩
        rw [eM]
        have go : ∀ {ρ2 : Env} {M2 : Sto}, SrR X.K X.mg W Dn (if kk.same M2 then forL kk t (xss T cl b) (kk.items.drop (i + 1)) ρ2 M2 else .bad) wi → ∀ (w2 : Wd) (σ' : L2.St), Good X.K w2 → Ext w' w2 → w2.M = M2 → EnvR X.K w2 ρ2 σ' →
            ∃ (w : Wd) (ρ' : Env), w.H = w2.H ∧ Good X.K w ∧ Ext w1 w ∧ kk.same w.M ∧ EnvR X.K w ρ' σ' ∧ SrR X.K X.mg W Dn (forL kk t (xss T cl b) (kk.items.drop (i + 1)) ρ' w.M) w := fun {ρ2 M2} q w2 σ' g2 e2 hM r2 => by
          by_cases s : kk.same M2
          · rw [if_pos s] at q
            exact ⟨w2, ρ2, rfl, g2, (xi.trans x').trans e2, by rw [hM]; exact s, r2, by rw [hM]; exact q.ext (x'.trans e2)⟩
          · rw [if_neg s] at q
            exact q.elim
        cases q4 : xss T cl b ρ1 wi.M with
        | bad => simp only [q4] at hq; exact hq
        | exc x p ρ' M1 => simp only [q4] at hq; exact SrR.ext (r := .exc x p ρ' M1) hq x'
        | ok f ρ' M' =>
          cases f with
          | nx => simp only [q4] at hq; exact go hq
          | ct => simp only [q4] at hq; exact go hq
          | bk =>
            simp only [q4] at hq
            exact fun w2 σ' g2 e2 hM r2 => hq w2 σ' g2 (x'.trans e2) hM r2
          | rt d =>
            simp only [q4] at hq
            exact fun w2 σ' g2 e2 hM r2 => hq w2 σ' g2 (x'.trans e2) hM r2
    · have ei : i = kk.items.length := by omega
      subst ei
      left
      refine ⟨r1.stops wi up same, ?_⟩
      rw [List.drop_length, forL] at hq
      exact SrR.nx hq gi eri
end
end Iv
end

section
set_option Elab.async false
set_option linter.all false
set_option maxHeartbeats 4000000
/-! IvStc: what is checked is so: statements. -/
namespace Iv
open PySem PySem.Spec PyProof.Rows L2
def cmpB : Expr → Bool
  | .ListComp _ _ _ _ => true
  | .SetComp _ _ _ _ => true
  | .DictComp _ _ _ _ _ => true
  | _ => false
theorem swN_ok {x : Expr} {l : Nat} {env : PySem.Env} {t : Option Expr} (h : cmpB x = false) : swapsWith x t l env = pure false := by
  cases x <;> first | rfl | cases h
def nameB : Expr → Bool
  | .Name _ _ => true
  | _ => false
theorem swT_ok {x tg : Expr} {l : Nat} {env : PySem.Env} (h : nameB tg = false) : swapsWithSole [tg] x l env = pure false := by
  show swapsWith x (some tg) l env = pure false
  cases x <;> first | rfl | (cases tg <;> first | rfl | cases h)
/-- a comprehension stored in a name that is no plain local -/
theorem swC_ok {elt : Expr} {gs : List Comprehension} {bs : Scope} {p py : Pos} {y : Str} {l : Nat} {env : PySem.Env} (h : env.scope.names.lookup y ≠ some .local) : swapsWith (.ListComp elt gs bs p) (some (.Name y py)) l env = pure false := by
  have e : (env.kindOf y == some NameKind.local) = false := by
    have : env.kindOf y ≠ some .local := h
    simpa using this
  unfold swapsWith
  simp only [e, Bool.and_false, Bool.false_and]
def swV (sc : Scope) (ts : List Expr) : Expr → Bool
  | .Tuple vs _ _ => nosw sc ts vs
  | _ => true
theorem swV_ok {sc : Scope} {ts : List Expr} {x : Expr} {k : Nat} {p : Pos} {env : PySem.Env} (hs : env.scope = sc) (h : swV sc ts x = true) : swappedStores [.Tuple ts k p] x env = pure none := by
  cases x <;> first | rfl | skip
  exact nosw_ok hs h
def isFrz : Ex → Bool
  | .frz _ => true
  | _ => false
mutual
def chkS (T : Lp) (N : List Str) : St → Scope → Stmt → Bool
  | .ex e => fun sc x => match x with
    | .Expr v _ => !cmpB v && chkB T N e sc (un1 v)
    | _ => false
  | .asg t e => fun sc x => match x with
    | .Assign [tg] v _ => chkTg N t sc tg && (match tg with
      | .Name y py => chkB T N e sc (un1 v) && (match v with
        | .ListComp _ _ bs lp => if sc.names.lookup y = some .local then !isFrz e && (py.line == lp.line) && !(bs.names.any fun (n, k) => n == y && (k == .local || k == .cell)) else true
        | v => !cmpB v)
      | .Tuple ts _ _ => chkB T N e sc (un1 v) && swV sc ts v
      | _ => false)
    | _ => false
  | .par i j a b => fun sc x => match x with
    | .Assign [.Tuple [.Name x px, .Name y py] _ _] (.Tuple [p, q] _ _) _ => decide (N[i]? = some x) && decide (N[j]? = some y) && decide (i ≠ j) && decide (x ≠ y) && decide (sc.names.lookup x = some .local) && decide (sc.names.lookup y = some .local) && decide (py.line = px.line) &&
        !starB p && !starB q && !(foldedForSure 8 p && foldedForSure 8 q) && !(constantsAlone 8 p && constantsAlone 8 q) && chkB T N a sc (un1 p) && chkB T N b sc (un1 q)
    | _ => false
  | .par3 i j l a b c => fun sc x => match x with
    | .Assign [.Tuple [.Name x px, .Name y py, .Name z pz] _ _] (.Tuple [p, q, r] _ _) _ => decide (N[i]? = some x) && decide (N[j]? = some y) && decide (N[l]? = some z) && decide (i ≠ j ∧ i ≠ l ∧ j ≠ l) && decide (x ≠ y ∧ x ≠ z ∧ y ≠ z) &&
        decide (sc.names.lookup x = some .local ∧ sc.names.lookup y = some .local ∧ sc.names.lookup z = some .local) && decide (py.line = px.line ∧ pz.line = px.line) &&
        !starB p && !starB q && !starB r && !(foldedForSure 8 p && foldedForSure 8 q && foldedForSure 8 r) && !(constantsAlone 8 p && constantsAlone 8 q && constantsAlone 8 r) && chkB T N a sc (un1 p) && chkB T N b sc (un1 q) && chkB T N c sc (un1 r)
    | _ => false
  | .sub o i e => fun sc x => match x with
    | .Assign [.Subscript p q _] v _ => !sliceB q && chkB T N o sc (un1 p) && chkB T N i sc (un1 q) && chkB T N e sc (un1 v)
    | _ => false
  | .sub2 o i o2 i2 e => fun sc x => match x with
    | .Assign [.Tuple [.Subscript p q t1, .Subscript p2 q2 t2] _ _] v _ => !sliceB q && !sliceB q2 && swV sc [.Subscript p q t1, .Subscript p2 q2 t2] v && chkB T N o sc (un1 p) && chkB T N i sc (un1 q) && chkB T N o2 sc (un1 p2) && chkB T N i2 sc (un1 q2) && chkB T N e sc (un1 v)
    | _ => false
  | .aug i o e => fun sc x => match x with
    | .AugAssign (.Name y _) op v _ => decide (op = o.op) && decide (op = .Add ∨ op = .Sub) && decide (N[i]? = some y) && locB sc y && chkB T N e sc (un1 v)
    | _ => false
  | .ret e => fun sc x => match x with
    | .Return (some v) _ => chkB T N e sc (un1 v)
    | _ => false
  | .retN => fun _ x => match x with
    | .Return none _ => true
    | _ => false
  | .iff c a b => fun sc x => match x with
    | .If v p q _ => chkB T N c sc (un1 v) && chkSs T N a sc p && chkSs T N b sc q
    | _ => false
  | .whl c b => fun sc x => match x with
    | .While v p [] _ => chkB T N c sc (un1 v) && chkSs T N b sc p
    | _ => false
  | .fr t it b => fun sc x => match x with
    | .For tg iter p [] _ => !setB iter && chkTg N t sc tg && chkI T N it sc tg iter && chkSs T N b sc p
    | _ => false
  | .brk => fun _ x => match x with
    | .Break _ => true
    | _ => false
  | .cnt => fun _ x => match x with
    | .Continue _ => true
    | _ => false
  | .pas => fun _ x => match x with
    | .Pass _ => true
    | .Expr (.Constant (.str _) _ _) _ => true
    | _ => false
  | .nev => fun _ _ => true
def chkSs (T : Lp) (N : List Str) : Sts → Scope → List Stmt → Bool
  | .nil => fun _ xs => xs.isEmpty
  | .cons s ss => fun sc xs => match xs with
    | x :: xs => chkS T N s sc x && chkSs T N ss sc xs
    | [] => false
end
section
variable {T : Lp} {cl : Nat → List D → Mo D} {N : List Str} {k : Nat} {X : Cx} {W : WX} {sc : Scope}
theorem tg_star {t : Tg} {own : Scope} {x : Expr} (h : chkTg N t own x = true) : starB x = false := by
  cases t <;> cases x <;> first | rfl | cases h
/-- a store of a comprehension in a plain local -/
theorem lc_st (g : CxG T cl N k X W sc sc) {i : Nat} {e : Ex} {y : Str} {py lp pos : Pos} {elt : Expr} {gens : List Comprehension} {bs : Scope} (nf : isFrz e = false) (hi : N[i]? = some y) (hy : sc.names.lookup y = some .local) (hl : (py.line == lp.line) = true)
    (hn : (bs.names.any fun (n, k) => n == y && (k == .local || k == .cell)) = false) (h : chkB T N e sc (.ListComp elt gens bs lp) = true) : PS X (.Assign [.Name y py] (.ListComp elt gens bs lp) pos) (tX T cl X W (.asg (.nm i) e)) := by
  cases e with
  | comp m ow t it c e =>
    match gens, h with
    | [⟨tg, iter, ifs, z⟩], h =>
      obtain ⟨h, h8⟩ := a2 (show (decide (z = 0) && !setB iter && blkC N sc bs (ownP N ow) && (Tg.sl t).all (fun i => ow.contains i) && chkTg N t bs tg && chkI T N it sc tg iter && chkC T N c (relS bs sc) ifs && chkB T N e (relS bs sc) (un1 elt)) = true from h)
      obtain ⟨h, h7⟩ := a2 h
      obtain ⟨h, h6⟩ := a2 h
      obtain ⟨h, h5⟩ := a2 h
      obtain ⟨h, h4⟩ := a2 h
      obtain ⟨h, h3⟩ := a2 h
      obtain ⟨h1, h2⟩ := a2 h
      cases dd h1
      have bk := blkOk_by h3
      have G := blkG g bk
      have hs : ∀ i ∈ Tg.sl t, i ∈ ow := fun i hi => List.contains_iff_mem.mp (List.all_eq_true.mp h4 i hi)
      exact t_lc g hi hy hl hn hs bk (okI it g h6) (fun s H C clo fp => okTg (G s H C clo fp) t h5) (fun s H C clo fp => okC c (G s H C clo fp) h7) (fun s H C clo fp => un1_pe (okE e (G s H C clo fp) h8)) (n1 h2)
    | [], h => cases h
    | ⟨_, _, _, _⟩ :: ⟨_, _, _, _⟩ :: _, h => cases h
  | comp2 m ow ow1 t it t1 it1 c e =>
    match gens, h with
    | [⟨tg, iter, ifs, z⟩, ⟨tg1, iter1, ifs1, z1⟩], h =>
      obtain ⟨h, k15⟩ := a2 (show (decide (z = 0) && decide (z1 = 0) && !setB iter && !setB iter1 && blkC N sc bs (ownP N ow) && (Tg.sl t).all (fun i => ow.contains i) && (Tg.sl t1).all (fun i => ow1.contains i) && ow1.all (fun i => ow.contains i) && ifs.isEmpty && chkTg N t bs tg && chkTg N t1 bs tg1 && chkI T N it sc tg iter && chkI T N it1 (relS bs sc) tg1 iter1 && chkC T N c (relS bs sc) ifs1 && chkB T N e (relS bs sc) (un1 elt)) = true from h)
      obtain ⟨h, k14⟩ := a2 h
      obtain ⟨h, k13⟩ := a2 h
      obtain ⟨h, k12⟩ := a2 h
      obtain ⟨h, k11⟩ := a2 h
      obtain ⟨h, k10⟩ := a2 h
      obtain ⟨h, k9⟩ := a2 h
      obtain ⟨h, k8⟩ := a2 h
      obtain ⟨h, k7⟩ := a2 h
      obtain ⟨h, k6⟩ := a2 h
      obtain ⟨h, k5⟩ := a2 h
      obtain ⟨h, k4⟩ := a2 h
      obtain ⟨h, k3⟩ := a2 h
      obtain ⟨k1, k2⟩ := a2 h
      cases dd k1
      cases dd k2
      cases ifs with
      | cons _ _ => cases k9
      | nil =>
        have bk := blkOk_by k5
        have G := blkG g bk
        have hs : ∀ i ∈ Tg.sl t, i ∈ ow := fun i hi => List.contains_iff_mem.mp (List.all_eq_true.mp k6 i hi)
        have hs1 : ∀ i ∈ Tg.sl t1, i ∈ ow1 := fun i hi => List.contains_iff_mem.mp (List.all_eq_true.mp k7 i hi)
        have hs2 : ∀ i ∈ ow1, i ∈ ow := fun i hi => List.contains_iff_mem.mp (List.all_eq_true.mp k8 i hi)
        exact t_lc2 g hi hy hl hn hs hs1 hs2 bk (okI it g k12) (fun s H C clo fp => okTg (G s H C clo fp) t k10) (fun s H C clo fp => okC .non (G s H C clo fp) rfl) (fun s H C clo fp => okI it1 (G s H C clo fp) k13) (fun s H C clo fp => okTg (G s H C clo fp) t1 k11) (fun s H C clo fp => okC c (G s H C clo fp) k14) (fun s H C clo fp => un1_pe (okE e (G s H C clo fp) k15)) (n1 k3) (n1 k4)
    | [], h => cases h
    | [⟨_, _, _, _⟩], h => cases h
    | ⟨_, _, _, _⟩ :: ⟨_, _, _, _⟩ :: ⟨_, _, _, _⟩ :: _, h => cases h
  | frz a => cases nf
  | lit d => cases d <;> cases h
  | p1 p a => cases p <;> cases h
  | p2 p a b => cases p <;> cases h
  | _ => cases h
mutual
theorem okS (g : CxG T cl N k X W sc sc) (hp : PassesOwn (model X.prog X.w) X.A X.env X.xe) : ∀ (s : St) {x : Stmt}, chkS T N s sc x = true → PS X x (tX T cl X W s)
  | .ex e, x, h => by
    cases x <;> first | (cases h; done) | skip
    rename_i v p
    obtain ⟨h1, h2⟩ := a2 (show (!cmpB v && chkB T N e sc (un1 v)) = true from h)
    exact t_ex (un1_pe (okE e g h2)) (swN_ok (n1 h1))
  | .asg t e, x, h => by
    cases x <;> first | (cases h; done) | skip
    rename_i tgs v p
    match tgs, h with
    | [tg], h =>
      obtain ⟨h1, h2⟩ := a2 (show (chkTg N t sc tg && (match (generalizing := false) tg with
      | .Name y py => chkB T N e sc (un1 v) && (match (generalizing := false) v with
        | .ListComp _ _ bs lp => if sc.names.lookup y = some .local then !isFrz e && (py.line == lp.line) && !(bs.names.any fun (n, k) => n == y && (k == .local || k == .cell)) else true
        | v => !cmpB v)
      | .Tuple ts _ _ => chkB T N e sc (un1 v) && swV sc ts v
      | _ => false)) = true from h)
      have pg := okTg g t h1
      have st := tg_star h1
      cases tg <;> first | (cases h2; done) | skip
      · rename_i y py
        cases t with
        | tp ts => cases h1
        | nm i =>
          obtain ⟨n1', n2'⟩ := a2 (show (decide (N[i]? = some y) && locB sc y) = true from h1)
          obtain ⟨h3, h4⟩ := a2 h2
          by_cases c : cmpB v = true
          · cases v with
            | ListComp elt gens bs lp =>
              have h4 : (if sc.names.lookup y = some .local then !isFrz e && (py.line == lp.line) && !(bs.names.any fun (n, k) => n == y && (k == .local || k == .cell)) else true) = true := h4
              by_cases cl' : sc.names.lookup y = some .local
              · rw [if_pos cl'] at h4
                obtain ⟨h4, h6⟩ := a2 h4
                obtain ⟨h4, h5⟩ := a2 h4
                exact lc_st g (n1 h4) (dd n1') cl' h5 (n1 h6) h3
              · exact t_name g (dd n1') (locB_ok n2') (un1_pe (okE e g h3)) (swC_ok (by rw [g.scope]; exact cl'))
            | SetComp _ _ _ _ => cases h4
            | DictComp _ _ _ _ _ => cases h4
            | _ => cases c
          · have c : cmpB v = false := by simpa using c
            exact t_name g (dd n1') (locB_ok n2') (un1_pe (okE e g h3)) (swN_ok c)
      · rename_i ts kk pt
        obtain ⟨h3, h4⟩ := a2 h2
        exact t_asg (un1_pe (okE e g h3)) pg (swT_ok rfl) (swV_ok g.scope h4) st
    | [], h => cases h
    | _ :: _ :: _, h => cases h
  | .par i j a b, x, h => by
    unfold chkS at h
    split at h
    · rename_i x px y py kt pt p q k2 p2 pos
      obtain ⟨h, h13⟩ := a2 h
      obtain ⟨h, h12⟩ := a2 h
      obtain ⟨h, h11⟩ := a2 h
      obtain ⟨h, h10⟩ := a2 h
      obtain ⟨h, h9⟩ := a2 h
      obtain ⟨h, h8⟩ := a2 h
      obtain ⟨h, h7⟩ := a2 h
      obtain ⟨h, h6⟩ := a2 h
      obtain ⟨h, h5⟩ := a2 h
      obtain ⟨h, h4⟩ := a2 h
      obtain ⟨h, h3⟩ := a2 h
      obtain ⟨h1, h2⟩ := a2 h
      exact t_par g (dd h1) (dd h2) (dd h3) (dd h5) (dd h6) (un1_pe (okE a g h12)) (un1_pe (okE b g h13)) (n1 h8) (n1 h9)
        (swap2 (by rw [g.scope]; exact g.kind) (by rw [g.scope]; exact dd h5) (by rw [g.scope]; exact dd h6) (dd h4) (dd h7) (n1 h8) (n1 h9) (n1 h10) (n1 h11))
    · cases h
  | .par3 i j l a b c, x, h => by
    unfold chkS at h
    split at h
    · rename_i x px y py z pz kt pt p q r k2 p2 pos
      obtain ⟨h, h15⟩ := a2 h
      obtain ⟨h, h14⟩ := a2 h
      obtain ⟨h, h13⟩ := a2 h
      obtain ⟨h, h12⟩ := a2 h
      obtain ⟨h, h11⟩ := a2 h
      obtain ⟨h, h10⟩ := a2 h
      obtain ⟨h, h9⟩ := a2 h
      obtain ⟨h, h8⟩ := a2 h
      obtain ⟨h, h7⟩ := a2 h
      obtain ⟨h, h6⟩ := a2 h
      obtain ⟨h, h5⟩ := a2 h
      obtain ⟨h, h4⟩ := a2 h
      obtain ⟨h, h3⟩ := a2 h
      obtain ⟨h1, h2⟩ := a2 h
      obtain ⟨d1, d2, d3⟩ := dd h4
      obtain ⟨e1, e2, e3⟩ := dd h5
      obtain ⟨f1, f2, f3⟩ := dd h6
      obtain ⟨l1, l2⟩ := dd h7
      exact t_par3 g (dd h1) (dd h2) (dd h3) d1 d2 d3 f1 f2 f3 (un1_pe (okE a g h13)) (un1_pe (okE b g h14)) (un1_pe (okE c g h15)) (n1 h8) (n1 h9) (n1 h10)
        (swap3 (by rw [g.scope]; exact g.kind) (by rw [g.scope]; exact f1) (by rw [g.scope]; exact f2) (by rw [g.scope]; exact f3) e1 e2 e3 l1 l2 (n1 h8) (n1 h9) (n1 h10) (n1 h11) (n1 h12))
    · cases h
  | .sub o i e, x, h => by
    unfold chkS at h
    split at h
    · obtain ⟨h, h4⟩ := a2 h
      obtain ⟨h, h3⟩ := a2 h
      obtain ⟨h1, h2⟩ := a2 h
      exact t_sub g (un1_pe (okE o g h2)) (un1_pe (okE i g h3)) (un1_pe (okE e g h4)) (n1 h1) (swT_ok rfl)
    · cases h
  | .sub2 o i o2 i2 e, x, h => by
    unfold chkS at h
    split at h
    · obtain ⟨h, h8⟩ := a2 h
      obtain ⟨h, h7⟩ := a2 h
      obtain ⟨h, h6⟩ := a2 h
      obtain ⟨h, h5⟩ := a2 h
      obtain ⟨h, h4⟩ := a2 h
      obtain ⟨h, h3⟩ := a2 h
      obtain ⟨h1, h2⟩ := a2 h
      exact t_sub2 g (un1_pe (okE o g h4)) (un1_pe (okE i g h5)) (un1_pe (okE o2 g h6)) (un1_pe (okE i2 g h7)) (un1_pe (okE e g h8)) (n1 h1) (n1 h2) (swT_ok rfl) (swV_ok g.scope h3)
    · cases h
  | .aug i o e, x, h => by
    unfold chkS at h
    split at h
    · obtain ⟨h, h5⟩ := a2 h
      obtain ⟨h, h4⟩ := a2 h
      obtain ⟨h, h3⟩ := a2 h
      obtain ⟨h1, h2⟩ := a2 h
      cases dd h1
      refine t_aug g ?_ (dd h3) (locB_ok h4) (un1_pe (okE e g h5))
      rcases dd h2 with z | z
      · exact .inl (by cases o <;> first | rfl | cases z)
      · exact .inr (by cases o <;> first | rfl | cases z)
    · cases h
  | .ret e, x, h => by
    unfold chkS at h
    split at h
    · exact t_ret (un1_pe (okE e g h))
    · cases h
  | .retN, x, h => by
    unfold chkS at h
    split at h
    · exact t_retN
    · cases h
  | .iff c a b, x, h => by
    cases x <;> first | (cases h; done) | skip
    rename_i v p q pos
    obtain ⟨h, h3⟩ := a2 (show (chkB T N c sc (un1 v) && chkSs T N a sc p && chkSs T N b sc q) = true from h)
    obtain ⟨h1, h2⟩ := a2 h
    exact t_iff (un1_pt ((okTW c g).1 h1)) (okSs g hp a h2) (okSs g hp b h3)
  | .whl c b, x, h => by
    cases x <;> first | (cases h; done) | skip
    rename_i v p q pos
    cases q with
    | cons => cases h
    | nil =>
      obtain ⟨h1, h2⟩ := a2 (show (chkB T N c sc (un1 v) && chkSs T N b sc p) = true from h)
      exact t_whl hp (un1_pt ((okTW c g).1 h1)) (okSs g hp b h2)
  | .fr t it b, x, h => by
    cases x <;> first | (cases h; done) | skip
    rename_i tg iter p q pos
    cases q with
    | cons => cases h
    | nil =>
      obtain ⟨h, h4⟩ := a2 (show (!setB iter && chkTg N t sc tg && chkI T N it sc tg iter && chkSs T N b sc p) = true from h)
      obtain ⟨h, h3⟩ := a2 h
      obtain ⟨h1, h2⟩ := a2 h
      exact t_fr g hp (okI it g h3) (okTg g t h2) (okSs g hp b h4) (n1 h1)
  | .brk, x, h => by
    cases x <;> first | (cases h; done) | exact t_brk
  | .cnt, x, h => by
    cases x <;> first | (cases h; done) | exact t_cnt
  | .pas, x, h => by
    unfold chkS at h
    split at h
    · exact t_pas
    · exact t_doc
    · cases h
  | .nev, x, h => t_nev
theorem okSs (g : CxG T cl N k X W sc sc) (hp : PassesOwn (model X.prog X.w) X.A X.env X.xe) : ∀ (s : Sts) {x : List Stmt}, chkSs T N s sc x = true → PSs X x (tXs T cl X W s)
  | .nil, x, h => by
    cases x with
    | nil => exact ts_nil
    | cons => cases h
  | .cons s ss, [], h => by cases h
  | .cons s ss, x :: xs, h => by
    obtain ⟨h1, h2⟩ := a2 (show (chkS T N s sc x && chkSs T N ss sc xs) = true from h)
    exact ts_cons (okS g hp s h1) (okSs g hp ss h2)
end
end
end Iv
end

section
set_option Elab.async false
set_option linter.all false
set_option maxHeartbeats 2000000
/-! IvFn: a def keeps the promise of its tree; all defs of a text; a law's end. -/
namespace Iv
open PySem PySem.Spec PyProof.Rows L2

/-! ### the store cut back -/
def Wd.cut (w : Wd) (n : Nat) : Wd := { w with ι := w.ι.take n, M := w.M.take n }
theorem own_cut {w : Wd} {n : Nat} {a : Addr} (h : Own (w.cut n) a) : Own w a := by
  obtain ⟨m, ob, h1, h2, h3⟩ := h
  have h1 : (w.ι.take n)[m]? = some a := h1
  have h2 : (w.M.take n)[m]? = some ob := h2
  have hm : m < n := by
    have := (List.getElem?_eq_some_iff.mp h1).1
    rw [List.length_take] at this
    omega
  rw [List.getElem?_take_of_lt hm] at h1 h2
  exact ⟨m, ob, h1, h2, h3⟩
section
variable {K : PySem.W.Frag} {w : Wd} {n : Nat}
mutual
theorem Rep.cut' : ∀ {d : D} {v : V}, Rep K w d v → d.blw n = true → Rep K (w.cut n) d v
  | _, _, .non, _ => .non
  | _, _, .bl b, _ => .bl b
  | _, _, .int i, _ => .int i
  | _, _, .str x, _ => .str x
  | _, _, .ty n, _ => .ty n
  | _, _, .tup (ds := ds) q r, h => .tup q (Reps.cut' r (show blws n ds = true from h))
  | _, _, .lst (ds := ds) q o z r, h => .lst q (fun y => o (own_cut y)) z (Reps.cut' r (show blws n ds = true from h))
  | _, _, .frl (ds := ds) q r, h => .frl q (Reps.cut' r (show blws n ds = true from h))
  | _, _, .loc (n := m) q, h => .loc (by
      have hm : m < n := of_decide_eq_true h
      show (w.ι.take n)[m]? = _
      rw [List.getElem?_take_of_lt hm]; exact q)
  | _, _, .dt (ds := ds) q ok k sq v r, h => .dt q ok k sq v (Reps.cut' r (show blws n ds = true from h))
theorem Reps.cut' : ∀ {ds : List D} {vs : List V}, Reps K w ds vs → blws n ds = true → Reps K (w.cut n) ds vs
  | _, _, .nil, _ => .nil
  | _, _, .cons (d := d) (ds := ds) r t, h => by
    have h : (d.blw n && blws n ds) = true := h
    rw [Bool.and_eq_true] at h
    exact .cons (Rep.cut' r h.1) (Reps.cut' t h.2)
end
theorem Rep.cut {d : D} {v : V} (h : d.blw n = true) (r : Rep K w d v) : Rep K (w.cut n) d v := Rep.cut' r h
theorem Reps.cut {ds : List D} {vs : List V} (h : blws n ds = true) (r : Reps K w ds vs) : Reps K (w.cut n) ds vs := Reps.cut' r h
theorem good_cut (g : Good K w) (h : (w.M.take n).all (Ob.blw n) = true) : Good K (w.cut n) := by
  have up : ∀ {α : Type} {l : List α} {m : Nat} {x : α}, (l.take n)[m]? = some x → l[m]? = some x := fun {α l m x} e => by
    have hm : m < n := by
      have := (List.getElem?_eq_some_iff.mp e).1
      rw [List.length_take] at this
      omega
    rwa [List.getElem?_take_of_lt hm] at e
  refine ⟨by show (w.ι.take n).length = (w.M.take n).length; rw [List.length_take, List.length_take, g.len], fun i j a p q h1 h2 h3 h4 => g.inj i j a p q (up h1) (up h2) (up h3) (up h4), fun m ob a h1 h2 h3 => ?_, fun a ha => ?_⟩
  · have hb := List.all_eq_true.mp h ob (List.mem_of_getElem? h1)
    cases g.obj m ob a (up h1) (up h2) h3 with
    | lst q r => exact .lst q (Reps.cut hb r)
    | dct q e r => exact .dct q e (Reps.cut hb r)
  · obtain ⟨q, o⟩ := g.z a ha
    exact ⟨q, fun y => o (own_cut y)⟩
theorem ext_cut {w0 : Wd} (g0 : Good K w0) (e : Ext w0 w) : Ext w0 (w.cut w0.M.length) := by
  refine ⟨e.z, fun m a h => ?_, e.keep, fun a o h nn y => e.own a o h nn (own_cut y), e.dom⟩
  show (w.ι.take w0.M.length)[m]? = some a
  rw [List.getElem?_take_of_lt (by rw [← g0.len]; exact (List.getElem?_eq_some_iff.mp h).1)]
  exact e.pre m a h
/-- a def's end -/
theorem trim_ok {mg : Str → Option Value} {E : XK} {w0 : Wd} {d : D} {v : V} {Q : VK} (g0 : Good K w0) (g : Good K w) (e : Ext w0 w) (r : Rep K w d v) (h : EvR K mg E (Rep K) (trim w0.M.length d w.M) w0 Q) : Q v w.H := by
  unfold trim at h
  by_cases c : (d.blw w0.M.length && (w.M.take w0.M.length).all (Ob.blw w0.M.length)) = true
  · rw [if_pos c] at h
    rw [Bool.and_eq_true] at c
    exact h (w.cut w0.M.length) v (good_cut g c.2) (ext_cut g0 e) rfl (Rep.cut c.1 r)
  · rw [if_neg c] at h
    exact h w v g e rfl r
end

/-! ### a def -/
theorem envR_start {K : PySem.W.Frag} {w : Wd} {N : List Str} {ds : List D} {vs : List V} {n np : Nat} (r : Reps K w ds vs) (hn : N.length = n) (hp : ds.length = np) : EnvR K w (ds.map some ++ List.replicate (n - np) none) (L2.start N vs) := by
  have hl := r.length
  refine ⟨by unfold L2.start; rw [List.length_append, List.length_append, List.length_map, List.length_map, List.length_replicate, List.length_replicate, hl, hn, ← hp, hl], fun i d h => ?_⟩
  unfold L2.start
  by_cases c : i < ds.length
  · rw [List.getElem?_append_left (by rw [List.length_map]; exact c), List.getElem?_map] at h
    cases q : ds[i]? with
    | none => rw [q] at h; cases h
    | some d' =>
      rw [q] at h
      cases h
      obtain ⟨v, v1, v2⟩ := r.get q
      exact ⟨v, by rw [List.getElem?_append_left (by rw [List.length_map, ← hl]; exact c), List.getElem?_map, v1]; rfl, v2⟩
  · rw [List.getElem?_append_right (by rw [List.length_map]; omega), List.getElem?_replicate] at h
    split at h <;> cases h
theorem fnG_of {P : Program} {Wo : World} {K : PySem.W.Frag} {mg : Str → Option Value} {base : Heap} {T : Lp} {k fi : Nat} {f : Addr} {name qual : Str} {params : Arguments} {body : List Stmt} {scope : Scope} {dV kV doc pm cdv ct oc : Value} {an od : Option Addr}
    {osl : Array (Option Value)} {N ps : List Str} {fd : Fd} (lk : K.lookup f = some ⟨oc, od, .func (PySem.W.fnOf name qual params body scope dV kV doc pm an cdv ct), osl⟩) (hcd : PySem.W.codeIn K cdv qual = true) (S : FnScope N ps scope)
    (hT : T.fd fi = some fd) (hN : N.length = fd.n) (hP : ps.length = fd.np) (hk : chkSs T N fd.body scope body = true) (lib : LibG P Wo K mg base T (callF T k) k) :
    FnG P Wo K mg base (k + 1) f (PySem.W.fnOf name qual params body scope dV kV doc pm an cdv ct) ps (callF T (k + 1) fi) := by
  refine ⟨fun A outer s w args us vs ds Q E rm gd e0 bt lv rv g rd h => ?_⟩
  have kin : K.In s.heap := e0.mod.kin.keeps fun b o e => (e0.bs b o e).1
  have nol : s.heap.NoLimit := e0.mod.nolimit.keeps fun b o e => (e0.bs b o e).1
  have kinds : ∀ y ∈ ps.zip us, scope.names.lookup y.1 = some .local ∨ (scope.names.lookup y.1 = some .cell ∧ ((cellsFrom (s.heap.objs.size + 1) scope.names []).lookup y.1).isSome = true) := by
    intro y hy
    obtain ⟨a, b⟩ := y
    rcases S.par a (List.of_mem_zip hy).1 with z | z
    · exact .inl z
    · exact .inr ⟨z, PySem.W.cellsFrom_some _ _ _ (.inl z)⟩
  refine codeAny_call_function rm.depth (kin _ _ lk) rfl S.co S.gen rfl (PySem.W.codeRec_of kin hcd) (bt _ _ _ _ ?_)
  refine wpAny_newFunctionEnv_cells S.kind kinds fun env henv s1 hin => ?_
  subst henv
  refine ⟨nol.keeps hin.toInCall.keep, codeAny_func ?_⟩
  let X := cxOf (L2.CX P Wo) P Wo K mg base N qual scope f cdv A outer s w.H E
  have I : Inv X [] (L2.start N vs) w.H s1 := inv_start S rm.hd e0 lv rv hin
  have G : CxG T (callF T k) N k X (fun c d _ H => E c d H) scope scope := ⟨rfl, S.nd, rfl, S.kind, rfl, rm.deeper _, gd, takes_of rfl rfl rfl rfl, fun x hx => ⟨hx, .inl rfl⟩, lib⟩
  have hbody := okSs G (passes_of (X := X) rfl) fd.body hk
  have ld : ds.length = fd.np := by rw [rd.length, lv, hP]
  have e1 : callF T (k + 1) fi ds w.M = (match xss T (callF T k) fd.body (ds.map some ++ List.replicate (fd.n - fd.np) none) w.M with
    | .ok (.rt d) _ M' => trim w.M.length d M'
    | .ok .nx _ M' => trim w.M.length .non M'
    | .exc c p _ M' => .exc c p M'
    | _ => Res.bad) := by
    show (match T.fd fi with
      | none => Res.bad
      | some fd => if ds.length = fd.np then (match xss T (callF T k) fd.body (ds.map some ++ List.replicate (fd.n - fd.np) none) w.M with
        | .ok (.rt d) _ M' => trim w.M.length d M'
        | .ok .nx _ M' => trim w.M.length .non M'
        | .exc c p _ M' => .exc c p M'
        | _ => Res.bad) else Res.bad) = _
    rw [hT]
    simp only [if_pos ld]
  have h : EvR K mg E (Rep K) (callF T (k + 1) fi ds w.M) w Q := h
  rw [e1] at h
  have hq : tXs T (callF T k) X (fun c d _ H => E c d H) fd.body { nx := fun _ H' => Q .non H', rt := Q } (L2.start N vs) w.H := by
    refine ⟨w, _, rfl, g, envR_start (n := fd.n) (np := fd.np) rd hN ld, ?_⟩
    show SrR K mg (fun c d _ H => E c d H) _ (xss T (callF T k) fd.body _ w.M) w
    cases q : xss T (callF T k) fd.body (ds.map some ++ List.replicate (fd.n - fd.np) none) w.M with
    | bad => rw [q] at h; exact h
    | exc c p ρ M' =>
      rw [q] at h
      exact fun w' σ cls d g' e' hM _ r => h w' cls d g' e' hM r
    | ok fl ρ M' =>
      rw [q] at h
      cases fl with
      | bk => exact h.elim
      | ct => exact h.elim
      | nx =>
        intro w' σ g' e' hM er
        subst hM
        exact trim_ok g g' e' (d := .non) (v := .non) .non h
      | rt d =>
        intro w' σ g' e' hM er v r
        subst hM
        exact trim_ok g g' e' r h
  refine wpAny_mono (hbody.run [] s1 (L2.start N vs) w.H _ I hq) (fun fl s' hs => ?_) fun e s' hs => hs
  cases fl with
  | ret u =>
    obtain ⟨v, σ', H', J, rvv, q⟩ := hs
    exact ⟨v, H', J.os, J.bare, J.base, J.hok, rvv, q⟩
  | next =>
    obtain ⟨σ', H', J, q⟩ := hs
    exact ⟨.non, H', J.os, J.bare, J.base, J.hok, rfl, q⟩
  | brk =>
    obtain ⟨_, _, _, q⟩ := hs
    exact q.elim
  | cont =>
    obtain ⟨_, _, _, q⟩ := hs
    exact q.elim

/-! ### all defs of a text -/
/-- what must be known of a def -/
structure DefG (K : PySem.W.Frag) (mg : Str → Option Value) (T : Lp) (fi : Nat) (fd : Fd) : Prop where
  ex : ∃ (f : Addr) (name qual : Str) (params : Arguments) (body : List Stmt) (scope : Scope) (dvs : List V) (kws : List (Str × V)) (fdt : FuncData) (N ps : List Str),
    mg (T.nm fi) = some (.ref f) ∧ FunD K name qual params body scope dvs kws f fdt ∧ FnScope N ps scope ∧ N.length = fd.n ∧ ps.length = fd.np ∧ chkSs T N fd.body scope body = true ∧ ∀ (i : Nat) (sh : Shape), fd.shapes[i]? = some sh → ShpOk K fdt ps sh
theorem libG {P : Program} {Wo : World} {K : PySem.W.Frag} {mg : Str → Option Value} {base : Heap} {T : Lp} (D : ∀ fi fd, T.fd fi = some fd → DefG K mg T fi fd)
    (gv : ∀ (x : Nat) (d : Iv.D), T.gv x = some d → ∃ (u : Value) (v : V), mg (T.nm x) = some u ∧ RelV v u ∧ ∀ w : Wd, Rep K w d v) (fr : ∀ x ∈ T.free, mg x = none) (gc : T.gcd = true → mg "gcd" = some (.builtin "math.gcd"))
    (tx : ∀ x ∈ T.tix, ∃ (a : Addr) (o : Obj), mg (T.nm x) = some (.ref a) ∧ K.lookup a = some o ∧ o.cls = .type "tuple" ∧ o.dict = none) : ∀ k, LibG P Wo K mg base T (callF T k) k
  | 0 => by
    refine ⟨fun fi fd hT => ?_, gv, fr, gc, tx⟩
    obtain ⟨f, name, qual, params, body, scope, dvs, kws, fdt, N, ps, h1, h2, h3, h4, h5, h6, h7⟩ := (D fi fd hT).ex
    exact ⟨f, fdt, ps, h1, h2.kp, h5, ⟨fun A outer s w args us vs ds Q E _ _ _ _ _ _ _ _ h => h.elim⟩, h7⟩
  | k + 1 => by
    have ih := libG (P := P) (Wo := Wo) (base := base) D gv fr gc tx k
    refine ⟨fun fi fd hT => ?_, gv, fr, gc, tx⟩
    obtain ⟨f, name, qual, params, body, scope, dvs, kws, fdt, N, ps, h1, h2, h3, h4, h5, h6, h7⟩ := (D fi fd hT).ex
    obtain ⟨oc, od, dV, kV, doc, pm, an, cdv, ct, osl, e, lk, hcd, _, _⟩ := h2.ex
    subst e
    exact ⟨f, _, ps, h1, h2.kp, h5, fnG_of lk hcd h3 hT h4 h5 h6 ih, h7⟩

/-! ### how calls bind -/
/-- no defaults -/
theorem shp0 {K : PySem.W.Frag} {x qual : Str} {params : Arguments} {body : List Stmt} {scope : Scope} {kws : List (Str × V)} {f : Addr} {fd : FuncData} {ps : List Str} {sh : Shape} (F : FunD K x qual params body scope [] kws f fd)
    (h : ∀ (kV doc pm : Value) (an : Option Addr) (cdv ct : Value) (us ws : List Value), us.length = sh.np → ws.length = sh.ks.length →
      ∃ xs : List Value, bindArgs (PySem.W.fnOf x qual params body scope .none kV doc pm an cdv ct) ⟨us, sh.ks.zip ws⟩ = pure (ps.zip xs) ∧ xs.length = ps.length ∧ Paired (Plc K (us ++ ws)) sh.out xs) : ShpOk K fd ps sh := by
  obtain ⟨oc, od, dV, kV, doc, pm, an, cdv, ct, osl, e, lk, hcd, hD, hK⟩ := F.ex
  subst e
  refine ⟨fun s us ws _ h1 h2 => ?_⟩
  rcases hD with ⟨_, q⟩ | ⟨q, _⟩
  · subst q
    obtain ⟨xs, b, l, p⟩ := h kV doc pm an cdv ct us ws h1 h2
    exact ⟨xs, .of_eq b, l, p⟩
  · exact absurd rfl q
/-- with defaults dvs (no keyword-only ones) -/
theorem shp1 {K : PySem.W.Frag} {x qual : Str} {params : Arguments} {body : List Stmt} {scope : Scope} {dvs : List V} {kws : List (Str × V)} {f : Addr} {fd : FuncData} {ps : List Str} {sh : Shape} (F : FunD K x qual params body scope dvs kws f fd) (hd : dvs ≠ [])
    (h : ∀ (a : Addr) (kV doc pm : Value) (an : Option Addr) (cdv ct : Value) (us ws its : List Value), us.length = sh.np → ws.length = sh.ks.length → Vals dvs its →
      ∃ xs : List Value, ((bindArgs (PySem.W.fnOf x qual params body scope (.ref a) kV doc pm an cdv ct) ⟨us, sh.ks.zip ws⟩ = pure (ps.zip xs)) ∨ ∃ k, bindArgs (PySem.W.fnOf x qual params body scope (.ref a) kV doc pm an cdv ct) ⟨us, sh.ks.zip ws⟩ = seqItems? (.ref a) >>= k ∧ k (some its.toArray) = pure (ps.zip xs)) ∧
        xs.length = ps.length ∧ Paired (Plc K (us ++ ws)) sh.out xs) : ShpOk K fd ps sh := by
  obtain ⟨oc, od, dV, kV, doc, pm, an, cdv, ct, osl, e, lk, hcd, hD, hK⟩ := F.ex
  subst e
  refine ⟨fun s us ws kin h1 h2 => ?_⟩
  rcases hD with ⟨q, _⟩ | ⟨_, a, o, its, m, q, lT, oT, rT⟩
  · exact absurd q hd
  · subst q
    obtain ⟨xs, b, l, p⟩ := h a kV doc pm an cdv ct us ws its h1 h2 rT
    refine ⟨xs, ?_, l, p⟩
    rcases b with b | ⟨k, b1, b2⟩
    · exact .of_eq b
    · refine BindsTo.of_looks fun Mo => ?_
      rw [b1]
      exact looks_items kin lT oT (.of_pure b2)
end Iv
end

section
set_option Elab.async false
set_option linter.all false
set_option maxHeartbeats 2000000
/-! IvEnd: a law's end. -/
namespace Iv
open PySem PySem.Spec PyProof.Rows L2
theorem noexc {P : Program} {w : World} {H : Hp} {s s' : Shared} {e : Value} (h : L2.CX P w [] H s (fun _ _ _ => False) e s') : False := by
  obtain ⟨_, _, _, _, _, h⟩ := h
  simp only [and_false] at h
section
variable {P : Program} {Wo : World} {K : PySem.W.Frag} {mg mb : Str → Option Value} {k : Nat} {fa a : Addr} {fdt : FuncData} {x : Str} {m : List D → Mo D} {s : Shared} {vs : List Value} {ns : List Int}
/-- the heap at the caller: the script, known -/
def only (a : Addr) (o : Obj) (xs : List V) : Hp := fun b => if b = a then some (.frz o (.lst xs)) else none
theorem call_law {Hh : Hp} (KX : K.In s.heap) (G : s.heap.Ns mainGlobals mg) (B : s.heap.Ns builtinsNs mb) (Bb : ∀ x : Str, x ≠ "__name__" → mb x = bootBuiltins x) (NL : s.heap.NoLimit) (ge : s.gens = #[]) (hr : Room k callerA)
    (F : ∀ base : Heap, K.In base → base.Ns mainGlobals mg → FnG P Wo K mg base k fa fdt [x] m) (bt : ∀ (s : Shared) (u : Value), BindsTo s fdt ⟨[u], []⟩ [(x, u)])
    (hm : ∃ M, m [.frl (ns.map .int)] [] = .ok (.bl true) M) (sq : SqF K Hh a (ns.map V.int)) (ok : HOk P Wo Hh s.heap) (lay : s.heap.get? a = some { cls := .type "list", data := .seq vs.toArray })
    (one : ∀ b, Hh b ≠ none → b = a ∧ K.lookup a = none ∧ ∃ o xs, Hh b = some (.frz o (.lst xs))) :
    codeAny (model P Wo) callerA (.call (.ref fa) ⟨[.ref a], []⟩) (fun r s' => r = .ok (.ret (.bool true)) ∧ OldK s.heap s'.heap ∧ s'.os = s.os ∧ AllBare s'.gens) s := by
  have at_ : ∀ {b : Addr} {o : Obj}, s.heap.get? b = some o → Hh b = none → (hidT s.heap Hh).get? b = some o := fun e z => hidT_get e z
  have dct : ∀ {b : Addr} {o : Obj} {es : Array DictEntry} {ep : Nat}, s.heap.get? b = some o → o.data = .dict es ep → Hh b = none := by
    intro b o es ep e q
    cases z : Hh b with
    | none => rfl
    | some u =>
      obtain ⟨eb, _⟩ := one b (by rw [z]; exact fun y => nomatch y)
      rw [eb, lay] at e
      cases e
      cases q
  have ns1 : ∀ {b : Addr} {f : Str → Option Value}, s.heap.Ns b f → (hidT s.heap Hh).Ns b f := by
    intro b f h
    obtain ⟨o, es, ep, e, q, r⟩ := h
    exact ⟨o, es, ep, at_ e (dct e q), q, r⟩
  have kin : K.In (hidT s.heap Hh) := by
    intro b o e
    refine at_ (KX b o e) ?_
    cases z : Hh b with
    | none => rfl
    | some u =>
      obtain ⟨eb, kl, _⟩ := one b (by rw [z]; exact fun y => nomatch y)
      rw [eb, kl] at e
      cases e
  have md : Mod K mg (hidT s.heap Hh) := by
    obtain ⟨mc, c1, c2⟩ := NL
    exact ⟨kin, ns1 G, ⟨mb, ns1 B, Bb⟩, ⟨mc, ns1 c1, c2⟩⟩
  have en : Env0 P Wo K mg (hidT s.heap Hh) callerA [] s Hh := ⟨rfl, md, fun b o e => of_hidT e, Nat.le_of_eq (hidT_size _ _), trivial, fun b hb => (by cases hb), ok, .of_eq ge⟩
  let w : Wd := ⟨[], [], [], Hh⟩
  have g : Good K w := by
    refine ⟨rfl, fun n m a p q h1 _ _ _ _ _ => ?_, fun n ob a h1 _ _ => ?_, fun a ha => ?_⟩
    · cases (show ([] : List Addr)[n]? = some a from h1)
    · cases (show ([] : List Ob)[n]? = some ob from h1)
    · cases ha
  have ri : Reps K w (ns.map D.int) (ns.map V.int) := by
    clear hm sq
    induction ns with
    | nil => exact .nil
    | cons i r ih => exact .cons (.int i) ih
  have rep : Reps K w [.frl (ns.map .int)] [.ref a] := .cons (.frl sq ri) .nil
  obtain ⟨M, hM⟩ := hm
  have ev1 : EvG K mg (fun _ _ _ => False) (Rep K) (m [.frl (ns.map .int)]) w (fun v _ => v = V.bl true) := by
    show EvR K mg _ (Rep K) (m [.frl (ns.map .int)] []) w _
    rw [hM]
    intro w' b g' e' _ r
    exact r.bl_inv
  refine codeAny_mono ((F _ kin (ns1 G)).run callerA [] s w ⟨[.ref a], []⟩ [.ref a] [.ref a] _ _ _ hr rfl en (bt s (.ref a)) rfl (.cons rfl .nil) g rep ev1) fun r s' h => ?_
  cases r with
  | error e => exact (noexc h).elim
  | ok fl =>
    cases fl with
    | next => exact False.elim h
    | brk => exact False.elim h
    | cont => exact False.elim h
    | ret u =>
      obtain ⟨v, H', oss, bare, un, ok', r1, q⟩ := h
      subst q
      cases (show u = Value.bool true from r1)
      refine ⟨rfl, OldK.of_keep fun b o e => ?_, oss, bare⟩
      cases z : Hh b with
      | none => exact un.keep b o e z (fun y => by cases y) (fun y => by cases y)
      | some u =>
        obtain ⟨_, _, ob, xs, e1⟩ := one b (by rw [z]; exact fun y => nomatch y)
        obtain ⟨f1, _⟩ := ok b _ e1
        obtain ⟨f2, _⟩ := ok' b _ (un.frzs b ob _ e1)
        rw [e] at f1
        cases f1
        exact f2
theorem law_G (KX : K.In s.heap) (G : s.heap.Ns mainGlobals mg) (B : s.heap.Ns builtinsNs mb) (Bb : ∀ x : Str, x ≠ "__name__" → mb x = bootBuiltins x) (NL : s.heap.NoLimit) (ge : s.gens = #[]) (hr : Room k callerA)
    (F : ∀ base : Heap, K.In base → base.Ns mainGlobals mg → FnG P Wo K mg base k fa fdt [x] m) (bt : ∀ (s : Shared) (u : Value), BindsTo s fdt ⟨[u], []⟩ [(x, u)])
    (hm : ∃ M, m [.frl (ns.map .int)] [] = .ok (.bl true) M) (lay : s.heap.get? a = some { cls := .type "list", data := .seq vs.toArray }) (hi : IntsAre vs ns) (hl : ns.length ≤ sizeLine) :
    codeAny (model P Wo) callerA (.call (.ref fa) ⟨[.ref a], []⟩) (fun r s' => r = .ok (.ret (.bool true)) ∧ OldK s.heap s'.heap ∧ s'.os = s.os ∧ AllBare s'.gens) s := by
  have rv := vals_ints hi
  have lv := hi.length
  cases hk : K.lookup a with
  | some o =>
    have e := KX a o hk
    rw [lay] at e
    cases e
    exact call_law (Hh := fun _ => none) KX G B Bb NL ge hr F bt hm (.inr ⟨_, vs.toArray, _, hk, rfl, rfl, rfl, by rw [List.size_toArray, lv]; exact hl, by simpa using rv⟩) (fun b u z => by cases z) lay fun b z => absurd rfl z
  | none =>
    have at_ : only a { cls := .type "list", data := .seq vs.toArray } (ns.map V.int) a = some (.frz { cls := .type "list", data := .seq vs.toArray } (.lst (ns.map V.int))) := if_pos rfl
    have off : ∀ b, b ≠ a → only a { cls := .type "list", data := .seq vs.toArray } (ns.map V.int) b = none := fun b h => if_neg h
    refine call_law (Hh := only a { cls := .type "list", data := .seq vs.toArray } (ns.map V.int)) KX G B Bb NL ge hr F bt hm (.inl ⟨_, at_⟩) (fun b u z => ?_) lay fun b z => ?_
    · by_cases c : b = a
      · subst c
        rw [at_] at z
        cases z
        exact ⟨lay, by rw [List.length_map]; exact hl, vs, _, rv, lay⟩
      · rw [off b c] at z
        cases z
    · by_cases c : b = a
      · subst c
        exact ⟨rfl, hk, _, _, at_⟩
      · exact absurd (off b c) z
end
theorem walk_G {l : PySem.W.OpenLaw} {n k : Nat} {q : Program} {loose : List Str} {XP : (Str → Option Value) → Heap → Prop} {YP : World → Heap → Prop} {d : DefRec} {x : Str}
    (hn : l.most = some n) (hn2 : n ≤ sizeLine) (hdf : d.params.defaults = []) (hr : Room k callerA)
    (F : ∀ (w : World) (mg : Str → Option Value) (fa : Addr) (h : Heap), YP w h → h.Ns mainGlobals mg → mg d.name = some (.ref fa) →
      ∃ (K : PySem.W.Frag) (fdt : FuncData) (m : List D → Mo D), K.In h ∧ (∀ (s : Shared) (u : Value), BindsTo s fdt ⟨[u], []⟩ [(x, u)]) ∧
        (∀ ns : List Int, ns.length ≤ n → (∀ z ∈ ns, Builtin.Int.intBits z ≤ 1048576) → ∃ M, m [.frl (ns.map .int)] [] = .ok (.bl true) M) ∧
        ∀ base : Heap, K.In base → base.Ns mainGlobals mg → FnG l.prog w K mg base k fa fdt [x] m) :
    PySem.W.WalkO q loose XP YP l.row.toRowW d [] (fun f vs => PySem.call f vs) := by
  refine Att.attach_callB hn hdf fun w s₀ s₁ mg mb fa o pm cd doc a vs ns G Y ho hd hcd hmg hobj hints hlen hbits hg => ?_
  obtain ⟨K, fdt, m, KX, bt, hm, hF⟩ := F w mg fa _ Y G.T.g hmg
  exact law_G KX G.T.g G.T.b G.T.builtins G.T.nolimit hg hr hF bt (hm ns hlen hbits) hobj hints (Nat.le_trans hlen hn2)
end Iv
end

section
set_option Elab.async false
set_option linter.all false
set_option maxHeartbeats 1000000
/-! IvLem: how the readings are worked out. -/
namespace Iv
open PySem L2
def SR.fin (n : Nat) (r : SR) : Res D := match r with
  | .ok (.rt d) _ M' => trim n d M'
  | .ok .nx _ M' => trim n .non M'
  | .exc c p _ M' => .exc c p M'
  | _ => .bad
theorem call_def {T : Lp} {k f : Nat} {fd : Fd} {vs : List D} {M : Sto} (h : T.fd f = some fd) (hl : vs.length = fd.np) :
    callF T (k + 1) f vs M = SR.fin M.length (xss T (callF T k) fd.body (vs.map some ++ List.replicate (fd.n - fd.np) none) M) := by
  show (match T.fd f with
      | none => Res.bad
      | some fd => if vs.length = fd.np then (match xss T (callF T k) fd.body (vs.map some ++ List.replicate (fd.n - fd.np) none) M with
        | .ok (.rt d) _ M' => trim M.length d M'
        | .ok .nx _ M' => trim M.length .non M'
        | .exc c p _ M' => .exc c p M'
        | _ => Res.bad) else Res.bad) = _
  rw [h]
  simp only [if_pos hl]
  rfl
theorem trim_same (d : D) (M : Sto) : trim M.length d M = .ok d M := by
  unfold trim
  split
  · rw [List.take_length]
  · rfl
/-- nothing of the store names what lies behind it -/
def Cl (M : Sto) : Prop := M.all (Ob.blw M.length) = true
theorem trim_app {d : D} {M N : Sto} (hd : d.blw M.length = true) (hc : Cl M) : trim M.length d (M ++ N) = .ok d M := by
  unfold trim
  have e : (M ++ N).take M.length = M := by simp
  rw [if_pos (by rw [e, hd]; exact hc), e]
@[simp] theorem fin_rt (d : D) (ρ : Env) (M : Sto) : SR.fin M.length (.ok (.rt d) ρ M) = .ok d M := trim_same d M
@[simp] theorem fin_nx (ρ : Env) (M : Sto) : SR.fin M.length (.ok .nx ρ M) = .ok .non M := trim_same .non M
section
variable {α β : Type} {M M' : Sto} {ρ : Env}
@[simp] theorem bind_ok {m : Mo α} {f : α → Mo β} {a : α} (h : m M = .ok a M') : (m.bind f) M = f a M' := by
  show (match m M with
    | .ok a M' => f a M'
    | .exc c p M' => .exc c p M'
    | .bad => .bad) = _
  rw [h]
theorem bind_eq (m : Mo α) (f : α → Mo β) : (m.bind f) M = match m M with
    | .ok a M' => f a M'
    | .exc c p M' => .exc c p M'
    | .bad => .bad := (rfl)
@[simp] theorem bd_ok {f : α → Sto → SR} {a : α} : SR.bd ρ (.ok a M) f = f a M := (rfl)
@[simp] theorem sq_nx {f : Env → Sto → SR} : SR.sq (.ok .nx ρ M) f = f ρ M := (rfl)
@[simp] theorem sq_rt {f : Env → Sto → SR} {d : D} : SR.sq (.ok (.rt d) ρ M) f = .ok (.rt d) ρ M := (rfl)
@[simp] theorem sq_bk {f : Env → Sto → SR} : SR.sq (.ok .bk ρ M) f = .ok .bk ρ M := (rfl)
@[simp] theorem sq_ct {f : Env → Sto → SR} : SR.sq (.ok .ct ρ M) f = .ok .ct ρ M := (rfl)
@[simp] theorem ofO_some {a : α} : ofO (some a) M = .ok a M := (rfl)
end
section
variable {M : Sto} {i j : Int} {x y : Str} {ds es : List D}
@[simp] theorem b_add : binop .add (.int i) (.int j) = some (.int (i + j)) := (rfl)
@[simp] theorem b_sub : binop .sub (.int i) (.int j) = some (.int (i - j)) := (rfl)
theorem b_mul (h : i.natAbs.log2 + j.natAbs.log2 < 1000000) : binop .mul (.int i) (.int j) = some (.int (i * j)) := if_pos (.inr (.inr h))
theorem b_mulR (h1 : -(2 ^ 64) < j) (h2 : j < 2 ^ 64) : binop .mul (.int i) (.int j) = some (.int (i * j)) := if_pos (.inr (.inl ⟨h1, h2⟩))
theorem b_mulL (h1 : -(2 ^ 64) < i) (h2 : i < 2 ^ 64) : binop .mul (.int i) (.int j) = some (.int (i * j)) := if_pos (.inl ⟨h1, h2⟩)
theorem b_mod (h : 0 < j) : binop .mod (.int i) (.int j) = some (.int (i % j)) := if_pos h
theorem b_fdiv (h : 0 < j) (h2 : j.natAbs.log2 < 9000) : binop .fdiv (.int i) (.int j) = some (.int (i / j)) := if_pos ⟨h, .inl h2⟩
theorem b_fdivS (h : 0 < j) (h2 : j < 1073741824) : binop .fdiv (.int i) (.int j) = some (.int (i / j)) := if_pos ⟨h, .inr h2⟩
theorem b_pow (h1 : 0 ≤ j) (h2 : j ≤ 1000000) (h3 : i.natAbs < 2 ^ 64) : binop .pow (.int i) (.int j) = some (.int (i ^ j.toNat)) := if_pos ⟨h1, h2, h3⟩
theorem b_tup (h : ds.length + es.length ≤ sizeLine) : binop .add (.tup ds) (.tup es) = some (.tup (ds ++ es)) := if_pos h
theorem b_lst (h : ds.length + es.length ≤ sizeLine) : binop .add (.lst ds) (.lst es) = some (.lst (ds ++ es)) := if_pos h
@[simp] theorem c_lt : cmpop M .lt (.int i) (.int j) = some (decide (i < j)) := (rfl)
@[simp] theorem c_le : cmpop M .le (.int i) (.int j) = some (decide (i ≤ j)) := (rfl)
@[simp] theorem c_gt : cmpop M .gt (.int i) (.int j) = some (decide (j < i)) := (rfl)
@[simp] theorem c_ge : cmpop M .ge (.int i) (.int j) = some (decide (j ≤ i)) := (rfl)
theorem eq_int : eqD (.int i) (.int j) = some (i == j) := by
  have a : ∀ i : Int, (D.int i).okE = true := fun _ => by
    show (true && SeqAt.shaped (.int i)) = true
    unfold SeqAt.shaped
    simp [PyData.canLay0, PyData.depth]
  unfold eqD
  rw [a, a]
  show some (PyData.eqv (.int i) (.int j)) = _
  simp [PyData.eqv]
@[simp] theorem c_eq : cmpop M .eq (.int i) (.int j) = some (i == j) := eq_int
@[simp] theorem c_ne : cmpop M .ne (.int i) (.int j) = some (!(i == j)) := by
  show (eqD (.int i) (.int j)).map (!·) = _
  rw [eq_int]; rfl
@[simp] theorem t_gcd : blt M .gcd [.int i, .int j] = some (.int ((Nat.gcd i.natAbs j.natAbs : Nat) : Int)) := (rfl)
@[simp] theorem t_min : blt M .min2 [.int i, .int j] = some (.int (if j < i then j else i)) := (rfl)
@[simp] theorem t_max : blt M .max2 [.int i, .int j] = some (.int (if j > i then j else i)) := (rfl)
@[simp] theorem t_abs : blt M .abs [.int i] = some (.int (if i < 0 then -i else i)) := (rfl)
@[simp] theorem t_int : blt M .int [.int i] = some (.int i) := (rfl)
@[simp] theorem t_lenT : blt M .len [.tup ds] = some (.int ds.length) := (rfl)
@[simp] theorem t_lenL : blt M .len [.lst ds] = some (.int ds.length) := (rfl)
@[simp] theorem t_lenF : blt M .len [.frl ds] = some (.int ds.length) := (rfl)
@[simp] theorem t_tupL : blt M .tuple [.lst ds] = some (.tup ds) := (rfl)
@[simp] theorem t_tupT : blt M .tuple [.tup ds] = some (.tup ds) := (rfl)
@[simp] theorem t_tupF : blt M .tuple [.frl ds] = some (.tup ds) := (rfl)
@[simp] theorem t_lstL : blt M .list [.lst ds] = some (.lst ds) := (rfl)
@[simp] theorem t_lstT : blt M .list [.tup ds] = some (.lst ds) := (rfl)
@[simp] theorem i_tup : idx M (.tup ds) (.int i) = atI ds i := (rfl)
@[simp] theorem i_lst : idx M (.lst ds) (.int i) = atI ds i := (rfl)
@[simp] theorem i_frl : idx M (.frl ds) (.int i) = atI ds i := (rfl)
end
end Iv
end

section
set_option Elab.async false
set_option linter.all false
set_option maxHeartbeats 1000000
/-! calls -/
namespace Iv
open PySem L2
/-- each parameter by its place -/
def Shape.isP (s : Shape) (n : Nat) : Bool := decide (s.np + s.ks.length = n) && match n with
  | 1 => (match s.out with | [.inl 0] => true | _ => false)
  | 2 => (match s.out with | [.inl 0, .inl 1] => true | _ => false)
  | 3 => (match s.out with | [.inl 0, .inl 1, .inl 2] => true | _ => false)
  | _ => false
theorem Shape.isP_len {s : Shape} {n : Nat} (h : s.isP n = true) : s.np + s.ks.length = n := by
  unfold Shape.isP at h
  simp at h
  exact h.1
theorem Shape.isP_place {s : Shape} {n : Nat} (h : s.isP n = true) {vs : List D} (hl : vs.length = n) : s.place vs = some vs := by
  unfold Shape.isP at h
  simp at h
  obtain ⟨_, h⟩ := h
  unfold Shape.place
  match n, vs, hl, h with
  | 0, _, _, h => simp at h
  | 1, [a], _, h =>
    simp at h
    split at h
    · rename_i e; rw [e]; rfl
    · simp at h
  | 2, [a, b], _, h =>
    simp at h
    split at h
    · rename_i e; rw [e]; rfl
    · simp at h
  | 3, [a, b, c], _, h =>
    simp at h
    split at h
    · rename_i e; rw [e]; rfl
    · simp at h
variable {T : Lp} {cl : Nat → List D → Mo D} {f sh n : Nat} {es ks : Exs} {ρ : Env} {M M1 M2 : Sto} {fd : Fd} {s : Shape} {ds zs : List D}
theorem ev_call (h : T.fd f = some fd) (hs : fd.shapes[sh]? = some s) (he : evs T cl es ρ M = .ok ds M1) (hk : evs T cl ks ρ M1 = .ok zs M2)
    (hp : s.isP n = true) (hd : ds.length = s.np) (hz : zs.length = s.ks.length) : ev T cl (.call f sh es ks) ρ M = cl f (ds ++ zs) M2 := by
  have hl : (ds ++ zs).length = n := by rw [List.length_append, hd, hz]; exact Shape.isP_len hp
  have hq : (if ds.length = s.np ∧ zs.length = s.ks.length then match s.place (ds ++ zs) with
        | some vs => cl f vs
        | none => bad
        else bad) = cl f (ds ++ zs) := by
    rw [if_pos ⟨hd, hz⟩, Shape.isP_place hp hl]
  show ((evs T cl es ρ).bind fun ds => (evs T cl ks ρ).bind fun zs => match T.fd f with
    | some fd => match fd.shapes[sh]? with
      | some s => if ds.length = s.np ∧ zs.length = s.ks.length then match s.place (ds ++ zs) with
        | some vs => cl f vs
        | none => bad
        else bad
      | none => bad
    | none => bad) M = _
  rw [bind_ok he, bind_ok hk, h]
  show (match fd.shapes[sh]? with
      | some s => if ds.length = s.np ∧ zs.length = s.ks.length then match s.place (ds ++ zs) with
        | some vs => cl f vs
        | none => bad
        else bad
      | none => bad) M2 = _
  rw [hs]
  exact congrFun hq M2
theorem evt_call (h : T.fd f = some fd) (hs : fd.shapes[sh]? = some s) (he : evs T cl es ρ M = .ok ds M1) (hk : evs T cl ks ρ M1 = .ok zs M2)
    (hp : s.isP n = true) (hd : ds.length = s.np) (hz : zs.length = s.ks.length) {d : D} {M3 : Sto} (hc : cl f (ds ++ zs) M2 = .ok d M3) : evt T cl (.call f sh es ks) ρ M = ofO (tru M3 d) M3 := by
  have hl : (ds ++ zs).length = n := by rw [List.length_append, hd, hz]; exact Shape.isP_len hp
  have hq : (if ds.length = s.np ∧ zs.length = s.ks.length then match s.place (ds ++ zs) with
        | some vs => (cl f vs).bind fun z => fun M => ofO (tru M z) M
        | none => bad
        else bad) = (cl f (ds ++ zs)).bind fun z => fun M => ofO (tru M z) M := by
    rw [if_pos ⟨hd, hz⟩, Shape.isP_place hp hl]
  show ((evs T cl es ρ).bind fun ds => (evs T cl ks ρ).bind fun zs => match T.fd f with
    | some fd => match fd.shapes[sh]? with
      | some s => if ds.length = s.np ∧ zs.length = s.ks.length then match s.place (ds ++ zs) with
        | some vs => (cl f vs).bind fun z => fun M => ofO (tru M z) M
        | none => bad
        else bad
      | none => bad
    | none => bad) M = _
  rw [bind_ok he, bind_ok hk, h]
  show (match fd.shapes[sh]? with
      | some s => if ds.length = s.np ∧ zs.length = s.ks.length then match s.place (ds ++ zs) with
        | some vs => (cl f vs).bind fun z => fun M => ofO (tru M z) M
        | none => bad
        else bad
      | none => bad) M2 = _
  rw [hs]
  refine (congrFun hq M2).trans ?_
  rw [bind_ok hc]
theorem ev_callP (h : T.fd f = some fd) (hs : fd.shapes[sh]? = some s) (hp : s.isP n = true) (hk : s.ks = []) :
    ev T cl (.call f sh es .nil) ρ M = ((evs T cl es ρ).bind fun ds => if ds.length = n then cl f ds else bad) M := by
  show ((evs T cl es ρ).bind fun ds => (evs T cl .nil ρ).bind fun zs => match T.fd f with
    | some fd => match fd.shapes[sh]? with
      | some s => if ds.length = s.np ∧ zs.length = s.ks.length then match s.place (ds ++ zs) with
        | some vs => cl f vs
        | none => bad
        else bad
      | none => bad
    | none => bad) M = _
  rw [h]
  simp only [hs]
  congr 1
  funext ds M'
  show (if ds.length = s.np ∧ ([] : List D).length = s.ks.length then match s.place (ds ++ []) with
        | some vs => cl f vs
        | none => bad
        else bad) M' = _
  have hn := Shape.isP_len hp
  rw [hk] at hn
  rw [hk, List.append_nil]
  by_cases c : ds.length = n
  · rw [if_pos ⟨by rw [c]; exact hn.symm, rfl⟩, Shape.isP_place hp c, if_pos c]
  · rw [if_neg (fun q => c (by rw [q.1]; exact hn)), if_neg c]
theorem evt_callP (h : T.fd f = some fd) (hs : fd.shapes[sh]? = some s) (hp : s.isP n = true) (hk : s.ks = []) :
    evt T cl (.call f sh es .nil) ρ M = ((evs T cl es ρ).bind fun ds => if ds.length = n then (cl f ds).bind fun z => fun M => ofO (tru M z) M else bad) M := by
  show ((evs T cl es ρ).bind fun ds => (evs T cl .nil ρ).bind fun zs => match T.fd f with
    | some fd => match fd.shapes[sh]? with
      | some s => if ds.length = s.np ∧ zs.length = s.ks.length then match s.place (ds ++ zs) with
        | some vs => (cl f vs).bind fun z => fun M => ofO (tru M z) M
        | none => bad
        else bad
      | none => bad
    | none => bad) M = _
  rw [h]
  simp only [hs]
  congr 1
  funext ds M'
  show (if ds.length = s.np ∧ ([] : List D).length = s.ks.length then match s.place (ds ++ []) with
        | some vs => (cl f vs).bind fun z => fun M => ofO (tru M z) M
        | none => bad
        else bad) M' = _
  have hn := Shape.isP_len hp
  rw [hk] at hn
  rw [hk, List.append_nil]
  by_cases c : ds.length = n
  · rw [if_pos ⟨by rw [c]; exact hn.symm, rfl⟩, Shape.isP_place hp c, if_pos c]
  · rw [if_neg (fun q => c (by rw [q.1]; exact hn)), if_neg c]
theorem ev_callK (h : T.fd f = some fd) (hs : fd.shapes[sh]? = some s) (hp : s.isP n = true) (hk : s.np = 0) :
    ev T cl (.call f sh .nil ks) ρ M = ((evs T cl ks ρ).bind fun ds => if ds.length = n then cl f ds else bad) M := by
  show ((evs T cl ks ρ).bind fun zs => match T.fd f with
    | some fd => match fd.shapes[sh]? with
      | some s => if ([] : List D).length = s.np ∧ zs.length = s.ks.length then match s.place ([] ++ zs) with
        | some vs => cl f vs
        | none => bad
        else bad
      | none => bad
    | none => bad) M = _
  rw [h]
  simp only [hs]
  congr 1
  funext ds M'
  have hn := Shape.isP_len hp
  rw [hk, Nat.zero_add] at hn
  rw [hk, List.nil_append]
  by_cases c : ds.length = n
  · rw [if_pos ⟨rfl, by rw [c]; exact hn.symm⟩, Shape.isP_place hp c, if_pos c]
  · rw [if_neg (fun q => c (by rw [q.2]; exact hn)), if_neg c]
end Iv
end

section
set_option Elab.async false
set_option linter.all false
set_option maxHeartbeats 1000000
/-! IvLem3: the readings' equations, one step each. -/
namespace Iv
open PySem L2
/-- a mark that hangs on f: so simp lets f alone -/
structure Tag {γ : Type} (f : γ) : Type where
def Res.bd {α β : Type} (r : Res α) (f : α → Sto → Res β) (_t : Tag f := ⟨⟩) : Res β := match r with
  | .ok a M' => f a M'
  | .exc c p M' => .exc c p M'
  | .bad => .bad
@[simp] theorem Res.bd_ok {α β : Type} {a : α} {M : Sto} {f : α → Sto → Res β} : Res.bd (.ok a M) f = f a M := (rfl)
theorem bdc {α β : Type} {r : Res α} {f g : α → Sto → Res β} {t : Tag f} {u : Tag g} (h : ∀ a M, f a M = g a M) : Res.bd r f t = Res.bd r g u := by
  obtain rfl : f = g := funext fun a => funext fun M => h a M
  rfl
def SR.bt {α : Type} (ρ : Env) (r : Res α) (f : α → Sto → SR) (_t : Tag f := ⟨⟩) : SR := SR.bd ρ r f
theorem sbdc {α : Type} {ρ : Env} {r : Res α} {f g : α → Sto → SR} {t : Tag f} {u : Tag g} (h : ∀ a M, f a M = g a M) : SR.bt ρ r f t = SR.bt ρ r g u := by
  obtain rfl : f = g := funext fun a => funext fun M => h a M
  rfl
def oR {α : Type} (o : Option α) (M : Sto) : Res α := match o with
  | some a => .ok a M
  | none => .bad
@[simp] theorem oR_some {α : Type} {a : α} {M : Sto} : oR (some a) M = .ok a M := (rfl)
@[simp] theorem sR_bd {α : Type} {ρ : Env} {a : α} {M : Sto} {f : α → Sto → SR} : SR.bt ρ (.ok a M) f = f a M := (rfl)
theorem bindM {α β : Type} {m : Mo α} {f : α → Mo β} {M : Sto} : (m.bind f) M = Res.bd (m M) f := (rfl)
theorem ofO_eq {α : Type} {o : Option α} {M : Sto} : ofO o M = oR o M := by cases o <;> rfl
theorem ofO_fn {α : Type} : @ofO α = @oR α := by
  funext o M
  exact ofO_eq
def okIw {α : Type} (c : Prop) [Decidable c] (a : α) (M : Sto) : Res α := if c then .ok a M else .bad
@[simp] theorem okIw_true {α : Type} {i : Decidable True} {a : α} {M : Sto} : @okIw α True i a M = .ok a M := if_pos trivial
theorem okIw_pos {α : Type} {c : Prop} [Decidable c] {a : α} {M : Sto} (h : c) : okIw c a M = .ok a M := if_pos h
section
variable {T : Lp} {cl : Nat → List D → Mo D} {ρ : Env} {M : Sto}
@[simp] theorem ev_var {i : Nat} : ev T cl (.var i) ρ M = oR (ρ[i]?.join) M := ofO_eq
@[simp] theorem ev_lit {d : D} : ev T cl (.lit d) ρ M = .ok d M := (rfl)
@[simp] theorem ev_glob {x : Nat} : ev T cl (.glob x) ρ M = oR (T.gv x) M := ofO_eq
@[simp] theorem ev_bin {o : Bop} {a b : Ex} : ev T cl (.bin o a b) ρ M = Res.bd (ev T cl a ρ M) fun x M1 => Res.bd (ev T cl b ρ M1) fun y M2 => oR (binop o x y) M2 := by
  show Res.bd (ev T cl a ρ M) (fun x M1 => Res.bd (ev T cl b ρ M1) fun y M2 => ofO (binop o x y) M2) = _
  try rw [@ofO_fn Iv.D]
  try rw [@ofO_fn Bool]
def negD : D → Option D
  | .int i => some (.int (-i))
  | _ => none
@[simp] theorem negD_i {i : Int} : negD (.int i) = some (.int (-i)) := (rfl)
@[simp] theorem ev_neg {a : Ex} : ev T cl (.neg a) ρ M = Res.bd (ev T cl a ρ M) fun x M1 => oR (negD x) M1 := by
  show Res.bd (ev T cl a ρ M) _ = _
  refine bdc fun x M1 => ?_
  cases x <;> rfl
@[simp] theorem ev_nt {a : Ex} : ev T cl (.nt a) ρ M = Res.bd (ev T cl a ρ M) fun x M1 => oR ((tru M1 x).map fun b => .bl (!b)) M1 := by
  show Res.bd (ev T cl a ρ M) (fun x M1 => ofO ((tru M1 x).map fun b => D.bl (!b)) M1) = _
  try rw [@ofO_fn Iv.D]
  try rw [@ofO_fn Bool]
@[simp] theorem ev_conj {a b : Ex} : ev T cl (.conj a b) ρ M = Res.bd (ev T cl a ρ M) fun x M1 => Res.bd (oR (tru M1 x) M1) fun k M1 => if k then ev T cl b ρ M1 else .ok x M1 := by
  show Res.bd (ev T cl a ρ M) _ = _
  refine bdc fun x M1 => ?_
  cases tru M1 x with
  | none => rfl
  | some k => cases k <;> rfl
@[simp] theorem ev_disj {a b : Ex} : ev T cl (.disj a b) ρ M = Res.bd (ev T cl a ρ M) fun x M1 => Res.bd (oR (tru M1 x) M1) fun k M1 => if k then .ok x M1 else ev T cl b ρ M1 := by
  show Res.bd (ev T cl a ρ M) _ = _
  refine bdc fun x M1 => ?_
  cases tru M1 x with
  | none => rfl
  | some k => cases k <;> rfl
@[simp] theorem ev_cmp {o : Cop} {a b : Ex} : ev T cl (.cmp o a b) ρ M = Res.bd (ev T cl a ρ M) fun x M1 => Res.bd (ev T cl b ρ M1) fun y M2 => oR ((cmpop M2 o x y).map .bl) M2 := by
  show Res.bd (ev T cl a ρ M) (fun x M1 => Res.bd (ev T cl b ρ M1) fun y M2 => ofO ((cmpop M2 o x y).map D.bl) M2) = _
  try rw [@ofO_fn Iv.D]
  try rw [@ofO_fn Bool]
@[simp] theorem ev_chn {o o' : Cop} {a b c : Ex} : ev T cl (.chn o o' a b c) ρ M = Res.bd (ev T cl a ρ M) fun x M1 => Res.bd (ev T cl b ρ M1) fun y M2 => Res.bd (oR (cmpop M2 o x y) M2) fun k M2 => if k then Res.bd (ev T cl c ρ M2) fun z M3 => oR ((cmpop M3 o' y z).map .bl) M3 else .ok (.bl false) M2 := by
  show Res.bd (ev T cl a ρ M) _ = _
  refine bdc fun x M1 => ?_
  show Res.bd (ev T cl b ρ M1) _ = _
  refine bdc fun y M2 => ?_
  cases cmpop M2 o x y with
  | none => rfl
  | some k =>
    cases k
    · rfl
    · show Res.bd (ev T cl c ρ M2) (fun z M3 => ofO ((cmpop M3 o' y z).map D.bl) M3) = _
      try rw [@ofO_fn Iv.D]
      try rw [@ofO_fn Bool]
      rfl
@[simp] theorem ev_ite {c a b : Ex} : ev T cl (.ite c a b) ρ M = Res.bd (evt T cl c ρ M) fun k M1 => if k then ev T cl a ρ M1 else ev T cl b ρ M1 := by
  show Res.bd (evt T cl c ρ M) _ = _
  refine bdc fun k M1 => ?_
  cases k <;> rfl
@[simp] theorem ev_tup {es : Exs} : ev T cl (.tup es) ρ M = Res.bd (evs T cl es ρ M) fun ds M1 => okIw (ds.length ≤ sizeLine) (.tup ds) M1 := by
  show Res.bd (evs T cl es ρ M) _ = _
  refine bdc fun ds M1 => ?_
  unfold okIw
  split <;> simp_all [bad]
@[simp] theorem ev_lstF {es : Exs} : ev T cl (.lst false es) ρ M = Res.bd (evs T cl es ρ M) fun ds M1 => okIw (ds.length ≤ sizeLine) (.lst ds) M1 := by
  show Res.bd (evs T cl es ρ M) _ = _
  refine bdc fun ds M1 => ?_
  unfold okIw
  split <;> simp_all [bad]
@[simp] theorem ev_lstT {es : Exs} : ev T cl (.lst true es) ρ M = Res.bd (evs T cl es ρ M) fun ds M1 => okIw (ds.length ≤ sizeLine) (.loc M1.length) (M1 ++ [.lst ds]) := by
  show Res.bd (evs T cl es ρ M) _ = _
  refine bdc fun ds M1 => ?_
  unfold okIw
  split <;> simp_all [bad]
@[simp] theorem ev_idx {a b : Ex} : ev T cl (.idx a b) ρ M = Res.bd (ev T cl a ρ M) fun x M1 => Res.bd (ev T cl b ρ M1) fun y M2 => oR (idx M2 x y) M2 := by
  show Res.bd (ev T cl a ρ M) (fun x M1 => Res.bd (ev T cl b ρ M1) fun y M2 => ofO (idx M2 x y) M2) = _
  try rw [@ofO_fn Iv.D]
  try rw [@ofO_fn Bool]
@[simp] theorem ev_slc {a : Ex} {lo hi : Ox} : ev T cl (.slc a lo hi) ρ M = Res.bd (ev T cl a ρ M) fun x M1 => Res.bd (evo T cl lo ρ M1) fun l M2 => Res.bd (evo T cl hi ρ M2) fun h M3 => oR (slc M3 x l h) M3 := by
  show Res.bd (ev T cl a ρ M) (fun x M1 => Res.bd (evo T cl lo ρ M1) fun l M2 => Res.bd (evo T cl hi ρ M2) fun h M3 => ofO (slc M3 x l h) M3) = _
  try rw [@ofO_fn Iv.D]
  try rw [@ofO_fn Bool]
@[simp] theorem ev_bltF {f : Bf} {es : Exs} : ev T cl (.blt false f es) ρ M = Res.bd (evs T cl es ρ M) fun ds M1 => oR (blt M1 f ds) M1 := by
  show Res.bd (evs T cl es ρ M) _ = _
  refine bdc fun ds M1 => ?_
  cases blt M1 f ds <;> rfl
def locR (d : D) (M : Sto) : Res D := match d with
  | .lst xs => .ok (.loc M.length) (M ++ [.lst xs])
  | _ => .bad
@[simp] theorem locR_l {xs : List D} : locR (.lst xs) M = .ok (.loc M.length) (M ++ [.lst xs]) := (rfl)
@[simp] theorem ev_bltT {f : Bf} {es : Exs} : ev T cl (.blt true f es) ρ M = Res.bd (evs T cl es ρ M) fun ds M1 => Res.bd (oR (blt M1 f ds) M1) locR := by
  show Res.bd (evs T cl es ρ M) _ = _
  refine bdc fun ds M1 => ?_
  cases blt M1 f ds with
  | none => rfl
  | some d => cases d <;> rfl
@[simp] theorem ev_mth {m : Mt} {o : Ex} {es : Exs} : ev T cl (.mth m o es) ρ M = Res.bd (ev T cl o ρ M) fun x M1 => if recv M1 m x then Res.bd (evs T cl es ρ M1) (fun ds M2 => mth m x ds M2) else .bad := (rfl)
@[simp] theorem ev_compF {own : List Nat} {t : Tg} {it : It} {c : Ox} {e : Ex} : ev T cl (.comp false own t it c e) ρ M = Res.bd (evi T cl it ρ M) fun w M1 => Res.bd (compL w t (evc T cl c) (ev T cl e) (wipeE ρ own) w.items M1) fun ds M2 => okIw (ds.length ≤ sizeLine) (.lst ds) M2 := by
  show Res.bd (evi T cl it ρ M) _ = _
  refine bdc fun w M1 => ?_
  show Res.bd _ _ = _
  refine bdc fun ds M2 => ?_
  unfold okIw
  split <;> simp_all [bad]
@[simp] theorem ev_compT {own : List Nat} {t : Tg} {it : It} {c : Ox} {e : Ex} : ev T cl (.comp true own t it c e) ρ M = Res.bd (evi T cl it ρ M) fun w M1 => Res.bd (compL w t (evc T cl c) (ev T cl e) (wipeE ρ own) w.items M1) fun ds M2 => okIw (ds.length ≤ sizeLine) (.loc M2.length) (M2 ++ [.lst ds]) := by
  show Res.bd (evi T cl it ρ M) _ = _
  refine bdc fun w M1 => ?_
  show Res.bd _ _ = _
  refine bdc fun ds M2 => ?_
  unfold okIw
  split <;> simp_all [bad]
@[simp] theorem ev_comp2F {own own1 : List Nat} {t t1 : Tg} {it it1 : It} {c : Ox} {e : Ex} : ev T cl (.comp2 false own own1 t it t1 it1 c e) ρ M = Res.bd (evi T cl it ρ M) fun w M1 => Res.bd (compL2 w t (evi T cl it1) own1 t1 (evc T cl c) (ev T cl e) (wipeE ρ own) w.items M1) fun ds M2 => okIw (ds.length ≤ sizeLine) (.lst ds) M2 := by
  show Res.bd (evi T cl it ρ M) _ = _
  refine bdc fun w M1 => ?_
  show Res.bd _ _ = _
  refine bdc fun ds M2 => ?_
  unfold okIw
  split <;> simp_all [bad]
@[simp] theorem ev_comp2T {own own1 : List Nat} {t t1 : Tg} {it it1 : It} {c : Ox} {e : Ex} : ev T cl (.comp2 true own own1 t it t1 it1 c e) ρ M = Res.bd (evi T cl it ρ M) fun w M1 => Res.bd (compL2 w t (evi T cl it1) own1 t1 (evc T cl c) (ev T cl e) (wipeE ρ own) w.items M1) fun ds M2 => okIw (ds.length ≤ sizeLine) (.loc M2.length) (M2 ++ [.lst ds]) := by
  show Res.bd (evi T cl it ρ M) _ = _
  refine bdc fun w M1 => ?_
  show Res.bd _ _ = _
  refine bdc fun ds M2 => ?_
  unfold okIw
  split <;> simp_all [bad]
@[simp] theorem ev_dsp {ks : List Str} {es : Exs} : ev T cl (.dsp ks es) ρ M = Res.bd (evs T cl es ρ M) fun ds M1 => okIw (ks.length = ds.length ∧ ks.length ≤ 15 ∧ ks.Nodup) (.loc M1.length) (M1 ++ [.dct ((ks.map Sum.inr).zip ds)]) := by
  show Res.bd (evs T cl es ρ M) _ = _
  refine bdc fun ds M1 => ?_
  unfold okIw
  split <;> simp_all [bad]
def frzR (x : D) (M : Sto) : Res D := match x with
  | .loc n => match M[n]? with
    | some (.lst ds) => .ok (.lst ds) (M.set n .dead)
    | _ => .bad
  | _ => .bad
theorem frzR_ok {n : Nat} {ds : List D} (h : M[n]? = some (.lst ds)) : frzR (.loc n) M = .ok (.lst ds) (M.set n .dead) := by
  unfold frzR
  simp only [h]
@[simp] theorem ev_frz {a : Ex} : ev T cl (.frz a) ρ M = Res.bd (ev T cl a ρ M) frzR := by
  show Res.bd (ev T cl a ρ M) _ = _
  congr 1
@[simp] theorem evs_nil : evs T cl .nil ρ M = .ok [] M := (rfl)
@[simp] theorem evs_cons {e : Ex} {es : Exs} : evs T cl (.cons e es) ρ M = Res.bd (ev T cl e ρ M) fun d M1 => Res.bd (evs T cl es ρ M1) fun ds M2 => .ok (d :: ds) M2 := (rfl)
@[simp] theorem evo_non : evo T cl .non ρ M = .ok none M := (rfl)
def intR (x : D) (M : Sto) : Res (Option Int) := match x with
  | .int i => .ok (some i) M
  | _ => .bad
@[simp] theorem intR_i {i : Int} : intR (.int i) M = .ok (some i) M := (rfl)
@[simp] theorem evo_som {e : Ex} : evo T cl (.som e) ρ M = Res.bd (ev T cl e ρ M) intR := by
  show Res.bd (ev T cl e ρ M) _ = _
  refine bdc fun x M1 => ?_
  cases x <;> rfl
@[simp] theorem evc_non : evc T cl .non ρ M = .ok true M := (rfl)
@[simp] theorem evc_som {e : Ex} : evc T cl (.som e) ρ M = evt T cl e ρ M := (rfl)
/-! truth -/
@[simp] theorem evt_conj {a b : Ex} : evt T cl (.conj a b) ρ M = Res.bd (evt T cl a ρ M) fun k M1 => if k then evt T cl b ρ M1 else .ok false M1 := by
  show Res.bd (evt T cl a ρ M) _ = _
  refine bdc fun k M1 => ?_
  cases k <;> rfl
@[simp] theorem evt_disj {a b : Ex} : evt T cl (.disj a b) ρ M = Res.bd (evt T cl a ρ M) fun k M1 => if k then .ok true M1 else evt T cl b ρ M1 := by
  show Res.bd (evt T cl a ρ M) _ = _
  refine bdc fun k M1 => ?_
  cases k <;> rfl
@[simp] theorem evt_nt {a : Ex} : evt T cl (.nt a) ρ M = Res.bd (evt T cl a ρ M) fun k M1 => .ok (!k) M1 := (rfl)
@[simp] theorem evt_var {i : Nat} : evt T cl (.var i) ρ M = Res.bd (oR (ρ[i]?.join) M) fun x M1 => oR (tru M1 x) M1 := by
  show Res.bd (ofO _ M) (fun x M1 => ofO (tru M1 x) M1) = _
  try rw [@ofO_fn Iv.D]
  try rw [@ofO_fn Bool]
@[simp] theorem evt_lit {d : D} : evt T cl (.lit d) ρ M = oR (tru M d) M := ofO_eq
@[simp] theorem evt_cmp {o : Cop} {a b : Ex} : evt T cl (.cmp o a b) ρ M = Res.bd (ev T cl a ρ M) fun x M1 => Res.bd (ev T cl b ρ M1) fun y M2 => oR (cmpop M2 o x y) M2 := by
  show Res.bd (ev T cl a ρ M) (fun x M1 => Res.bd (ev T cl b ρ M1) fun y M2 => ofO (cmpop M2 o x y) M2) = _
  try rw [@ofO_fn Iv.D]
  try rw [@ofO_fn Bool]
@[simp] theorem evt_chn {o o' : Cop} {a b c : Ex} : evt T cl (.chn o o' a b c) ρ M = Res.bd (ev T cl a ρ M) fun x M1 => Res.bd (ev T cl b ρ M1) fun y M2 => Res.bd (oR (cmpop M2 o x y) M2) fun k M2 => if k then Res.bd (ev T cl c ρ M2) fun z M3 => oR (cmpop M3 o' y z) M3 else .ok false M2 := by
  show Res.bd (ev T cl a ρ M) _ = _
  refine bdc fun x M1 => ?_
  show Res.bd (ev T cl b ρ M1) _ = _
  refine bdc fun y M2 => ?_
  cases cmpop M2 o x y with
  | none => rfl
  | some k =>
    cases k
    · rfl
    · show Res.bd (ev T cl c ρ M2) (fun z M3 => ofO (cmpop M3 o' y z) M3) = _
      try rw [@ofO_fn Iv.D]
      try rw [@ofO_fn Bool]
      rfl
@[simp] theorem evt_bin {o : Bop} {a b : Ex} : evt T cl (.bin o a b) ρ M = Res.bd (ev T cl a ρ M) fun x M1 => Res.bd (ev T cl b ρ M1) fun y M2 => Res.bd (oR (binop o x y) M2) fun z M3 => oR (tru M3 z) M3 := by
  show Res.bd (ev T cl a ρ M) (fun x M1 => Res.bd (ev T cl b ρ M1) fun y M2 => Res.bd (ofO (binop o x y) M2) fun z M3 => ofO (tru M3 z) M3) = _
  try rw [@ofO_fn Iv.D]
  try rw [@ofO_fn Bool]
@[simp] theorem evt_idx {a b : Ex} : evt T cl (.idx a b) ρ M = Res.bd (ev T cl a ρ M) fun x M1 => Res.bd (ev T cl b ρ M1) fun y M2 => Res.bd (oR (idx M2 x y) M2) fun z M3 => oR (tru M3 z) M3 := by
  show Res.bd (ev T cl a ρ M) (fun x M1 => Res.bd (ev T cl b ρ M1) fun y M2 => Res.bd (ofO (idx M2 x y) M2) fun z M3 => ofO (tru M3 z) M3) = _
  try rw [@ofO_fn Iv.D]
  try rw [@ofO_fn Bool]
@[simp] theorem evt_blt {f : Bf} {es : Exs} : evt T cl (.blt false f es) ρ M = Res.bd (evs T cl es ρ M) fun ds M1 => Res.bd (oR (blt M1 f ds) M1) fun z M1 => oR (tru M1 z) M1 := by
  show Res.bd (evs T cl es ρ M) _ = _
  refine bdc fun ds M1 => ?_
  cases blt M1 f ds with
  | none => rfl
  | some d => exact ofO_eq
/-! what is walked -/
def seqR (x : D) (M : Sto) : Res Wk := match seqOf M x with
  | some ds => .ok ⟨ds, srcOf M x⟩ M
  | none => .bad
@[simp] theorem seqR_t {ds : List D} : seqR (.tup ds) M = .ok ⟨ds, []⟩ M := (rfl)
@[simp] theorem seqR_l {ds : List D} : seqR (.lst ds) M = .ok ⟨ds, []⟩ M := (rfl)
@[simp] theorem seqR_f {ds : List D} : seqR (.frl ds) M = .ok ⟨ds, []⟩ M := (rfl)
@[simp] theorem evi_seq {e : Ex} : evi T cl (.seq e) ρ M = Res.bd (ev T cl e ρ M) seqR := by
  show Res.bd (ev T cl e ρ M) _ = _
  congr 1
def rngR (x : D) (M : Sto) : Res Wk := match x with
  | .int j => okIw (-(2 ^ 62) ≤ j ∧ j < 2 ^ 62) ⟨(List.range j.toNat).map fun i => .int (i : Nat), []⟩ M
  | _ => .bad
theorem rngR_i {j : Int} (h : -(2 ^ 62) ≤ j ∧ j < 2 ^ 62) : rngR (.int j) M = .ok ⟨(List.range j.toNat).map fun i => .int (i : Nat), []⟩ M := if_pos h
@[simp] theorem evi_rng {e : Ex} : evi T cl (.rng e) ρ M = Res.bd (ev T cl e ρ M) rngR := by
  show Res.bd (ev T cl e ρ M) _ = _
  refine bdc fun x M1 => ?_
  cases x <;> try rfl
  unfold rngR okIw
  simp only
  split <;> simp_all [bad]
def zipR (x y : D) (M : Sto) : Res Wk := match seqOf M x, seqOf M y with
    | some xs, some ys => .ok ⟨(xs.zip ys).map fun p => .tup [p.1, p.2], srcOf M x ++ srcOf M y⟩ M
    | _, _ => .bad
theorem zipR_ok {x y : D} {xs ys : List D} (h : seqOf M x = some xs) (k : seqOf M y = some ys) (h0 : srcOf M x = []) (k0 : srcOf M y = []) : zipR x y M = .ok ⟨(xs.zip ys).map fun p => .tup [p.1, p.2], []⟩ M := by
  unfold zipR
  rw [h, k, h0, k0]
  rfl
@[simp] theorem evi_zip {a b : Ex} : evi T cl (.zip a b) ρ M = Res.bd (ev T cl a ρ M) fun x M1 => Res.bd (ev T cl b ρ M1) fun y M2 => zipR x y M2 := by
  show Res.bd (ev T cl a ρ M) _ = _
  congr 1
def optR (o : Option (List D)) (M : Sto) : Res Wk := match o with
  | some ds => .ok ⟨ds, []⟩ M
  | none => .bad
@[simp] theorem optR_some {ds : List D} : optR (some ds) M = .ok ⟨ds, []⟩ M := (rfl)
@[simp] theorem evi_dks {e : Ex} : evi T cl (.dks e) ρ M = Res.bd (ev T cl e ρ M) fun x M1 => optR (keysD x) M1 := by
  show Res.bd (ev T cl e ρ M) _ = _
  refine bdc fun x M1 => ?_
  cases keysD x <;> rfl
def zip3R (x y z : D) (M : Sto) : Res Wk := match seqOf M x, seqOf M y, seqOf M z with
    | some xs, some ys, some zs => .ok ⟨(xs.zip (ys.zip zs)).map fun p => .tup [p.1, p.2.1, p.2.2], srcOf M x ++ (srcOf M y ++ srcOf M z)⟩ M
    | _, _, _ => .bad
theorem zip3R_ok {x y z : D} {xs ys zs : List D} (h : seqOf M x = some xs) (k : seqOf M y = some ys) (l : seqOf M z = some zs) (h0 : srcOf M x = []) (k0 : srcOf M y = []) (l0 : srcOf M z = []) : zip3R x y z M = .ok ⟨(xs.zip (ys.zip zs)).map fun p => .tup [p.1, p.2.1, p.2.2], []⟩ M := by
  unfold zip3R
  rw [h, k, l, h0, k0, l0]
  rfl
@[simp] theorem evi_zip3 {a b c : Ex} : evi T cl (.zip3 a b c) ρ M = Res.bd (ev T cl a ρ M) fun x M1 => Res.bd (ev T cl b ρ M1) fun y M2 => Res.bd (ev T cl c ρ M2) fun z M3 => zip3R x y z M3 := by
  show Res.bd (ev T cl a ρ M) _ = _
  refine bdc fun x M1 => ?_
  show Res.bd (ev T cl b ρ M1) _ = _
  refine bdc fun y M2 => ?_
  show Res.bd (ev T cl c ρ M2) _ = _
  refine bdc fun z M3 => ?_
  rfl
@[simp] theorem ev_p1 {p : P1} {a : Ex} : ev T cl (.p1 p a) ρ M = Res.bd (ev T cl a ρ M) fun x M1 => oR (p1op p x) M1 := by
  show Res.bd (ev T cl a ρ M) _ = _
  exact bdc fun x M1 => ofO_eq
@[simp] theorem ev_p2 {p : P2} {a b : Ex} : ev T cl (.p2 p a b) ρ M = Res.bd (ev T cl a ρ M) fun x M1 => Res.bd (ev T cl b ρ M1) fun y M2 => oR (p2op p M2 x y) M2 := by
  show Res.bd (ev T cl a ρ M) _ = _
  refine bdc fun x M1 => ?_
  show Res.bd (ev T cl b ρ M1) _ = _
  exact bdc fun y M2 => ofO_eq
/-! statements -/
@[simp] theorem xss_nil : xss T cl .nil ρ M = .ok .nx ρ M := (rfl)
@[simp] theorem xss_cons {s : St} {ss : Sts} : xss T cl (.cons s ss) ρ M = .sq (xs T cl s ρ M) (xss T cl ss) := (rfl)
@[simp] theorem xs_ex {e : Ex} : xs T cl (.ex e) ρ M = SR.bt ρ (ev T cl e ρ M) fun _ M' => .ok .nx ρ M' := (rfl)
def bindR (t : Tg) (d : D) (ρ : Env) (M : Sto) : SR := match bindT t d ρ with
    | some ρ' => .ok .nx ρ' M
    | none => .bad
@[simp] theorem bindR_nm {i : Nat} {d : D} : bindR (.nm i) d ρ M = .ok .nx (ρ.set i (some d)) M := (rfl)
@[simp] theorem xs_asg {t : Tg} {e : Ex} : xs T cl (.asg t e) ρ M = SR.bt ρ (ev T cl e ρ M) fun d M' => bindR t d ρ M' := (rfl)
@[simp] theorem xs_par {i j : Nat} {a b : Ex} : xs T cl (.par i j a b) ρ M = SR.bt ρ (ev T cl a ρ M) fun x M1 => SR.bt ρ (ev T cl b ρ M1) fun y M2 => .ok .nx ((ρ.set i (some x)).set j (some y)) M2 := by
  show SR.bt ρ (evs T cl (.cons a (.cons b .nil)) ρ M) _ = _
  rw [evs_cons]
  cases ev T cl a ρ M with
  | ok x M1 =>
    simp only [Res.bd_ok, sR_bd, evs_cons]
    cases ev T cl b ρ M1 with
    | ok y M2 => rfl
    | exc => rfl
    | bad => rfl
  | exc => rfl
  | bad => rfl
/-- a call with names ahead of what is given -/
def clS (s : Shape) (m : List D → Mo D) (ds zs : List D) (M : Sto) : Res D := if ds.length = s.np ∧ zs.length = s.ks.length then match s.place (ds ++ zs) with
    | some vs => m vs M
    | none => .bad
  else .bad
theorem eS {f sh : Nat} {fd : Fd} {s : Shape} {es ks : Exs} (h : T.fd f = some fd) (hs : fd.shapes[sh]? = some s) : ev T cl (.call f sh es ks) ρ M = Res.bd (evs T cl es ρ M) fun ds M1 => Res.bd (evs T cl ks ρ M1) fun zs M2 => clS s (cl f) ds zs M2 := by
  show Res.bd (evs T cl es ρ M) _ = _
  refine bdc fun ds M1 => ?_
  show Res.bd (evs T cl ks ρ M1) _ = _
  refine bdc fun zs M2 => ?_
  simp only [h, hs]
  unfold clS
  split
  · split <;> simp_all [bad]
  · rfl
@[simp] theorem xs_par3 {i j l : Nat} {a b c : Ex} : xs T cl (.par3 i j l a b c) ρ M = SR.bt ρ (ev T cl a ρ M) fun x M1 => SR.bt ρ (ev T cl b ρ M1) fun y M2 => SR.bt ρ (ev T cl c ρ M2) fun z M3 => .ok .nx (((ρ.set i (some x)).set j (some y)).set l (some z)) M3 := by
  show SR.bt ρ (evs T cl (.cons a (.cons b (.cons c .nil))) ρ M) _ = _
  rw [evs_cons]
  cases ev T cl a ρ M with
  | ok x M1 =>
    simp only [Res.bd_ok, sR_bd, evs_cons]
    cases ev T cl b ρ M1 with
    | ok y M2 =>
      simp only [Res.bd_ok, sR_bd, evs_cons]
      cases ev T cl c ρ M2 with
      | ok z M3 => rfl
      | exc => rfl
      | bad => rfl
    | exc => rfl
    | bad => rfl
  | exc => rfl
  | bad => rfl
@[simp] theorem xs_sub {o i e : Ex} : xs T cl (.sub o i e) ρ M = SR.bt ρ (ev T cl e ρ M) fun v M1 => SR.bt ρ (ev T cl o ρ M1) fun x M2 => SR.bt ρ (ev T cl i ρ M2) fun y M3 => SR.bt ρ (setItem x y v M3) fun _ M4 => .ok .nx ρ M4 := (rfl)
def pairR (ρ : Env) (z : D) (M : Sto) (f : D → D → Sto → SR) : SR := match z with
  | .tup [v, w] => f v w M
  | _ => .bad
@[simp] theorem pairR_ok {v w : D} {f : D → D → Sto → SR} : pairR ρ (.tup [v, w]) M f = f v w M := (rfl)
@[simp] theorem xs_sub2 {o i p j e : Ex} : xs T cl (.sub2 o i p j e) ρ M = SR.bt ρ (ev T cl e ρ M) fun z M0 => pairR ρ z M0 fun v w M0 => SR.bt ρ (ev T cl o ρ M0) fun x M1 => SR.bt ρ (ev T cl i ρ M1) fun y M2 => SR.bt ρ (setItem x y v M2) fun _ M3 => SR.bt ρ (ev T cl p ρ M3) fun x' M4 => SR.bt ρ (ev T cl j ρ M4) fun y' M5 => SR.bt ρ (setItem x' y' w M5) fun _ M6 => .ok .nx ρ M6 := (rfl)
def augR (i : Nat) (o : Bop) (x y : D) (ρ : Env) (M : Sto) : SR := match augD o x y with
      | some z => .ok .nx (ρ.set i (some z)) M
      | none => .bad
@[simp] theorem xs_aug {i : Nat} {o : Bop} {e : Ex} {x : D} (h : ρ[i]?.join = some x) : xs T cl (.aug i o e) ρ M = SR.bt ρ (ev T cl e ρ M) fun y M' => augR i o x y ρ M' := by
  show (match ρ[i]?.join with
    | some x => SR.bt ρ (ev T cl e ρ M) fun y M' => match augD o x y with
      | some z => .ok .nx (ρ.set i (some z)) M'
      | none => .bad
    | none => .bad) = _
  rw [h]
  rfl
@[simp] theorem xs_ret {e : Ex} : xs T cl (.ret e) ρ M = SR.bt ρ (ev T cl e ρ M) fun d M' => .ok (.rt d) ρ M' := (rfl)
@[simp] theorem xs_retN : xs T cl .retN ρ M = .ok (.rt .non) ρ M := (rfl)
@[simp] theorem xs_iff {c : Ex} {a b : Sts} : xs T cl (.iff c a b) ρ M = SR.bt ρ (evt T cl c ρ M) fun k M' => if k then xss T cl a ρ M' else xss T cl b ρ M' := by
  show SR.bt ρ (evt T cl c ρ M) _ = _
  congr 1
@[simp] theorem xs_whl {c : Ex} {b : Sts} : xs T cl (.whl c b) ρ M = whileC (evt T cl c) (xss T cl b) ρ M := (rfl)
@[simp] theorem xs_fr {t : Tg} {it : It} {b : Sts} : xs T cl (.fr t it b) ρ M = SR.bt ρ (evi T cl it ρ M) fun w M' => forL w t (xss T cl b) w.items ρ M' := (rfl)
@[simp] theorem xs_brk : xs T cl .brk ρ M = .ok .bk ρ M := (rfl)
@[simp] theorem xs_cnt : xs T cl .cnt ρ M = .ok .ct ρ M := (rfl)
@[simp] theorem xs_pas : xs T cl .pas ρ M = .ok .nx ρ M := (rfl)
end
/-! calls -/
def clN (n : Nat) (g : List D → Mo D) (ds : List D) (M : Sto) : Res D := if ds.length = n then g ds M else .bad
@[simp] theorem clN1 {g : List D → Mo D} {a : D} {M : Sto} : clN 1 g [a] M = g [a] M := (rfl)
@[simp] theorem clN2 {g : List D → Mo D} {a b : D} {M : Sto} : clN 2 g [a, b] M = g [a, b] M := (rfl)
@[simp] theorem clN3 {g : List D → Mo D} {a b c : D} {M : Sto} : clN 3 g [a, b, c] M = g [a, b, c] M := (rfl)
section
variable {T : Lp} {cl : Nat → List D → Mo D} {f sh n : Nat} {es ks : Exs} {ρ : Env} {M : Sto} {fd : Fd} {s : Shape}
theorem eC (h : T.fd f = some fd) (hs : fd.shapes[sh]? = some s) (hp : s.isP n = true) (hk : s.ks = []) :
    ev T cl (.call f sh es .nil) ρ M = Res.bd (evs T cl es ρ M) fun ds M1 => clN n (cl f) ds M1 := by
  rw [ev_callP h hs hp hk]
  show Res.bd (evs T cl es ρ M) _ = _
  refine bdc fun ds M1 => ?_
  unfold clN
  split <;> rfl
theorem hC (h : T.fd f = some fd) (hs : fd.shapes[sh]? = some s) (hp : s.isP n = true) (hk : s.ks = []) :
    evt T cl (.call f sh es .nil) ρ M = Res.bd (evs T cl es ρ M) fun ds M1 => Res.bd (clN n (cl f) ds M1) fun z M2 => oR (tru M2 z) M2 := by
  rw [evt_callP h hs hp hk]
  show Res.bd (evs T cl es ρ M) _ = _
  refine bdc fun ds M1 => ?_
  unfold clN
  split
  · show Res.bd _ (fun z M2 => ofO (tru M2 z) M2) = _
    try rw [@ofO_fn Iv.D]
    try rw [@ofO_fn Bool]
  · rfl
theorem eK (h : T.fd f = some fd) (hs : fd.shapes[sh]? = some s) (hp : s.isP n = true) (hk : s.np = 0) :
    ev T cl (.call f sh .nil ks) ρ M = Res.bd (evs T cl ks ρ M) fun ds M1 => clN n (cl f) ds M1 := by
  rw [ev_callK h hs hp hk]
  show Res.bd (evs T cl ks ρ M) _ = _
  refine bdc fun ds M1 => ?_
  unfold clN
  split <;> rfl
end
/-! walks without a source -/
section
variable {t : Tg} {c : Env → Mo Bool} {e : Env → Mo D} {b : Env → Sto → SR} {ρ ρ1 ρ2 : Env} {M M1 M2 M3 : Sto} {d x : D} {ds xs : List D} {w : Wk}
theorem same_nil {ds : List D} : Wk.same ⟨ds, []⟩ M := fun p hp => absurd hp (by simp)
theorem compL_nil : compL w t c e ρ [] M = .ok [] M := (rfl)
open Classical in
theorem compL_consw (h : bindT t d ρ = some ρ1) (hc : c ρ1 M = .ok true M1) (he : e ρ1 M1 = .ok x M2) (hs : w.same M2) (hr : compL w t c e ρ ds M2 = .ok xs M3) : compL w t c e ρ (d :: ds) M = .ok (x :: xs) M3 := by
  show (match bindT t d ρ with
    | none => Res.bad
    | some ρ1 => match c ρ1 M with
      | .ok b M1 => if b then match e ρ1 M1 with
          | .ok x M2 => if w.same M2 then match compL w t c e ρ ds M2 with
            | .ok xs M3 => .ok (x :: xs) M3
            | _ => .bad
            else .bad
          | _ => .bad
        else if w.same M1 then compL w t c e ρ ds M1 else .bad
      | _ => .bad) = _
  simp only [h, hc, he, if_pos hs, hr, if_true]
open Classical in
theorem compL_skip (h : bindT t d ρ = some ρ1) (hc : c ρ1 M = .ok false M1) (hs : w.same M1) : compL w t c e ρ (d :: ds) M = compL w t c e ρ ds M1 := by
  show (match bindT t d ρ with
    | none => Res.bad
    | some ρ1 => match c ρ1 M with
      | .ok b M1 => if b then match e ρ1 M1 with
          | .ok x M2 => if w.same M2 then match compL w t c e ρ ds M2 with
            | .ok xs M3 => .ok (x :: xs) M3
            | _ => .bad
            else .bad
          | _ => .bad
        else if w.same M1 then compL w t c e ρ ds M1 else .bad
      | _ => .bad) = _
  simp [h, hc, if_pos hs]
/-- [f d for d in ds], the store unchanged -/
theorem compL_map {f : D → D} (g : D → Env) : ∀ ds : List D, (∀ d ∈ ds, bindT t d ρ = some (g d)) → (∀ d ∈ ds, c (g d) M = .ok true M) → (∀ d ∈ ds, e (g d) M = .ok (f d) M) → w.same M → compL w t c e ρ ds M = .ok (ds.map f) M
  | [], _, _, _, _ => rfl
  | d :: ds, h1, h2, h3, hs => compL_consw (h1 d (.head _)) (h2 d (.head _)) (h3 d (.head _)) hs (compL_map g ds (fun d h => h1 d (.tail _ h)) (fun d h => h2 d (.tail _ h)) (fun d h => h3 d (.tail _ h)) hs)
/-- two clauses, the store unchanged -/
theorem compL2_flat {t1 : Tg} {i1 : Env → Mo Wk} {own1 : List Nat} {f : D → List D} (hs : w.same M) : ∀ ds : List D, (∀ d ∈ ds, ∃ ρ1 k, bindT t d ρ = some ρ1 ∧ i1 ρ1 M = .ok k M ∧ compL k t1 c e (wipeE ρ1 own1) k.items M = .ok (f d) M) → compL2 w t i1 own1 t1 c e ρ ds M = .ok (ds.flatMap f) M
  | [], _ => rfl
  | d :: ds, h => by
    obtain ⟨ρ1, k, h1, h2, h3⟩ := h d (.head _)
    have ih := compL2_flat (t1 := t1) (i1 := i1) (own1 := own1) (f := f) hs ds fun d hd => h d (.tail _ hd)
    rw [compL2, h1]
    simp only [h2, h3, if_pos hs, ih, List.flatMap_cons]
theorem forL_nil : forL w t b [] ρ M = .ok .nx ρ M := (rfl)
open Classical in
theorem forL_nx (h : bindT t d ρ = some ρ1) (hb : b ρ1 M = .ok .nx ρ2 M2) (hs : w.same M2) : forL w t b (d :: ds) ρ M = forL w t b ds ρ2 M2 := by
  show (match bindT t d ρ with
    | none => SR.bad
    | some ρ1 => match b ρ1 M with
      | .ok .nx ρ2 M2 => if w.same M2 then forL w t b ds ρ2 M2 else .bad
      | .ok .ct ρ2 M2 => if w.same M2 then forL w t b ds ρ2 M2 else .bad
      | .ok .bk ρ2 M2 => .ok .nx ρ2 M2
      | r => r) = _
  simp only [h, hb, if_pos hs]
open Classical in
theorem forL_rt (h : bindT t d ρ = some ρ1) (hb : b ρ1 M = .ok (.rt x) ρ2 M2) : forL w t b (d :: ds) ρ M = .ok (.rt x) ρ2 M2 := by
  show (match bindT t d ρ with
    | none => SR.bad
    | some ρ1 => match b ρ1 M with
      | .ok .nx ρ2 M2 => if w.same M2 then forL w t b ds ρ2 M2 else .bad
      | .ok .ct ρ2 M2 => if w.same M2 then forL w t b ds ρ2 M2 else .bad
      | .ok .bk ρ2 M2 => .ok .nx ρ2 M2
      | r => r) = _
  simp only [h, hb]
/-- a walk that keeps P of what is walked, the names and the store -/
theorem forL_inv (P : List D → Env → Sto → Prop) (hstep : ∀ d ds ρ M, P (d :: ds) ρ M → ∃ ρ1 ρ2 M2, bindT t d ρ = some ρ1 ∧ b ρ1 M = .ok .nx ρ2 M2 ∧ w.same M2 ∧ P ds ρ2 M2) : ∀ ds ρ M, P ds ρ M → ∃ ρ' M', forL w t b ds ρ M = .ok .nx ρ' M' ∧ P [] ρ' M'
  | [], ρ, M, h => ⟨ρ, M, rfl, h⟩
  | d :: ds, ρ, M, h => by
    obtain ⟨ρ1, ρ2, M2, a, b', c', k⟩ := hstep d ds ρ M h
    obtain ⟨ρ', M', e, q⟩ := forL_inv P hstep ds ρ2 M2 k
    exact ⟨ρ', M', (forL_nx a b' c').trans e, q⟩
end
section
variable {c : Env → Mo Bool} {b : Env → Sto → SR} {ρ : Env} {M : Sto}
theorem whileN_mono : ∀ n m ρ M r, whileN c b n ρ M = some r → n ≤ m → whileN c b m ρ M = some r
  | 0, _, _, _, _, h, _ => by simp [whileN] at h
  | n + 1, 0, _, _, _, _, k => by omega
  | n + 1, m + 1, ρ, M, r, h, k => by
    unfold whileN at h ⊢
    split at h
    · split at h
      · exact whileN_mono n m _ _ _ h (by omega)
      · exact whileN_mono n m _ _ _ h (by omega)
      · exact h
      · exact h
    · exact h
    · exact h
    · exact h
theorem whileC_of {n : Nat} {r : SR} (h : whileN c b n ρ M = some r) : whileC c b ρ M = r := by
  have e : ∃ n r, whileN c b n ρ M = some r := ⟨n, r, h⟩
  unfold whileC
  rw [dif_pos e]
  have k := e.choose_spec.choose_spec
  have k1 := whileN_mono _ (max n e.choose) _ _ _ k (Nat.le_max_right _ _)
  have k2 := whileN_mono _ (max n e.choose) _ _ _ h (Nat.le_max_left _ _)
  rw [k1] at k2
  exact Option.some.inj k2
theorem whileN_t {n : Nat} {ρ2 : Env} {M1 M2 : Sto} {r : Option SR} (hc : c ρ M = .ok true M1) (hb : b ρ M1 = .ok .nx ρ2 M2) (h : whileN c b n ρ2 M2 = r) : whileN c b (n + 1) ρ M = r := by
  unfold whileN
  simp only [hc, hb, h]
theorem whileN_f {n : Nat} {M1 : Sto} (hc : c ρ M = .ok false M1) : whileN c b (n + 1) ρ M = some (.ok .nx ρ M1) := by
  unfold whileN
  simp only [hc]
end
end Iv
end

section
set_option Elab.async false
set_option linter.all false
set_option maxHeartbeats 1000000
/-! IvDat: data that may be shown and be compared -/
namespace Iv
open PySem L2
mutual
/-- whole numbers below 2^s, words, at most j deep -/
def D.gd (s : Nat) : Nat → D → Prop
  | _, .non => True
  | _, .bl _ => True
  | _, .int i => i.natAbs < 2 ^ s
  | _, .str x => PyData.strOk x = true ∧ PyData.strOk (reprText x) = true
  | j + 1, .tup ds => gds s j ds
  | j + 1, .lst ds => gds s j ds
  | j + 1, .frl ds => gds s j ds
  | _, _ => False
def gds (s : Nat) : Nat → List D → Prop
  | _, [] => True
  | j, d :: ds => d.gd s j ∧ gds s j ds
end
theorem gds_iff {s j : Nat} : ∀ {ds : List D}, gds s j ds ↔ ∀ d ∈ ds, d.gd s j
  | [] => by simp [gds]
  | d :: ds => by simp [gds, gds_iff (ds := ds)]
mutual
theorem gd_pu {s : Nat} : ∀ {j : Nat} {d : D}, d.gd s j → d.pu = true
  | _, .non, _ => (rfl)
  | _, .bl _, _ => (rfl)
  | _, .int _, _ => (rfl)
  | _, .str _, _ => (rfl)
  | j + 1, .tup ds, h => gds_pu (j := j) (ds := ds) (by simpa only [D.gd] using h)
  | j + 1, .lst ds, h => gds_pu (j := j) (ds := ds) (by simpa only [D.gd] using h)
  | j + 1, .frl ds, h => gds_pu (j := j) (ds := ds) (by simpa only [D.gd] using h)
  | 0, .tup _, h => by simp [D.gd] at h
  | 0, .lst _, h => by simp [D.gd] at h
  | 0, .frl _, h => by simp [D.gd] at h
  | _, .ty _, h => by simp [D.gd] at h
  | _, .fn _, h => by simp [D.gd] at h
  | _, .loc _, h => by simp [D.gd] at h
theorem gds_pu {s : Nat} : ∀ {j : Nat} {ds : List D}, gds s j ds → pus ds = true
  | _, [], _ => (rfl)
  | j, d :: ds, h => by
    have h' : d.gd s j ∧ gds s j ds := by simpa only [gds] using h
    show (d.pu && pus ds) = true
    rw [gd_pu h'.1, gds_pu h'.2]; rfl
end
mutual
theorem gd_lay {s : Nat} : ∀ {j : Nat} {d : D}, d.gd s j → d.py.canLay0 = true
  | _, .non, _ => by simp [D.py, PyData.canLay0]
  | _, .bl _, _ => by simp [D.py, PyData.canLay0]
  | _, .int _, _ => by simp [D.py, PyData.canLay0]
  | _, .str _, h => by
    simp only [D.gd] at h
    simpa [D.py, PyData.canLay0] using h.1
  | j + 1, .tup ds, h => by
    simp only [D.py, PyData.canLay0]
    exact gds_lay (j := j) (ds := ds) (by simpa only [D.gd] using h)
  | j + 1, .lst ds, h => by
    simp only [D.py, PyData.canLay0]
    exact gds_lay (j := j) (ds := ds) (by simpa only [D.gd] using h)
  | j + 1, .frl ds, h => by
    simp only [D.py, PyData.canLay0]
    exact gds_lay (j := j) (ds := ds) (by simpa only [D.gd] using h)
  | 0, .tup _, h => by simp [D.gd] at h
  | 0, .lst _, h => by simp [D.gd] at h
  | 0, .frl _, h => by simp [D.gd] at h
  | _, .ty _, h => by simp [D.gd] at h
  | _, .fn _, h => by simp [D.gd] at h
  | _, .loc _, h => by simp [D.gd] at h
theorem gds_lay {s : Nat} : ∀ {j : Nat} {ds : List D}, gds s j ds → PyData.canLayAll0 (pys ds) = true
  | _, [], _ => by simp [pys, PyData.canLayAll0]
  | j, d :: ds, h => by
    have h' : d.gd s j ∧ gds s j ds := by simpa only [gds] using h
    simp only [pys, PyData.canLayAll0, gd_lay h'.1, gds_lay h'.2, Bool.and_true]
end
mutual
theorem gd_depth {s : Nat} : ∀ {j : Nat} {d : D}, d.gd s j → d.py.depth ≤ j
  | _, .non, _ => by simp [D.py, PyData.depth]
  | _, .bl _, _ => by simp [D.py, PyData.depth]
  | _, .int _, _ => by simp [D.py, PyData.depth]
  | _, .str _, h => by simp [D.py, PyData.depth]
  | j + 1, .tup ds, h => by
    simp only [D.py, PyData.depth]
    have := gds_depth (j := j) (ds := ds) (by simpa only [D.gd] using h)
    omega
  | j + 1, .lst ds, h => by
    simp only [D.py, PyData.depth]
    have := gds_depth (j := j) (ds := ds) (by simpa only [D.gd] using h)
    omega
  | j + 1, .frl ds, h => by
    simp only [D.py, PyData.depth]
    have := gds_depth (j := j) (ds := ds) (by simpa only [D.gd] using h)
    omega
  | 0, .tup _, h => by simp [D.gd] at h
  | 0, .lst _, h => by simp [D.gd] at h
  | 0, .frl _, h => by simp [D.gd] at h
  | _, .ty _, h => by simp [D.gd] at h
  | _, .fn _, h => by simp [D.gd] at h
  | _, .loc _, h => by simp [D.gd] at h
theorem gds_depth {s : Nat} : ∀ {j : Nat} {ds : List D}, gds s j ds → PyData.depthAll (pys ds) ≤ j
  | _, [], _ => by simp [pys, PyData.depthAll]
  | j, d :: ds, h => by
    have h' : d.gd s j ∧ gds s j ds := by simpa only [gds] using h
    have := gd_depth h'.1
    have := gds_depth h'.2
    simp only [pys, PyData.depthAll]
    omega
end
theorem int_len {i : Int} {s : Nat} (hs : 0 < s) (h : i.natAbs < 2 ^ s) : (PyData.shown (.int i)).length ≤ s + 1 := by
  show (Str.ofString (toString i)).length ≤ s + 1
  rw [ofString_length]
  cases i with
  | ofNat n =>
    show (Nat.repr n).length ≤ s + 1
    have := nat_repr_length_le (n := n) hs h
    omega
  | negSucc n =>
    show ("-" ++ Nat.repr (n + 1)).length ≤ s + 1
    have := nat_repr_length_le (n := n + 1) hs h
    rw [String.length_append]
    show 1 + _ ≤ _
    omega
mutual
theorem gd_shorts {s : Nat} (hs : 0 < s) : ∀ {j : Nat} {d : D}, d.gd s j → d.py.intsShort (s + 1) = true
  | _, .non, _ => by simp [D.py, PyData.intsShort]
  | _, .bl _, _ => by simp [D.py, PyData.intsShort]
  | _, .int _, h => by
    have := int_len hs (by simpa only [D.gd] using h)
    simpa only [D.py, PyData.intsShort, decide_eq_true_eq] using this
  | _, .str _, h => by simp [D.py, PyData.intsShort]
  | j + 1, .tup ds, h => by
    simp only [D.py, PyData.intsShort]
    exact gds_shorts hs (j := j) (ds := ds) (by simpa only [D.gd] using h)
  | j + 1, .lst ds, h => by
    simp only [D.py, PyData.intsShort]
    exact gds_shorts hs (j := j) (ds := ds) (by simpa only [D.gd] using h)
  | j + 1, .frl ds, h => by
    simp only [D.py, PyData.intsShort]
    exact gds_shorts hs (j := j) (ds := ds) (by simpa only [D.gd] using h)
  | 0, .tup _, h => by simp [D.gd] at h
  | 0, .lst _, h => by simp [D.gd] at h
  | 0, .frl _, h => by simp [D.gd] at h
  | _, .ty _, h => by simp [D.gd] at h
  | _, .fn _, h => by simp [D.gd] at h
  | _, .loc _, h => by simp [D.gd] at h
theorem gds_shorts {s : Nat} (hs : 0 < s) : ∀ {j : Nat} {ds : List D}, gds s j ds → PyData.intsShortAll (s + 1) (pys ds) = true
  | _, [], _ => by simp [pys, PyData.intsShortAll]
  | j, d :: ds, h => by
    have h' : d.gd s j ∧ gds s j ds := by simpa only [gds] using h
    simp only [pys, PyData.intsShortAll, gd_shorts hs h'.1, gds_shorts hs h'.2, Bool.and_true]
end
mutual
theorem gd_show {s : Nat} (hs : s ≤ 1920) : ∀ {j : Nat} {d : D}, d.gd s j → d.py.showable = true
  | _, .non, _ => by simp [D.py, PyData.showable]
  | _, .bl _, _ => by simp [D.py, PyData.showable]
  | _, .int i, h => by
    have h' : i.natAbs < 2 ^ s := by simpa only [D.gd] using h
    simp only [D.py, PyData.showable, decide_eq_true_eq]
    by_cases c : i.natAbs = 0
    · rw [c]; decide
    · exact Nat.lt_of_lt_of_le ((Nat.log2_lt c).mpr h') hs
  | _, .str _, h => by simp [D.py, PyData.showable]
  | j + 1, .tup ds, h => by
    simp only [D.py, PyData.showable]
    exact gds_show hs (j := j) (ds := ds) (by simpa only [D.gd] using h)
  | j + 1, .lst ds, h => by
    simp only [D.py, PyData.showable]
    exact gds_show hs (j := j) (ds := ds) (by simpa only [D.gd] using h)
  | j + 1, .frl ds, h => by
    simp only [D.py, PyData.showable]
    exact gds_show hs (j := j) (ds := ds) (by simpa only [D.gd] using h)
  | 0, .tup _, h => by simp [D.gd] at h
  | 0, .lst _, h => by simp [D.gd] at h
  | 0, .frl _, h => by simp [D.gd] at h
  | _, .ty _, h => by simp [D.gd] at h
  | _, .fn _, h => by simp [D.gd] at h
  | _, .loc _, h => by simp [D.gd] at h
theorem gds_show {s : Nat} (hs : s ≤ 1920) : ∀ {j : Nat} {ds : List D}, gds s j ds → PyData.showableAll (pys ds) = true
  | _, [], _ => by simp [pys, PyData.showableAll]
  | j, d :: ds, h => by
    have h' : d.gd s j ∧ gds s j ds := by simpa only [gds] using h
    simp only [pys, PyData.showableAll, gd_show hs h'.1, gds_show hs h'.2, Bool.and_true]
end
theorem gd_okE {s j : Nat} {d : D} (h : d.gd s j) (hj : j ≤ 64) : d.okE = true := by
  have hd := gd_depth h
  unfold D.okE SeqAt.shaped
  rw [gd_pu h, gd_lay h]
  simp
  omega
theorem gd_okR {s j : Nat} {d : D} (h : d.gd s j) (hj : j ≤ 64) (h8 : 8 ≤ s) (hs : s ≤ 1900) (hb : d.py.bulk ≤ 8000) : okR d = true := by
  have hd := gd_depth h
  have hl := PyData.shown_le_bulk (s + 1) (by omega) d.py (PyData.leavesShort_of_canLay0 _ _ (gd_lay h) (gd_shorts (by omega) h))
  have hm : (s + 1 + 2) * d.py.bulk ≤ 1903 * 8000 := Nat.mul_le_mul (by omega) hb
  have hz : d.py.shown.length ≤ sizeLine := by
    rw [sizeLine_eq]
    omega
  unfold okR
  rw [gd_pu h, gd_show (by omega) h]
  simp only [Bool.true_and, Bool.and_eq_true, decide_eq_true_eq]
  exact ⟨hz, by omega⟩
theorem eqD_self {s j : Nat} {d : D} (h : d.gd s j) (hj : j ≤ 64) : eqD d d = some true := by
  unfold eqD
  rw [gd_okE h hj]
  show some (PyData.eqv d.py d.py) = _
  rw [SeqAt.eqv_refl _ (gd_lay h)]
theorem sok_of (s : String) : PyData.strOk (Str.ofString s) = true := by
  rw [Str.ofString_eq_toList]
  unfold PyData.strOk
  simp only [List.all_toArray, List.all_map, List.all_eq_true]
  intro c _
  have := c.valid
  simp only [Function.comp, decide_eq_true_eq]
  have h : c.toNat.isValidChar := c.valid
  rcases h with h | ⟨_, h⟩
  · omega
  · exact h
theorem sok_app {a b : Str} (h : PyData.strOk a = true) (k : PyData.strOk b = true) : PyData.strOk (a ++ b) = true := by
  show (a.cps ++ b.cps).all (· < 0x110000) = true
  rw [Array.all_append]
  unfold PyData.strOk at h k
  rw [h, k]
  rfl
theorem sok_from : ∀ (ts : List Str) (k : Nat) (acc : Str), PyData.strOk acc = true → (∀ t ∈ ts, PyData.strOk t = true) → PyData.strOk (textFrom k acc ts) = true
  | [], _, _, h, _ => h
  | t :: r, k, acc, h, hs => by
    refine sok_from r (k + 1) (acc ++ (if k > 0 then ", " else "" : String) ++ t) ?_ fun t ht => hs t (.tail _ ht)
    exact sok_app (sok_app h (sok_of _)) (hs t (.head _))
theorem sok_lst {ts : List Str} (h : ∀ t ∈ ts, PyData.strOk t = true) : PyData.strOk (listText ts) = true := sok_app (sok_from ts 0 _ (sok_of "[") h) (sok_of "]")
theorem sok_join : ∀ {ts : List Str}, (∀ t ∈ ts, PyData.strOk t = true) → PyData.strOk (Str.join ", " ts) = true
  | [], _ => sok_of ""
  | [x], h => h x (.head _)
  | x :: y :: r, h => sok_app (sok_app (h x (.head _)) (sok_of _)) (sok_join (ts := y :: r) fun t ht => h t (.tail _ ht))
theorem sok_tup {ts : List Str} (h : ∀ t ∈ ts, PyData.strOk t = true) : PyData.strOk (tupleText ts) = true := sok_app (sok_app (sok_of "(") (sok_join h)) (sok_of _)
mutual
theorem gd_sok {s : Nat} : ∀ {j : Nat} {d : D}, d.gd s j → PyData.strOk d.py.shown = true
  | _, .non, _ => sok_of "None"
  | _, .bl b, _ => by
    cases b
    · exact sok_of "False"
    · exact sok_of "True"
  | _, .int i, _ => sok_of _
  | _, .str _, h => by
    simp only [D.gd] at h
    simpa only [D.py, PyData.shown] using h.2
  | j + 1, .tup ds, h => by
    simp only [D.py, PyData.shown]
    exact sok_tup (gds_sok (j := j) (ds := ds) (by simpa only [D.gd] using h))
  | j + 1, .lst ds, h => by
    simp only [D.py, PyData.shown]
    exact sok_lst (gds_sok (j := j) (ds := ds) (by simpa only [D.gd] using h))
  | j + 1, .frl ds, h => by
    simp only [D.py, PyData.shown]
    exact sok_lst (gds_sok (j := j) (ds := ds) (by simpa only [D.gd] using h))
  | 0, .tup _, h => by simp [D.gd] at h
  | 0, .lst _, h => by simp [D.gd] at h
  | 0, .frl _, h => by simp [D.gd] at h
  | _, .ty _, h => by simp [D.gd] at h
  | _, .fn _, h => by simp [D.gd] at h
  | _, .loc _, h => by simp [D.gd] at h
theorem gds_sok {s : Nat} : ∀ {j : Nat} {ds : List D}, gds s j ds → ∀ t ∈ PyData.shownAll (pys ds), PyData.strOk t = true
  | _, [], _ => by simp [pys, PyData.shownAll]
  | j, d :: ds, h => by
    have h' : d.gd s j ∧ gds s j ds := by simpa only [gds] using h
    intro t ht
    simp only [pys, PyData.shownAll, List.mem_cons] at ht
    rcases ht with rfl | ht
    · exact gd_sok h'.1
    · exact gds_sok h'.2 t ht
end
theorem eqD_str {x : Str} (h : PyData.strOk x = true) : eqD (.str x) (.str x) = some true := by
  have a : (D.str x).okE = true := by
    show (true && SeqAt.shaped (.str x)) = true
    unfold SeqAt.shaped
    simp [PyData.canLay0, PyData.depth, h]
  unfold eqD
  rw [a]
  show some (PyData.eqv (.str x) (.str x)) = _
  simp [PyData.eqv]
theorem bulk_tup {ds : List D} : (D.tup ds).py.bulk = PyData.bulkAll (pys ds) := by simp [D.py, PyData.bulk]
theorem bulk_lst {ds : List D} : (D.lst ds).py.bulk = PyData.bulkAll (pys ds) := by simp [D.py, PyData.bulk]
theorem bulk_int {i : Int} : (D.int i).py.bulk = 0 := by simp [D.py, PyData.bulk]
theorem bulk_str {x : Str} : (D.str x).py.bulk = x.cps.size := by simp [D.py, PyData.bulk]
theorem bulk_nil : PyData.bulkAll (pys []) = 0 := by simp [pys, PyData.bulkAll]
theorem bulk_cons {d : D} {ds : List D} : PyData.bulkAll (pys (d :: ds)) = d.py.bulk + 1 + PyData.bulkAll (pys ds) := by simp [pys, PyData.bulkAll]
theorem bulk_le {c : Nat} : ∀ {ds : List D}, (∀ d ∈ ds, d.py.bulk ≤ c) → PyData.bulkAll (pys ds) ≤ (c + 1) * ds.length
  | [], _ => by rw [bulk_nil]; omega
  | d :: ds, h => by
    have h1 := h d (.head _)
    have h2 := bulk_le (ds := ds) fun x hx => h x (.tail _ hx)
    rw [bulk_cons, List.length_cons, Nat.mul_succ]
    omega
theorem gd_mono {s t : Nat} (k : s ≤ t) : ∀ {j : Nat} {d : D}, d.gd s j → d.gd t j := by
  intro j d h
  have key : ∀ j, (∀ d : D, d.gd s j → d.gd t j) := by
    intro j
    induction j with
    | zero =>
      intro d h
      cases d <;> simp only [D.gd] at h ⊢ <;> first | exact h | exact Nat.lt_of_lt_of_le h (Nat.pow_le_pow_right (by decide) k)
    | succ j ih =>
      intro d h
      cases d <;> simp only [D.gd] at h ⊢ <;> first | exact h | exact Nat.lt_of_lt_of_le h (Nat.pow_le_pow_right (by decide) k) | (rw [gds_iff] at h ⊢; exact fun x hx => ih x (h x hx))
  exact key j d h
end Iv
end

section
set_option Elab.async false
set_option linter.all false
set_option maxRecDepth 100000
/-! the trees of the text of k52 -/
namespace Sw
open PySem L2 Iv
def B_names1_is_whole : Sts := (.cons (.ret (.conj (.blt false .isi (.cons (.var 0) (.cons (.lit (.ty "int")) .nil))) (.nt (.blt false .isi (.cons (.var 0) (.cons (.lit (.ty "bool")) .nil)))))) .nil)
def B_names1_is_below : Sts := (.cons (.ret (.conj (.call 1 0 (.cons (.var 0) .nil) .nil) (.chn .le .lt (.lit (.int 0)) (.var 0) (.var 1)))) .nil)
def B_numbers1_number : Sts := (.cons (.asg (.nm 2) (.ite (.cmp .gt (.var 1) (.lit (.int 0))) (.blt false .gcd (.cons (.var 0) (.cons (.var 1) .nil))) (.bin .sub (.lit (.int 0)) (.blt false .gcd (.cons (.var 0) (.cons (.var 1) .nil)))))) (.cons (.ret (.tup (.cons (.bin .fdiv (.var 0) (.var 2)) (.cons (.bin .fdiv (.var 1) (.var 2)) .nil)))) .nil))
def B_numbers1_is_number : Sts := (.cons (.iff (.disj (.nt (.blt false .isi (.cons (.var 0) (.cons (.lit (.ty "tuple")) .nil)))) (.disj (.cmp .ne (.blt false .len (.cons (.var 0) .nil)) (.lit (.int 2))) (.nt (.blt false .all (.cons (.comp false [1] (.nm 1) (.seq (.var 0)) .non (.call 1 0 (.cons (.var 1) .nil) .nil)) .nil))))) (.cons (.ret (.lit (.bl false))) .nil) .nil) (.cons (.ret (.conj (.cmp .gt (.idx (.var 0) (.lit (.int 1))) (.lit (.int 0))) (.cmp .eq (.blt false .gcd (.cons (.idx (.var 0) (.lit (.int 0))) (.cons (.idx (.var 0) (.lit (.int 1))) .nil))) (.lit (.int 1))))) .nil))
def B_numbers1_plus : Sts := (.cons (.ret (.call 3 0 (.cons (.bin .add (.bin .mul (.idx (.var 0) (.lit (.int 0))) (.idx (.var 1) (.lit (.int 1)))) (.bin .mul (.idx (.var 1) (.lit (.int 0))) (.idx (.var 0) (.lit (.int 1))))) (.cons (.bin .mul (.idx (.var 0) (.lit (.int 1))) (.idx (.var 1) (.lit (.int 1)))) .nil)) .nil)) .nil)
def B_numbers1_minus : Sts := (.cons (.ret (.tup (.cons (.bin .sub (.lit (.int 0)) (.idx (.var 0) (.lit (.int 0)))) (.cons (.idx (.var 0) (.lit (.int 1))) .nil)))) .nil)
def B_numbers1_times : Sts := (.cons (.ret (.call 3 0 (.cons (.bin .mul (.idx (.var 0) (.lit (.int 0))) (.idx (.var 1) (.lit (.int 0)))) (.cons (.bin .mul (.idx (.var 0) (.lit (.int 1))) (.idx (.var 1) (.lit (.int 1)))) .nil)) .nil)) .nil)
def B_numbers1_total : Sts := (.cons (.asg (.nm 1) (.glob 36)) (.cons (.fr (.nm 2) (.seq (.var 0)) (.cons (.asg (.nm 1) (.call 5 0 (.cons (.var 1) (.cons (.var 2) .nil)) .nil)) .nil)) (.cons (.ret (.var 1)) .nil)))
def B_points1_points_of : Sts := (.cons (.asg (.nm 1) (.lst false (.cons (.tup .nil) .nil))) (.cons (.fr (.nm 2) (.rng (.var 0)) (.cons (.asg (.nm 1) (.comp2 false [3, 4] [4] (.nm 3) (.seq (.var 1)) (.nm 4) (.seq (.tup (.cons (.lit (.int 0)) (.cons (.lit (.int 1)) .nil)))) .non (.bin .add (.var 3) (.tup (.cons (.var 4) .nil))))) .nil)) (.cons (.ret (.var 1)) .nil)))
def B_points1_need_many : Sts := (.cons (.iff (.nt (.call 2 0 (.cons (.var 0) (.cons (.bin .add (.glob 37) (.lit (.int 1))) .nil)) .nil)) (.cons (.nev) .nil) .nil) .nil)
def B_points1_added : Sts := (.cons (.ret (.blt false .tuple (.cons (.comp false [2, 3] (.tp (.cons (.nm 2) (.cons (.nm 3) .nil))) (.zip (.var 0) (.var 1)) .non (.bin .mod (.bin .add (.var 2) (.var 3)) (.lit (.int 2)))) .nil))) .nil)
def B_points1_is_odd : Sts := (.cons (.ret (.cmp .eq (.bin .mod (.blt false .sum (.cons (.comp false [2, 3] (.tp (.cons (.nm 2) (.cons (.nm 3) .nil))) (.zip (.var 0) (.var 1)) .non (.bin .mul (.var 2) (.var 3))) .nil)) (.lit (.int 2))) (.lit (.int 1)))) .nil)
def B_tables2_is_any_table : Sts := (.cons (.iff (.disj (.nt (.blt false .isi (.cons (.var 0) (.cons (.lit (.ty "tuple")) .nil)))) (.disj (.cmp .ne (.blt false .len (.cons (.var 0) .nil)) (.lit (.int 2))) (.disj (.nt (.blt false .isi (.cons (.idx (.var 0) (.lit (.int 0))) (.cons (.lit (.ty "str")) .nil)))) (.cmp .ne (.idx (.var 0) (.lit (.int 0))) (.lit (.str "table")))))) (.cons (.ret (.lit (.bl false))) .nil) .nil) (.cons (.iff (.disj (.nt (.blt false .isi (.cons (.idx (.var 0) (.lit (.int 1))) (.cons (.lit (.ty "tuple")) .nil)))) (.cmp .notin (.blt false .len (.cons (.idx (.var 0) (.lit (.int 1))) .nil)) (.glob 38))) (.cons (.ret (.lit (.bl false))) .nil) .nil) (.cons (.ret (.blt false .all (.cons (.comp false [1] (.nm 1) (.seq (.idx (.var 0) (.lit (.int 1)))) .non (.call 4 0 (.cons (.var 1) .nil) .nil)) .nil))) .nil)))
def B_tables2_need_any : Sts := (.cons (.iff (.nt (.call 9 0 (.cons (.var 0) .nil) .nil)) (.cons (.nev) .nil) .nil) .nil)
def B_tables2_switches_of : Sts := (.cons (.ret (.mth .tindex (.glob 38) (.cons (.blt false .len (.cons (.idx (.var 0) (.lit (.int 1))) .nil)) .nil))) .nil)
def B_tables2_is_table : Sts := (.cons (.ex (.call 8 0 (.cons (.var 0) .nil) .nil)) (.cons (.ret (.conj (.call 9 0 (.cons (.var 1) .nil) .nil) (.cmp .eq (.call 10 0 (.cons (.var 1) .nil) .nil) (.var 0)))) .nil))
def B_tables2_need_alike : Sts := (.cons (.ex (.call 56 0 (.cons (.var 0) .nil) .nil)) (.cons (.ex (.call 56 0 (.cons (.var 1) .nil) .nil)) (.cons (.iff (.cmp .ne (.blt false .len (.cons (.idx (.var 0) (.lit (.int 1))) .nil)) (.blt false .len (.cons (.idx (.var 1) (.lit (.int 1))) .nil))) (.cons (.nev) .nil) .nil) .nil)))
def B_tables2_made : Sts := (.cons (.ret (.tup (.cons (.lit (.str "table")) (.cons (.blt false .tuple (.cons (.var 0) .nil)) .nil)))) .nil)
def B_tables2_lines : Sts := (.cons (.ret (.p2 .dzip (.call 53 0 (.cons (.call 10 0 (.cons (.var 0) .nil) .nil) .nil) .nil) (.idx (.var 0) (.lit (.int 1))))) .nil)
def B_tables2_summed : Sts := (.cons (.ret (.call 58 0 (.cons (.comp false [2, 3] (.tp (.cons (.nm 2) (.cons (.nm 3) .nil))) (.zip (.idx (.var 0) (.lit (.int 1))) (.idx (.var 1) (.lit (.int 1)))) .non (.call 5 0 (.cons (.var 2) (.cons (.var 3) .nil)) .nil)) .nil) .nil)) .nil)
def B_tables2_scaled : Sts := (.cons (.ret (.call 58 0 (.cons (.comp false [2] (.nm 2) (.seq (.idx (.var 1) (.lit (.int 1)))) .non (.call 7 0 (.cons (.var 0) (.cons (.var 2) .nil)) .nil)) .nil) .nil)) .nil)
def B_tables2_times_of : Sts := (.cons (.ret (.call 58 0 (.cons (.comp false [2, 3] (.tp (.cons (.nm 2) (.cons (.nm 3) .nil))) (.zip (.idx (.var 0) (.lit (.int 1))) (.idx (.var 1) (.lit (.int 1)))) .non (.call 7 0 (.cons (.var 2) (.cons (.var 3) .nil)) .nil)) .nil) .nil)) .nil)
def B_tables2_fold_of : Sts := (.cons (.asg (.tp (.cons (.nm 3) (.cons (.nm 4) (.cons (.nm 5) .nil)))) (.tup (.cons (.call 59 0 (.cons (.var 0) .nil) .nil) (.cons (.call 59 0 (.cons (.var 1) .nil) .nil) (.cons (.lst true .nil) .nil))))) (.cons (.fr (.nm 2) (.dks (.var 3)) (.cons (.ex (.mth .append (.var 5) (.cons (.call 52 0 (.cons (.comp false [6] (.nm 6) (.dks (.var 3)) .non (.call 7 0 (.cons (.idx (.var 3) (.var 6)) (.cons (.idx (.var 4) (.call 54 0 (.cons (.var 2) (.cons (.var 6) .nil)) .nil)) .nil)) .nil)) .nil) .nil) .nil))) .nil)) (.cons (.ret (.call 58 0 (.cons (.var 5) .nil) .nil)) .nil)))
def B_tables2_spread : Sts := (.cons (.asg (.tp (.cons (.nm 2) (.cons (.nm 3) .nil))) (.tup (.cons (.call 59 0 (.cons (.var 0) .nil) .nil) (.cons (.lst true .nil) .nil)))) (.cons (.fr (.nm 1) (.dks (.var 2)) (.cons (.ex (.mth .append (.var 3) (.cons (.call 52 0 (.cons (.comp false [4] (.nm 4) (.dks (.var 2)) .non (.ite (.call 55 0 (.cons (.var 1) (.cons (.var 4) .nil)) .nil) (.call 6 0 (.cons (.idx (.var 2) (.var 4)) .nil) .nil) (.idx (.var 2) (.var 4)))) .nil) .nil) .nil))) .nil)) (.cons (.ret (.call 58 0 (.cons (.var 3) .nil) .nil)) .nil)))
def B_tables2_plus_tables : Sts := (.cons (.ex (.call 57 0 (.cons (.var 0) (.cons (.var 1) .nil)) .nil)) (.cons (.ret (.call 60 0 (.cons (.var 0) (.cons (.var 1) .nil)) .nil)) .nil))
def B_tables2_times_tables : Sts := (.cons (.ex (.call 57 0 (.cons (.var 0) (.cons (.var 1) .nil)) .nil)) (.cons (.ret (.call 62 0 (.cons (.var 0) (.cons (.var 1) .nil)) .nil)) .nil))
def B_tables2_fold_tables : Sts := (.cons (.ex (.call 57 0 (.cons (.var 0) (.cons (.var 1) .nil)) .nil)) (.cons (.ret (.call 63 0 (.cons (.var 0) (.cons (.var 1) .nil)) .nil)) .nil))
def B_tables2_scaled_table : Sts := (.cons (.ex (.call 56 0 (.cons (.var 1) .nil) .nil)) (.cons (.iff (.nt (.call 4 0 (.cons (.var 0) .nil) .nil)) (.cons (.nev) .nil) .nil) (.cons (.ret (.call 61 0 (.cons (.var 0) (.cons (.var 1) .nil)) .nil)) .nil)))
def B_tables2_spread_table : Sts := (.cons (.ex (.call 56 0 (.cons (.var 0) .nil) .nil)) (.cons (.ret (.call 64 0 (.cons (.var 0) .nil) .nil)) .nil))
def B_spread3_many_of : Sts := (.cons (.fr (.nm 1) (.rng (.bin .add (.glob 39) (.lit (.int 1)))) (.cons (.iff (.call 11 0 (.cons (.var 1) (.cons (.var 0) .nil)) .nil) (.cons (.ret (.var 1)) .nil) .nil) .nil)) (.cons (.nev) .nil))
def B_spread3_spread_line : Sts := (.cons (.par 1 2 (.blt true .list (.cons (.var 0) .nil)) (.lit (.int 1))) (.cons (.whl (.cmp .lt (.var 2) (.blt false .len (.cons (.var 1) .nil))) (.cons (.fr (.nm 3) (.rng (.blt false .len (.cons (.var 1) .nil))) (.cons (.iff (.cmp .eq (.bin .mod (.bin .fdiv (.var 3) (.var 2)) (.lit (.int 2))) (.lit (.int 0))) (.cons (.par 4 5 (.idx (.var 1) (.var 3)) (.idx (.var 1) (.bin .add (.var 3) (.var 2)))) (.cons (.sub2 (.var 1) (.var 3) (.var 1) (.bin .add (.var 3) (.var 2)) (.tup (.cons (.call 5 0 (.cons (.var 4) (.cons (.var 5) .nil)) .nil) (.cons (.call 5 0 (.cons (.var 4) (.cons (.call 6 0 (.cons (.var 5) .nil) .nil) .nil)) .nil) .nil)))) .nil)) .nil) .nil)) (.cons (.asg (.nm 2) (.bin .mul (.lit (.int 2)) (.var 2))) .nil))) (.cons (.ret (.frz (.var 1))) .nil)))
def B_spread3_parted_line : Sts := (.cons (.asg (.nm 1) (.call 3 0 (.cons (.lit (.int 1)) (.cons (.blt false .len (.cons (.var 0) .nil)) .nil)) .nil)) (.cons (.ret (.comp false [2] (.nm 2) (.seq (.call 13 0 (.cons (.var 0) .nil) .nil)) .non (.call 7 0 (.cons (.var 1) (.cons (.var 2) .nil)) .nil))) .nil))
def B_spread3_spread : Sts := (.cons (.ex (.call 12 0 (.cons (.var 0) .nil) .nil)) (.cons (.ret (.tup (.cons (.lit (.str "table")) (.cons (.blt false .tuple (.cons (.call 13 0 (.cons (.idx (.var 0) (.lit (.int 1))) .nil) .nil) .nil)) .nil)))) .nil))
def B_spread3_unspread : Sts := (.cons (.ex (.call 12 0 (.cons (.var 0) .nil) .nil)) (.cons (.ret (.tup (.cons (.lit (.str "table")) (.cons (.blt false .tuple (.cons (.call 14 0 (.cons (.idx (.var 0) (.lit (.int 1))) .nil) .nil) .nil)) .nil)))) .nil))
def B_l_law_begun : Sts := (.cons (.asg (.nm 1) (.comp true [2] (.nm 2) (.seq (.var 0)) (.som (.cmp .ge (.blt false .abs (.cons (.var 2) .nil)) (.bin .pow (.lit (.int 10)) (.lit (.int 18))))) (.bin .sub (.blt false .abs (.cons (.var 2) .nil)) (.bin .pow (.lit (.int 10)) (.lit (.int 18)))))) (.cons (.ret (.dsp [("great" : Str), ("cells" : Str), ("rest" : Str), ("turn" : Str)] (.cons (.var 1) (.cons (.comp false [2] (.nm 2) (.seq (.var 0)) .non (.blt false .abs (.cons (.var 2) .nil))) (.cons (.lit (.int 0)) (.cons (.lit (.int 0)) .nil)))))) .nil))
def B_l_law_mixed : Sts := (.cons (.par 2 3 (.bin .add (.idx (.var 0) (.lit (.str "turn"))) (.lit (.int 1))) (.lit (.int 0))) (.cons (.sub (.var 0) (.lit (.str "turn")) (.var 2)) (.cons (.fr (.nm 1) (.seq (.lst false (.cons (.lit (.int 2147483629)) (.cons (.lit (.int 2147483587)) (.cons (.lit (.int 2147483579)) (.cons (.lit (.int 2147483563)) .nil)))))) (.cons (.asg (.nm 4) (.bin .add (.bin .mul (.lit (.int 69621)) (.var 2)) (.bin .fdiv (.var 1) (.lit (.int 41))))) (.cons (.fr (.nm 5) (.seq (.idx (.var 0) (.lit (.str "cells")))) (.cons (.asg (.nm 4) (.bin .mod (.blt false .int (.cons (.bin .add (.bin .add (.bin .mul (.var 4) (.lit (.int 48271))) (.var 5)) (.var 2)) .nil)) (.var 1))) .nil)) (.cons (.asg (.nm 3) (.bin .add (.bin .mul (.var 3) (.lit (.int 2147483659))) (.bin .mod (.blt false .int (.cons (.bin .pow (.var 4) (.lit (.int 5))) .nil)) (.var 1)))) .nil)))) (.cons (.ret (.var 3)) .nil))))
def B_l_law_draw : Sts := (.cons (.iff (.cmp .eq (.idx (.var 0) (.lit (.str "rest"))) (.lit (.int 0))) (.cons (.sub (.var 0) (.lit (.str "rest")) (.ite (.cmp .ne (.idx (.var 0) (.lit (.str "great"))) (.lst false .nil)) (.mth .popAt (.idx (.var 0) (.lit (.str "great"))) (.cons (.lit (.int 0)) .nil)) (.call 19 0 (.cons (.var 0) .nil) .nil))) .nil) .nil) (.cons (.asg (.nm 2) (.bin .mod (.blt false .int (.cons (.idx (.var 0) (.lit (.str "rest"))) .nil)) (.var 1))) (.cons (.sub (.var 0) (.lit (.str "rest")) (.bin .fdiv (.idx (.var 0) (.lit (.str "rest"))) (.var 1))) (.cons (.ret (.var 2)) .nil))))
def B_l_law_pick : Sts := (.cons (.ret (.idx (.var 1) (.call 20 0 (.cons (.var 0) (.cons (.blt false .len (.cons (.var 1) .nil)) .nil)) .nil))) .nil)
def B_l_law_plain : Sts := (.cons (.iff (.blt false .isi (.cons (.var 0) (.cons (.tup (.cons (.lit (.ty "list")) (.cons (.lit (.ty "tuple")) .nil))) .nil))) (.cons (.ret (.cmp .eq (.comp false [1] (.nm 1) (.seq (.var 0)) (.som (.nt (.call 22 0 (.cons (.var 1) .nil) .nil))) (.lit (.int 1))) (.lst false .nil))) .nil) .nil) (.cons (.iff (.blt false .isi (.cons (.var 0) (.cons (.lit (.ty "dict")) .nil))) (.cons (.nev) .nil) .nil) (.cons (.ret (.disj (.cmp .is (.var 0) (.lit .non)) (.blt false .isi (.cons (.var 0) (.cons (.tup (.cons (.lit (.ty "int")) (.cons (.lit (.ty "str")) .nil))) .nil))))) .nil)))
def B_l_law_is : Sts := (.cons (.ret (.conj (.call 22 0 (.cons (.var 0) .nil) .nil) (.conj (.cmp .eq (.var 0) (.var 1)) (.conj (.cmp .eq (.var 1) (.var 0)) (.cmp .eq (.blt false .repr (.cons (.var 0) .nil)) (.blt false .repr (.cons (.var 1) .nil))))))) .nil)
def B_l_law_common : Sts := (.cons (.whl (.cmp .ne (.var 1) (.lit (.int 0))) (.cons (.par 0 1 (.var 1) (.bin .mod (.blt false .int (.cons (.var 0) .nil)) (.var 1))) .nil)) (.cons (.ret (.blt false .abs (.cons (.var 0) .nil))) .nil))
def B_l_law_no : Sts := (.cons (.asg (.nm 2) (.bin .mul (.call 24 0 (.cons (.var 0) (.cons (.var 1) .nil)) .nil) (.ite (.cmp .gt (.var 1) (.lit (.int 0))) (.lit (.int 1)) (.bin .sub (.lit (.int 0)) (.lit (.int 1)))))) (.cons (.ret (.tup (.cons (.bin .fdiv (.var 0) (.var 2)) (.cons (.bin .fdiv (.var 1) (.var 2)) .nil)))) .nil))
def B_l_law_plus : Sts := (.cons (.ret (.call 25 0 (.cons (.bin .add (.bin .mul (.idx (.var 0) (.lit (.int 0))) (.idx (.var 1) (.lit (.int 1)))) (.bin .mul (.idx (.var 1) (.lit (.int 0))) (.idx (.var 0) (.lit (.int 1))))) (.cons (.bin .mul (.idx (.var 0) (.lit (.int 1))) (.idx (.var 1) (.lit (.int 1)))) .nil)) .nil)) .nil)
def B_l_law_times : Sts := (.cons (.ret (.call 25 0 (.cons (.bin .mul (.idx (.var 0) (.lit (.int 0))) (.idx (.var 1) (.lit (.int 0)))) (.cons (.bin .mul (.idx (.var 0) (.lit (.int 1))) (.idx (.var 1) (.lit (.int 1)))) .nil)) .nil)) .nil)
def B_l_law_total : Sts := (.cons (.asg (.nm 1) (.tup (.cons (.lit (.int 0)) (.cons (.lit (.int 1)) .nil)))) (.cons (.fr (.nm 2) (.seq (.var 0)) (.cons (.asg (.nm 1) (.call 26 0 (.cons (.var 1) (.cons (.var 2) .nil)) .nil)) .nil)) (.cons (.ret (.var 1)) .nil)))
def B_l_law_some_number : Sts := (.cons (.asg (.nm 2) (.bin .sub (.call 20 0 (.cons (.var 0) (.cons (.bin .add (.bin .mul (.lit (.int 2)) (.var 1)) (.lit (.int 1))) .nil)) .nil) (.var 1))) (.cons (.ret (.call 25 0 (.cons (.var 2) (.cons (.call 21 0 (.cons (.var 0) (.cons (.lst false (.cons (.lit (.int 1)) (.cons (.lit (.int 1)) (.cons (.lit (.int 1)) (.cons (.lit (.int 1)) (.cons (.lit (.int 2)) (.cons (.lit (.int 3)) .nil))))))) .nil)) .nil) .nil)) .nil)) .nil))
def B_l_law_points : Sts := (.cons (.asg (.nm 1) (.lst false (.cons (.tup .nil) .nil))) (.cons (.fr (.nm 2) (.rng (.var 0)) (.cons (.asg (.nm 1) (.bin .add (.comp false [3] (.nm 3) (.seq (.var 1)) .non (.bin .add (.var 3) (.tup (.cons (.lit (.int 0)) .nil)))) (.comp false [3] (.nm 3) (.seq (.var 1)) .non (.bin .add (.var 3) (.tup (.cons (.lit (.int 1)) .nil)))))) .nil)) (.cons (.ret (.blt false .sorted (.cons (.var 1) .nil))) .nil)))
def B_l_law_wide : Sts := (.cons (.ret (.blt false .len (.cons (.call 30 0 (.cons (.var 0) .nil) .nil) .nil))) .nil)
def B_l_law_sign : Sts := (.cons (.ret (.bin .sub (.lit (.int 1)) (.bin .mul (.lit (.int 2)) (.bin .mod (.blt false .int (.cons (.blt false .sum (.cons (.comp false [2, 3] (.tp (.cons (.nm 2) (.cons (.nm 3) .nil))) (.zip (.var 0) (.var 1)) .non (.bin .mul (.var 2) (.var 3))) .nil)) .nil)) (.lit (.int 2)))))) .nil)
def B_l_law_spread : Sts := (.cons (.asg (.nm 2) (.call 30 0 (.cons (.var 0) .nil) .nil)) (.cons (.ret (.comp false [3] (.nm 3) (.seq (.var 2)) .non (.call 28 0 (.cons (.comp false [4, 5] (.tp (.cons (.nm 4) (.cons (.nm 5) .nil))) (.zip (.var 2) (.var 1)) .non (.call 27 0 (.cons (.tup (.cons (.call 32 0 (.cons (.var 3) (.cons (.var 4) .nil)) .nil) (.cons (.lit (.int 1)) .nil))) (.cons (.var 5) .nil)) .nil)) .nil) .nil))) .nil))
def B_l_law_folded : Sts := (.cons (.asg (.tp (.cons (.nm 3) (.cons (.nm 4) .nil))) (.tup (.cons (.call 30 0 (.cons (.var 0) .nil) .nil) (.cons (.p2 .dlz (.call 30 0 (.cons (.var 0) .nil) .nil) (.var 2)) .nil)))) (.cons (.ret (.comp false [5] (.nm 5) (.seq (.var 3)) .non (.call 28 0 (.cons (.comp false [6, 7] (.tp (.cons (.nm 6) (.cons (.nm 7) .nil))) (.zip (.var 3) (.var 1)) .non (.call 27 0 (.cons (.var 7) (.cons (.idx (.var 4) (.blt false .tuple (.cons (.comp false [8, 9] (.tp (.cons (.nm 8) (.cons (.nm 9) .nil))) (.zip (.var 5) (.var 6)) .non (.blt false .int (.cons (.cmp .ne (.var 8) (.var 9)) .nil))) .nil))) .nil)) .nil)) .nil) .nil))) .nil))
def B_l_law_some_line : Sts := (.cons (.ret (.blt false .tuple (.cons (.comp false [2] (.nm 2) (.seq (.call 30 0 (.cons (.var 1) .nil) .nil)) .non (.call 29 0 (.cons (.var 0) (.cons (.lit (.int 3)) .nil)) .nil)) .nil))) .nil)
def B_l_law_some_holed : Sts := (.cons (.asg (.nm 2) (.blt false .tuple (.cons (.comp false [3] (.nm 3) (.seq (.call 30 0 (.cons (.var 1) .nil) .nil)) .non (.ite (.cmp .eq (.call 20 0 (.cons (.var 0) (.cons (.lit (.int 3)) .nil)) .nil) (.lit (.int 0))) (.tup (.cons (.lit (.int 0)) (.cons (.lit (.int 1)) .nil))) (.call 29 0 (.cons (.var 0) (.cons (.lit (.int 3)) .nil)) .nil))) .nil))) (.cons (.ret (.blt false .tuple (.cons (.comp false [4] (.nm 4) (.seq (.call 33 0 (.cons (.var 1) (.cons (.var 2) .nil)) .nil)) .non (.call 27 0 (.cons (.tup (.cons (.lit (.int 1)) (.cons (.call 31 0 (.cons (.var 1) .nil) .nil) .nil))) (.cons (.var 4) .nil)) .nil)) .nil))) .nil))
def B_l_law : Sts := (.cons (.asg (.nm 1) (.call 18 0 (.cons (.var 0) .nil) .nil)) (.cons (.asg (.tp (.cons (.nm 3) (.cons (.nm 4) .nil))) (.tup (.cons (.tup (.cons (.lit (.str "table")) (.cons (.tup (.cons (.tup (.cons (.lit (.int 1)) (.cons (.lit (.int 1)) .nil))) (.cons (.tup (.cons (.lit (.int 2)) (.cons (.lit (.int 1)) .nil))) .nil))) .nil))) (.cons (.tup (.cons (.lit (.str "table")) (.cons (.tup (.cons (.tup (.cons (.lit (.int 3)) (.cons (.lit (.int 1)) .nil))) (.cons (.tup (.cons (.neg (.lit (.int 1))) (.cons (.lit (.int 1)) .nil))) .nil))) .nil))) .nil)))) (.cons (.iff (.nt (.call 23 0 (.cons (.lst false (.cons (.call 67 0 (.cons (.var 3) (.cons (.var 4) .nil)) .nil) (.cons (.call 66 0 (.cons (.call 15 0 (.cons (.var 3) .nil) .nil) (.cons (.call 15 0 (.cons (.var 4) .nil) .nil) .nil)) .nil) .nil))) (.cons (.lst false (.cons (.tup (.cons (.lit (.str "table")) (.cons (.tup (.cons (.tup (.cons (.lit (.int 1)) (.cons (.lit (.int 1)) .nil))) (.cons (.tup (.cons (.lit (.int 5)) (.cons (.lit (.int 1)) .nil))) .nil))) .nil))) (.cons (.tup (.cons (.lit (.str "table")) (.cons (.tup (.cons (.tup (.cons (.lit (.int 6)) (.cons (.lit (.int 1)) .nil))) (.cons (.tup (.cons (.neg (.lit (.int 4))) (.cons (.lit (.int 1)) .nil))) .nil))) .nil))) .nil))) .nil)) .nil)) (.cons (.ret (.lit (.bl false))) .nil) .nil) (.cons (.fr (.nm 2) (.rng (.bin .add (.lit (.int 5)) (.blt false .min2 (.cons (.blt false .len (.cons (.var 0) .nil)) (.cons (.lit (.int 7)) .nil))))) (.cons (.asg (.nm 5) (.call 20 0 (.cons (.var 1) (.cons (.lit (.int 5)) .nil)) .nil)) (.cons (.asg (.nm 6) (.lst false (.cons (.call 34 0 (.cons (.var 1) (.cons (.var 5) .nil)) .nil) (.cons (.call 49 0 (.cons (.var 1) (.cons (.var 5) .nil)) .nil) .nil)))) (.cons (.par3 3 4 10 (.tup (.cons (.lit (.str "table")) (.cons (.idx (.var 6) (.lit (.int 0))) .nil))) (.tup (.cons (.lit (.str "table")) (.cons (.idx (.var 6) (.lit (.int 1))) .nil))) (.tup (.cons (.call 31 0 (.cons (.var 5) .nil) .nil) (.cons (.lit (.int 1)) .nil)))) (.cons (.iff (.nt (.call 23 0 (.cons (.lst false (.cons (.call 69 0 (.cons (.var 3) .nil) .nil) (.cons (.call 15 0 (.cons (.var 4) .nil) .nil) .nil))) (.cons (.lst false (.cons (.call 15 0 (.cons (.var 3) .nil) .nil) (.cons (.call 69 0 (.cons (.var 4) .nil) .nil) .nil))) .nil)) .nil)) (.cons (.ret (.lit (.bl false))) .nil) .nil) (.cons (.asg (.nm 7) (.tup (.cons (.lit (.str "table")) (.cons (.blt false .tuple (.cons (.call 48 0 (.cons (.var 5) (.cons (.idx (.var 6) (.lit (.int 0))) (.cons (.idx (.var 6) (.lit (.int 1))) .nil))) .nil) .nil)) .nil)))) (.cons (.iff (.nt (.call 23 0 (.cons (.lst false (.cons (.call 67 0 (.cons (.var 3) (.cons (.var 4) .nil)) .nil) (.cons (.call 15 0 (.cons (.call 67 0 (.cons (.var 3) (.cons (.var 4) .nil)) .nil) .nil) .nil) .nil))) (.cons (.lst false (.cons (.var 7) (.cons (.call 66 0 (.cons (.call 15 0 (.cons (.var 3) .nil) .nil) (.cons (.call 15 0 (.cons (.var 4) .nil) .nil) .nil)) .nil) .nil))) .nil)) .nil)) (.cons (.ret (.lit (.bl false))) .nil) .nil) (.cons (.asg (.nm 8) (.call 66 0 (.cons (.var 3) (.cons (.var 4) .nil)) .nil)) (.cons (.iff (.disj (.nt (.call 23 0 (.cons (.call 68 0 (.cons (.var 10) (.cons (.call 15 0 (.cons (.var 8) .nil) .nil) .nil)) .nil) (.cons (.call 67 0 (.cons (.call 15 0 (.cons (.var 3) .nil) .nil) (.cons (.call 15 0 (.cons (.var 4) .nil) .nil) .nil)) .nil) .nil)) .nil)) (.nt (.call 23 0 (.cons (.call 16 0 (.cons (.call 66 0 (.cons (.call 15 0 (.cons (.var 3) .nil) .nil) (.cons (.call 15 0 (.cons (.var 4) .nil) .nil) .nil)) .nil) .nil) .nil) (.cons (.var 7) .nil)) .nil))) (.cons (.ret (.lit (.bl false))) .nil) .nil) (.cons (.asg (.nm 9) (.call 29 0 (.cons (.var 1) (.cons (.lit (.int 4)) .nil)) .nil)) (.cons (.iff (.nt (.call 23 0 (.cons (.call 15 0 (.cons (.call 65 0 (.cons (.var 3) (.cons (.call 68 0 (.cons (.var 9) (.cons (.var 4) .nil)) .nil) .nil)) .nil) .nil) .nil) (.cons (.call 65 0 (.cons (.call 15 0 (.cons (.var 3) .nil) .nil) (.cons (.call 68 0 (.cons (.var 9) (.cons (.call 15 0 (.cons (.var 4) .nil) .nil) .nil)) .nil) .nil)) .nil) .nil)) .nil)) (.cons (.ret (.lit (.bl false))) .nil) .nil) .nil))))))))))) (.cons (.ret (.lit (.bl true))) .nil)))))
def F_names1_is_whole : Fd := ⟨1, 1, [⟨1, [], [.inl 0]⟩], B_names1_is_whole⟩
def F_names1_is_below : Fd := ⟨2, 2, [⟨2, [], [.inl 0, .inl 1]⟩], B_names1_is_below⟩
def F_numbers1_number : Fd := ⟨3, 2, [⟨2, [], [.inl 0, .inl 1]⟩], B_numbers1_number⟩
def F_numbers1_is_number : Fd := ⟨2, 1, [⟨1, [], [.inl 0]⟩], B_numbers1_is_number⟩
def F_numbers1_plus : Fd := ⟨2, 2, [⟨2, [], [.inl 0, .inl 1]⟩], B_numbers1_plus⟩
def F_numbers1_minus : Fd := ⟨1, 1, [⟨1, [], [.inl 0]⟩], B_numbers1_minus⟩
def F_numbers1_times : Fd := ⟨2, 2, [⟨2, [], [.inl 0, .inl 1]⟩], B_numbers1_times⟩
def F_numbers1_total : Fd := ⟨3, 1, [⟨1, [], [.inl 0]⟩], B_numbers1_total⟩
def F_points1_points_of : Fd := ⟨5, 1, [⟨1, [], [.inl 0]⟩], B_points1_points_of⟩
def F_points1_need_many : Fd := ⟨1, 1, [⟨1, [], [.inl 0]⟩], B_points1_need_many⟩
def F_points1_added : Fd := ⟨4, 2, [⟨2, [], [.inl 0, .inl 1]⟩], B_points1_added⟩
def F_points1_is_odd : Fd := ⟨4, 2, [⟨2, [], [.inl 0, .inl 1]⟩], B_points1_is_odd⟩
def F_tables2_is_any_table : Fd := ⟨2, 1, [⟨1, [], [.inl 0]⟩], B_tables2_is_any_table⟩
def F_tables2_need_any : Fd := ⟨1, 1, [⟨1, [], [.inl 0]⟩], B_tables2_need_any⟩
def F_tables2_switches_of : Fd := ⟨1, 1, [⟨1, [], [.inl 0]⟩], B_tables2_switches_of⟩
def F_tables2_is_table : Fd := ⟨2, 2, [⟨2, [], [.inl 0, .inl 1]⟩], B_tables2_is_table⟩
def F_tables2_need_alike : Fd := ⟨2, 2, [⟨2, [], [.inl 0, .inl 1]⟩], B_tables2_need_alike⟩
def F_tables2_made : Fd := ⟨1, 1, [⟨1, [], [.inl 0]⟩], B_tables2_made⟩
def F_tables2_lines : Fd := ⟨1, 1, [⟨1, [], [.inl 0]⟩], B_tables2_lines⟩
def F_tables2_summed : Fd := ⟨4, 2, [⟨2, [], [.inl 0, .inl 1]⟩], B_tables2_summed⟩
def F_tables2_scaled : Fd := ⟨3, 2, [⟨2, [], [.inl 0, .inl 1]⟩], B_tables2_scaled⟩
def F_tables2_times_of : Fd := ⟨4, 2, [⟨2, [], [.inl 0, .inl 1]⟩], B_tables2_times_of⟩
def F_tables2_fold_of : Fd := ⟨7, 2, [⟨2, [], [.inl 0, .inl 1]⟩], B_tables2_fold_of⟩
def F_tables2_spread : Fd := ⟨5, 1, [⟨1, [], [.inl 0]⟩], B_tables2_spread⟩
def F_tables2_plus_tables : Fd := ⟨2, 2, [⟨2, [], [.inl 0, .inl 1]⟩], B_tables2_plus_tables⟩
def F_tables2_times_tables : Fd := ⟨2, 2, [⟨2, [], [.inl 0, .inl 1]⟩], B_tables2_times_tables⟩
def F_tables2_fold_tables : Fd := ⟨2, 2, [⟨2, [], [.inl 0, .inl 1]⟩], B_tables2_fold_tables⟩
def F_tables2_scaled_table : Fd := ⟨2, 2, [⟨2, [], [.inl 0, .inl 1]⟩], B_tables2_scaled_table⟩
def F_tables2_spread_table : Fd := ⟨1, 1, [⟨1, [], [.inl 0]⟩], B_tables2_spread_table⟩
def F_spread3_many_of : Fd := ⟨2, 1, [⟨1, [], [.inl 0]⟩], B_spread3_many_of⟩
def F_spread3_spread_line : Fd := ⟨6, 1, [⟨1, [], [.inl 0]⟩], B_spread3_spread_line⟩
def F_spread3_parted_line : Fd := ⟨3, 1, [⟨1, [], [.inl 0]⟩], B_spread3_parted_line⟩
def F_spread3_spread : Fd := ⟨1, 1, [⟨1, [], [.inl 0]⟩, ⟨0, [("table" : Str)], [.inl 0]⟩], B_spread3_spread⟩
def F_spread3_unspread : Fd := ⟨1, 1, [⟨1, [], [.inl 0]⟩, ⟨0, [("table" : Str)], [.inl 0]⟩], B_spread3_unspread⟩
def F_l_law_begun : Fd := ⟨3, 1, [⟨1, [], [.inl 0]⟩], B_l_law_begun⟩
def F_l_law_mixed : Fd := ⟨6, 1, [⟨1, [], [.inl 0]⟩], B_l_law_mixed⟩
def F_l_law_draw : Fd := ⟨3, 2, [⟨2, [], [.inl 0, .inl 1]⟩], B_l_law_draw⟩
def F_l_law_pick : Fd := ⟨2, 2, [⟨2, [], [.inl 0, .inl 1]⟩], B_l_law_pick⟩
def F_l_law_plain : Fd := ⟨2, 1, [⟨1, [], [.inl 0]⟩], B_l_law_plain⟩
def F_l_law_is : Fd := ⟨2, 2, [⟨2, [], [.inl 0, .inl 1]⟩], B_l_law_is⟩
def F_l_law_common : Fd := ⟨2, 2, [⟨2, [], [.inl 0, .inl 1]⟩], B_l_law_common⟩
def F_l_law_no : Fd := ⟨3, 2, [⟨2, [], [.inl 0, .inl 1]⟩], B_l_law_no⟩
def F_l_law_plus : Fd := ⟨2, 2, [⟨2, [], [.inl 0, .inl 1]⟩], B_l_law_plus⟩
def F_l_law_times : Fd := ⟨2, 2, [⟨2, [], [.inl 0, .inl 1]⟩], B_l_law_times⟩
def F_l_law_total : Fd := ⟨3, 1, [⟨1, [], [.inl 0]⟩], B_l_law_total⟩
def F_l_law_some_number : Fd := ⟨3, 2, [⟨2, [], [.inl 0, .inl 1]⟩], B_l_law_some_number⟩
def F_l_law_points : Fd := ⟨4, 1, [⟨1, [], [.inl 0]⟩], B_l_law_points⟩
def F_l_law_wide : Fd := ⟨1, 1, [⟨1, [], [.inl 0]⟩], B_l_law_wide⟩
def F_l_law_sign : Fd := ⟨4, 2, [⟨2, [], [.inl 0, .inl 1]⟩], B_l_law_sign⟩
def F_l_law_spread : Fd := ⟨6, 2, [⟨2, [], [.inl 0, .inl 1]⟩], B_l_law_spread⟩
def F_l_law_folded : Fd := ⟨10, 3, [⟨3, [], [.inl 0, .inl 1, .inl 2]⟩], B_l_law_folded⟩
def F_l_law_some_line : Fd := ⟨3, 2, [⟨2, [], [.inl 0, .inl 1]⟩], B_l_law_some_line⟩
def F_l_law_some_holed : Fd := ⟨5, 2, [⟨2, [], [.inl 0, .inl 1]⟩], B_l_law_some_holed⟩
def F_l_law : Fd := ⟨11, 1, [⟨1, [], [.inl 0]⟩], B_l_law⟩
def fds : List (Nat × Fd) := [(1, F_names1_is_whole), (2, F_names1_is_below), (3, F_numbers1_number), (4, F_numbers1_is_number), (5, F_numbers1_plus), (6, F_numbers1_minus), (7, F_numbers1_times), (52, F_numbers1_total), (53, F_points1_points_of), (8, F_points1_need_many), (54, F_points1_added), (55, F_points1_is_odd), (9, F_tables2_is_any_table), (56, F_tables2_need_any), (10, F_tables2_switches_of), (11, F_tables2_is_table), (57, F_tables2_need_alike), (58, F_tables2_made), (59, F_tables2_lines), (60, F_tables2_summed), (61, F_tables2_scaled), (62, F_tables2_times_of), (63, F_tables2_fold_of), (64, F_tables2_spread), (65, F_tables2_plus_tables), (66, F_tables2_times_tables), (67, F_tables2_fold_tables), (68, F_tables2_scaled_table), (69, F_tables2_spread_table), (12, F_spread3_many_of), (13, F_spread3_spread_line), (14, F_spread3_parted_line), (15, F_spread3_spread), (16, F_spread3_unspread), (18, F_l_law_begun), (19, F_l_law_mixed), (20, F_l_law_draw), (21, F_l_law_pick), (22, F_l_law_plain), (23, F_l_law_is), (24, F_l_law_common), (25, F_l_law_no), (26, F_l_law_plus), (27, F_l_law_times), (28, F_l_law_total), (29, F_l_law_some_number), (30, F_l_law_points), (31, F_l_law_wide), (32, F_l_law_sign), (33, F_l_law_spread), (48, F_l_law_folded), (34, F_l_law_some_line), (49, F_l_law_some_holed), (35, F_l_law)]
def gvs : List (Nat × D) := [(36, .tup [.int 0, .int 1]), (37, .int 4), (38, .tup [.int 1, .int 2, .int 4, .int 8, .int 16]), (39, .int 4)]
def nms : List (Nat × Str) := [(1, ("is_whole" : Str)), (2, ("is_below" : Str)), (3, ("number" : Str)), (4, ("is_number" : Str)), (5, ("plus" : Str)), (6, ("minus" : Str)), (7, ("times" : Str)), (52, ("total" : Str)), (53, ("points_of" : Str)), (8, ("need_many" : Str)), (54, ("added" : Str)), (55, ("is_odd" : Str)), (9, ("is_any_table" : Str)), (56, ("need_any" : Str)), (10, ("switches_of" : Str)), (11, ("is_table" : Str)), (57, ("need_alike" : Str)), (58, ("made" : Str)), (59, ("lines" : Str)), (60, ("summed" : Str)), (61, ("scaled" : Str)), (62, ("times_of" : Str)), (63, ("fold_of" : Str)), (64, ("spread_tables2" : Str)), (65, ("plus_tables" : Str)), (66, ("times_tables" : Str)), (67, ("fold_tables" : Str)), (68, ("scaled_table" : Str)), (69, ("spread_table" : Str)), (12, ("many_of" : Str)), (13, ("spread_line" : Str)), (14, ("parted_line" : Str)), (15, ("spread_spread3" : Str)), (16, ("unspread" : Str)), (18, ("_law_begun" : Str)), (19, ("_law_mixed" : Str)), (20, ("_law_draw" : Str)), (21, ("_law_pick" : Str)), (22, ("_law_plain" : Str)), (23, ("_law_is" : Str)), (24, ("_law_common" : Str)), (25, ("_law_no" : Str)), (26, ("_law_plus" : Str)), (27, ("_law_times" : Str)), (28, ("_law_total" : Str)), (29, ("_law_some_number" : Str)), (30, ("_law_points" : Str)), (31, ("_law_wide" : Str)), (32, ("_law_sign" : Str)), (33, ("_law_spread" : Str)), (48, ("_law_folded" : Str)), (34, ("_law_some_line" : Str)), (49, ("_law_some_holed" : Str)), (35, ("law" : Str)), (36, ("ZERO" : Str)), (37, ("MOST_SWITCHES_points1" : Str)), (38, ("WIDTHS" : Str)), (39, ("MOST_SWITCHES_spread3" : Str))]
def T : Lp := ⟨fun n => fds.lookup n, fun n => gvs.lookup n, fun n => (nms.lookup n).getD Str.empty, [("abs" : Str), ("all" : Str), ("bool" : Str), ("dict" : Str), ("int" : Str), ("isinstance" : Str), ("len" : Str), ("list" : Str), ("min" : Str), ("range" : Str), ("repr" : Str), ("sorted" : Str), ("str" : Str), ("sum" : Str), ("tuple" : Str), ("zip" : Str)], true, [36, 38]⟩
theorem fd_names1_is_whole : T.fd 1 = some F_names1_is_whole := rfl
theorem fd_names1_is_below : T.fd 2 = some F_names1_is_below := rfl
theorem fd_numbers1_number : T.fd 3 = some F_numbers1_number := rfl
theorem fd_numbers1_is_number : T.fd 4 = some F_numbers1_is_number := rfl
theorem fd_numbers1_plus : T.fd 5 = some F_numbers1_plus := rfl
theorem fd_numbers1_minus : T.fd 6 = some F_numbers1_minus := rfl
theorem fd_numbers1_times : T.fd 7 = some F_numbers1_times := rfl
theorem fd_numbers1_total : T.fd 52 = some F_numbers1_total := rfl
theorem fd_points1_points_of : T.fd 53 = some F_points1_points_of := rfl
theorem fd_points1_need_many : T.fd 8 = some F_points1_need_many := rfl
theorem fd_points1_added : T.fd 54 = some F_points1_added := rfl
theorem fd_points1_is_odd : T.fd 55 = some F_points1_is_odd := rfl
theorem fd_tables2_is_any_table : T.fd 9 = some F_tables2_is_any_table := rfl
theorem fd_tables2_need_any : T.fd 56 = some F_tables2_need_any := rfl
theorem fd_tables2_switches_of : T.fd 10 = some F_tables2_switches_of := rfl
theorem fd_tables2_is_table : T.fd 11 = some F_tables2_is_table := rfl
theorem fd_tables2_need_alike : T.fd 57 = some F_tables2_need_alike := rfl
theorem fd_tables2_made : T.fd 58 = some F_tables2_made := rfl
theorem fd_tables2_lines : T.fd 59 = some F_tables2_lines := rfl
theorem fd_tables2_summed : T.fd 60 = some F_tables2_summed := rfl
theorem fd_tables2_scaled : T.fd 61 = some F_tables2_scaled := rfl
theorem fd_tables2_times_of : T.fd 62 = some F_tables2_times_of := rfl
theorem fd_tables2_fold_of : T.fd 63 = some F_tables2_fold_of := rfl
theorem fd_tables2_spread : T.fd 64 = some F_tables2_spread := rfl
theorem fd_tables2_plus_tables : T.fd 65 = some F_tables2_plus_tables := rfl
theorem fd_tables2_times_tables : T.fd 66 = some F_tables2_times_tables := rfl
theorem fd_tables2_fold_tables : T.fd 67 = some F_tables2_fold_tables := rfl
theorem fd_tables2_scaled_table : T.fd 68 = some F_tables2_scaled_table := rfl
theorem fd_tables2_spread_table : T.fd 69 = some F_tables2_spread_table := rfl
theorem fd_spread3_many_of : T.fd 12 = some F_spread3_many_of := rfl
theorem fd_spread3_spread_line : T.fd 13 = some F_spread3_spread_line := rfl
theorem fd_spread3_parted_line : T.fd 14 = some F_spread3_parted_line := rfl
theorem fd_spread3_spread : T.fd 15 = some F_spread3_spread := rfl
theorem fd_spread3_unspread : T.fd 16 = some F_spread3_unspread := rfl
theorem fd_l_law_begun : T.fd 18 = some F_l_law_begun := rfl
theorem fd_l_law_mixed : T.fd 19 = some F_l_law_mixed := rfl
theorem fd_l_law_draw : T.fd 20 = some F_l_law_draw := rfl
theorem fd_l_law_pick : T.fd 21 = some F_l_law_pick := rfl
theorem fd_l_law_plain : T.fd 22 = some F_l_law_plain := rfl
theorem fd_l_law_is : T.fd 23 = some F_l_law_is := rfl
theorem fd_l_law_common : T.fd 24 = some F_l_law_common := rfl
theorem fd_l_law_no : T.fd 25 = some F_l_law_no := rfl
theorem fd_l_law_plus : T.fd 26 = some F_l_law_plus := rfl
theorem fd_l_law_times : T.fd 27 = some F_l_law_times := rfl
theorem fd_l_law_total : T.fd 28 = some F_l_law_total := rfl
theorem fd_l_law_some_number : T.fd 29 = some F_l_law_some_number := rfl
theorem fd_l_law_points : T.fd 30 = some F_l_law_points := rfl
theorem fd_l_law_wide : T.fd 31 = some F_l_law_wide := rfl
theorem fd_l_law_sign : T.fd 32 = some F_l_law_sign := rfl
theorem fd_l_law_spread : T.fd 33 = some F_l_law_spread := rfl
theorem fd_l_law_folded : T.fd 48 = some F_l_law_folded := rfl
theorem fd_l_law_some_line : T.fd 34 = some F_l_law_some_line := rfl
theorem fd_l_law_some_holed : T.fd 49 = some F_l_law_some_holed := rfl
theorem fd_l_law : T.fd 35 = some F_l_law := rfl
end Sw
end

section
set_option Elab.async false
set_option linter.all false
namespace Sw
open PySem L2 Iv
section
variable {cl : Nat → List D → Mo D} {es ks : Exs} {ρ : Iv.Env} {M : Sto}
@[simp] theorem e1_0 : ev T cl (.call 1 0 es .nil) ρ M = Res.bd (evs T cl es ρ M) fun ds M1 => clN 1 (cl 1) ds M1 := eC fd_names1_is_whole rfl rfl rfl
@[simp] theorem h1_0 : evt T cl (.call 1 0 es .nil) ρ M = Res.bd (evs T cl es ρ M) fun ds M1 => Res.bd (clN 1 (cl 1) ds M1) fun z M2 => oR (tru M2 z) M2 := hC fd_names1_is_whole rfl rfl rfl
@[simp] theorem e2_0 : ev T cl (.call 2 0 es .nil) ρ M = Res.bd (evs T cl es ρ M) fun ds M1 => clN 2 (cl 2) ds M1 := eC fd_names1_is_below rfl rfl rfl
@[simp] theorem h2_0 : evt T cl (.call 2 0 es .nil) ρ M = Res.bd (evs T cl es ρ M) fun ds M1 => Res.bd (clN 2 (cl 2) ds M1) fun z M2 => oR (tru M2 z) M2 := hC fd_names1_is_below rfl rfl rfl
@[simp] theorem e3_0 : ev T cl (.call 3 0 es .nil) ρ M = Res.bd (evs T cl es ρ M) fun ds M1 => clN 2 (cl 3) ds M1 := eC fd_numbers1_number rfl rfl rfl
@[simp] theorem h3_0 : evt T cl (.call 3 0 es .nil) ρ M = Res.bd (evs T cl es ρ M) fun ds M1 => Res.bd (clN 2 (cl 3) ds M1) fun z M2 => oR (tru M2 z) M2 := hC fd_numbers1_number rfl rfl rfl
@[simp] theorem e4_0 : ev T cl (.call 4 0 es .nil) ρ M = Res.bd (evs T cl es ρ M) fun ds M1 => clN 1 (cl 4) ds M1 := eC fd_numbers1_is_number rfl rfl rfl
@[simp] theorem h4_0 : evt T cl (.call 4 0 es .nil) ρ M = Res.bd (evs T cl es ρ M) fun ds M1 => Res.bd (clN 1 (cl 4) ds M1) fun z M2 => oR (tru M2 z) M2 := hC fd_numbers1_is_number rfl rfl rfl
@[simp] theorem e5_0 : ev T cl (.call 5 0 es .nil) ρ M = Res.bd (evs T cl es ρ M) fun ds M1 => clN 2 (cl 5) ds M1 := eC fd_numbers1_plus rfl rfl rfl
@[simp] theorem h5_0 : evt T cl (.call 5 0 es .nil) ρ M = Res.bd (evs T cl es ρ M) fun ds M1 => Res.bd (clN 2 (cl 5) ds M1) fun z M2 => oR (tru M2 z) M2 := hC fd_numbers1_plus rfl rfl rfl
@[simp] theorem e6_0 : ev T cl (.call 6 0 es .nil) ρ M = Res.bd (evs T cl es ρ M) fun ds M1 => clN 1 (cl 6) ds M1 := eC fd_numbers1_minus rfl rfl rfl
@[simp] theorem h6_0 : evt T cl (.call 6 0 es .nil) ρ M = Res.bd (evs T cl es ρ M) fun ds M1 => Res.bd (clN 1 (cl 6) ds M1) fun z M2 => oR (tru M2 z) M2 := hC fd_numbers1_minus rfl rfl rfl
@[simp] theorem e7_0 : ev T cl (.call 7 0 es .nil) ρ M = Res.bd (evs T cl es ρ M) fun ds M1 => clN 2 (cl 7) ds M1 := eC fd_numbers1_times rfl rfl rfl
@[simp] theorem h7_0 : evt T cl (.call 7 0 es .nil) ρ M = Res.bd (evs T cl es ρ M) fun ds M1 => Res.bd (clN 2 (cl 7) ds M1) fun z M2 => oR (tru M2 z) M2 := hC fd_numbers1_times rfl rfl rfl
@[simp] theorem e52_0 : ev T cl (.call 52 0 es .nil) ρ M = Res.bd (evs T cl es ρ M) fun ds M1 => clN 1 (cl 52) ds M1 := eC fd_numbers1_total rfl rfl rfl
@[simp] theorem h52_0 : evt T cl (.call 52 0 es .nil) ρ M = Res.bd (evs T cl es ρ M) fun ds M1 => Res.bd (clN 1 (cl 52) ds M1) fun z M2 => oR (tru M2 z) M2 := hC fd_numbers1_total rfl rfl rfl
@[simp] theorem e53_0 : ev T cl (.call 53 0 es .nil) ρ M = Res.bd (evs T cl es ρ M) fun ds M1 => clN 1 (cl 53) ds M1 := eC fd_points1_points_of rfl rfl rfl
@[simp] theorem h53_0 : evt T cl (.call 53 0 es .nil) ρ M = Res.bd (evs T cl es ρ M) fun ds M1 => Res.bd (clN 1 (cl 53) ds M1) fun z M2 => oR (tru M2 z) M2 := hC fd_points1_points_of rfl rfl rfl
@[simp] theorem e8_0 : ev T cl (.call 8 0 es .nil) ρ M = Res.bd (evs T cl es ρ M) fun ds M1 => clN 1 (cl 8) ds M1 := eC fd_points1_need_many rfl rfl rfl
@[simp] theorem h8_0 : evt T cl (.call 8 0 es .nil) ρ M = Res.bd (evs T cl es ρ M) fun ds M1 => Res.bd (clN 1 (cl 8) ds M1) fun z M2 => oR (tru M2 z) M2 := hC fd_points1_need_many rfl rfl rfl
@[simp] theorem e54_0 : ev T cl (.call 54 0 es .nil) ρ M = Res.bd (evs T cl es ρ M) fun ds M1 => clN 2 (cl 54) ds M1 := eC fd_points1_added rfl rfl rfl
@[simp] theorem h54_0 : evt T cl (.call 54 0 es .nil) ρ M = Res.bd (evs T cl es ρ M) fun ds M1 => Res.bd (clN 2 (cl 54) ds M1) fun z M2 => oR (tru M2 z) M2 := hC fd_points1_added rfl rfl rfl
@[simp] theorem e55_0 : ev T cl (.call 55 0 es .nil) ρ M = Res.bd (evs T cl es ρ M) fun ds M1 => clN 2 (cl 55) ds M1 := eC fd_points1_is_odd rfl rfl rfl
@[simp] theorem h55_0 : evt T cl (.call 55 0 es .nil) ρ M = Res.bd (evs T cl es ρ M) fun ds M1 => Res.bd (clN 2 (cl 55) ds M1) fun z M2 => oR (tru M2 z) M2 := hC fd_points1_is_odd rfl rfl rfl
@[simp] theorem e9_0 : ev T cl (.call 9 0 es .nil) ρ M = Res.bd (evs T cl es ρ M) fun ds M1 => clN 1 (cl 9) ds M1 := eC fd_tables2_is_any_table rfl rfl rfl
@[simp] theorem h9_0 : evt T cl (.call 9 0 es .nil) ρ M = Res.bd (evs T cl es ρ M) fun ds M1 => Res.bd (clN 1 (cl 9) ds M1) fun z M2 => oR (tru M2 z) M2 := hC fd_tables2_is_any_table rfl rfl rfl
@[simp] theorem e56_0 : ev T cl (.call 56 0 es .nil) ρ M = Res.bd (evs T cl es ρ M) fun ds M1 => clN 1 (cl 56) ds M1 := eC fd_tables2_need_any rfl rfl rfl
@[simp] theorem h56_0 : evt T cl (.call 56 0 es .nil) ρ M = Res.bd (evs T cl es ρ M) fun ds M1 => Res.bd (clN 1 (cl 56) ds M1) fun z M2 => oR (tru M2 z) M2 := hC fd_tables2_need_any rfl rfl rfl
@[simp] theorem e10_0 : ev T cl (.call 10 0 es .nil) ρ M = Res.bd (evs T cl es ρ M) fun ds M1 => clN 1 (cl 10) ds M1 := eC fd_tables2_switches_of rfl rfl rfl
@[simp] theorem h10_0 : evt T cl (.call 10 0 es .nil) ρ M = Res.bd (evs T cl es ρ M) fun ds M1 => Res.bd (clN 1 (cl 10) ds M1) fun z M2 => oR (tru M2 z) M2 := hC fd_tables2_switches_of rfl rfl rfl
@[simp] theorem e11_0 : ev T cl (.call 11 0 es .nil) ρ M = Res.bd (evs T cl es ρ M) fun ds M1 => clN 2 (cl 11) ds M1 := eC fd_tables2_is_table rfl rfl rfl
@[simp] theorem h11_0 : evt T cl (.call 11 0 es .nil) ρ M = Res.bd (evs T cl es ρ M) fun ds M1 => Res.bd (clN 2 (cl 11) ds M1) fun z M2 => oR (tru M2 z) M2 := hC fd_tables2_is_table rfl rfl rfl
@[simp] theorem e57_0 : ev T cl (.call 57 0 es .nil) ρ M = Res.bd (evs T cl es ρ M) fun ds M1 => clN 2 (cl 57) ds M1 := eC fd_tables2_need_alike rfl rfl rfl
@[simp] theorem h57_0 : evt T cl (.call 57 0 es .nil) ρ M = Res.bd (evs T cl es ρ M) fun ds M1 => Res.bd (clN 2 (cl 57) ds M1) fun z M2 => oR (tru M2 z) M2 := hC fd_tables2_need_alike rfl rfl rfl
@[simp] theorem e58_0 : ev T cl (.call 58 0 es .nil) ρ M = Res.bd (evs T cl es ρ M) fun ds M1 => clN 1 (cl 58) ds M1 := eC fd_tables2_made rfl rfl rfl
@[simp] theorem h58_0 : evt T cl (.call 58 0 es .nil) ρ M = Res.bd (evs T cl es ρ M) fun ds M1 => Res.bd (clN 1 (cl 58) ds M1) fun z M2 => oR (tru M2 z) M2 := hC fd_tables2_made rfl rfl rfl
@[simp] theorem e59_0 : ev T cl (.call 59 0 es .nil) ρ M = Res.bd (evs T cl es ρ M) fun ds M1 => clN 1 (cl 59) ds M1 := eC fd_tables2_lines rfl rfl rfl
@[simp] theorem h59_0 : evt T cl (.call 59 0 es .nil) ρ M = Res.bd (evs T cl es ρ M) fun ds M1 => Res.bd (clN 1 (cl 59) ds M1) fun z M2 => oR (tru M2 z) M2 := hC fd_tables2_lines rfl rfl rfl
@[simp] theorem e60_0 : ev T cl (.call 60 0 es .nil) ρ M = Res.bd (evs T cl es ρ M) fun ds M1 => clN 2 (cl 60) ds M1 := eC fd_tables2_summed rfl rfl rfl
@[simp] theorem h60_0 : evt T cl (.call 60 0 es .nil) ρ M = Res.bd (evs T cl es ρ M) fun ds M1 => Res.bd (clN 2 (cl 60) ds M1) fun z M2 => oR (tru M2 z) M2 := hC fd_tables2_summed rfl rfl rfl
@[simp] theorem e61_0 : ev T cl (.call 61 0 es .nil) ρ M = Res.bd (evs T cl es ρ M) fun ds M1 => clN 2 (cl 61) ds M1 := eC fd_tables2_scaled rfl rfl rfl
@[simp] theorem h61_0 : evt T cl (.call 61 0 es .nil) ρ M = Res.bd (evs T cl es ρ M) fun ds M1 => Res.bd (clN 2 (cl 61) ds M1) fun z M2 => oR (tru M2 z) M2 := hC fd_tables2_scaled rfl rfl rfl
@[simp] theorem e62_0 : ev T cl (.call 62 0 es .nil) ρ M = Res.bd (evs T cl es ρ M) fun ds M1 => clN 2 (cl 62) ds M1 := eC fd_tables2_times_of rfl rfl rfl
@[simp] theorem h62_0 : evt T cl (.call 62 0 es .nil) ρ M = Res.bd (evs T cl es ρ M) fun ds M1 => Res.bd (clN 2 (cl 62) ds M1) fun z M2 => oR (tru M2 z) M2 := hC fd_tables2_times_of rfl rfl rfl
@[simp] theorem e63_0 : ev T cl (.call 63 0 es .nil) ρ M = Res.bd (evs T cl es ρ M) fun ds M1 => clN 2 (cl 63) ds M1 := eC fd_tables2_fold_of rfl rfl rfl
@[simp] theorem h63_0 : evt T cl (.call 63 0 es .nil) ρ M = Res.bd (evs T cl es ρ M) fun ds M1 => Res.bd (clN 2 (cl 63) ds M1) fun z M2 => oR (tru M2 z) M2 := hC fd_tables2_fold_of rfl rfl rfl
@[simp] theorem e64_0 : ev T cl (.call 64 0 es .nil) ρ M = Res.bd (evs T cl es ρ M) fun ds M1 => clN 1 (cl 64) ds M1 := eC fd_tables2_spread rfl rfl rfl
@[simp] theorem h64_0 : evt T cl (.call 64 0 es .nil) ρ M = Res.bd (evs T cl es ρ M) fun ds M1 => Res.bd (clN 1 (cl 64) ds M1) fun z M2 => oR (tru M2 z) M2 := hC fd_tables2_spread rfl rfl rfl
@[simp] theorem e65_0 : ev T cl (.call 65 0 es .nil) ρ M = Res.bd (evs T cl es ρ M) fun ds M1 => clN 2 (cl 65) ds M1 := eC fd_tables2_plus_tables rfl rfl rfl
@[simp] theorem h65_0 : evt T cl (.call 65 0 es .nil) ρ M = Res.bd (evs T cl es ρ M) fun ds M1 => Res.bd (clN 2 (cl 65) ds M1) fun z M2 => oR (tru M2 z) M2 := hC fd_tables2_plus_tables rfl rfl rfl
@[simp] theorem e66_0 : ev T cl (.call 66 0 es .nil) ρ M = Res.bd (evs T cl es ρ M) fun ds M1 => clN 2 (cl 66) ds M1 := eC fd_tables2_times_tables rfl rfl rfl
@[simp] theorem h66_0 : evt T cl (.call 66 0 es .nil) ρ M = Res.bd (evs T cl es ρ M) fun ds M1 => Res.bd (clN 2 (cl 66) ds M1) fun z M2 => oR (tru M2 z) M2 := hC fd_tables2_times_tables rfl rfl rfl
@[simp] theorem e67_0 : ev T cl (.call 67 0 es .nil) ρ M = Res.bd (evs T cl es ρ M) fun ds M1 => clN 2 (cl 67) ds M1 := eC fd_tables2_fold_tables rfl rfl rfl
@[simp] theorem h67_0 : evt T cl (.call 67 0 es .nil) ρ M = Res.bd (evs T cl es ρ M) fun ds M1 => Res.bd (clN 2 (cl 67) ds M1) fun z M2 => oR (tru M2 z) M2 := hC fd_tables2_fold_tables rfl rfl rfl
@[simp] theorem e68_0 : ev T cl (.call 68 0 es .nil) ρ M = Res.bd (evs T cl es ρ M) fun ds M1 => clN 2 (cl 68) ds M1 := eC fd_tables2_scaled_table rfl rfl rfl
@[simp] theorem h68_0 : evt T cl (.call 68 0 es .nil) ρ M = Res.bd (evs T cl es ρ M) fun ds M1 => Res.bd (clN 2 (cl 68) ds M1) fun z M2 => oR (tru M2 z) M2 := hC fd_tables2_scaled_table rfl rfl rfl
@[simp] theorem e69_0 : ev T cl (.call 69 0 es .nil) ρ M = Res.bd (evs T cl es ρ M) fun ds M1 => clN 1 (cl 69) ds M1 := eC fd_tables2_spread_table rfl rfl rfl
@[simp] theorem h69_0 : evt T cl (.call 69 0 es .nil) ρ M = Res.bd (evs T cl es ρ M) fun ds M1 => Res.bd (clN 1 (cl 69) ds M1) fun z M2 => oR (tru M2 z) M2 := hC fd_tables2_spread_table rfl rfl rfl
@[simp] theorem e12_0 : ev T cl (.call 12 0 es .nil) ρ M = Res.bd (evs T cl es ρ M) fun ds M1 => clN 1 (cl 12) ds M1 := eC fd_spread3_many_of rfl rfl rfl
@[simp] theorem h12_0 : evt T cl (.call 12 0 es .nil) ρ M = Res.bd (evs T cl es ρ M) fun ds M1 => Res.bd (clN 1 (cl 12) ds M1) fun z M2 => oR (tru M2 z) M2 := hC fd_spread3_many_of rfl rfl rfl
@[simp] theorem e13_0 : ev T cl (.call 13 0 es .nil) ρ M = Res.bd (evs T cl es ρ M) fun ds M1 => clN 1 (cl 13) ds M1 := eC fd_spread3_spread_line rfl rfl rfl
@[simp] theorem h13_0 : evt T cl (.call 13 0 es .nil) ρ M = Res.bd (evs T cl es ρ M) fun ds M1 => Res.bd (clN 1 (cl 13) ds M1) fun z M2 => oR (tru M2 z) M2 := hC fd_spread3_spread_line rfl rfl rfl
@[simp] theorem e14_0 : ev T cl (.call 14 0 es .nil) ρ M = Res.bd (evs T cl es ρ M) fun ds M1 => clN 1 (cl 14) ds M1 := eC fd_spread3_parted_line rfl rfl rfl
@[simp] theorem h14_0 : evt T cl (.call 14 0 es .nil) ρ M = Res.bd (evs T cl es ρ M) fun ds M1 => Res.bd (clN 1 (cl 14) ds M1) fun z M2 => oR (tru M2 z) M2 := hC fd_spread3_parted_line rfl rfl rfl
@[simp] theorem e15_0 : ev T cl (.call 15 0 es .nil) ρ M = Res.bd (evs T cl es ρ M) fun ds M1 => clN 1 (cl 15) ds M1 := eC fd_spread3_spread rfl rfl rfl
@[simp] theorem h15_0 : evt T cl (.call 15 0 es .nil) ρ M = Res.bd (evs T cl es ρ M) fun ds M1 => Res.bd (clN 1 (cl 15) ds M1) fun z M2 => oR (tru M2 z) M2 := hC fd_spread3_spread rfl rfl rfl
@[simp] theorem e15_1 : ev T cl (.call 15 1 .nil es) ρ M = Res.bd (evs T cl es ρ M) fun ds M1 => clN 1 (cl 15) ds M1 := eK fd_spread3_spread rfl rfl rfl
@[simp] theorem e16_0 : ev T cl (.call 16 0 es .nil) ρ M = Res.bd (evs T cl es ρ M) fun ds M1 => clN 1 (cl 16) ds M1 := eC fd_spread3_unspread rfl rfl rfl
@[simp] theorem h16_0 : evt T cl (.call 16 0 es .nil) ρ M = Res.bd (evs T cl es ρ M) fun ds M1 => Res.bd (clN 1 (cl 16) ds M1) fun z M2 => oR (tru M2 z) M2 := hC fd_spread3_unspread rfl rfl rfl
@[simp] theorem e16_1 : ev T cl (.call 16 1 .nil es) ρ M = Res.bd (evs T cl es ρ M) fun ds M1 => clN 1 (cl 16) ds M1 := eK fd_spread3_unspread rfl rfl rfl
@[simp] theorem e18_0 : ev T cl (.call 18 0 es .nil) ρ M = Res.bd (evs T cl es ρ M) fun ds M1 => clN 1 (cl 18) ds M1 := eC fd_l_law_begun rfl rfl rfl
@[simp] theorem h18_0 : evt T cl (.call 18 0 es .nil) ρ M = Res.bd (evs T cl es ρ M) fun ds M1 => Res.bd (clN 1 (cl 18) ds M1) fun z M2 => oR (tru M2 z) M2 := hC fd_l_law_begun rfl rfl rfl
@[simp] theorem e19_0 : ev T cl (.call 19 0 es .nil) ρ M = Res.bd (evs T cl es ρ M) fun ds M1 => clN 1 (cl 19) ds M1 := eC fd_l_law_mixed rfl rfl rfl
@[simp] theorem h19_0 : evt T cl (.call 19 0 es .nil) ρ M = Res.bd (evs T cl es ρ M) fun ds M1 => Res.bd (clN 1 (cl 19) ds M1) fun z M2 => oR (tru M2 z) M2 := hC fd_l_law_mixed rfl rfl rfl
@[simp] theorem e20_0 : ev T cl (.call 20 0 es .nil) ρ M = Res.bd (evs T cl es ρ M) fun ds M1 => clN 2 (cl 20) ds M1 := eC fd_l_law_draw rfl rfl rfl
@[simp] theorem h20_0 : evt T cl (.call 20 0 es .nil) ρ M = Res.bd (evs T cl es ρ M) fun ds M1 => Res.bd (clN 2 (cl 20) ds M1) fun z M2 => oR (tru M2 z) M2 := hC fd_l_law_draw rfl rfl rfl
@[simp] theorem e21_0 : ev T cl (.call 21 0 es .nil) ρ M = Res.bd (evs T cl es ρ M) fun ds M1 => clN 2 (cl 21) ds M1 := eC fd_l_law_pick rfl rfl rfl
@[simp] theorem h21_0 : evt T cl (.call 21 0 es .nil) ρ M = Res.bd (evs T cl es ρ M) fun ds M1 => Res.bd (clN 2 (cl 21) ds M1) fun z M2 => oR (tru M2 z) M2 := hC fd_l_law_pick rfl rfl rfl
@[simp] theorem e22_0 : ev T cl (.call 22 0 es .nil) ρ M = Res.bd (evs T cl es ρ M) fun ds M1 => clN 1 (cl 22) ds M1 := eC fd_l_law_plain rfl rfl rfl
@[simp] theorem h22_0 : evt T cl (.call 22 0 es .nil) ρ M = Res.bd (evs T cl es ρ M) fun ds M1 => Res.bd (clN 1 (cl 22) ds M1) fun z M2 => oR (tru M2 z) M2 := hC fd_l_law_plain rfl rfl rfl
@[simp] theorem e23_0 : ev T cl (.call 23 0 es .nil) ρ M = Res.bd (evs T cl es ρ M) fun ds M1 => clN 2 (cl 23) ds M1 := eC fd_l_law_is rfl rfl rfl
@[simp] theorem h23_0 : evt T cl (.call 23 0 es .nil) ρ M = Res.bd (evs T cl es ρ M) fun ds M1 => Res.bd (clN 2 (cl 23) ds M1) fun z M2 => oR (tru M2 z) M2 := hC fd_l_law_is rfl rfl rfl
@[simp] theorem e24_0 : ev T cl (.call 24 0 es .nil) ρ M = Res.bd (evs T cl es ρ M) fun ds M1 => clN 2 (cl 24) ds M1 := eC fd_l_law_common rfl rfl rfl
@[simp] theorem h24_0 : evt T cl (.call 24 0 es .nil) ρ M = Res.bd (evs T cl es ρ M) fun ds M1 => Res.bd (clN 2 (cl 24) ds M1) fun z M2 => oR (tru M2 z) M2 := hC fd_l_law_common rfl rfl rfl
@[simp] theorem e25_0 : ev T cl (.call 25 0 es .nil) ρ M = Res.bd (evs T cl es ρ M) fun ds M1 => clN 2 (cl 25) ds M1 := eC fd_l_law_no rfl rfl rfl
@[simp] theorem h25_0 : evt T cl (.call 25 0 es .nil) ρ M = Res.bd (evs T cl es ρ M) fun ds M1 => Res.bd (clN 2 (cl 25) ds M1) fun z M2 => oR (tru M2 z) M2 := hC fd_l_law_no rfl rfl rfl
@[simp] theorem e26_0 : ev T cl (.call 26 0 es .nil) ρ M = Res.bd (evs T cl es ρ M) fun ds M1 => clN 2 (cl 26) ds M1 := eC fd_l_law_plus rfl rfl rfl
@[simp] theorem h26_0 : evt T cl (.call 26 0 es .nil) ρ M = Res.bd (evs T cl es ρ M) fun ds M1 => Res.bd (clN 2 (cl 26) ds M1) fun z M2 => oR (tru M2 z) M2 := hC fd_l_law_plus rfl rfl rfl
@[simp] theorem e27_0 : ev T cl (.call 27 0 es .nil) ρ M = Res.bd (evs T cl es ρ M) fun ds M1 => clN 2 (cl 27) ds M1 := eC fd_l_law_times rfl rfl rfl
@[simp] theorem h27_0 : evt T cl (.call 27 0 es .nil) ρ M = Res.bd (evs T cl es ρ M) fun ds M1 => Res.bd (clN 2 (cl 27) ds M1) fun z M2 => oR (tru M2 z) M2 := hC fd_l_law_times rfl rfl rfl
@[simp] theorem e28_0 : ev T cl (.call 28 0 es .nil) ρ M = Res.bd (evs T cl es ρ M) fun ds M1 => clN 1 (cl 28) ds M1 := eC fd_l_law_total rfl rfl rfl
@[simp] theorem h28_0 : evt T cl (.call 28 0 es .nil) ρ M = Res.bd (evs T cl es ρ M) fun ds M1 => Res.bd (clN 1 (cl 28) ds M1) fun z M2 => oR (tru M2 z) M2 := hC fd_l_law_total rfl rfl rfl
@[simp] theorem e29_0 : ev T cl (.call 29 0 es .nil) ρ M = Res.bd (evs T cl es ρ M) fun ds M1 => clN 2 (cl 29) ds M1 := eC fd_l_law_some_number rfl rfl rfl
@[simp] theorem h29_0 : evt T cl (.call 29 0 es .nil) ρ M = Res.bd (evs T cl es ρ M) fun ds M1 => Res.bd (clN 2 (cl 29) ds M1) fun z M2 => oR (tru M2 z) M2 := hC fd_l_law_some_number rfl rfl rfl
@[simp] theorem e30_0 : ev T cl (.call 30 0 es .nil) ρ M = Res.bd (evs T cl es ρ M) fun ds M1 => clN 1 (cl 30) ds M1 := eC fd_l_law_points rfl rfl rfl
@[simp] theorem h30_0 : evt T cl (.call 30 0 es .nil) ρ M = Res.bd (evs T cl es ρ M) fun ds M1 => Res.bd (clN 1 (cl 30) ds M1) fun z M2 => oR (tru M2 z) M2 := hC fd_l_law_points rfl rfl rfl
@[simp] theorem e31_0 : ev T cl (.call 31 0 es .nil) ρ M = Res.bd (evs T cl es ρ M) fun ds M1 => clN 1 (cl 31) ds M1 := eC fd_l_law_wide rfl rfl rfl
@[simp] theorem h31_0 : evt T cl (.call 31 0 es .nil) ρ M = Res.bd (evs T cl es ρ M) fun ds M1 => Res.bd (clN 1 (cl 31) ds M1) fun z M2 => oR (tru M2 z) M2 := hC fd_l_law_wide rfl rfl rfl
@[simp] theorem e32_0 : ev T cl (.call 32 0 es .nil) ρ M = Res.bd (evs T cl es ρ M) fun ds M1 => clN 2 (cl 32) ds M1 := eC fd_l_law_sign rfl rfl rfl
@[simp] theorem h32_0 : evt T cl (.call 32 0 es .nil) ρ M = Res.bd (evs T cl es ρ M) fun ds M1 => Res.bd (clN 2 (cl 32) ds M1) fun z M2 => oR (tru M2 z) M2 := hC fd_l_law_sign rfl rfl rfl
@[simp] theorem e33_0 : ev T cl (.call 33 0 es .nil) ρ M = Res.bd (evs T cl es ρ M) fun ds M1 => clN 2 (cl 33) ds M1 := eC fd_l_law_spread rfl rfl rfl
@[simp] theorem h33_0 : evt T cl (.call 33 0 es .nil) ρ M = Res.bd (evs T cl es ρ M) fun ds M1 => Res.bd (clN 2 (cl 33) ds M1) fun z M2 => oR (tru M2 z) M2 := hC fd_l_law_spread rfl rfl rfl
@[simp] theorem e48_0 : ev T cl (.call 48 0 es .nil) ρ M = Res.bd (evs T cl es ρ M) fun ds M1 => clN 3 (cl 48) ds M1 := eC fd_l_law_folded rfl rfl rfl
@[simp] theorem h48_0 : evt T cl (.call 48 0 es .nil) ρ M = Res.bd (evs T cl es ρ M) fun ds M1 => Res.bd (clN 3 (cl 48) ds M1) fun z M2 => oR (tru M2 z) M2 := hC fd_l_law_folded rfl rfl rfl
@[simp] theorem e34_0 : ev T cl (.call 34 0 es .nil) ρ M = Res.bd (evs T cl es ρ M) fun ds M1 => clN 2 (cl 34) ds M1 := eC fd_l_law_some_line rfl rfl rfl
@[simp] theorem h34_0 : evt T cl (.call 34 0 es .nil) ρ M = Res.bd (evs T cl es ρ M) fun ds M1 => Res.bd (clN 2 (cl 34) ds M1) fun z M2 => oR (tru M2 z) M2 := hC fd_l_law_some_line rfl rfl rfl
@[simp] theorem e49_0 : ev T cl (.call 49 0 es .nil) ρ M = Res.bd (evs T cl es ρ M) fun ds M1 => clN 2 (cl 49) ds M1 := eC fd_l_law_some_holed rfl rfl rfl
@[simp] theorem h49_0 : evt T cl (.call 49 0 es .nil) ρ M = Res.bd (evs T cl es ρ M) fun ds M1 => Res.bd (clN 2 (cl 49) ds M1) fun z M2 => oR (tru M2 z) M2 := hC fd_l_law_some_holed rfl rfl rfl
@[simp] theorem e35_0 : ev T cl (.call 35 0 es .nil) ρ M = Res.bd (evs T cl es ρ M) fun ds M1 => clN 1 (cl 35) ds M1 := eC fd_l_law rfl rfl rfl
@[simp] theorem h35_0 : evt T cl (.call 35 0 es .nil) ρ M = Res.bd (evs T cl es ρ M) fun ds M1 => Res.bd (clN 1 (cl 35) ds M1) fun z M2 => oR (tru M2 z) M2 := hC fd_l_law rfl rfl rfl
end
end Sw
end

section
/-! IvWal: sums over points, signs, spreading, folding: plain mathematics. -/
set_option Elab.async false
set_option linter.all false
set_option maxHeartbeats 1000000
namespace Wal
def sumR (x : Rat) : List Rat → Rat
  | [] => x
  | y :: ys => sumR (x + y) ys
theorem sumR_add : ∀ (ys : List Rat) (x : Rat), sumR x ys = x + sumR 0 ys
  | [], x => by simp only [sumR]; grind
  | y :: ys, x => by
    simp only [sumR]
    rw [sumR_add ys (x + y), sumR_add ys (0 + y)]
    grind
theorem sumR_cons (y : Rat) (ys : List Rat) : sumR 0 (y :: ys) = y + sumR 0 ys := by
  show sumR (0 + y) ys = _
  rw [sumR_add]
  grind
theorem sumR_append : ∀ (xs ys : List Rat), sumR 0 (xs ++ ys) = sumR 0 xs + sumR 0 ys
  | [], ys => by simp only [sumR, List.nil_append]; grind
  | x :: xs, ys => by
    rw [List.cons_append, sumR_cons, sumR_cons, sumR_append xs ys]
    grind
/-- the points, rising -/
def pts : Nat → List (List Int)
  | 0 => [[]]
  | n + 1 => (pts n).map (0 :: ·) ++ (pts n).map (1 :: ·)
theorem pts_len : ∀ n, (pts n).length = 2 ^ n
  | 0 => rfl
  | n + 1 => by
    show ((pts n).map _ ++ (pts n).map _).length = _
    rw [List.length_append, List.length_map, List.length_map, pts_len n, Nat.pow_succ]
    omega
theorem pts_mem : ∀ n, ∀ l ∈ pts n, l.length = n ∧ ∀ b ∈ l, b = 0 ∨ b = 1
  | 0, l, h => by simp [pts] at h; simp [h]
  | n + 1, l, h => by
    simp only [pts, List.mem_append, List.mem_map] at h
    rcases h with ⟨q, hq, rfl⟩ | ⟨q, hq, rfl⟩ <;>
    · have := pts_mem n q hq
      refine ⟨by simp [this.1], ?_⟩
      intro b hb
      rcases List.mem_cons.mp hb with rfl | hb
      · simp
      · exact this.2 b hb
theorem mem_pts : ∀ {n : Nat} {l : List Int}, l.length = n → (∀ b ∈ l, b = 0 ∨ b = 1) → l ∈ pts n
  | 0, [], _, _ => by simp [pts]
  | n + 1, b :: l, h, hb => by
    have ih := mem_pts (n := n) (l := l) (by simpa using h) fun c hc => hb c (.tail _ hc)
    simp only [pts, List.mem_append, List.mem_map]
    rcases hb b (.head _) with rfl | rfl
    · exact .inl ⟨l, ih, rfl⟩
    · exact .inr ⟨l, ih, rfl⟩
theorem pts_nodup : ∀ n, (pts n).Nodup
  | 0 => by simp [pts]
  | n + 1 => by
    have ih := pts_nodup n
    simp only [pts]
    rw [List.nodup_append]
    refine ⟨?_, ?_, ?_⟩
    · exact List.Pairwise.map _ (fun a b h => by simpa using h) ih
    · exact List.Pairwise.map _ (fun a b h => by simpa using h) ih
    · intro a ha b hb e
      obtain ⟨x, _, rfl⟩ := List.mem_map.mp ha
      obtain ⟨y, _, rfl⟩ := List.mem_map.mp hb
      simp at e
/-- a sum over all points -/
def S (m : Nat) (g : List Int → Rat) : Rat := sumR 0 ((pts m).map g)
theorem S_zero (g : List Int → Rat) : S 0 g = g [] := by
  show sumR 0 [g []] = _
  rw [sumR_cons]; simp only [sumR]; grind
theorem S_succ (m : Nat) (g : List Int → Rat) : S (m + 1) g = S m (fun p => g (0 :: p)) + S m (fun p => g (1 :: p)) := by
  unfold S
  simp only [pts]
  rw [List.map_append, sumR_append, List.map_map, List.map_map]
  rfl
theorem sum_congr {α : Type} : ∀ {l : List α} {f g : α → Rat}, (∀ x ∈ l, f x = g x) → sumR 0 (l.map f) = sumR 0 (l.map g)
  | l, f, g, h => by rw [List.map_congr_left h]
theorem S_congr {m : Nat} {f g : List Int → Rat} (h : ∀ x ∈ pts m, f x = g x) : S m f = S m g := sum_congr h
theorem S_add (m : Nat) (f g : List Int → Rat) : S m (fun x => f x + g x) = S m f + S m g := by
  unfold S
  generalize pts m = l
  induction l with
  | nil => simp only [List.map_nil, sumR]; grind
  | cons a l ih => simp only [List.map_cons, sumR_cons, ih]; grind
theorem S_sub (m : Nat) (f g : List Int → Rat) : S m (fun x => f x - g x) = S m f - S m g := by
  unfold S
  generalize pts m = l
  induction l with
  | nil => simp only [List.map_nil, sumR]; grind
  | cons a l ih => simp only [List.map_cons, sumR_cons, ih]; grind
theorem S_mul (m : Nat) (c : Rat) (f : List Int → Rat) : S m (fun x => c * f x) = c * S m f := by
  unfold S
  generalize pts m = l
  induction l with
  | nil => simp only [List.map_nil, sumR]; grind
  | cons a l ih => simp only [List.map_cons, sumR_cons, ih]; grind
theorem S_zero_fn (m : Nat) : S m (fun _ => 0) = 0 := by
  have := S_mul m 0 (fun _ => 0)
  have e : (fun _ : List Int => (0 : Rat) * 0) = fun _ => 0 := by funext _; decide +kernel
  rw [e] at this
  rw [this]
  grind
/-- a line of numbers as a function of the points -/
theorem line_fn {α : Type} (z : α) : ∀ (l : List (List Int)) (xs : List α), l.Nodup → xs.length = l.length → ∃ f : List Int → α, xs = l.map f
  | [], [], _, _ => ⟨fun _ => z, rfl⟩
  | p :: l, x :: xs, hn, hl => by
    rw [List.nodup_cons] at hn
    obtain ⟨f, e⟩ := line_fn z l xs hn.2 (by simpa using hl)
    refine ⟨fun q => if q = p then x else f q, ?_⟩
    rw [List.map_cons, if_pos rfl, e]
    congr 1
    refine List.map_congr_left fun q hq => ?_
    rw [if_neg (fun e : q = p => hn.1 (by rw [← e]; exact hq))]
  | [], _ :: _, _, h => by simp at h
  | _ :: _, [], _, h => by simp at h
/-! ### signs -/
def dot : List Int → List Int → List Int
  | a :: p, b :: q => a * b :: dot p q
  | _, _ => []
def sgn (p q : List Int) : Int := 1 - 2 * ((dot p q).sum % 2)
def chi (p q : List Int) : Rat := ((sgn p q : Int) : Rat)
theorem sgn_one (p q : List Int) : sgn p q = 1 ∨ sgn p q = -1 := by unfold sgn; omega
theorem chi_one (p q : List Int) : chi p q = 1 ∨ chi p q = -1 := by
  unfold chi
  rcases sgn_one p q with h | h <;> rw [h]
  · exact .inl rfl
  · exact .inr rfl
theorem chi_nil : chi [] [] = 1 := rfl
theorem chi_0 (b : Int) (p q : List Int) : chi (0 :: p) (b :: q) = chi p q := by
  unfold chi sgn
  simp [dot]
theorem chi_10 (p q : List Int) : chi (1 :: p) (0 :: q) = chi p q := by
  unfold chi sgn
  simp [dot]
theorem chi_11 (p q : List Int) : chi (1 :: p) (1 :: q) = - chi p q := by
  unfold chi
  have : sgn (1 :: p) (1 :: q) = - sgn p q := by
    unfold sgn
    simp only [dot, List.sum_cons]
    omega
  rw [this]
  simp
theorem chi_sq (p q : List Int) : chi p q * chi p q = 1 := by
  rcases chi_one p q with h | h <;> rw [h] <;> decide +kernel
/-! ### spreading -/
def W (m : Nat) (f : List Int → Rat) (s : List Int) : Rat := S m fun x => chi s x * f x
theorem W_congr {m : Nat} {f g : List Int → Rat} (h : ∀ x ∈ pts m, f x = g x) (s : List Int) : W m f s = W m g s := S_congr fun x hx => by rw [h x hx]
theorem W_zero (f : List Int → Rat) : W 0 f [] = f [] := by
  unfold W
  rw [S_zero, chi_nil]
  grind
theorem W_0 (m : Nat) (f : List Int → Rat) (s : List Int) : W (m + 1) f (0 :: s) = W m (fun p => f (0 :: p)) s + W m (fun p => f (1 :: p)) s := by
  unfold W
  rw [S_succ]
  simp only [chi_0]
theorem W_1 (m : Nat) (f : List Int → Rat) (s : List Int) : W (m + 1) f (1 :: s) = W m (fun p => f (0 :: p)) s - W m (fun p => f (1 :: p)) s := by
  unfold W
  rw [S_succ]
  simp only [chi_10, chi_11]
  rw [← S_sub, ← S_add]
  refine S_congr fun x _ => ?_
  grind
theorem W_add (m : Nat) (f g : List Int → Rat) (s : List Int) : W m (fun x => f x + g x) s = W m f s + W m g s := by
  unfold W
  rw [← S_add]
  exact S_congr fun x _ => by grind
theorem W_sub (m : Nat) (f g : List Int → Rat) (s : List Int) : W m (fun x => f x - g x) s = W m f s - W m g s := by
  unfold W
  rw [← S_sub]
  exact S_congr fun x _ => by grind
theorem W_mul (m : Nat) (c : Rat) (f : List Int → Rat) (s : List Int) : W m (fun x => c * f x) s = c * W m f s := by
  unfold W
  rw [← S_mul]
  exact S_congr fun x _ => by grind
/-- how many points there are -/
def wd (m : Nat) : Rat := ((2 ^ m : Nat) : Rat)
theorem wd_zero : wd 0 = 1 := rfl
theorem wd_succ (m : Nat) : wd (m + 1) = 2 * wd m := by
  unfold wd
  rw [Nat.pow_succ]
  push_cast
  grind
theorem wd_ne (m : Nat) : wd m ≠ 0 := by
  induction m with
  | zero => rw [wd_zero]; decide
  | succ m ih => rw [wd_succ]; grind
/-- spread twice -/
theorem WW : ∀ (m : Nat) (f : List Int → Rat) (x : List Int), x ∈ pts m → W m (W m f) x = wd m * f x
  | 0, f, x, h => by
    obtain rfl : x = [] := by simpa [pts] using h
    rw [W_zero, W_zero, wd_zero]
    grind
  | m + 1, f, x, h => by
    simp only [pts, List.mem_append, List.mem_map] at h
    rcases h with ⟨q, hq, rfl⟩ | ⟨q, hq, rfl⟩
    · rw [W_0]
      simp only [W_0, W_1]
      rw [W_add, W_sub, WW m _ q hq, WW m _ q hq, wd_succ]
      grind
    · rw [W_1]
      simp only [W_0, W_1]
      rw [W_add, W_sub, WW m _ q hq, WW m _ q hq, wd_succ]
      grind
/-- the line that spreads to f -/
def U (m : Nat) (f : List Int → Rat) (x : List Int) : Rat := (1 / wd m) * W m f x
theorem WU (m : Nat) (f : List Int → Rat) (x : List Int) (h : x ∈ pts m) : W m (U m f) x = f x := by
  unfold U
  rw [W_mul, WW m f x h]
  have := wd_ne m
  grind
theorem UW (m : Nat) (f : List Int → Rat) (x : List Int) (h : x ∈ pts m) : U m (W m f) x = f x := by
  unfold U
  rw [WW m f x h]
  have := wd_ne m
  grind
theorem W_inj {m : Nat} {f g : List Int → Rat} (h : ∀ s ∈ pts m, W m f s = W m g s) : ∀ x ∈ pts m, f x = g x := fun x hx => by
  rw [← UW m f x hx, ← UW m g x hx]
  unfold U
  rw [W_congr h]
/-! ### folding -/
def xr : List Int → List Int → List Int
  | a :: p, b :: q => (if a = b then 0 else 1) :: xr p q
  | _, _ => []
theorem xr_mem : ∀ {m : Nat} {p q : List Int}, p ∈ pts m → q ∈ pts m → xr p q ∈ pts m := fun {m p q} hp hq => by
  have h1 := pts_mem m p hp
  have h2 := pts_mem m q hq
  refine mem_pts ?_ ?_
  · have : ∀ (p q : List Int), p.length = q.length → (xr p q).length = p.length := by
      intro p
      induction p with
      | nil => intro q _; simp [xr]
      | cons a p ih =>
        intro q h
        cases q with
        | nil => simp at h
        | cons b q => simp [xr, ih q (by simpa using h)]
    rw [this p q (by rw [h1.1, h2.1]), h1.1]
  · have : ∀ (p q : List Int), ∀ b ∈ xr p q, b = 0 ∨ b = 1 := by
      intro p
      induction p with
      | nil => intro q b hb; simp [xr] at hb
      | cons a p ih =>
        intro q b hb
        cases q with
        | nil => simp [xr] at hb
        | cons c q =>
          simp only [xr, List.mem_cons] at hb
          rcases hb with rfl | hb
          · split <;> simp
          · exact ih q b hb
    exact this p q
def fo (m : Nat) (f g : List Int → Rat) (x : List Int) : Rat := S m fun y => f y * g (xr x y)
theorem fo_zero (f g : List Int → Rat) : fo 0 f g [] = f [] * g [] := by
  unfold fo
  rw [S_zero]; rfl
theorem fo_0 (m : Nat) (f g : List Int → Rat) (x : List Int) : fo (m + 1) f g (0 :: x) = fo m (fun p => f (0 :: p)) (fun p => g (0 :: p)) x + fo m (fun p => f (1 :: p)) (fun p => g (1 :: p)) x := by
  unfold fo
  rw [S_succ]
  simp [xr]
theorem fo_1 (m : Nat) (f g : List Int → Rat) (x : List Int) : fo (m + 1) f g (1 :: x) = fo m (fun p => f (0 :: p)) (fun p => g (1 :: p)) x + fo m (fun p => f (1 :: p)) (fun p => g (0 :: p)) x := by
  unfold fo
  rw [S_succ]
  simp [xr]
/-- a fold spread -/
theorem W_fo : ∀ (m : Nat) (f g : List Int → Rat) (s : List Int), s ∈ pts m → W m (fo m f g) s = W m f s * W m g s
  | 0, f, g, s, h => by
    obtain rfl : s = [] := by simpa [pts] using h
    rw [W_zero, W_zero, W_zero, fo_zero]
  | m + 1, f, g, s, h => by
    simp only [pts, List.mem_append, List.mem_map] at h
    rcases h with ⟨q, hq, rfl⟩ | ⟨q, hq, rfl⟩
    · rw [W_0, W_0, W_0]
      simp only [fo_0, fo_1]
      rw [W_add, W_add, W_fo m _ _ q hq, W_fo m _ _ q hq, W_fo m _ _ q hq, W_fo m _ _ q hq]
      grind
    · rw [W_1, W_1, W_1]
      simp only [fo_0, fo_1]
      rw [W_add, W_add, W_fo m _ _ q hq, W_fo m _ _ q hq, W_fo m _ _ q hq, W_fo m _ _ q hq]
      grind
theorem fo_congr {m : Nat} {f f' g g' : List Int → Rat} (h : ∀ x ∈ pts m, f x = f' x) (k : ∀ x ∈ pts m, g x = g' x) {x : List Int} (hx : x ∈ pts m) : fo m f g x = fo m f' g' x :=
  S_congr fun y hy => by rw [h y hy, k _ (xr_mem hx hy)]
/-! ### the unit -/
def un : List Int → Rat
  | [] => 1
  | b :: p => if b = 0 then un p else 0
theorem W_un : ∀ (m : Nat) (s : List Int), s ∈ pts m → W m un s = 1
  | 0, s, h => by
    obtain rfl : s = [] := by simpa [pts] using h
    rw [W_zero]; rfl
  | m + 1, s, h => by
    have z : ∀ s, W m (fun p => un (1 :: p)) s = 0 := fun s => by
      have : W m (fun p => un (1 :: p)) s = W m (fun _ => 0 * 0) s := W_congr (fun x _ => by simp [un]) s
      rw [this, W_mul]; grind
    simp only [pts, List.mem_append, List.mem_map] at h
    rcases h with ⟨q, hq, rfl⟩ | ⟨q, hq, rfl⟩
    · rw [W_0, z]
      have := W_un m q hq
      simp only [un]
      simp only [if_true]
      rw [show (W m (fun p => un p) q) = W m un q from rfl, this]
      grind
    · rw [W_1, z]
      have := W_un m q hq
      simp only [un, if_true]
      rw [show (W m (fun p => un p) q) = W m un q from rfl, this]
      grind
theorem un_line : ∀ m, (pts m).map un = 1 :: List.replicate (2 ^ m - 1) 0
  | 0 => rfl
  | m + 1 => by
    have ih := un_line m
    have h2 := Nat.two_pow_pos m
    simp only [pts]
    rw [List.map_append, List.map_map, List.map_map]
    have e0 : (pts m).map (un ∘ fun x => 0 :: x) = (pts m).map un := List.map_congr_left fun x _ => by simp [un]
    have e1 : (pts m).map (un ∘ fun x => 1 :: x) = List.replicate (2 ^ m) 0 := by
      rw [← pts_len m]
      generalize pts m = l
      induction l with
      | nil => rfl
      | cons a l ih => simp [un, List.replicate_succ] at ih ⊢; exact ih
    rw [e0, e1, ih, List.cons_append, List.replicate_append_replicate]
    congr 2
    rw [Nat.pow_succ]
    omega
theorem chi_xr : ∀ (m : Nat) (s x y : List Int), s ∈ pts m → x ∈ pts m → y ∈ pts m → chi s (xr x y) = chi s x * chi s y
  | 0, s, x, y, hs, hx, hy => by
    obtain rfl : s = [] := by simpa [pts] using hs
    obtain rfl : x = [] := by simpa [pts] using hx
    obtain rfl : y = [] := by simpa [pts] using hy
    decide +kernel
  | m + 1, s, x, y, hs, hx, hy => by
    simp only [pts, List.mem_append, List.mem_map] at hs hx hy
    rcases hs with ⟨s, hs, rfl⟩ | ⟨s, hs, rfl⟩ <;> rcases hx with ⟨x, hx, rfl⟩ | ⟨x, hx, rfl⟩ <;> rcases hy with ⟨y, hy, rfl⟩ | ⟨y, hy, rfl⟩ <;>
    · have ih := chi_xr m s x y hs hx hy
      simp [xr, chi_0, chi_10, chi_11, ih]
      try grind
/-- signs folded with a table that is spread 0 there -/
theorem fo_chi (m : Nat) (f : List Int → Rat) (c : Rat) (s x : List Int) (hs : s ∈ pts m) (hx : x ∈ pts m) : fo m f (fun y => chi s y * c) x = chi s x * c * W m f s := by
  unfold fo W
  rw [← S_mul]
  refine S_congr fun y hy => ?_
  show f y * (chi s (xr x y) * c) = _
  rw [chi_xr m s x y hs hx hy]
  grind
end Wal
end

section
/-! IvWal2: fractions over one denominator. -/
set_option Elab.async false
set_option linter.all false
set_option maxHeartbeats 1000000
namespace Wal
/-- x is some a over d, a at most n -/
def Fr (d n : Nat) (x : Rat) : Prop := ∃ a : Int, x * (d : Rat) = (a : Rat) ∧ a.natAbs ≤ n
theorem Fr.mono {d n m : Nat} {x : Rat} (h : Fr d n x) (k : n ≤ m) : Fr d m x := by
  obtain ⟨a, e, b⟩ := h
  exact ⟨a, e, Nat.le_trans b k⟩
theorem Fr.add {d n m : Nat} {x y : Rat} (h : Fr d n x) (k : Fr d m y) : Fr d (n + m) (x + y) := by
  obtain ⟨a, e, b⟩ := h
  obtain ⟨c, f, g⟩ := k
  refine ⟨a + c, ?_, Nat.le_trans (Int.natAbs_add_le a c) (Nat.add_le_add b g)⟩
  rw [Rat.intCast_add, ← e, ← f]
  grind
theorem Fr.neg {d n : Nat} {x : Rat} (h : Fr d n x) : Fr d n (-x) := by
  obtain ⟨a, e, b⟩ := h
  refine ⟨-a, ?_, by rw [Int.natAbs_neg]; exact b⟩
  rw [Rat.intCast_neg, ← e]
  grind
theorem Fr.mul {d n e m : Nat} {x y : Rat} (h : Fr d n x) (k : Fr e m y) : Fr (d * e) (n * m) (x * y) := by
  obtain ⟨a, ha, b⟩ := h
  obtain ⟨c, hc, g⟩ := k
  refine ⟨a * c, ?_, by rw [Int.natAbs_mul]; exact Nat.mul_le_mul b g⟩
  rw [Rat.intCast_mul, ← ha, ← hc, Rat.natCast_mul]
  grind
theorem Fr.zero (d n : Nat) : Fr d n 0 := ⟨0, by simp, by simp⟩
theorem Fr.int (i : Int) : Fr 1 i.natAbs (i : Rat) := ⟨i, by simp, Nat.le_refl _⟩
theorem Fr.sum {d n : Nat} : ∀ (xs : List Rat), (∀ x ∈ xs, Fr d n x) → Fr d (xs.length * n) (sumR 0 xs)
  | [], _ => Fr.zero d _
  | x :: xs, h => by
    rw [sumR_cons, List.length_cons, Nat.succ_mul, Nat.add_comm]
    exact (h x (.head _)).add (Fr.sum xs fun y hy => h y (.tail _ hy))
theorem Fr.chi {d n : Nat} {x : Rat} (h : Fr d n x) (p q : List Int) : Fr d n (chi p q * x) := by
  rcases chi_one p q with e | e <;> rw [e]
  · have : (1 : Rat) * x = x := by grind
    rw [this]; exact h
  · have : (-1 : Rat) * x = -x := by grind
    rw [this]; exact h.neg
theorem Fr.S {d n m : Nat} {g : List Int → Rat} (h : ∀ x ∈ pts m, Fr d n (g x)) : Fr d (2 ^ m * n) (S m g) := by
  have := Fr.sum (d := d) (n := n) ((pts m).map g) fun x hx => by
    obtain ⟨p, hp, rfl⟩ := List.mem_map.mp hx
    exact h p hp
  rw [List.length_map, pts_len] at this
  exact this
theorem Fr.W {d n m : Nat} {f : List Int → Rat} (h : ∀ x ∈ pts m, Fr d n (f x)) (s : List Int) : Fr d (2 ^ m * n) (W m f s) := Fr.S fun x hx => (h x hx).chi s x
theorem Fr.share {d n : Nat} {x : Rat} (h : Fr d n x) (m : Nat) : Fr (2 ^ m * d) n ((1 / wd m) * x) := by
  obtain ⟨a, e, b⟩ := h
  refine ⟨a, ?_, b⟩
  have hw := wd_ne m
  rw [Rat.natCast_mul, ← e]
  show 1 / wd m * x * (wd m * (d : Rat)) = _
  grind
theorem Fr.U {d n m : Nat} {f : List Int → Rat} (h : ∀ x ∈ pts m, Fr d n (f x)) (s : List Int) : Fr (2 ^ m * d) (2 ^ m * n) (U m f s) := (Fr.W h s).share m
/-- one over some numbers, over one denominator -/
theorem Fr.inv {d n : Nat} (hd : 0 < d) (hn : 0 < n) : ∀ (xs : List Rat), (∀ x ∈ xs, Fr d n x ∧ x ≠ 0) → ∃ p : Nat, 0 < p ∧ p ≤ n ^ xs.length ∧ ∀ x ∈ xs, Fr p (d * p) (1 / x)
  | [], _ => ⟨1, by decide, by simp, fun x hx => by simp at hx⟩
  | x :: xs, h => by
    obtain ⟨p, p0, p1, p2⟩ := Fr.inv hd hn xs fun y hy => h y (.tail _ hy)
    obtain ⟨⟨a, e, b⟩, hx⟩ := h x (.head _)
    have ha : a ≠ 0 := by
      intro z
      rw [z] at e
      have hd' : (d : Rat) ≠ 0 := by
        intro q
        have : d = 0 := by exact_mod_cast q
        omega
      have : x * (d : Rat) = 0 := by rw [e]; rfl
      rcases Rat.mul_eq_zero.mp this with q | q
      · exact hx q
      · exact hd' q
    have hp : 0 < a.natAbs := Int.natAbs_pos.mpr ha
    refine ⟨a.natAbs * p, Nat.mul_pos hp p0, ?_, ?_⟩
    · rw [List.length_cons, Nat.pow_succ, Nat.mul_comm (n ^ xs.length)]
      exact Nat.mul_le_mul b p1
    · intro y hy
      rcases List.mem_cons.mp hy with rfl | hy
      · refine ⟨a.sign * (d * p : Nat), ?_, ?_⟩
        · have e1 : (1 / y) * (a : Rat) = (d : Rat) := by rw [← e]; grind
          have e2 : ((a.natAbs : Nat) : Rat) = (a.sign : Rat) * (a : Rat) := by
            rw [← Rat.intCast_mul, Int.sign_mul_self]; rfl
          rw [Rat.natCast_mul, e2, Rat.intCast_mul, Rat.intCast_natCast, Rat.natCast_mul, ← e1]
          grind
        · rw [Int.natAbs_mul, Int.natAbs_natCast]
          have s1 : a.sign.natAbs = 1 := by rw [Int.natAbs_sign]; simp [ha]
          rw [s1, Nat.one_mul]
          exact Nat.mul_le_mul_left d (Nat.le_mul_of_pos_left p hp)
      · obtain ⟨c, e1, e2⟩ := p2 y hy
        refine ⟨a.natAbs * c, ?_, ?_⟩
        · rw [Rat.natCast_mul, Rat.intCast_mul, Rat.intCast_natCast, ← e1]
          grind
        · rw [Int.natAbs_mul, Int.natAbs_natCast]
          calc a.natAbs * c.natAbs ≤ a.natAbs * (d * p) := Nat.mul_le_mul_left _ e2
            _ = d * (a.natAbs * p) := by rw [← Nat.mul_assoc, ← Nat.mul_assoc, Nat.mul_comm a.natAbs d]
end Wal
end

section
set_option Elab.async false
set_option linter.all false
set_option maxHeartbeats 1000000
/-! numbers1 and the law's own numbers -/
namespace Sw
open PySem L2 Iv
/-- a number: numerator, denominator -/
def numD (x : Rat) : D := .tup [.int x.num, .int (x.den : Int)]
/-- both below 2^s -/
def Sz (s : Nat) (x : Rat) : Prop := x.num.natAbs < 2 ^ s ∧ x.den < 2 ^ s
theorem log2_lt {n s : Nat} (h : n < 2 ^ s) (hs : 0 < s) : n.log2 < s := by
  by_cases c : n = 0
  · subst c; simpa using hs
  · exact (Nat.log2_lt c).mpr h
theorem gcd_i (u : Int) (l : Nat) : ((Nat.gcd u.natAbs ((l : Int)).natAbs : Nat) : Int) = ((u.natAbs.gcd l : Nat) : Int) := by simp
theorem norm_D (u : Int) (l : Nat) (h : l ≠ 0) : numD (Rat.normalize u l h) = .tup [.int (u / ((u.natAbs.gcd l : Nat) : Int)), .int ((l : Int) / ((u.natAbs.gcd l : Nat) : Int))] := by
  unfold numD
  rw [Rat.normalize_eq]
  simp
theorem t_number (u : Int) (l : Nat) (h : l ≠ 0) {s : Nat} (hb : l < 2 ^ s) (hs : s ≤ 8000) (k : Nat) (M : Sto) : callF T (k + 1) 3 [.int u, .int (l : Int)] M = .ok (numD (Rat.normalize u l h)) M := by
  have gp : 0 < u.natAbs.gcd l := Nat.gcd_pos_of_pos_right _ (Nat.pos_of_ne_zero h)
  have gl : u.natAbs.gcd l ≤ l := Nat.gcd_le_right _ (Nat.pos_of_ne_zero h)
  have hl : (u.natAbs.gcd l).log2 < 9000 := by
    have p : 0 < s := by
      cases s with
      | zero => simp at hb; omega
      | succ n => omega
    have := log2_lt (Nat.lt_of_le_of_lt gl hb) p
    omega
  have lp : (0 : Int) < (l : Int) := by omega
  rw [call_def fd_numbers1_number rfl, norm_D]
  have lp' : 0 < l := Nat.pos_of_ne_zero h
  have f1 : binop .fdiv (.int u) (.int ((u.natAbs.gcd l : Nat) : Int)) = some (.int (u / ((u.natAbs.gcd l : Nat) : Int))) := b_fdiv (by omega) (by simpa using hl)
  have f2 : binop .fdiv (.int (l : Int)) (.int ((u.natAbs.gcd l : Nat) : Int)) = some (.int ((l : Int) / ((u.natAbs.gcd l : Nat) : Int))) := b_fdiv (by omega) (by simpa using hl)
  simp [F_numbers1_number, B_numbers1_number, lp', f1, f2, sizeLine_eq]
end Sw
end

section
set_option Elab.async false
set_option linter.all false
set_option maxHeartbeats 1000000
namespace Sw
open PySem L2 Iv
theorem Sz.num {s : Nat} {x : Rat} (h : Sz s x) : x.num.natAbs < 2 ^ s := h.1
theorem Sz.den {s : Nat} {x : Rat} (h : Sz s x) : x.den < 2 ^ s := h.2
theorem Sz.pos {s : Nat} {x : Rat} (h : Sz s x) : 0 < s := by
  have := h.2
  have := x.den_pos
  cases s with
  | zero => simp at *; omega
  | succ n => omega
theorem Sz.mono {s t : Nat} {x : Rat} (h : Sz s x) (k : s ≤ t) : Sz t x := ⟨Nat.lt_of_lt_of_le h.1 (Nat.pow_le_pow_right (by decide) k), Nat.lt_of_lt_of_le h.2 (Nat.pow_le_pow_right (by decide) k)⟩
theorem mul_log {u v : Int} {s t : Nat} (h : u.natAbs < 2 ^ s) (k : v.natAbs < 2 ^ t) (hs : 0 < s) (ht : 0 < t) (b : s + t ≤ 100000) : u.natAbs.log2 + v.natAbs.log2 < 1000000 := by
  have := log2_lt h hs
  have := log2_lt k ht
  omega
theorem norm_sz {u : Int} {l s : Nat} (h : l ≠ 0) (hu : u.natAbs < 2 ^ s) (hl : l < 2 ^ s) : Sz s (Rat.normalize u l h) := by
  rw [Rat.normalize_eq]
  constructor
  · show (u / _ : Int).natAbs < _
    refine Nat.lt_of_le_of_lt ?_ hu
    rw [Int.natAbs_ediv_of_dvd (Int.ofNat_dvd_left.mpr (Nat.gcd_dvd_left _ _))]
    exact Nat.div_le_self _ _
  · exact Nat.lt_of_le_of_lt (Nat.div_le_self _ _) hl
theorem natmul_lt {a b s t : Nat} (h : a < 2 ^ s) (k : b < 2 ^ t) : a * b < 2 ^ (s + t) := by
  rw [Nat.pow_add]
  exact Nat.mul_lt_mul'' h k
theorem sz_add {s t : Nat} {x y : Rat} (h : Sz s x) (k : Sz t y) : Sz (s + t + 1) (x + y) := by
  rw [Rat.add_def]
  refine norm_sz _ ?_ ?_
  · have e1 := natmul_lt h.1 k.2
    have e2 := natmul_lt k.1 h.2
    have := Int.natAbs_add_le (x.num * y.den) (y.num * x.den)
    rw [Int.natAbs_mul, Int.natAbs_mul] at this
    simp only [Int.natAbs_natCast] at this
    rw [Nat.add_comm t s] at e2
    rw [Nat.pow_succ]
    omega
  · have := natmul_lt h.2 k.2
    rw [Nat.pow_succ]
    omega
theorem sz_mul {s t : Nat} {x y : Rat} (h : Sz s x) (k : Sz t y) : Sz (s + t) (x * y) := by
  rw [Rat.mul_def]
  refine norm_sz _ ?_ ?_
  · rw [Int.natAbs_mul]
    exact natmul_lt h.1 k.1
  · exact natmul_lt h.2 k.2
theorem sz_neg {s : Nat} {x : Rat} (h : Sz s x) : Sz s (-x) := by
  constructor
  · rw [Rat.neg_num, Int.natAbs_neg]; exact h.1
  · rw [Rat.neg_den]; exact h.2
theorem sz_sub {s t : Nat} {x y : Rat} (h : Sz s x) (k : Sz t y) : Sz (s + t + 1) (x - y) := by
  rw [Rat.sub_eq_add_neg]
  exact sz_add h (sz_neg k)
theorem atI0 (a b : D) : atI [a, b] 0 = some a := rfl
theorem atI1 (a b : D) : atI [a, b] 1 = some b := rfl
theorem t_plus {s t : Nat} {x y : Rat} (h : Sz s x) (l : Sz t y) (b : s + t ≤ 7000) {k : Nat} (hk : 2 ≤ k) (M : Sto) : callF T k 5 [numD x, numD y] M = .ok (numD (x + y)) M := by
  obtain ⟨j, rfl⟩ := Nat.exists_eq_add_of_le' hk
  have c := t_number (x.num * y.den + y.num * x.den) (x.den * y.den) (Nat.mul_ne_zero x.den_nz y.den_nz) (natmul_lt h.2 l.2) (by omega) j M
  rw [← Rat.add_def] at c
  rw [call_def fd_numbers1_plus rfl]
  have f1 : binop .mul (.int x.num) (.int (y.den : Int)) = some (.int (x.num * y.den)) := b_mul (mul_log h.1 (by simpa using l.2) h.pos l.pos (by omega))
  have f2 : binop .mul (.int y.num) (.int (x.den : Int)) = some (.int (y.num * x.den)) := b_mul (mul_log l.1 (by simpa using h.2) l.pos h.pos (by omega))
  have f3 : binop .mul (.int (x.den : Int)) (.int (y.den : Int)) = some (.int ((x.den * y.den : Nat) : Int)) := by
    rw [Int.natCast_mul]
    exact b_mul (mul_log (by simpa using h.2) (by simpa using l.2) h.pos l.pos (by omega))
  simp [F_numbers1_plus, B_numbers1_plus, atI0, atI1, numD, f1, f2, f3]
  simp [numD] at c
  rw [c]
  simp
theorem t_times {s t : Nat} {x y : Rat} (h : Sz s x) (l : Sz t y) (b : s + t ≤ 7000) {k : Nat} (hk : 2 ≤ k) (M : Sto) : callF T k 7 [numD x, numD y] M = .ok (numD (x * y)) M := by
  obtain ⟨j, rfl⟩ := Nat.exists_eq_add_of_le' hk
  have c := t_number (x.num * y.num) (x.den * y.den) (Nat.mul_ne_zero x.den_nz y.den_nz) (natmul_lt h.2 l.2) (by omega) j M
  rw [← Rat.mul_def] at c
  rw [call_def fd_numbers1_times rfl]
  have f1 : binop .mul (.int x.num) (.int y.num) = some (.int (x.num * y.num)) := b_mul (mul_log h.1 l.1 h.pos l.pos (by omega))
  have f3 : binop .mul (.int (x.den : Int)) (.int (y.den : Int)) = some (.int ((x.den * y.den : Nat) : Int)) := by
    rw [Int.natCast_mul]
    exact b_mul (mul_log (by simpa using h.2) (by simpa using l.2) h.pos l.pos (by omega))
  simp [F_numbers1_times, B_numbers1_times, atI0, atI1, numD, f1, f3]
  simp [numD] at c
  rw [c]
  simp
theorem t_minus (x : Rat) {k : Nat} (hk : 1 ≤ k) (M : Sto) : callF T k 6 [numD x] M = .ok (numD (-x)) M := by
  obtain ⟨j, rfl⟩ := Nat.exists_eq_add_of_le' hk
  rw [call_def fd_numbers1_minus rfl]
  simp [F_numbers1_minus, B_numbers1_minus, atI0, atI1, numD, sizeLine_eq]
end Sw
end

section
set_option Elab.async false
set_option linter.all false
set_option maxHeartbeats 1000000
/-! numbers, tables -/
namespace Sw
open PySem L2 Iv
@[simp] theorem ty_int {M : Sto} {i : Int} : tyOf M (.int i) = some "int" := (rfl)
theorem isi_int {M : Sto} {i : Int} {c : String} (h : okCls c = true) : blt M .isi [.int i, .ty c] = some (.bl (isSub "int" c)) := by
  show (match tyOf M (.int i) with
    | some t => if okCls c then some (D.bl (isSub t c)) else none
    | none => none) = _
  simp [h]
theorem isi_tup {M : Sto} {ds : List D} {c : String} (h : okCls c = true) : blt M .isi [.tup ds, .ty c] = some (.bl (isSub "tuple" c)) := by
  show (match tyOf M (.tup ds) with
    | some t => if okCls c then some (D.bl (isSub t c)) else none
    | none => none) = _
  rw [show tyOf M (.tup ds) = some "tuple" from rfl]
  simp [h]
theorem isi_str {M : Sto} {x : Str} {c : String} (h : okCls c = true) : blt M .isi [.str x, .ty c] = some (.bl (isSub "str" c)) := by
  show (match tyOf M (.str x) with
    | some t => if okCls c then some (D.bl (isSub t c)) else none
    | none => none) = _
  rw [show tyOf M (.str x) = some "str" from rfl]
  simp [h]
@[simp] theorem tru_bl {M : Sto} {b : Bool} : tru M (.bl b) = some b := (rfl)
theorem ok_int : okCls "int" = true := by decide
theorem ok_bool : okCls "bool" = true := by decide
theorem ok_tuple : okCls "tuple" = true := by decide
theorem ok_str : okCls "str" = true := by decide
theorem s1 : isSub "int" "int" = true := by decide
theorem s2 : isSub "int" "bool" = false := by decide
theorem s3 : isSub "tuple" "tuple" = true := by decide
theorem s4 : isSub "str" "str" = true := by decide
theorem t_whole (i : Int) {k : Nat} (hk : 1 ≤ k) (M : Sto) : callF T k 1 [.int i] M = .ok (.bl true) M := by
  obtain ⟨j, rfl⟩ := Nat.exists_eq_add_of_le' hk
  rw [call_def fd_names1_is_whole rfl]
  simp [F_names1_is_whole, B_names1_is_whole, isi_int ok_int, isi_int ok_bool, s1, s2]
theorem t_is_number (x : Rat) {k : Nat} (hk : 2 ≤ k) (M : Sto) : callF T k 4 [numD x] M = .ok (.bl true) M := by
  obtain ⟨j, rfl⟩ := Nat.exists_eq_add_of_le' hk
  rw [call_def fd_numbers1_is_number rfl]
  have h1 := t_whole x.num (k := j + 1) (by omega) M
  have h2 := t_whole x.den (k := j + 1) (by omega) M
  have hp := x.den_pos
  have hr : x.num.natAbs.gcd x.den = 1 := x.reduced
  have hc : ∀ ρ : Iv.Env, ρ.length = 2 → compL ⟨[.int x.num, .int (x.den : Int)], []⟩ (.nm 1) (evc T (callF T (j + 1)) .non) (ev T (callF T (j + 1)) (.call 1 0 (.cons (.var 1) .nil) .nil)) ρ [.int x.num, .int (x.den : Int)] M = .ok [.bl true, .bl true] M := by
    intro ρ hl
    refine compL_consw (M1 := M) (M2 := M) rfl rfl ?_ same_nil (compL_consw (M1 := M) (M2 := M) rfl rfl ?_ same_nil rfl)
    · simp [hl, h1]
    · simp [hl, h2]
  have ha : blt M .all [.lst [.bl true, .bl true]] = some (.bl true) := rfl
  simp [F_numbers1_is_number, B_numbers1_is_number, numD, isi_tup ok_tuple, s3, wipeE, hc, sizeLine_eq, ha, atI0, atI1, hp, hr]
end Sw
end

section
set_option Elab.async false
set_option linter.all false
set_option maxHeartbeats 1000000
/-! the law's comparing -/
namespace Iv
open PySem L2
section
variable {t : Tg} {c : Env → Mo Bool} {e : Env → Mo D} {ρ : Env} {M : Sto} {w : Wk}
/-- a comprehension that keeps nothing -/
theorem compL_none (g : D → Env) : ∀ ds : List D, (∀ d ∈ ds, bindT t d ρ = some (g d)) → (∀ d ∈ ds, c (g d) M = .ok false M) → w.same M → compL w t c e ρ ds M = .ok [] M
  | [], _, _, _ => rfl
  | d :: ds, h1, h2, hs => by
    rw [compL_skip (h1 d (.head _)) (h2 d (.head _)) hs]
    exact compL_none g ds (fun d h => h1 d (.tail _ h)) (fun d h => h2 d (.tail _ h)) hs
end
section
variable {M : Sto} {a b : D} {cs : List D}
theorem c_eqD : cmpop M .eq a b = eqD (a.get M) (b.get M) := (rfl)
@[simp] theorem get_tup {ds : List D} : (D.tup ds).get M = .tup ds := (rfl)
@[simp] theorem get_lst {ds : List D} : (D.lst ds).get M = .lst ds := (rfl)
@[simp] theorem get_frl {ds : List D} : (D.frl ds).get M = .frl ds := (rfl)
@[simp] theorem get_int {i : Int} : (D.int i).get M = .int i := (rfl)
@[simp] theorem get_str {x : Str} : (D.str x).get M = .str x := (rfl)
theorem gd_get {s j : Nat} (h : a.gd s j) : a.get M = a := by
  cases a <;> try rfl
  simp [D.gd] at h
theorem isi_one {c t : String} (h : tyOf M a = some t) (hc : okCls c = true) : blt M .isi [a, .ty c] = some (.bl (isSub t c)) := by
  show (match tyOf M a with
    | some t => if okCls c then some (D.bl (isSub t c)) else none
    | none => none) = _
  simp [h, hc]
theorem isi_two {c e t : String} (h : tyOf M a = some t) (hc : okCls c = true) (he : okCls e = true) : blt M .isi [a, .tup [.ty c, .ty e]] = some (.bl (isSub t c || isSub t e)) := by
  show (match tyOf M a, tysOf [.ty c, .ty e] with
    | some t, some cs => if cs.all okCls then some (D.bl (cs.any (isSub t))) else none
    | _, _ => none) = _
  simp [h, tysOf, hc, he]
end
end Iv
namespace Sw
open PySem L2 Iv
theorem eq_nil {M : Sto} : cmpop M .eq (.lst []) (.lst []) = some true := by
  rw [c_eqD]
  exact eqD_self (s := 1) (j := 1) (by simp [D.gd, gds]) (by decide)
theorem ok_list : okCls "list" = true := by decide
theorem ok_dict : okCls "dict" = true := by decide
theorem ok_ : okCls "int" = true := by decide
/-- the law's plain, of what is a row -/
theorem plain_row {M : Sto} {k : Nat} {d : D} {ds : List D} {t : String} (ht : tyOf M d = some t) (hs : (isSub t "list" || isSub t "tuple") = true) (hq : seqR d M = .ok ⟨ds, []⟩ M)
    (h : ∀ x ∈ ds, callF T k 22 [x] M = .ok (.bl true) M) : callF T (k + 1) 22 [d] M = .ok (.bl true) M := by
  rw [call_def fd_l_law_plain rfl]
  have hc : ∀ ρ : Iv.Env, ρ.length = 2 → compL ⟨ds, []⟩ (.nm 1) (evc T (callF T k) (.som (.nt (.call 22 0 (.cons (.var 1) .nil) .nil)))) (ev T (callF T k) (.lit (.int 1))) ρ ds M = .ok [] M := by
    intro ρ hl
    refine compL_none (fun d => ρ.set 1 (some d)) ds (fun d _ => rfl) (fun d hd => ?_) same_nil
    simp [hl, h d hd]
  simp [F_l_law_plain, B_l_law_plain, isi_two ht ok_list ok_tuple, hs, hq, wipeE, hc, eq_nil, sizeLine_eq]
theorem plain_one {M : Sto} {k : Nat} {d : D} {t : String} (ht : tyOf M d = some t) (hs : (isSub t "list" || isSub t "tuple") = false) (hd : isSub t "dict" = false) (hn : isNon d = false)
    (hi : (isSub t "int" || isSub t "str") = true) : callF T (k + 1) 22 [d] M = .ok (.bl true) M := by
  rw [call_def fd_l_law_plain rfl]
  have hm : cmpop M .is d .non = some (isNon d) := rfl
  simp [F_l_law_plain, B_l_law_plain, isi_two ht ok_list ok_tuple, hs, isi_one ht ok_dict, hd, hm, hn, isi_two ht ok_int ok_str, hi, sizeLine_eq]
theorem plain_non {M : Sto} {k : Nat} : callF T (k + 1) 22 [.non] M = .ok (.bl true) M := by
  rw [call_def fd_l_law_plain rfl]
  have ht : tyOf M .non = some "NoneType" := rfl
  have hm : cmpop M .is .non .non = some true := rfl
  have a1 : (isSub "NoneType" "list" || isSub "NoneType" "tuple") = false := by decide
  have a2 : isSub "NoneType" "dict" = false := by decide
  simp [F_l_law_plain, B_l_law_plain, isi_two ht ok_list ok_tuple, a1, a2, isi_one ht ok_dict, hm, sizeLine_eq]
theorem t_plain {s : Nat} (M : Sto) : ∀ {j k : Nat} {d : D}, d.gd s j → j + 1 ≤ k → callF T k 22 [d] M = .ok (.bl true) M := by
  intro j
  induction j with
  | zero =>
    intro k d h hk
    obtain ⟨n, rfl⟩ := Nat.exists_eq_add_of_le' hk
    rw [show n + (0 + 1) = n + 1 from rfl]
    cases d <;> simp only [D.gd] at h
    · exact plain_non
    · exact plain_one (t := "bool") rfl (by decide) (by decide) rfl (by decide)
    · exact plain_one (t := "int") rfl (by decide) (by decide) rfl (by decide)
    · exact plain_one (t := "str") rfl (by decide) (by decide) rfl (by decide)
  | succ j ih =>
    intro k d h hk
    obtain ⟨n, rfl⟩ := Nat.exists_eq_add_of_le' hk
    rw [show n + (j + 1 + 1) = (n + j + 1) + 1 from by omega]
    cases d <;> simp only [D.gd] at h
    · exact plain_non
    · exact plain_one (t := "bool") rfl (by decide) (by decide) rfl (by decide)
    · exact plain_one (t := "int") rfl (by decide) (by decide) rfl (by decide)
    · exact plain_one (t := "str") rfl (by decide) (by decide) rfl (by decide)
    · exact plain_row (t := "tuple") rfl (by decide) (seqR_t) fun x hx => ih (gds_iff.mp h x hx) (by omega)
    · exact plain_row (t := "list") rfl (by decide) (seqR_l) fun x hx => ih (gds_iff.mp h x hx) (by omega)
    · exact plain_row (t := "list") rfl (by decide) (seqR_f) fun x hx => ih (gds_iff.mp h x hx) (by omega)
theorem blt_repr {M : Sto} {d : D} (h : okR (d.get M) = true) : blt M .repr [d] = some (.str (d.get M).py.shown) := by
  show (if okR (d.get M) then some (D.str (d.get M).py.shown) else none) = _
  rw [h]; rfl
theorem t_is {s j k : Nat} {d : D} (M : Sto) (h : d.gd s j) (h8 : 8 ≤ s) (hs : s ≤ 1900) (hj : j ≤ 30) (hb : d.py.bulk ≤ 8000) (hk : j + 2 ≤ k) : callF T k 23 [d, d] M = .ok (.bl true) M := by
  obtain ⟨n, rfl⟩ := Nat.exists_eq_add_of_le' hk
  rw [show n + (j + 2) = (n + j + 1) + 1 from by omega, call_def fd_l_law_is rfl]
  have g : d.get M = d := gd_get h
  have e1 : cmpop M .eq d d = some true := by rw [c_eqD, g]; exact eqD_self h (by omega)
  have e2 : blt M .repr [d] = some (.str d.py.shown) := by
    have := blt_repr (M := M) (d := d) (by rw [g]; exact gd_okR h (by omega) h8 hs hb)
    rwa [g] at this
  have e3 : cmpop M .eq (.str d.py.shown) (.str d.py.shown) = some true := by rw [c_eqD]; exact eqD_str (gd_sok h)
  simp [F_l_law_is, B_l_law_is, t_plain M h (k := n + j + 1) (by omega), e1, e2, e3]
end Sw
end

section
set_option Elab.async false
set_option linter.all false
set_option maxHeartbeats 1000000
/-! the law's own numbers -/
namespace Sw
open PySem L2 Iv Wal
def eC24 : Ex := .cmp .ne (.var 1) (.lit (.int 0))
def bC24 : Sts := .cons (.par 0 1 (.var 1) (.bin .mod (.blt false .int (.cons (.var 0) .nil)) (.var 1))) .nil
theorem common_while (cl : Nat → List D → Mo D) (M : Sto) : ∀ (n : Nat) (u v : Int), 0 ≤ v → v.toNat < n → ∃ g : Int, g.natAbs = u.natAbs.gcd v.natAbs ∧
    whileN (evt T cl eC24) (xss T cl bC24) (n + 1) [some (.int u), some (.int v)] M = some (.ok .nx [some (.int g), some (.int 0)] M) := by
  intro n
  induction n with
  | zero => intro u v _ h; omega
  | succ n ih =>
    intro u v hv hn
    by_cases c : v = 0
    · subst c
      refine ⟨u, by simp, whileN_f ?_⟩
      simp [eC24]
    · have hp : 0 < v := by omega
      have h1 := Int.emod_nonneg u c
      have h2 := Int.emod_lt_of_pos u hp
      obtain ⟨g, hg, hw⟩ := ih v (u % v) h1 (by omega)
      refine ⟨g, ?_, ?_⟩
      · rw [hg]
        have e : ((v.natAbs.gcd (u % v).natAbs : Nat) : Int) = ((u.natAbs.gcd v.natAbs : Nat) : Int) := by
          show ((Int.gcd v (u % v) : Nat) : Int) = ((Int.gcd u v : Nat) : Int)
          rw [Int.gcd_comm u v]
          congr 1
          have q : u % v = u + v * (-(u / v)) := by
            rw [Int.emod_def, Int.mul_neg, Int.sub_eq_add_neg]
          rw [q]
          exact Int.gcd_add_mul_left_right ..
        exact Int.ofNat_inj.mp e
      · refine whileN_t (M1 := M) (M2 := M) ?_ ?_ hw
        · simp [eC24, c]
        · simp [bC24, b_mod hp]
theorem t_common (u v : Int) (hv : 0 ≤ v) {k : Nat} (hk : 1 ≤ k) (M : Sto) : callF T k 24 [.int u, .int v] M = .ok (.int ((u.natAbs.gcd v.natAbs : Nat) : Int)) M := by
  obtain ⟨j, rfl⟩ := Nat.exists_eq_add_of_le' hk
  obtain ⟨g, hg, hw⟩ := common_while (callF T j) M (v.toNat + 1) u v hv (by omega)
  have e : whileC (evt T (callF T j) (.cmp .ne (.var 1) (.lit (.int 0)))) (xss T (callF T j) (.cons (.par 0 1 (.var 1) (.bin .mod (.blt false .int (.cons (.var 0) .nil)) (.var 1))) .nil)) [some (.int u), some (.int v)] M = .ok .nx [some (.int g), some (.int 0)] M := whileC_of hw
  have a : (if g < 0 then -g else g) = ((u.natAbs.gcd v.natAbs : Nat) : Int) := by
    rw [← hg]
    split <;> omega
  rw [call_def fd_l_law_common rfl]
  simp [F_l_law_common, B_l_law_common, e, a]
theorem t_no (u : Int) (l : Nat) (h : l ≠ 0) {s : Nat} (hb : l < 2 ^ s) (hs : s ≤ 8900) {k : Nat} (hk : 2 ≤ k) (M : Sto) : callF T k 25 [.int u, .int (l : Int)] M = .ok (numD (Rat.normalize u l h)) M := by
  obtain ⟨j, rfl⟩ := Nat.exists_eq_add_of_le' hk
  have gp : 0 < u.natAbs.gcd l := Nat.gcd_pos_of_pos_right _ (Nat.pos_of_ne_zero h)
  have gl : u.natAbs.gcd l ≤ l := Nat.gcd_le_right _ (Nat.pos_of_ne_zero h)
  have hl : (u.natAbs.gcd l).log2 < 9000 := by
    have p : 0 < s := by
      cases s with
      | zero => simp at hb; omega
      | succ n => omega
    have := log2_lt (Nat.lt_of_le_of_lt gl hb) p
    omega
  have lp : (0 : Int) < (l : Int) := by omega
  have lp' : 0 < l := Nat.pos_of_ne_zero h
  have f1 : binop .fdiv (.int u) (.int ((u.natAbs.gcd l : Nat) : Int)) = some (.int (u / ((u.natAbs.gcd l : Nat) : Int))) := b_fdiv (by omega) (by simpa using hl)
  have f2 : binop .fdiv (.int (l : Int)) (.int ((u.natAbs.gcd l : Nat) : Int)) = some (.int ((l : Int) / ((u.natAbs.gcd l : Nat) : Int))) := b_fdiv (by omega) (by simpa using hl)
  have f3 : binop .mul (.int ((u.natAbs.gcd l : Nat) : Int)) (.int 1) = some (.int ((u.natAbs.gcd l : Nat) : Int)) := by rw [b_mulR (by decide) (by decide), Int.mul_one]
  have c := t_common u l (by omega) (k := j + 1) (by omega) M
  simp only [Int.natAbs_natCast] at c
  rw [call_def fd_l_law_no rfl, norm_D]
  simp [F_l_law_no, B_l_law_no, lp', c, f1, f2, f3, sizeLine_eq]
theorem l_plus {s t : Nat} {x y : Rat} (h : Sz s x) (l : Sz t y) (b : s + t ≤ 8800) {k : Nat} (hk : 3 ≤ k) (M : Sto) : callF T k 26 [numD x, numD y] M = .ok (numD (x + y)) M := by
  obtain ⟨j, rfl⟩ := Nat.exists_eq_add_of_le' hk
  have c := t_no (x.num * y.den + y.num * x.den) (x.den * y.den) (Nat.mul_ne_zero x.den_nz y.den_nz) (natmul_lt h.2 l.2) (by omega) (k := j + 2) (by omega) M
  rw [← Rat.add_def] at c
  rw [call_def fd_l_law_plus rfl]
  have f1 : binop .mul (.int x.num) (.int (y.den : Int)) = some (.int (x.num * y.den)) := b_mul (mul_log h.1 (by simpa using l.2) h.pos l.pos (by omega))
  have f2 : binop .mul (.int y.num) (.int (x.den : Int)) = some (.int (y.num * x.den)) := b_mul (mul_log l.1 (by simpa using h.2) l.pos h.pos (by omega))
  have f3 : binop .mul (.int (x.den : Int)) (.int (y.den : Int)) = some (.int ((x.den * y.den : Nat) : Int)) := by
    rw [Int.natCast_mul]
    exact b_mul (mul_log (by simpa using h.2) (by simpa using l.2) h.pos l.pos (by omega))
  simp [F_l_law_plus, B_l_law_plus, atI0, atI1, numD, f1, f2, f3]
  simp [numD] at c
  rw [c]
  simp
theorem l_times {s t : Nat} {x y : Rat} (h : Sz s x) (l : Sz t y) (b : s + t ≤ 8800) {k : Nat} (hk : 3 ≤ k) (M : Sto) : callF T k 27 [numD x, numD y] M = .ok (numD (x * y)) M := by
  obtain ⟨j, rfl⟩ := Nat.exists_eq_add_of_le' hk
  have c := t_no (x.num * y.num) (x.den * y.den) (Nat.mul_ne_zero x.den_nz y.den_nz) (natmul_lt h.2 l.2) (by omega) (k := j + 2) (by omega) M
  rw [← Rat.mul_def] at c
  rw [call_def fd_l_law_times rfl]
  have f1 : binop .mul (.int x.num) (.int y.num) = some (.int (x.num * y.num)) := b_mul (mul_log h.1 l.1 h.pos l.pos (by omega))
  have f3 : binop .mul (.int (x.den : Int)) (.int (y.den : Int)) = some (.int ((x.den * y.den : Nat) : Int)) := by
    rw [Int.natCast_mul]
    exact b_mul (mul_log (by simpa using h.2) (by simpa using l.2) h.pos l.pos (by omega))
  simp [F_l_law_times, B_l_law_times, atI0, atI1, numD, f1, f3]
  simp [numD] at c
  rw [c]
  simp
theorem numD0 : numD 0 = .tup [.int 0, .int 1] := rfl
theorem numD1 : numD 1 = .tup [.int 1, .int 1] := rfl
theorem sz01 : Sz 1 0 := ⟨by decide, by decide⟩
/-- a fraction's size -/
theorem _root_.Wal.Fr.sz {d n s : Nat} {x : Rat} (h : Fr d n x) (hd : 0 < d) (h1 : n < 2 ^ s) (h2 : d < 2 ^ s) : Sz s x := by
  obtain ⟨a, e, b⟩ := h
  have hd' : (d : Rat) ≠ 0 := by
    intro q
    have : d = 0 := by exact_mod_cast q
    omega
  have ex : x = Rat.normalize a d (by omega) := by
    rw [Rat.normalize_eq_mkRat, Rat.mkRat_eq_div, ← e]
    grind
  rw [ex]
  exact norm_sz _ (by omega) h2
/-- a sum, whose parts stay small -/
theorem l_totalP (ys : List Rat) (I : Nat → Rat → Prop) (h0 : I 0 0) (hs : ∀ i x y, i < ys.length → I i x → y ∈ ys → I (i + 1) (x + y)) (hz : ∀ i x, i ≤ ys.length → I i x → Sz 3000 x) (hy : ∀ y ∈ ys, Sz 3000 y) {k : Nat} (hk : 4 ≤ k) (M : Sto) :
    callF T k 28 [.lst (ys.map numD)] M = .ok (numD (sumR 0 ys)) M := by
  obtain ⟨j, rfl⟩ := Nat.exists_eq_add_of_le' hk
  rw [call_def fd_l_law_total rfl]
  have hf : ∀ (zs : List Rat) (i : Nat) (x : Rat) (w : Wk) (z : Option D), (∀ N, w.same N) → I i x → (∀ y ∈ zs, y ∈ ys) → i + zs.length = ys.length →
      ∃ z', forL w (.nm 2) (xss T (callF T (j + 3)) (.cons (.asg (.nm 1) (.call 26 0 (.cons (.var 1) (.cons (.var 2) .nil)) .nil)) .nil)) (zs.map numD) [some (.lst (ys.map numD)), some (numD x), z] M = .ok .nx [some (.lst (ys.map numD)), some (numD (sumR x zs)), z'] M := by
    intro zs
    induction zs with
    | nil => intro i x w z _ _ _ _; exact ⟨z, rfl⟩
    | cons y zs ih =>
      intro i x w z hw hx hz' hl
      rw [List.length_cons] at hl
      have ym := hz' y (.head _)
      obtain ⟨z', e'⟩ := ih (i + 1) (x + y) w (some (numD y)) hw (hs i x y (by omega) hx ym) (fun q hq => hz' q (.tail _ hq)) (by omega)
      refine ⟨z', (forL_nx (ρ1 := [some (.lst (ys.map numD)), some (numD x), some (numD y)]) (ρ2 := [some (.lst (ys.map numD)), some (numD (x + y)), some (numD y)]) (M2 := M) rfl ?_ (hw M)).trans e'⟩
      have c := l_plus (hz i x (by omega) hx) (hy y ym) (by decide) (k := j + 3) (by omega) M
      simp [c]
  obtain ⟨z', e⟩ := hf ys 0 0 ⟨ys.map numD, []⟩ none (fun N => same_nil) h0 (fun y h => h) (by omega)
  rw [numD0] at e
  simp [F_l_law_total, B_l_law_total, sizeLine_eq, e]
theorem l_totalF {d n : Nat} (ys : List Rat) (h : ∀ y ∈ ys, Fr d n y) (hd : 0 < d) (h2 : d < 2 ^ 3000) (h1 : (ys.length + 1) * n < 2 ^ 3000) {k : Nat} (hk : 4 ≤ k) (M : Sto) : callF T k 28 [.lst (ys.map numD)] M = .ok (numD (sumR 0 ys)) M := by
  refine l_totalP ys (fun i x => Fr d (i * n) x) (Fr.zero d _) (fun i x y _ hx hy => ?_) (fun i x hi hx => ?_) (fun y hy => ?_) hk M
  · rw [Nat.succ_mul]; exact hx.add (h y hy)
  · exact hx.sz hd (Nat.lt_of_le_of_lt (Nat.mul_le_mul_right n (by omega : i ≤ ys.length + 1)) h1) h2
  · exact (h y hy).sz hd (Nat.lt_of_le_of_lt (by rw [Nat.succ_mul]; omega) h1) h2
end Sw
end

section
set_option Elab.async false
set_option linter.all false
set_option maxHeartbeats 1000000
/-! tables -/
namespace Sw
open PySem L2 Iv Wal
def tabD (xs : List Rat) : D := .tup [.str "table", .tup (xs.map numD)]
def widD : D := .tup [.int 1, .int 2, .int 4, .int 8, .int 16]
theorem g36 : T.gv 36 = some (.tup [.int 0, .int 1]) := (rfl)
theorem g37 : T.gv 37 = some (.int 4) := (rfl)
theorem g38 : T.gv 38 = some widD := (rfl)
theorem g39 : T.gv 39 = some (.int 4) := (rfl)
theorem ok_tab : PyData.strOk "table" = true := sok_of _
theorem c_neD {M : Sto} {a b : D} : cmpop M .ne a b = (eqD (a.get M) (b.get M)).map (!·) := (rfl)
theorem ne_tab {M : Sto} : cmpop M .ne (.str "table") (.str "table") = some false := by
  rw [c_neD, get_str, eqD_str ok_tab]; rfl
def wid : Nat → Prop := fun n => n = 1 ∨ n = 2 ∨ n = 4 ∨ n = 8 ∨ n = 16
theorem in_wid {M : Sto} {n : Nat} (h : wid n) : cmpop M .notin (.int (n : Int)) widD = some false := by
  rcases h with rfl | rfl | rfl | rfl | rfl
  · show cmpop [] .notin (.int 1) widD = some false
    decide +kernel
  · show cmpop [] .notin (.int 2) widD = some false
    decide +kernel
  · show cmpop [] .notin (.int 4) widD = some false
    decide +kernel
  · show cmpop [] .notin (.int 8) widD = some false
    decide +kernel
  · show cmpop [] .notin (.int 16) widD = some false
    decide +kernel
theorem all_true {M : Sto} (ds : List D) : blt M .all [.lst (ds.map fun _ => .bl true)] = some (.bl true) := by
  have h : boolsOf (ds.map fun _ => D.bl true) = some (ds.map fun _ => true) := by
    induction ds with
    | nil => rfl
    | cons d ds ih => simp [boolsOf, ih]
  show (match lstOf M (.lst (ds.map fun _ => .bl true)) with
    | some ds => (boolsOf ds).map fun bs : List Bool => D.bl (bs.all id)
    | none => none) = _
  show (boolsOf (ds.map fun _ => D.bl true)).map (fun bs : List Bool => D.bl (bs.all id)) = _
  rw [h]
  simp
theorem tab1 (a b : D) : atI [a, b] 1 = some b := (rfl)
theorem t_any_table (xs : List Rat) (hl : wid xs.length) {k : Nat} (hk : 3 ≤ k) (M : Sto) : callF T k 9 [tabD xs] M = .ok (.bl true) M := by
  obtain ⟨j, rfl⟩ := Nat.exists_eq_add_of_le' hk
  have hb : xs.length ≤ 16 := by rcases hl with h | h | h | h | h <;> omega
  rw [call_def fd_tables2_is_any_table rfl]
  have hc : ∀ ρ : Iv.Env, ρ.length = 2 → compL ⟨xs.map numD, []⟩ (.nm 1) (evc T (callF T (j + 2)) .non) (ev T (callF T (j + 2)) (.call 4 0 (.cons (.var 1) .nil) .nil)) ρ (xs.map numD) M = .ok ((xs.map numD).map fun _ => .bl true) M := by
    intro ρ hl
    refine compL_map (fun d => ρ.set 1 (some d)) _ (fun d _ => rfl) (fun d _ => rfl) (fun d hd => ?_) same_nil
    obtain ⟨x, _, rfl⟩ := List.mem_map.mp hd
    simp [hl, t_is_number x (k := j + 2) (by omega) M]
  have ha := all_true (M := M) (xs.map numD)
  have hw := in_wid (M := M) hl
  simp only [List.map_map] at hc ha
  simp [F_tables2_is_any_table, B_tables2_is_any_table, tabD, isi_tup ok_tuple, isi_str ok_str, s3, s4, wipeE, hc, sizeLine_eq, ha, atI0, atI1, ne_tab, g38, hw, show xs.length ≤ 16777216 from by omega]
theorem idx_wid {M : Sto} {n m : Nat} (h : m ≤ 4) (e : n = 2 ^ m) : mth .tindex widD [.int (n : Int)] M = .ok (.int m) M := by
  subst e
  have k : ∀ x : D, mth .tindex widD [x] M = ofO (indexD x [.int 1, .int 2, .int 4, .int 8, .int 16]) M := fun _ => rfl
  rw [k]
  match m, h with
  | 0, _ => rfl
  | 1, _ => rfl
  | 2, _ => rfl
  | 3, _ => rfl
  | 4, _ => rfl
theorem t_switches (xs : List Rat) {m : Nat} (hm : m ≤ 4) (hl : xs.length = 2 ^ m) {k : Nat} (hk : 1 ≤ k) (M : Sto) : callF T k 10 [tabD xs] M = .ok (.int m) M := by
  obtain ⟨j, rfl⟩ := Nat.exists_eq_add_of_le' hk
  rw [call_def fd_tables2_switches_of rfl]
  have hr : recv M .tindex widD = true := rfl
  have hi := idx_wid (M := M) hm hl
  simp [F_tables2_switches_of, B_tables2_switches_of, g38, hr, tabD, atI1, hi]
theorem t_below (n : Nat) (b : Int) {k : Nat} (hk : 2 ≤ k) (M : Sto) : callF T k 2 [.int n, .int b] M = .ok (.bl (decide ((n : Int) < b))) M := by
  obtain ⟨j, rfl⟩ := Nat.exists_eq_add_of_le' hk
  rw [call_def fd_names1_is_below rfl]
  have c := t_whole n (k := j + 1) (by omega) M
  simp [F_names1_is_below, B_names1_is_below, c]
theorem t_need (n : Nat) (h : n ≤ 4) {k : Nat} (hk : 3 ≤ k) (M : Sto) : callF T k 8 [.int n] M = .ok .non M := by
  obtain ⟨j, rfl⟩ := Nat.exists_eq_add_of_le' hk
  rw [call_def fd_points1_need_many rfl]
  have c := t_below n 5 (k := j + 2) (by omega) M
  simp [F_points1_need_many, B_points1_need_many, c, g37, show (n : Int) < 5 from by omega]
theorem wid_of {n m : Nat} (hm : m ≤ 4) (hl : n = 2 ^ m) : wid n := by
  match m, hm with
  | 0, _ => exact .inl hl
  | 1, _ => exact .inr (.inl hl)
  | 2, _ => exact .inr (.inr (.inl hl))
  | 3, _ => exact .inr (.inr (.inr (.inl hl)))
  | 4, _ => exact .inr (.inr (.inr (.inr hl)))
theorem t_is_table (xs : List Rat) {m n : Nat} (hm : m ≤ 4) (hn : n ≤ 4) (hl : xs.length = 2 ^ m) {k : Nat} (hk : 4 ≤ k) (M : Sto) : callF T k 11 [.int n, tabD xs] M = .ok (.bl (decide (m = n))) M := by
  obtain ⟨j, rfl⟩ := Nat.exists_eq_add_of_le' hk
  rw [call_def fd_tables2_is_table rfl]
  have c1 := t_need n hn (k := j + 3) (by omega) M
  have c2 := t_any_table xs (wid_of hm hl) (k := j + 3) (by omega) M
  have c3 := t_switches xs hm hl (k := j + 3) (by omega) M
  have e : ((m : Int) == (n : Int)) = decide (m = n) := by
    rw [Bool.eq_iff_iff]
    simp
    omega
  simp [F_tables2_is_table, B_tables2_is_table, c1, c2, c3, e]
theorem t_many_of (xs : List Rat) {m : Nat} (hm : m ≤ 4) (hl : xs.length = 2 ^ m) {k : Nat} (hk : 5 ≤ k) (M : Sto) : callF T k 12 [tabD xs] M = .ok (.int m) M := by
  obtain ⟨j, rfl⟩ := Nat.exists_eq_add_of_le' hk
  rw [call_def fd_spread3_many_of rfl]
  have hf : ∀ (r a : Nat) (z : Option D) (w : Wk), (∀ N, w.same N) → a ≤ m → a + r = 5 → ∃ ρ', forL w (.nm 1) (xss T (callF T (j + 4)) (.cons (.iff (.call 11 0 (.cons (.var 1) (.cons (.var 0) .nil)) .nil) (.cons (.ret (.var 1)) .nil) .nil) .nil)) ((List.range' a r).map fun i => .int (i : Nat)) [some (tabD xs), z] M = .ok (.rt (.int m)) ρ' M := by
    intro r
    induction r with
    | zero => intro a z w _ h1 h2; omega
    | succ r ih =>
      intro a z w hw h1 h2
      have c := t_is_table xs hm (n := a) (by omega) hl (k := j + 4) (by omega) M
      by_cases e : m = a
      · refine ⟨[some (tabD xs), some (.int a)], ?_⟩
        refine forL_rt (ρ1 := [some (tabD xs), some (.int a)]) rfl ?_
        simp [c, e]
      · obtain ⟨ρ', q⟩ := ih (a + 1) (some (.int a)) w hw (by omega) (by omega)
        refine ⟨ρ', ?_⟩
        refine (forL_nx (ρ1 := [some (tabD xs), some (.int a)]) (ρ2 := [some (tabD xs), some (.int a)]) (M2 := M) rfl ?_ (hw M)).trans q
        simp [c, e]
  obtain ⟨ρ', q⟩ := hf 5 0 none ⟨(List.range 5).map fun i => .int (i : Nat), []⟩ (fun _ => same_nil) (by omega) (by omega)
  have q' : forL ⟨(List.range 5).map fun i => .int (i : Nat), []⟩ (.nm 1) (xss T (callF T (j + 4)) (.cons (.iff (.call 11 0 (.cons (.var 1) (.cons (.var 0) .nil)) .nil) (.cons (.ret (.var 1)) .nil) .nil) .nil)) ((List.range 5).map fun i => .int (i : Nat)) [some (tabD xs), none] M = .ok (.rt (.int m)) ρ' M := q
  have hr : rngR (.int 5) M = .ok ⟨(List.range 5).map fun i => .int (i : Nat), []⟩ M := rngR_i (by decide)
  simp only [F_spread3_many_of, B_spread3_many_of, List.map_cons, List.map_nil, List.replicate, List.cons_append, List.nil_append]
  rw [xss_cons, xs_fr]
  simp only [evi_rng, ev_bin, ev_glob, g39, oR_some, Res.bd_ok, ev_lit, b_add]
  rw [show (4 + 1 : Int) = 5 from rfl, hr]
  simp only [sR_bd]
  simp [q']
end Sw
end

section
set_option Elab.async false
set_option linter.all false
set_option maxHeartbeats 1000000
/-! spread_line -/
namespace Sw
open PySem L2 Iv Wal
def getR (xs : List Rat) (p : Nat) : Rat := xs.getD p 0
def stepP (b p : Nat) (xs : List Rat) : List Rat := if p / b % 2 = 0 then (xs.set p (getR xs p + getR xs (p + b))).set (p + b) (getR xs p + -getR xs (p + b)) else xs
def foldP (b : Nat) : List Nat → List Rat → List Rat
  | [], xs => xs
  | p :: ps, xs => foldP b ps (stepP b p xs)
def roundR (b : Nat) (xs : List Rat) : List Rat := foldP b (List.range xs.length) xs
def rounds : Nat → Nat → List Rat → List Rat
  | 0, _, xs => xs
  | n + 1, b, xs => rounds n (2 * b) (roundR b xs)
theorem step_len {b p : Nat} {xs : List Rat} : (stepP b p xs).length = xs.length := by
  unfold stepP
  split <;> simp
theorem get_some {xs : List Rat} {p : Nat} (h : p < xs.length) : (xs.map numD)[p]? = some (numD (getR xs p)) := by
  unfold getR
  rw [List.getElem?_map, List.getElem?_eq_getElem h, List.getD_eq_getElem?_getD, List.getElem?_eq_getElem h]
  rfl
theorem atI_R {xs : List Rat} {p : Nat} (h : p < xs.length) : atI (xs.map numD) (p : Int) = some (numD (getR xs p)) := atI_nat (get_some h)
theorem getR_set {xs : List Rat} {p q : Nat} {v : Rat} (h : p < xs.length) : getR (xs.set p v) q = if p = q then v else getR xs q := by
  unfold getR
  rw [List.getD_eq_getElem?_getD, List.getD_eq_getElem?_getD, List.getElem?_set]
  split
  · subst_vars; simp [h]
  · rfl
theorem ixN_of {n j : Nat} (hj : j < n) : ixN n (j : Int) = some j := by
  unfold ixN
  rw [if_pos (by omega), if_pos (by omega)]
  simp
theorem setL {M : Sto} {ds : List D} {p : Nat} {v : D} (h : p < ds.length) : setItem (.loc M.length) (.int (p : Int)) v (M ++ [.lst ds]) = .ok () (M ++ [.lst (ds.set p v)]) := by
  unfold Iv.setItem
  have e : (M ++ [Ob.lst ds])[M.length]? = some (.lst ds) := by simp
  simp only [e, ixN_of h]
  congr 1
  simp
theorem idxL {M : Sto} {ds : List D} {i : Int} : idx (M ++ [.lst ds]) (.loc M.length) (.int i) = atI ds i := by
  unfold idx
  have e : (M ++ [Ob.lst ds])[M.length]? = some (.lst ds) := by simp
  simp only [e]
theorem lenL {M : Sto} {ds : List D} : blt (M ++ [.lst ds]) .len [.loc M.length] = some (.int ds.length) := by
  have e : (M ++ [Ob.lst ds])[M.length]? = some (.lst ds) := by simp
  show lenD (M ++ [.lst ds]) (.loc M.length) = _
  unfold lenD
  simp only [e]
def base (b i : Nat) : Nat := if i / b % 2 = 0 then i else i - b
/-- how small numbers are, by rounds -/
structure Lev (P : Nat → Rat → Prop) (n : Nat) : Prop where
  add : ∀ i x y, i < n → P i x → P i y → P (i + 1) (x + y)
  neg : ∀ i x, P i x → P i (-x)
  up : ∀ i x, P i x → P (i + 1) x
  sz : ∀ i x, i ≤ n → P i x → Sz 3000 x
/-- a round half way: what is not yet touched is small -/
structure Half (P : Nat → Rat → Prop) (l b a : Nat) (xs : List Rat) : Prop where
  all : ∀ i, i < xs.length → P (l + 1) (getR xs i)
  low : ∀ i, i < xs.length → a ≤ base b i → P l (getR xs i)
theorem base_lo {b p : Nat} (h : p / b % 2 = 0) : base b p = p := if_pos h
theorem div_hi {b p : Nat} (hb : 0 < b) : (p + b) / b = p / b + 1 := by rw [Nat.add_div_right _ hb]
theorem base_hi {b p : Nat} (hb : 0 < b) (h : p / b % 2 = 0) : base b (p + b) = p := by
  unfold base
  rw [div_hi hb, if_neg (by omega)]
  omega
theorem half_step {P : Nat → Rat → Prop} {n l b a : Nat} {xs : List Rat} (V : Lev P n) (hn : l < n) (hb : 0 < b) (hab : a / b % 2 = 0 → a + b < xs.length) (h : Half P l b a xs) : Half P l b (a + 1) (stepP b a xs) := by
  by_cases c : a / b % 2 = 0
  · have lt := hab c
    have s1 := h.low a (by omega) (by rw [base_lo c]; omega)
    have s2 := h.low (a + b) lt (by rw [base_hi hb c]; omega)
    have p1 : P (l + 1) (getR xs a + getR xs (a + b)) := V.add l _ _ hn s1 s2
    have p2 : P (l + 1) (getR xs a + -getR xs (a + b)) := V.add l _ _ hn s1 (V.neg l _ s2)
    have e : stepP b a xs = (xs.set a (getR xs a + getR xs (a + b))).set (a + b) (getR xs a + -getR xs (a + b)) := if_pos c
    rw [e]
    constructor
    · intro i hi
      simp only [List.length_set] at hi
      rw [getR_set (by simpa using lt), getR_set (by omega)]
      split
      · exact p2
      · split
        · exact p1
        · exact h.all i hi
    · intro i hi hlo
      simp only [List.length_set] at hi
      rw [getR_set (by simpa using lt), getR_set (by omega)]
      split
      · subst_vars
        rw [base_hi hb c] at hlo
        omega
      · split
        · subst_vars
          rw [base_lo c] at hlo
          omega
        · exact h.low i hi (by omega)
  · have e : stepP b a xs = xs := if_neg c
    rw [e]
    exact ⟨h.all, fun i hi hl => h.low i hi (by omega)⟩
theorem fold_len {b : Nat} : ∀ (ps : List Nat) (xs : List Rat), (foldP b ps xs).length = xs.length
  | [], _ => rfl
  | p :: ps, xs => by
    show (foldP b ps (stepP b p xs)).length = _
    rw [fold_len ps, step_len]
theorem round_len {b : Nat} {xs : List Rat} : (roundR b xs).length = xs.length := fold_len _ _
def eB13 : Sts := .cons (.iff (.cmp .eq (.bin .mod (.bin .fdiv (.var 3) (.var 2)) (.lit (.int 2))) (.lit (.int 0))) (.cons (.par 4 5 (.idx (.var 1) (.var 3)) (.idx (.var 1) (.bin .add (.var 3) (.var 2)))) (.cons (.sub2 (.var 1) (.var 3) (.var 1) (.bin .add (.var 3) (.var 2)) (.tup (.cons (.call 5 0 (.cons (.var 4) (.cons (.var 5) .nil)) .nil) (.cons (.call 5 0 (.cons (.var 4) (.cons (.call 6 0 (.cons (.var 5) .nil) .nil) .nil)) .nil) .nil)))) .nil)) .nil) .nil
theorem map_set {xs : List Rat} {p : Nat} {v : Rat} : (xs.map numD).set p (numD v) = (xs.set p v).map numD := by rw [List.map_set]
theorem body13 {P : Nat → Rat → Prop} {n l b a : Nat} {xs : List Rat} (V : Lev P n) (hn : l < n) (hb : 0 < b) (hb2 : b < 1000) (ha : a < xs.length) (hab : a / b % 2 = 0 → a + b < xs.length) (h : Half P l b a xs) {k : Nat} (hk : 2 ≤ k) (M : Sto) (q z4 z5 : Option D) :
    ∃ z4' z5', xss T (callF T k) eB13 [q, some (.loc M.length), some (.int b), some (.int a), z4, z5] (M ++ [.lst (xs.map numD)]) = .ok .nx [q, some (.loc M.length), some (.int b), some (.int a), z4', z5'] (M ++ [.lst ((stepP b a xs).map numD)]) := by
  have f1 : binop .fdiv (.int (a : Int)) (.int (b : Int)) = some (.int ((a / b : Nat) : Int)) := by rw [b_fdivS (by omega) (by omega)]; rfl
  have f2 : binop .mod (.int ((a / b : Nat) : Int)) (.int 2) = some (.int ((a / b % 2 : Nat) : Int)) := by rw [b_mod (by decide)]; rfl
  by_cases c : a / b % 2 = 0
  · have lt := hab c
    have s1 := V.sz l _ (by omega) (h.low a (by omega) (by rw [base_lo c]; omega))
    have s2 := V.sz l _ (by omega) (h.low (a + b) lt (by rw [base_hi hb c]; omega))
    have c1 := t_plus s1 s2 (by decide) hk (M ++ [.lst (xs.map numD)])
    have c2 := t_minus (getR xs (a + b)) (k := k) (by omega) (M ++ [.lst (xs.map numD)])
    have c3 := t_plus s1 (sz_neg s2) (by decide) hk (M ++ [.lst (xs.map numD)])
    have e : stepP b a xs = (xs.set a (getR xs a + getR xs (a + b))).set (a + b) (getR xs a + -getR xs (a + b)) := if_pos c
    refine ⟨some (numD (getR xs a)), some (numD (getR xs (a + b))), ?_⟩
    have i1 := atI_R ha
    have i2 : atI (xs.map numD) ((a : Int) + (b : Int)) = some (numD (getR xs (a + b))) := atI_R lt
    have w1 : setItem (.loc M.length) (.int (a : Int)) (numD (getR xs a + getR xs (a + b))) (M ++ [.lst (xs.map numD)]) = .ok () (M ++ [.lst ((xs.set a (getR xs a + getR xs (a + b))).map numD)]) := by
      rw [setL (by simpa using ha), map_set]
    have w2 : setItem (.loc M.length) (.int ((a : Int) + (b : Int))) (numD (getR xs a + -getR xs (a + b))) (M ++ [.lst ((xs.set a (getR xs a + getR xs (a + b))).map numD)]) = .ok () (M ++ [.lst (((xs.set a (getR xs a + getR xs (a + b))).set (a + b) (getR xs a + -getR xs (a + b))).map numD)]) := by
      have := setL (M := M) (ds := (xs.set a (getR xs a + getR xs (a + b))).map numD) (p := a + b) (v := numD (getR xs a + -getR xs (a + b))) (by simpa using lt)
      rw [map_set] at this
      exact this
    rw [e]
    simp only [eB13, xss_cons, xs_iff, evt_cmp, ev_bin, ev_var, List.getElem?_cons_succ, List.getElem?_cons_zero, Option.join_some, oR_some, Res.bd_ok, ev_lit, f1, f2, c, c_eq, sR_bd]
    simp [idxL, i1, i2, c1, c2, c3, sizeLine_eq, w1, w2, -List.map_set]
  · refine ⟨z4, z5, ?_⟩
    have e : stepP b a xs = xs := if_neg c
    have c' : ¬ ((a / b % 2 : Nat) : Int) = 0 := by omega
    rw [e]
    simp only [eB13, xss_cons, xs_iff, evt_cmp, ev_bin, ev_var, List.getElem?_cons_succ, List.getElem?_cons_zero, Option.join_some, oR_some, Res.bd_ok, ev_lit, f1, f2, c_eq, sR_bd]
    rw [show (((a / b % 2 : Nat) : Int) == 0) = false from by simpa using c']
    simp
theorem fold13 {P : Nat → Rat → Prop} {nn l b : Nat} (V : Lev P nn) (hl' : l < nn) (hb : 0 < b) (hb2 : b < 1000) {k : Nat} (hk : 2 ≤ k) (M : Sto) (q : Option D) (n : Nat) (hn : ∀ a, a < n → a / b % 2 = 0 → a + b < n) :
    ∀ (r a : Nat) (xs : List Rat) (w : Wk) (z3 z4 z5 : Option D), (∀ N, w.same N) → xs.length = n → a + r = n → Half P l b a xs →
      ∃ z3' z4' z5', forL w (.nm 3) (xss T (callF T k) eB13) ((List.range' a r).map fun i => .int (i : Nat)) [q, some (.loc M.length), some (.int b), z3, z4, z5] (M ++ [.lst (xs.map numD)]) = .ok .nx [q, some (.loc M.length), some (.int b), z3', z4', z5'] (M ++ [.lst ((foldP b (List.range' a r) xs).map numD)]) ∧
        Half P l b n (foldP b (List.range' a r) xs) := by
  intro r
  induction r with
  | zero =>
    intro a xs w z3 z4 z5 _ _ e h
    have : a = n := by omega
    subst this
    exact ⟨z3, z4, z5, rfl, h⟩
  | succ r ih =>
    intro a xs w z3 z4 z5 hw hl e h
    obtain ⟨z4', z5', hB⟩ := body13 V hl' hb hb2 (a := a) (xs := xs) (by omega) (fun c => by rw [hl]; exact hn a (by omega) c) h hk M q z4 z5
    obtain ⟨u3, u4, u5, hF, hH⟩ := ih (a + 1) (stepP b a xs) w (some (.int a)) z4' z5' hw (by rw [step_len, hl]) (by omega) (half_step V hl' hb (fun c => by rw [hl]; exact hn a (by omega) c) h)
    refine ⟨u3, u4, u5, ?_, hH⟩
    exact (forL_nx (d := .int (a : Nat)) (ρ1 := [q, some (.loc M.length), some (.int b), some (.int a), z4, z5]) (ρ2 := [q, some (.loc M.length), some (.int b), some (.int a), z4', z5']) rfl hB (hw _)).trans hF
theorem half_0 {P : Nat → Rat → Prop} {nn l b : Nat} {xs : List Rat} (V : Lev P nn) (h : ∀ i, i < xs.length → P l (getR xs i)) : Half P l b 0 xs := ⟨fun i hi => V.up l _ (h i hi), fun i hi _ => h i hi⟩
theorem pow_lo {i m a : Nat} (h : i < m) (ha : a < 2 ^ m) (c : a / 2 ^ i % 2 = 0) : a + 2 ^ i < 2 ^ m := by
  obtain ⟨d, rfl⟩ := Nat.exists_eq_add_of_lt h
  have e : 2 ^ (i + d + 1) = 2 ^ i * (2 * 2 ^ d) := by rw [Nat.pow_succ, Nat.pow_add, Nat.mul_comm 2, Nat.mul_assoc]
  rw [e] at ha ⊢
  have hp := Nat.two_pow_pos i
  have h1 : a / 2 ^ i < 2 * 2 ^ d := Nat.div_lt_of_lt_mul ha
  have h2 : a / 2 ^ i + 1 < 2 * 2 ^ d := by omega
  have h3 : a < 2 ^ i * (a / 2 ^ i + 1) := Nat.lt_mul_div_succ a hp
  have h4 : 2 ^ i * (a / 2 ^ i + 1 + 1) ≤ 2 ^ i * (2 * 2 ^ d) := Nat.mul_le_mul_left _ h2
  have h5 : 2 ^ i * (a / 2 ^ i + 1 + 1) = 2 ^ i * (a / 2 ^ i + 1) + 2 ^ i := Nat.mul_succ ..
  omega
def cC13 : Ex := .cmp .lt (.var 2) (.blt false .len (.cons (.var 1) .nil))
def bC13 : Sts := .cons (.fr (.nm 3) (.rng (.blt false .len (.cons (.var 1) .nil))) eB13) (.cons (.asg (.nm 2) (.bin .mul (.lit (.int 2)) (.var 2))) .nil)
theorem while13 {P : Nat → Rat → Prop} {k : Nat} (hk : 2 ≤ k) (M : Sto) (q : Option D) (m : Nat) (hm : m ≤ 4) (V : Lev P m) :
    ∀ (n i : Nat) (xs : List Rat) (z3 z4 z5 : Option D), i + n = m → xs.length = 2 ^ m → (∀ j, j < xs.length → P i (getR xs j)) →
      ∃ ρ', whileN (evt T (callF T k) cC13) (xss T (callF T k) bC13) (n + 1) [q, some (.loc M.length), some (.int (2 ^ i : Nat)), z3, z4, z5] (M ++ [.lst (xs.map numD)]) = some (.ok .nx (q :: some (.loc M.length) :: ρ') (M ++ [.lst ((rounds n (2 ^ i) xs).map numD)])) ∧
        ∀ a, a < xs.length → P m (getR (rounds n (2 ^ i) xs) a) := by
  intro n
  induction n with
  | zero =>
    intro i xs z3 z4 z5 hi hl hz
    have : i = m := by omega
    subst this
    refine ⟨[some (.int (2 ^ i : Nat)), z3, z4, z5], whileN_f ?_, hz⟩
    simp only [cC13, evt_cmp, ev_var, List.getElem?_cons_succ, List.getElem?_cons_zero, Option.join_some, oR_some, Res.bd_ok, ev_bltF, evs_cons, evs_nil, lenL, c_lt, List.length_map, hl]
    simp
    rfl
  | succ n ih =>
    intro i xs z3 z4 z5 hi hl hz
    have hp : 2 ^ i ≤ 2 ^ 4 := Nat.pow_le_pow_right (by decide) (by omega)
    have hp0 := Nat.two_pow_pos i
    have hlt : 2 ^ i < 2 ^ m := Nat.pow_lt_pow_right (by decide) (by omega)
    have hm' : 2 ^ m ≤ 2 ^ 4 := Nat.pow_le_pow_right (by decide) hm
    obtain ⟨u3, u4, u5, hF, hH⟩ := fold13 V (by omega : i < m) hp0 (by omega) hk M q (2 ^ m) (fun a ha c => pow_lo (by omega) ha c) (2 ^ m) 0 xs ⟨(List.range (2 ^ m)).map fun i => .int (i : Nat), []⟩ z3 z4 z5 (fun _ => same_nil) hl (by omega) (half_0 V hz)
    have hr : foldP (2 ^ i) (List.range' 0 (2 ^ m)) xs = roundR (2 ^ i) xs := by
      unfold roundR
      rw [hl, List.range_eq_range']
    rw [hr] at hF hH
    rw [← List.range_eq_range'] at hF
    obtain ⟨ρ', hW, hZ⟩ := ih (i + 1) (roundR (2 ^ i) xs) u3 u4 u5 (by omega) (by rw [round_len, hl]) hH.all
    have e2 : 2 * 2 ^ i = 2 ^ (i + 1) := by rw [Nat.pow_succ, Nat.mul_comm]
    refine ⟨ρ', ?_, ?_⟩
    · show _ = some (SR.ok .nx _ (M ++ [.lst ((rounds n (2 * 2 ^ i) (roundR (2 ^ i) xs)).map numD)]))
      rw [e2]
      refine whileN_t (M1 := M ++ [.lst (xs.map numD)]) (M2 := M ++ [.lst ((roundR (2 ^ i) xs).map numD)]) ?_ ?_ hW
      · simp only [cC13, evt_cmp, ev_var, List.getElem?_cons_succ, List.getElem?_cons_zero, Option.join_some, oR_some, Res.bd_ok, ev_bltF, evs_cons, evs_nil, lenL, c_lt, List.length_map, hl]
        rw [show decide (((2 ^ i : Nat) : Int) < ((2 ^ m : Nat) : Int)) = true from by rw [decide_eq_true_eq]; exact Int.ofNat_lt.mpr hlt]
      · have hR : rngR (.int ((2 ^ m : Nat) : Int)) (M ++ [.lst (xs.map numD)]) = .ok ⟨(List.range (2 ^ m)).map fun i => .int (i : Nat), []⟩ (M ++ [.lst (xs.map numD)]) := by
          have := rngR_i (M := M ++ [.lst (xs.map numD)]) (j := ((2 ^ m : Nat) : Int)) (by omega)
          rwa [Int.toNat_natCast] at this
        have f : binop .mul (.int 2) (.int ((2 ^ i : Nat) : Int)) = some (.int ((2 ^ (i + 1) : Nat) : Int)) := by
          rw [b_mulL (by decide) (by decide), ← e2]
          rfl
        simp only [bC13, xss_cons, xs_fr, evi_rng, ev_var, List.getElem?_cons_succ, List.getElem?_cons_zero, Option.join_some, oR_some, Res.bd_ok, ev_bltF, evs_cons, evs_nil, lenL, List.length_map, hl, hR, sR_bd, hF, sq_nx, xs_asg, ev_bin, ev_lit, f, bindR_nm, xss_nil, List.set_cons_succ, List.set_cons_zero]
    · intro a ha
      have := hZ a (by rw [round_len]; exact ha)
      show P m (getR (rounds n (2 * 2 ^ i) (roundR (2 ^ i) xs)) a)
      rw [e2]
      exact this
theorem rounds_len : ∀ (n b : Nat) (xs : List Rat), (rounds n b xs).length = xs.length
  | 0, _, _ => rfl
  | n + 1, b, xs => by
    show (rounds n (2 * b) (roundR b xs)).length = _
    rw [rounds_len n, round_len]
theorem pu_nums (xs : List Rat) : ∀ n, blws n (xs.map numD) = true := by
  intro n
  induction xs with
  | nil => rfl
  | cons x xs ih =>
    show ((numD x).blw n && blws n (xs.map numD)) = true
    rw [ih]
    rfl
theorem all_get {Q : Rat → Prop} {xs : List Rat} : (∀ x ∈ xs, Q x) ↔ ∀ i, i < xs.length → Q (getR xs i) := by
  constructor
  · intro h i hi
    unfold getR
    rw [List.getD_eq_getElem?_getD, List.getElem?_eq_getElem hi]
    exact h _ (List.getElem_mem hi)
  · intro h x hx
    obtain ⟨i, hi, rfl⟩ := List.mem_iff_getElem.mp hx
    have := h i hi
    unfold getR at this
    rwa [List.getD_eq_getElem?_getD, List.getElem?_eq_getElem hi] at this
theorem t_spread_lineP {P : Nat → Rat → Prop} (xs : List Rat) {m : Nat} (hm : m ≤ 4) (V : Lev P m) (hl : xs.length = 2 ^ m) (hz : ∀ x ∈ xs, P 0 x) (sq : Bool) {k : Nat} (hk : 3 ≤ k) {M : Sto} (hc : Cl M) :
    callF T k 13 [if sq then .tup (xs.map numD) else .lst (xs.map numD)] M = .ok (.lst ((rounds m 1 xs).map numD)) M ∧ ∀ x ∈ rounds m 1 xs, P m x := by
  obtain ⟨j, rfl⟩ := Nat.exists_eq_add_of_le' hk
  obtain ⟨ρ', hW, hZ⟩ := while13 (k := j + 2) (by omega) M (some (if sq then .tup (xs.map numD) else .lst (xs.map numD))) m hm V m 0 xs none none none (by omega) hl (all_get.mp hz)
  refine ⟨?_, ?_⟩
  · have hC := whileC_of hW
    have hb : 2 ^ m ≤ 2 ^ 4 := Nat.pow_le_pow_right (by decide) hm
    rw [call_def fd_spread3_spread_line rfl]
    have hf : frzR (.loc M.length) (M ++ [.lst ((rounds m (2 ^ 0) xs).map numD)]) = .ok (.lst ((rounds m (2 ^ 0) xs).map numD)) (M ++ [.dead]) := by
      rw [frzR_ok (ds := (rounds m (2 ^ 0) xs).map numD) (by simp)]
      simp
    have hL : blt M .list [if sq then D.tup (xs.map numD) else .lst (xs.map numD)] = some (.lst (xs.map numD)) := by cases sq <;> rfl
    generalize hd : (if sq then D.tup (xs.map numD) else .lst (xs.map numD)) = d at hC hL ⊢
    have hC' : whileC (evt T (callF T (j + 2)) cC13) (xss T (callF T (j + 2)) bC13) [some d, some (.loc M.length), some (.int 1), none, none, none] (M ++ [.lst (xs.map numD)]) = .ok .nx (some d :: some (.loc M.length) :: ρ') (M ++ [.lst ((rounds m (2 ^ 0) xs).map numD)]) := hC
    simp only [cC13, bC13, eB13] at hC'
    simp only [F_spread3_spread_line, B_spread3_spread_line, List.map_cons, List.map_nil, xss_cons, xs_par, ev_bltT, evs_cons, evs_nil, ev_var, List.replicate, List.cons_append, List.nil_append, List.getElem?_cons_zero, Option.join_some, oR_some, Res.bd_ok, hL, locR_l, sR_bd, ev_lit, List.set_cons_succ, List.set_cons_zero, sq_nx, xss_cons, xs_whl, hC', xs_ret, ev_frz, ev_var, List.getElem?_cons_succ, hf, sq_rt]
    show trim M.length _ (M ++ [.dead]) = _
    exact trim_app (pu_nums _ _) hc
  · rw [all_get]
    intro i hi
    rw [rounds_len] at hi
    exact hZ i hi
theorem lev_fr {d n m : Nat} (hd : 0 < d) (h2 : d < 2 ^ 3000) (h1 : 2 ^ m * n < 2 ^ 3000) : Lev (fun i x => Fr d (2 ^ i * n) x) m where
  add := fun i x y _ hx hy => by
    have := hx.add hy
    rw [Nat.pow_succ, Nat.mul_comm (2 ^ i) 2, Nat.mul_assoc, Nat.two_mul]
    exact this
  neg := fun i x h => h.neg
  up := fun i x h => h.mono (Nat.mul_le_mul_right n (Nat.pow_le_pow_right (by decide) (by omega)))
  sz := fun i x hi h => h.sz hd (Nat.lt_of_le_of_lt (Nat.mul_le_mul_right n (Nat.pow_le_pow_right (by decide) hi)) h1) h2
/-! the spread line, over all symbols -/
theorem uncons {xs : List Rat} {n : Nat} (h : xs.length = n + 1) : ∃ x ys, xs = x :: ys ∧ ys.length = n := by
  cases xs with
  | nil => simp at h
  | cons x ys => exact ⟨x, ys, rfl, by simpa using h⟩
end Sw
end

section
set_option Elab.async false
set_option linter.all false
set_option maxHeartbeats 0
set_option maxRecDepth 10000
/-! the program's spreading is the sum over all points -/
namespace Sw
open PySem L2 Iv Wal
theorem r0 (x0 : Rat) : rounds 0 1 [x0] = [x0] := rfl
theorem r1 (x0 x1 : Rat) : rounds 1 1 [x0, x1] = [x0 + x1, x0 + -x1] := by
  simp [rounds, roundR, foldP, stepP, getR, List.range, List.range.loop]
theorem r2 (a b c d : Rat) : rounds 2 1 [a, b, c, d] = [a + b + (c + d), a + -b + (c + -d), a + b + -(c + d), a + -b + -(c + -d)] := by
  simp [rounds, roundR, foldP, stepP, getR, List.range, List.range.loop]
theorem r3 (x0 x1 x2 x3 x4 x5 x6 x7 : Rat) : rounds 3 1 [x0, x1, x2, x3, x4, x5, x6, x7] = [(((x0 + x1) + (x2 + x3)) + ((x4 + x5) + (x6 + x7))), (((x0 + -x1) + (x2 + -x3)) + ((x4 + -x5) + (x6 + -x7))), (((x0 + x1) + -(x2 + x3)) + ((x4 + x5) + -(x6 + x7))), (((x0 + -x1) + -(x2 + -x3)) + ((x4 + -x5) + -(x6 + -x7))), (((x0 + x1) + (x2 + x3)) + -((x4 + x5) + (x6 + x7))), (((x0 + -x1) + (x2 + -x3)) + -((x4 + -x5) + (x6 + -x7))), (((x0 + x1) + -(x2 + x3)) + -((x4 + x5) + -(x6 + x7))), (((x0 + -x1) + -(x2 + -x3)) + -((x4 + -x5) + -(x6 + -x7)))] := by
  simp [rounds, roundR, foldP, stepP, getR, List.range, List.range.loop]
theorem r4 (x0 x1 x2 x3 x4 x5 x6 x7 x8 x9 x10 x11 x12 x13 x14 x15 : Rat) : rounds 4 1 [x0, x1, x2, x3, x4, x5, x6, x7, x8, x9, x10, x11, x12, x13, x14, x15] = [((((x0 + x1) + (x2 + x3)) + ((x4 + x5) + (x6 + x7))) + (((x8 + x9) + (x10 + x11)) + ((x12 + x13) + (x14 + x15)))), ((((x0 + -x1) + (x2 + -x3)) + ((x4 + -x5) + (x6 + -x7))) + (((x8 + -x9) + (x10 + -x11)) + ((x12 + -x13) + (x14 + -x15)))), ((((x0 + x1) + -(x2 + x3)) + ((x4 + x5) + -(x6 + x7))) + (((x8 + x9) + -(x10 + x11)) + ((x12 + x13) + -(x14 + x15)))), ((((x0 + -x1) + -(x2 + -x3)) + ((x4 + -x5) + -(x6 + -x7))) + (((x8 + -x9) + -(x10 + -x11)) + ((x12 + -x13) + -(x14 + -x15)))), ((((x0 + x1) + (x2 + x3)) + -((x4 + x5) + (x6 + x7))) + (((x8 + x9) + (x10 + x11)) + -((x12 + x13) + (x14 + x15)))), ((((x0 + -x1) + (x2 + -x3)) + -((x4 + -x5) + (x6 + -x7))) + (((x8 + -x9) + (x10 + -x11)) + -((x12 + -x13) + (x14 + -x15)))), ((((x0 + x1) + -(x2 + x3)) + -((x4 + x5) + -(x6 + x7))) + (((x8 + x9) + -(x10 + x11)) + -((x12 + x13) + -(x14 + x15)))), ((((x0 + -x1) + -(x2 + -x3)) + -((x4 + -x5) + -(x6 + -x7))) + (((x8 + -x9) + -(x10 + -x11)) + -((x12 + -x13) + -(x14 + -x15)))), ((((x0 + x1) + (x2 + x3)) + ((x4 + x5) + (x6 + x7))) + -(((x8 + x9) + (x10 + x11)) + ((x12 + x13) + (x14 + x15)))), ((((x0 + -x1) + (x2 + -x3)) + ((x4 + -x5) + (x6 + -x7))) + -(((x8 + -x9) + (x10 + -x11)) + ((x12 + -x13) + (x14 + -x15)))), ((((x0 + x1) + -(x2 + x3)) + ((x4 + x5) + -(x6 + x7))) + -(((x8 + x9) + -(x10 + x11)) + ((x12 + x13) + -(x14 + x15)))), ((((x0 + -x1) + -(x2 + -x3)) + ((x4 + -x5) + -(x6 + -x7))) + -(((x8 + -x9) + -(x10 + -x11)) + ((x12 + -x13) + -(x14 + -x15)))), ((((x0 + x1) + (x2 + x3)) + -((x4 + x5) + (x6 + x7))) + -(((x8 + x9) + (x10 + x11)) + -((x12 + x13) + (x14 + x15)))), ((((x0 + -x1) + (x2 + -x3)) + -((x4 + -x5) + (x6 + -x7))) + -(((x8 + -x9) + (x10 + -x11)) + -((x12 + -x13) + (x14 + -x15)))), ((((x0 + x1) + -(x2 + x3)) + -((x4 + x5) + -(x6 + x7))) + -(((x8 + x9) + -(x10 + x11)) + -((x12 + x13) + -(x14 + x15)))), ((((x0 + -x1) + -(x2 + -x3)) + -((x4 + -x5) + -(x6 + -x7))) + -(((x8 + -x9) + -(x10 + -x11)) + -((x12 + -x13) + -(x14 + -x15))))] := by
  simp [rounds, roundR, foldP, stepP, getR, List.range, List.range.loop]
theorem rW0 (f : List Int → Rat) : rounds 0 1 ((pts 0).map f) = (pts 0).map (W 0 f) := by
  show rounds 0 1 [f []] = [W 0 f []]
  rw [r0]
  simp only [W_0, W_1, W_zero, Rat.sub_eq_add_neg]
theorem rW1 (f : List Int → Rat) : rounds 1 1 ((pts 1).map f) = (pts 1).map (W 1 f) := by
  show rounds 1 1 [f [0], f [1]] = [W 1 f [0], W 1 f [1]]
  rw [r1]
  simp only [W_0, W_1, W_zero, Rat.sub_eq_add_neg]
theorem rW2 (f : List Int → Rat) : rounds 2 1 ((pts 2).map f) = (pts 2).map (W 2 f) := by
  show rounds 2 1 [f [0, 0], f [0, 1], f [1, 0], f [1, 1]] = [W 2 f [0, 0], W 2 f [0, 1], W 2 f [1, 0], W 2 f [1, 1]]
  rw [r2]
  simp only [W_0, W_1, W_zero, Rat.sub_eq_add_neg]
theorem rW3 (f : List Int → Rat) : rounds 3 1 ((pts 3).map f) = (pts 3).map (W 3 f) := by
  show rounds 3 1 [f [0, 0, 0], f [0, 0, 1], f [0, 1, 0], f [0, 1, 1], f [1, 0, 0], f [1, 0, 1], f [1, 1, 0], f [1, 1, 1]] = [W 3 f [0, 0, 0], W 3 f [0, 0, 1], W 3 f [0, 1, 0], W 3 f [0, 1, 1], W 3 f [1, 0, 0], W 3 f [1, 0, 1], W 3 f [1, 1, 0], W 3 f [1, 1, 1]]
  rw [r3]
  simp only [W_0, W_1, W_zero, Rat.sub_eq_add_neg]
theorem rW4 (f : List Int → Rat) : rounds 4 1 ((pts 4).map f) = (pts 4).map (W 4 f) := by
  show rounds 4 1 [f [0, 0, 0, 0], f [0, 0, 0, 1], f [0, 0, 1, 0], f [0, 0, 1, 1], f [0, 1, 0, 0], f [0, 1, 0, 1], f [0, 1, 1, 0], f [0, 1, 1, 1], f [1, 0, 0, 0], f [1, 0, 0, 1], f [1, 0, 1, 0], f [1, 0, 1, 1], f [1, 1, 0, 0], f [1, 1, 0, 1], f [1, 1, 1, 0], f [1, 1, 1, 1]] = [W 4 f [0, 0, 0, 0], W 4 f [0, 0, 0, 1], W 4 f [0, 0, 1, 0], W 4 f [0, 0, 1, 1], W 4 f [0, 1, 0, 0], W 4 f [0, 1, 0, 1], W 4 f [0, 1, 1, 0], W 4 f [0, 1, 1, 1], W 4 f [1, 0, 0, 0], W 4 f [1, 0, 0, 1], W 4 f [1, 0, 1, 0], W 4 f [1, 0, 1, 1], W 4 f [1, 1, 0, 0], W 4 f [1, 1, 0, 1], W 4 f [1, 1, 1, 0], W 4 f [1, 1, 1, 1]]
  rw [r4]
  simp only [W_0, W_1, W_zero, Rat.sub_eq_add_neg]
theorem rW {m : Nat} (hm : m ≤ 4) (f : List Int → Rat) : rounds m 1 ((pts m).map f) = (pts m).map (W m f) := by
  match m, hm with
  | 0, _ => exact rW0 f
  | 1, _ => exact rW1 f
  | 2, _ => exact rW2 f
  | 3, _ => exact rW3 f
  | 4, _ => exact rW4 f
/-- a line: numbers of the points -/
def lnD (m : Nat) (f : List Int → Rat) : List D := ((pts m).map f).map numD
theorem ln_len (m : Nat) (f : List Int → Rat) : ((pts m).map f).length = 2 ^ m := by rw [List.length_map, pts_len]
theorem p_le {m : Nat} (hm : m ≤ 4) : 2 ^ m ≤ 16 := Nat.pow_le_pow_right (n := 2) (by decide) hm
theorem t_spread_line {d n m : Nat} {f : List Int → Rat} (hm : m ≤ 4) (hf : ∀ x ∈ pts m, Fr d n (f x)) (hd : 0 < d) (h2 : d < 2 ^ 3000) (h1 : 16 * n < 2 ^ 3000) (sq : Bool) {k : Nat} (hk : 3 ≤ k) {M : Sto} (hc : Cl M) :
    callF T k 13 [if sq then .tup (lnD m f) else .lst (lnD m f)] M = .ok (.lst (lnD m (W m f))) M := by
  have V := lev_fr (m := m) (n := n) hd h2 (Nat.lt_of_le_of_lt (Nat.mul_le_mul_right n (p_le hm)) h1)
  have c := (t_spread_lineP ((pts m).map f) hm V (ln_len m f) (fun x hx => by
    obtain ⟨p, hp, rfl⟩ := List.mem_map.mp hx
    rw [Nat.pow_zero, Nat.one_mul]
    exact hf p hp) sq hk hc).1
  rw [rW hm] at c
  exact c
theorem share_nd {m : Nat} (h : m ≤ 4) : (1 / wd m).num = 1 ∧ (1 / wd m).den = 2 ^ m := by
  match m, h with
  | 0, _ => decide +kernel
  | 1, _ => decide +kernel
  | 2, _ => decide +kernel
  | 3, _ => decide +kernel
  | 4, _ => decide +kernel
theorem share_D {m : Nat} (h : m ≤ 4) : D.tup [.int 1, .int ((2 ^ m : Nat) : Int)] = numD (1 / wd m) := by
  unfold numD
  rw [(share_nd h).1, (share_nd h).2]
theorem share_sz {m : Nat} (hm : m ≤ 4) : Sz 5 (1 / wd m) := by
  match m, hm with
  | 0, _ => exact ⟨by decide +kernel, by decide +kernel⟩
  | 1, _ => exact ⟨by decide +kernel, by decide +kernel⟩
  | 2, _ => exact ⟨by decide +kernel, by decide +kernel⟩
  | 3, _ => exact ⟨by decide +kernel, by decide +kernel⟩
  | 4, _ => exact ⟨by decide +kernel, by decide +kernel⟩
theorem t_share {m : Nat} (hm : m ≤ 4) {k : Nat} (hk : 1 ≤ k) (M : Sto) : callF T k 3 [.int 1, .int ((2 ^ m : Nat) : Int)] M = .ok (numD (1 / wd m)) M := by
  obtain ⟨j, rfl⟩ := Nat.exists_eq_add_of_le' hk
  have c := t_number 1 (2 ^ m) (Nat.ne_of_gt (Nat.two_pow_pos m)) (s := 5) (Nat.pow_lt_pow_right (by decide) (by omega)) (by decide) j M
  have e : numD (Rat.normalize 1 (2 ^ m) (Nat.ne_of_gt (Nat.two_pow_pos m))) = numD (1 / wd m) := by
    rw [norm_D, ← share_D hm]
    simp
  rw [e] at c
  exact c
/-- a comprehension over anything known, its own name at i -/
theorem comp_all {α : Type} {cl : Nat → List D → Mo D} {e : Iv.Env → Mo D} {ρ : Iv.Env} {M : Sto} {w : Wk} {i : Nat} (emb : α → D) (f : α → D) (hw : ∀ N, w.same N) : ∀ as : List α, (∀ a ∈ as, e (ρ.set i (some (emb a))) M = .ok (f a) M) →
    compL w (.nm i) (evc T cl .non) e ρ (as.map emb) M = .ok (as.map f) M
  | [], _ => rfl
  | a :: as, h => by
    refine compL_consw (ρ1 := ρ.set i (some (emb a))) (M1 := M) (M2 := M) rfl rfl (h a (.head _)) (hw M) (comp_all emb f hw as fun b hb => h b (.tail _ hb))
/-- the same with a test -/
theorem comp_if {α : Type} {c : Iv.Env → Mo Bool} {e : Iv.Env → Mo D} {ρ : Iv.Env} {M : Sto} {w : Wk} {t : Tg} (emb : α → D) (b : α → Iv.Env) (q : α → Bool) (f : α → D) (hw : ∀ N, w.same N) : ∀ as : List α, (∀ a ∈ as, bindT t (emb a) ρ = some (b a)) → (∀ a ∈ as, c (b a) M = .ok (q a) M) → (∀ a ∈ as, q a = true → e (b a) M = .ok (f a) M) →
    compL w t c e ρ (as.map emb) M = .ok ((as.filter q).map f) M
  | [], _, _, _ => rfl
  | a :: as, h1, h2, h3 => by
    have ih := comp_if emb b q f hw as (fun b hb => h1 b (.tail _ hb)) (fun b hb => h2 b (.tail _ hb)) fun b hb => h3 b (.tail _ hb)
    cases hq : q a with
    | true =>
      rw [List.filter_cons_of_pos hq, List.map_cons, List.map_cons]
      exact compL_consw (h1 a (.head _)) ((h2 a (.head _)).trans (by rw [hq])) (h3 a (.head _) hq) (hw M) ih
    | false =>
      rw [List.filter_cons_of_neg (by rw [hq]; exact Bool.false_ne_true), List.map_cons]
      rw [compL_skip (h1 a (.head _)) ((h2 a (.head _)).trans (by rw [hq])) (hw M)]
      exact ih
theorem t_parted_line {d n m : Nat} {f : List Int → Rat} (hm : m ≤ 4) (hf : ∀ x ∈ pts m, Fr d n (f x)) (hd : 0 < d) (h2 : d < 2 ^ 2000) (h1 : 16 * n < 2 ^ 2000) (sq : Bool) {k : Nat} (hk : 4 ≤ k) {M : Sto} (hc : Cl M) :
    callF T k 14 [if sq then .tup (lnD m f) else .lst (lnD m f)] M = .ok (.lst (lnD m (U m f))) M := by
  obtain ⟨j, rfl⟩ := Nat.exists_eq_add_of_le' hk
  have h3 : (2 : Nat) ^ 2000 < 2 ^ 3000 := Nat.pow_lt_pow_right (by decide) (by decide)
  have c1 := t_spread_line hm hf hd (Nat.lt_trans h2 h3) (Nat.lt_trans h1 h3) sq (k := j + 3) (by omega) hc
  have c2 := t_share hm (k := j + 3) (by omega) M
  have l0 : blt M .len [if sq then D.tup (lnD m f) else .lst (lnD m f)] = some (.int ((2 ^ m : Nat) : Int)) := by
    cases sq
    · show some (D.int ((lnD m f).length : Int)) = _
      rw [lnD, List.length_map, ln_len]
    · show some (D.int ((lnD m f).length : Int)) = _
      rw [lnD, List.length_map, ln_len]
  generalize hx : (if sq then D.tup (lnD m f) else .lst (lnD m f)) = x at c1 l0 ⊢
  have p16 := p_le hm
  have hC : ∀ (ρ : Iv.Env) (w : Wk), (∀ N, w.same N) → ρ.length = 3 → ρ[1]? = some (some (numD (1 / wd m))) → compL w (.nm 2) (evc T (callF T (j + 3)) .non) (ev T (callF T (j + 3)) (.call 7 0 (.cons (.var 1) (.cons (.var 2) .nil)) .nil)) ρ (lnD m (W m f)) M = .ok (lnD m (U m f)) M := by
    intro ρ w hw hr h1'
    unfold lnD
    rw [List.map_map, List.map_map]
    refine comp_all (numD ∘ W m f) (numD ∘ U m f) hw (pts m) fun s hs => ?_
    have g1 : (ρ.set 2 (some ((numD ∘ W m f) s)))[1]? = some (some (numD (1 / wd m))) := by rw [List.getElem?_set_ne (by decide), h1']
    have g2 : (ρ.set 2 (some ((numD ∘ W m f) s)))[2]? = some (some (numD (W m f s))) := by rw [List.getElem?_set_self (by omega)]; rfl
    have zw : Sz 3000 (W m f s) := (Fr.W hf s).sz hd (Nat.lt_of_le_of_lt (Nat.mul_le_mul_right n p16) (Nat.lt_trans h1 h3)) (Nat.lt_trans h2 h3)
    have c := t_times (share_sz hm) zw (by decide) (k := j + 3) (by omega) M
    simp only [e7_0, evs_cons, evs_nil, ev_var, g1, g2, Option.join_some, oR_some, Res.bd_ok, clN2, c]
    rfl
  have hL : (lnD m (U m f)).length ≤ sizeLine := by rw [lnD, List.length_map, ln_len, sizeLine_eq]; omega
  rw [call_def fd_spread3_parted_line rfl]
  simp only [F_spread3_parted_line, B_spread3_parted_line, List.map_cons, List.map_nil, List.replicate, List.cons_append, List.nil_append, xss_cons, xs_asg, e3_0, evs_cons, evs_nil, ev_lit, ev_bltF, ev_var, List.getElem?_cons_zero, Option.join_some, oR_some, Res.bd_ok, l0, clN2, c2, sR_bd, bindR_nm, sq_nx, xs_ret, ev_compF, evi_seq, e13_0, List.getElem?_set_ne, clN1, c1, seqR_l, List.set_cons_succ, List.set_cons_zero, wipeE]
  rw [hC _ _ (fun _ => same_nil) rfl rfl]
  simp only [Res.bd_ok, okIw_pos hL, sR_bd, sq_rt, fin_rt]
end Sw
end

section
set_option Elab.async false
set_option linter.all false
set_option maxHeartbeats 1000000
/-! drawing -/
namespace Sw
open PySem L2 Iv Wal
/-- where the drawing stands -/
def kvs0 (c : List Int) (r t : Int) : List (Key × D) := [(Sum.inr "great", .loc 0), (Sum.inr "cells", .lst (c.map .int)), (Sum.inr "rest", .int r), (Sum.inr "turn", .int t)]
def St0 (great cells : List Int) (r t : Int) : Sto := [.lst (great.map .int), .dct (kvs0 cells r t)]
theorem blw_ints (n : Nat) (is : List Int) : blws n (is.map .int) = true := by
  induction is with
  | nil => rfl
  | cons i is ih =>
    show (true && blws n (is.map .int)) = true
    rw [ih]; rfl
theorem cl_st (g c : List Int) (r t : Int) : Cl (St0 g c r t) := by
  show (blws 2 (g.map .int) && (blws 2 [.loc 0, .lst (c.map .int), .int r, .int t] && true)) = true
  rw [blw_ints]
  show (true && (blws 2 (c.map .int) && _ && true)) = true
  rw [blw_ints]
  rfl
theorem n_great_cells : ((Str.ofString "great") = (Str.ofString "cells")) = False := eq_false (by decide +kernel)
theorem n_great_rest : ((Str.ofString "great") = (Str.ofString "rest")) = False := eq_false (by decide +kernel)
theorem n_great_turn : ((Str.ofString "great") = (Str.ofString "turn")) = False := eq_false (by decide +kernel)
theorem n_cells_great : ((Str.ofString "cells") = (Str.ofString "great")) = False := eq_false (by decide +kernel)
theorem n_cells_rest : ((Str.ofString "cells") = (Str.ofString "rest")) = False := eq_false (by decide +kernel)
theorem n_cells_turn : ((Str.ofString "cells") = (Str.ofString "turn")) = False := eq_false (by decide +kernel)
theorem n_rest_great : ((Str.ofString "rest") = (Str.ofString "great")) = False := eq_false (by decide +kernel)
theorem n_rest_cells : ((Str.ofString "rest") = (Str.ofString "cells")) = False := eq_false (by decide +kernel)
theorem n_rest_turn : ((Str.ofString "rest") = (Str.ofString "turn")) = False := eq_false (by decide +kernel)
theorem n_turn_great : ((Str.ofString "turn") = (Str.ofString "great")) = False := eq_false (by decide +kernel)
theorem n_turn_cells : ((Str.ofString "turn") = (Str.ofString "cells")) = False := eq_false (by decide +kernel)
theorem n_turn_rest : ((Str.ofString "turn") = (Str.ofString "rest")) = False := eq_false (by decide +kernel)
section
variable {g c : List Int} {r t v : Int}
theorem st_1 {x : Str} : idx (St0 g c r t) (.loc 1) (.str x) = ((kvs0 c r t).find? fun p => decide (p.1 = Sum.inr x)).map (·.2) := (rfl)
theorem st_g : idx (St0 g c r t) (.loc 1) (.str "great") = some (.loc 0) := by
  rw [st_1]
  simp [kvs0, n_great_cells, n_great_rest, n_great_turn, n_cells_great, n_cells_rest, n_cells_turn, n_rest_great, n_rest_cells, n_rest_turn, n_turn_great, n_turn_cells, n_turn_rest]
theorem st_c : idx (St0 g c r t) (.loc 1) (.str "cells") = some (.lst (c.map .int)) := by
  rw [st_1]
  simp [kvs0, n_great_cells, n_great_rest, n_great_turn, n_cells_great, n_cells_rest, n_cells_turn, n_rest_great, n_rest_cells, n_rest_turn, n_turn_great, n_turn_cells, n_turn_rest]
theorem st_r : idx (St0 g c r t) (.loc 1) (.str "rest") = some (.int r) := by
  rw [st_1]
  simp [kvs0, n_great_cells, n_great_rest, n_great_turn, n_cells_great, n_cells_rest, n_cells_turn, n_rest_great, n_rest_cells, n_rest_turn, n_turn_great, n_turn_cells, n_turn_rest]
theorem st_t : idx (St0 g c r t) (.loc 1) (.str "turn") = some (.int t) := by
  rw [st_1]
  simp [kvs0, n_great_cells, n_great_rest, n_great_turn, n_cells_great, n_cells_rest, n_cells_turn, n_rest_great, n_rest_cells, n_rest_turn, n_turn_great, n_turn_cells, n_turn_rest]
theorem put_1 {x : Str} {d : D} : Iv.setItem (.loc 1) (.str x) d (St0 g c r t) = .ok () [.lst (g.map .int), .dct (putD (kvs0 c r t) (Sum.inr x) d)] := by
  show (if (kvs0 c r t).length < sizeLine then Res.ok () ((St0 g c r t).set 1 (.dct (putD (kvs0 c r t) (Sum.inr x) d))) else Res.bad) = _
  rw [if_pos (by rw [sizeLine_eq]; exact (by decide : (4 : Nat) < 16777216))]
  rfl
theorem put_r : Iv.setItem (.loc 1) (.str "rest") (.int v) (St0 g c r t) = .ok () (St0 g c v t) := by
  rw [put_1]
  simp [putD, kvs0, St0, n_great_cells, n_great_rest, n_great_turn, n_cells_great, n_cells_rest, n_cells_turn, n_rest_great, n_rest_cells, n_rest_turn, n_turn_great, n_turn_cells, n_turn_rest]
theorem put_t : Iv.setItem (.loc 1) (.str "turn") (.int v) (St0 g c r t) = .ok () (St0 g c r v) := by
  rw [put_1]
  simp [putD, kvs0, St0, n_great_cells, n_great_rest, n_great_turn, n_cells_great, n_cells_rest, n_cells_turn, n_rest_great, n_rest_cells, n_rest_turn, n_turn_great, n_turn_cells, n_turn_rest]
end
end Sw
end

section
set_option Elab.async false
set_option linter.all false
set_option maxHeartbeats 1000000
/-! drawing: a number out of the script -/
namespace Sw
open PySem L2 Iv Wal
def bIn : Sts := .cons (.asg (.nm 4) (.bin .mod (.blt false .int (.cons (.bin .add (.bin .add (.bin .mul (.var 4) (.lit (.int 48271))) (.var 5)) (.var 2)) .nil)) (.var 1))) .nil
theorem inner (cl : Nat → List D → Mo D) (M : Sto) (q : D) (p : Int) (hp : 0 < p) (hp2 : p < 2 ^ 60) (t x : Int) :
    ∀ (cs : List Int) (w : Wk) (b : Int) (z : Option D), (∀ N, w.same N) → 0 ≤ b → b < 2 ^ 60 → ∃ (b' : Int) (z' : Option D), 0 ≤ b' ∧ b' < 2 ^ 60 ∧
      forL w (.nm 5) (xss T cl bIn) (cs.map .int) [some q, some (.int p), some (.int t), some (.int x), some (.int b), z] M = .ok .nx [some q, some (.int p), some (.int t), some (.int x), some (.int b'), z'] M := by
  intro cs
  induction cs with
  | nil => intro w b z _ h1 h2; exact ⟨b, z, h1, h2, rfl⟩
  | cons c cs ih =>
    intro w b z hw h1 h2
    have e1 := Int.emod_nonneg (b * 48271 + c + t) (b := p) (by omega)
    have e2 := Int.emod_lt_of_pos (b * 48271 + c + t) hp
    obtain ⟨b', z', g1, g2, e⟩ := ih w ((b * 48271 + c + t) % p) (some (.int c)) hw e1 (by omega)
    refine ⟨b', z', g1, g2, (forL_nx (ρ1 := [some q, some (.int p), some (.int t), some (.int x), some (.int b), some (.int c)]) (ρ2 := [some q, some (.int p), some (.int t), some (.int x), some (.int ((b * 48271 + c + t) % p)), some (.int c)]) (M2 := M) rfl ?_ (hw M)).trans e⟩
    have f1 : binop .mul (.int b) (.int 48271) = some (.int (b * 48271)) := b_mulR (by decide) (by decide)
    have f2 : binop .mod (.int (b * 48271 + c + t)) (.int p) = some (.int ((b * 48271 + c + t) % p)) := b_mod hp
    simp [bIn, f1, f2]
def bOut : Sts := .cons (.asg (.nm 4) (.bin .add (.bin .mul (.lit (.int 69621)) (.var 2)) (.bin .fdiv (.var 1) (.lit (.int 41))))) (.cons (.fr (.nm 5) (.seq (.idx (.var 0) (.lit (.str "cells")))) bIn) (.cons (.asg (.nm 3) (.bin .add (.bin .mul (.var 3) (.lit (.int 2147483659))) (.bin .mod (.blt false .int (.cons (.bin .pow (.var 4) (.lit (.int 5))) .nil)) (.var 1)))) .nil))
theorem outer (cl : Nat → List D → Mo D) (g cs : List Int) (r u t : Int) (ht : 0 ≤ t) (ht2 : t < 2 ^ 30) :
    ∀ (ps : List Int) (w : Wk) (x : Int) (z1 z4 z5 : Option D), (∀ N, w.same N) → (∀ p ∈ ps, 0 < p ∧ p < 2 ^ 40) → ∃ (x' : Int) (z1' z4' z5' : Option D),
      forL w (.nm 1) (xss T cl bOut) (ps.map .int) [some (.loc 1), z1, some (.int t), some (.int x), z4, z5] (St0 g cs r u) = .ok .nx [some (.loc 1), z1', some (.int t), some (.int x'), z4', z5'] (St0 g cs r u) := by
  intro ps
  induction ps with
  | nil => intro w x z1 z4 z5 _ _; exact ⟨x, z1, z4, z5, rfl⟩
  | cons p ps ih =>
    intro w x z1 z4 z5 hw hp
    obtain ⟨hp1, hp2⟩ := hp p (.head _)
    have d1 : 0 ≤ p / 41 := Int.ediv_nonneg (by omega) (by decide)
    have d2 : p / 41 ≤ p := Int.ediv_le_self _ (by omega)
    obtain ⟨b', z', g1, g2, e⟩ := inner cl (St0 g cs r u) (.loc 1) p hp1 (by omega) t x cs ⟨cs.map .int, []⟩ (69621 * t + p / 41) z5 (fun _ => same_nil) (by omega) (by omega)
    obtain ⟨x', y1, y4, y5, e'⟩ := ih w (x * 2147483659 + b' ^ 5 % p) (some (.int p)) (some (.int b')) z' hw (fun q hq => hp q (.tail _ hq))
    refine ⟨x', y1, y4, y5, (forL_nx (ρ1 := [some (.loc 1), some (.int p), some (.int t), some (.int x), z4, z5]) (ρ2 := [some (.loc 1), some (.int p), some (.int t), some (.int (x * 2147483659 + b' ^ 5 % p)), some (.int b'), z']) (M2 := St0 g cs r u) rfl ?_ (hw _)).trans e'⟩
    have f1 : binop .mul (.int 69621) (.int t) = some (.int (69621 * t)) := b_mulL (by decide) (by decide)
    have f2 : binop .fdiv (.int p) (.int 41) = some (.int (p / 41)) := b_fdivS (by decide) (by decide)
    have f3 : binop .mul (.int x) (.int 2147483659) = some (.int (x * 2147483659)) := b_mulR (by decide) (by decide)
    have f4 : binop .pow (.int b') (.int 5) = some (.int (b' ^ 5)) := b_pow (by decide) (by decide) (by omega)
    have f5 : binop .mod (.int (b' ^ 5)) (.int p) = some (.int (b' ^ 5 % p)) := b_mod hp1
    simp [bOut, f1, f2, st_c, e, f3, f4, f5]
theorem t_mixed (g cs : List Int) (r t : Int) (ht : 0 ≤ t) (ht2 : t < 2 ^ 29) {k : Nat} (hk : 1 ≤ k) : ∃ v : Int, callF T k 19 [.loc 1] (St0 g cs r t) = .ok (.int v) (St0 g cs r (t + 1)) := by
  obtain ⟨j, rfl⟩ := Nat.exists_eq_add_of_le' hk
  obtain ⟨x', y1, y4, y5, e⟩ := outer (callF T j) g cs r (t + 1) (t + 1) (by omega) (by omega) [2147483629, 2147483587, 2147483579, 2147483563] ⟨[.int 2147483629, .int 2147483587, .int 2147483579, .int 2147483563], []⟩ 0 none none none (fun _ => same_nil) (by
    intro p hp
    simp at hp
    omega)
  refine ⟨x', ?_⟩
  rw [call_def fd_l_law_mixed rfl]
  simp only [List.map_cons, List.map_nil, bOut, bIn] at e
  simp [F_l_law_mixed, B_l_law_mixed, st_t, put_t, sizeLine_eq, e]
  exact fin_rt (M := St0 g cs r (t + 1)) _ _
end Sw
end

section
set_option Elab.async false
set_option linter.all false
set_option maxHeartbeats 1000000
/-! drawing -/
namespace Sw
open PySem L2 Iv Wal
theorem some_bound : ∀ is : List Int, ∃ s, ∀ i ∈ is, i.natAbs < 2 ^ s
  | [] => ⟨0, by simp⟩
  | i :: is => by
    obtain ⟨s, h⟩ := some_bound is
    refine ⟨max s (i.natAbs + 1), ?_⟩
    intro x hx
    rcases List.mem_cons.mp hx with rfl | hx
    · exact Nat.lt_of_lt_of_le (Nat.lt_two_pow_self (n := x.natAbs)) (Nat.pow_le_pow_right (by decide) (by omega))
    · exact Nat.lt_of_lt_of_le (h x hx) (Nat.pow_le_pow_right (by decide) (by omega))
theorem ints_okE (is : List Int) : (D.lst (is.map .int)).okE = true := by
  obtain ⟨s, h⟩ := some_bound is
  refine gd_okE (s := s) (j := 1) ?_ (by decide)
  simp only [D.gd]
  rw [gds_iff]
  intro d hd
  obtain ⟨i, hi, rfl⟩ := List.mem_map.mp hd
  simpa only [D.gd] using h i hi
section
variable {g c : List Int} {r t v : Int}
theorem ne_great : cmpop (St0 g c r t) .ne (.loc 0) (.lst []) = some (!g.isEmpty) := by
  rw [c_neD, get_lst]
  show (eqD (.lst (g.map .int)) (.lst [])).map (!·) = _
  have h0 : (D.lst []).okE = true := ints_okE []
  unfold eqD
  rw [ints_okE, h0]
  show (some (PyData.eqv (D.lst (g.map .int)).py (D.lst []).py)).map (!·) = _
  cases g with
  | nil => simp [D.py, pys, PyData.eqv, PyData.eqvAll]
  | cons a b => simp [D.py, pys, PyData.eqv, PyData.eqvAll]
theorem pop_great {a : Int} : mth .popAt (.loc 0) [.int 0] (St0 (a :: g) c r t) = .ok (.int a) (St0 g c r t) := by
  show onS (.loc 0) (fun ds => if -(2 ^ 63) ≤ (0 : Int) ∧ (0 : Int) < 2 ^ 63 then (seqIndex? 0 ds.length).bind fun k => (ds[k]?).map fun d => (d, ds.eraseIdx k) else none) (St0 (a :: g) c r t) = _
  unfold onS
  have e : (St0 (a :: g) c r t)[0]? = some (.lst ((a :: g).map .int)) := rfl
  simp only [e]
  rw [if_pos (by decide)]
  have s : seqIndex? 0 ((a :: g).map D.int).length = some 0 := by
    unfold seqIndex?
    simp
  rw [s]
  rfl
theorem rec_great : recv (St0 g c r t) .popAt (.loc 0) = true := (rfl)
end
theorem t_draw (g cs : List Int) (r t room : Int) (ht : 0 ≤ t) (ht2 : t < 2 ^ 29) (h0 : 0 < room) (h1 : room < 2 ^ 29) {k : Nat} (hk : 2 ≤ k) :
    ∃ (v : Int) (g' : List Int) (r' t' : Int), callF T k 20 [.loc 1, .int room] (St0 g cs r t) = .ok (.int v) (St0 g' cs r' t') ∧ 0 ≤ v ∧ v < room ∧ 0 ≤ t' ∧ t' ≤ t + 1 := by
  obtain ⟨j, rfl⟩ := Nat.exists_eq_add_of_le' hk
  have fm : ∀ r : Int, binop .mod (.int r) (.int room) = some (.int (r % room)) := fun r => b_mod h0
  have fd : ∀ r : Int, binop .fdiv (.int r) (.int room) = some (.int (r / room)) := fun r => b_fdivS h0 (by omega)
  have lo : ∀ r : Int, 0 ≤ r % room := fun r => Int.emod_nonneg r (by omega)
  have hi : ∀ r : Int, r % room < room := fun r => Int.emod_lt_of_pos r h0
  by_cases c : r = 0
  · subst c
    cases g with
    | nil =>
      obtain ⟨x, e⟩ := t_mixed [] cs 0 t ht ht2 (k := j + 1) (by omega)
      refine ⟨x % room, [], x / room, t + 1, ?_, lo x, hi x, by omega, by omega⟩
      rw [call_def fd_l_law_draw rfl]
      simp [F_l_law_draw, B_l_law_draw, st_r, st_g, ne_great, e, put_r, fm, fd, sizeLine_eq]
      exact fin_rt (M := St0 [] cs (x / room) (t + 1)) _ _
    | cons a g =>
      refine ⟨a % room, g, a / room, t, ?_, lo a, hi a, by omega, by omega⟩
      rw [call_def fd_l_law_draw rfl]
      simp [F_l_law_draw, B_l_law_draw, st_r, st_g, ne_great, rec_great, pop_great, put_r, fm, fd, sizeLine_eq]
      exact fin_rt (M := St0 g cs (a / room) t) _ _
  · refine ⟨r % room, g, r / room, t, ?_, lo r, hi r, by omega, by omega⟩
    rw [call_def fd_l_law_draw rfl]
    simp [F_l_law_draw, B_l_law_draw, st_r, c, put_r, fm, fd]
    exact fin_rt (M := St0 g cs (r / room) t) _ _
end Sw
end

section
set_option Elab.async false
set_option linter.all false
set_option maxHeartbeats 1000000
/-! points -/
namespace Sw
open PySem L2 Iv Wal
def pD (l : List Int) : D := .tup (l.map .int)
def raw : Nat → List (List Int)
  | 0 => [[]]
  | n + 1 => (raw n).map (· ++ [0]) ++ (raw n).map (· ++ [1])
theorem raw_len : ∀ n, (raw n).length = 2 ^ n
  | 0 => rfl
  | n + 1 => by
    show ((raw n).map _ ++ (raw n).map _).length = _
    rw [List.length_append, List.length_map, List.length_map, raw_len n, Nat.pow_succ]
    omega
theorem raw_mem : ∀ n, ∀ l ∈ raw n, l.length = n
  | 0, l, h => by simp [raw] at h; simp [h]
  | n + 1, l, h => by
    simp only [raw, List.mem_append, List.mem_map] at h
    rcases h with ⟨q, hq, rfl⟩ | ⟨q, hq, rfl⟩
    · simp [raw_mem n q hq]
    · simp [raw_mem n q hq]
theorem raw_sorted {M : Sto} {n : Nat} (h : n ≤ 4) : blt M .sorted [.lst ((raw n).map pD)] = some (.lst ((pts n).map pD)) := by
  show (Iv.sorted ((raw n).map pD)).map D.lst = _
  match n, h with
  | 0, _ => rfl
  | 1, _ => rfl
  | 2, _ => rfl
  | 3, _ => rfl
  | 4, _ => rfl
theorem comp30 {cl : Nat → List D → Mo D} {M : Sto} (a : Int) (ρ : Iv.Env) (h : ρ.length = 4) (w : Wk) (hw : ∀ N, w.same N) : ∀ ls : List (List Int), (∀ l ∈ ls, l.length ≤ 10) →
    compL w (.nm 3) (evc T cl .non) (ev T cl (.bin .add (.var 3) (.tup (.cons (.lit (.int a)) .nil)))) ρ (ls.map pD) M = .ok ((ls.map (· ++ [a])).map pD) M := by
  intro ls
  induction ls with
  | nil => intro _; rfl
  | cons l ls ih =>
    intro hl
    refine compL_consw (ρ1 := ρ.set 3 (some (pD l))) (M1 := M) (M2 := M) rfl rfl ?_ (hw M) (ih fun q hq => hl q (.tail _ hq))
    have e := hl l (.head _)
    have g : (ρ.set 3 (some (pD l)))[3]? = some (some (pD l)) := by rw [List.getElem?_set_self (by omega)]
    have f : binop .add (pD l) (.tup [.int a]) = some (pD (l ++ [a])) := by
      unfold pD
      rw [b_tup (by rw [sizeLine_eq, List.length_map]; simp; omega), List.map_append]
      rfl
    simp only [ev_bin, ev_var, g, Option.join_some, oR_some, Res.bd_ok, ev_tup, evs_cons, evs_nil, ev_lit, okIw_pos (show [D.int a].length ≤ sizeLine from by rw [sizeLine_eq]; exact (by decide : 1 ≤ 16777216)), f]
theorem t_points (n : Nat) (hn : n ≤ 4) {k : Nat} (hk : 1 ≤ k) (M : Sto) : callF T k 30 [.int n] M = .ok (.lst ((pts n).map pD)) M := by
  obtain ⟨j, rfl⟩ := Nat.exists_eq_add_of_le' hk
  have hf : ∀ (r a : Nat) (w : Wk) (q z2 z3 : Option D), (∀ N, w.same N) → a + r = n → ∃ z2' z3', forL w (.nm 2) (xss T (callF T j) (.cons (.asg (.nm 1) (.bin .add (.comp false [3] (.nm 3) (.seq (.var 1)) .non (.bin .add (.var 3) (.tup (.cons (.lit (.int 0)) .nil)))) (.comp false [3] (.nm 3) (.seq (.var 1)) .non (.bin .add (.var 3) (.tup (.cons (.lit (.int 1)) .nil)))))) .nil)) ((List.range' a r).map fun i => .int (i : Nat)) [q, some (.lst ((raw a).map pD)), z2, z3] M = .ok .nx [q, some (.lst ((raw n).map pD)), z2', z3'] M := by
    intro r
    induction r with
    | zero =>
      intro a w q z2 z3 _ e
      have : a = n := by omega
      subst this
      exact ⟨z2, z3, rfl⟩
    | succ r ih =>
      intro a w q z2 z3 hw e
      obtain ⟨u2, u3, k⟩ := ih (a + 1) w q (some (.int a)) z3 hw (by omega)
      refine ⟨u2, u3, (forL_nx (ρ1 := [q, some (.lst ((raw a).map pD)), some (.int a), z3]) (ρ2 := [q, some (.lst ((raw (a + 1)).map pD)), some (.int a), z3]) (M2 := M) rfl ?_ (hw M)).trans k⟩
      have hp : 2 ^ a ≤ 2 ^ 4 := Nat.pow_le_pow_right (by decide) (by omega)
      have hl : ∀ l ∈ raw a, l.length ≤ 10 := fun l h => by rw [raw_mem a l h]; omega
      have c0 := comp30 (cl := callF T j) (M := M) 0 [q, some (.lst ((raw a).map pD)), some (.int a), none] rfl ⟨(raw a).map pD, []⟩ (fun _ => same_nil) (raw a) hl
      have c1 := comp30 (cl := callF T j) (M := M) 1 [q, some (.lst ((raw a).map pD)), some (.int a), none] rfl ⟨(raw a).map pD, []⟩ (fun _ => same_nil) (raw a) hl
      have l0 : (((raw a).map (· ++ [(0 : Int)])).map pD).length ≤ sizeLine := by rw [sizeLine_eq, List.length_map, List.length_map, raw_len]; omega
      have l1 : (((raw a).map (· ++ [(1 : Int)])).map pD).length ≤ sizeLine := by rw [sizeLine_eq, List.length_map, List.length_map, raw_len]; omega
      have f : binop .add (.lst (((raw a).map (· ++ [(0 : Int)])).map pD)) (.lst (((raw a).map (· ++ [(1 : Int)])).map pD)) = some (.lst ((raw (a + 1)).map pD)) := by
        rw [b_lst (by rw [sizeLine_eq]; simp only [List.length_map, raw_len]; omega), ← List.map_append]
        rfl
      simp only [xss_cons, xss_nil, xs_asg, ev_bin, ev_compF, evi_seq, ev_var, List.getElem?_cons_succ, List.getElem?_cons_zero, Option.join_some, oR_some, Res.bd_ok, seqR_l, wipeE, List.set_cons_succ, List.set_cons_zero, c0, c1, okIw_pos l0, okIw_pos l1, f, sR_bd, bindR_nm, sq_nx]
  obtain ⟨z2, z3, e⟩ := hf n 0 ⟨(List.range n).map fun i => .int (i : Nat), []⟩ (some (.int n)) none none (fun _ => same_nil) (by omega)
  have hr : rngR (.int (n : Int)) M = .ok ⟨(List.range n).map fun i => .int (i : Nat), []⟩ M := by
    have := rngR_i (M := M) (j := (n : Int)) (by omega)
    rwa [Int.toNat_natCast] at this
  rw [← List.range_eq_range'] at e
  have e0 : D.lst [.tup []] = .lst ((raw 0).map pD) := rfl
  rw [call_def fd_l_law_points rfl]
  have l1 : [D.tup []].length ≤ sizeLine := by rw [sizeLine_eq]; decide
  have l2 : ([] : List D).length ≤ sizeLine := by rw [sizeLine_eq]; decide
  simp only [F_l_law_points, B_l_law_points, List.map_cons, List.map_nil, List.replicate, List.cons_append, List.nil_append, xss_cons, xs_asg, ev_lstF, evs_cons, evs_nil, ev_tup, okIw_pos l2, Res.bd_ok, okIw_pos l1, sR_bd, bindR_nm, sq_nx, List.set_cons_succ, List.set_cons_zero, xs_fr, evi_rng, ev_var, List.getElem?_cons_zero, Option.join_some, oR_some, hr, e0, e, xs_ret, ev_bltF, List.getElem?_cons_succ, raw_sorted hn, sq_rt, fin_rt]
end Sw
end

section
set_option Elab.async false
set_option linter.all false
set_option maxHeartbeats 1000000
/-! drawn things -/
namespace Sw
open PySem L2 Iv Wal
theorem comp_draw {α : Type} {cl : Nat → List D → Mo D} {e : Iv.Env → Mo D} {ρ : Iv.Env} {w : Wk} {i c : Nat} {cs : List Int} (emb : α → D) (Q : α → Prop) (hw : ∀ N, w.same N) : ∀ ds : List D,
    (∀ d ∈ ds, ∀ (g : List Int) (r t : Int), 0 ≤ t → t < 2 ^ 20 → ∃ (a : α) (g' : List Int) (r' t' : Int), e (ρ.set i (some d)) (St0 g cs r t) = .ok (emb a) (St0 g' cs r' t') ∧ Q a ∧ 0 ≤ t' ∧ t' ≤ t + c) →
    ∀ (g : List Int) (r t : Int), 0 ≤ t → t + ((c * ds.length : Nat) : Int) < 2 ^ 20 → ∃ (as : List α) (g' : List Int) (r' t' : Int), compL w (.nm i) (evc T cl .non) e ρ ds (St0 g cs r t) = .ok (as.map emb) (St0 g' cs r' t') ∧ as.length = ds.length ∧ (∀ a ∈ as, Q a) ∧ 0 ≤ t' ∧ t' ≤ t + ((c * ds.length : Nat) : Int)
  | [], _, g, r, t, h0, _ => ⟨[], g, r, t, rfl, rfl, fun a h => (by simp at h), h0, by simp⟩
  | d :: ds, he, g, r, t, h0, h1 => by
    rw [List.length_cons, Nat.mul_succ] at h1
    obtain ⟨a, g1, r1, t1, e1, q1, h2, h3⟩ := he d (.head _) g r t h0 (by omega)
    obtain ⟨as, g2, r2, t2, e2, l2, q2, h4, h5⟩ := comp_draw emb Q hw ds (fun d hd => he d (.tail _ hd)) g1 r1 t1 h2 (by omega)
    refine ⟨a :: as, g2, r2, t2, compL_consw (ρ1 := ρ.set i (some d)) (M1 := St0 g cs r t) (M2 := St0 g1 cs r1 t1) rfl rfl e1 (hw _) e2, by simp [l2], fun b hb => ?_, h4, ?_⟩
    · rcases List.mem_cons.mp hb with rfl | hb
      · exact q1
      · exact q2 b hb
    · rw [List.length_cons, Nat.mul_succ]
      omega
theorem t_pick (ds : List D) (hl : 0 < ds.length) (h20 : ds.length < 2 ^ 20) (sq : Bool) (g cs : List Int) (r t : Int) (ht : 0 ≤ t) (ht2 : t < 2 ^ 29) {k : Nat} (hk : 3 ≤ k) :
    ∃ (v : D) (g' : List Int) (r' t' : Int), callF T k 21 [.loc 1, if sq then .tup ds else .lst ds] (St0 g cs r t) = .ok v (St0 g' cs r' t') ∧ v ∈ ds ∧ 0 ≤ t' ∧ t' ≤ t + 1 := by
  obtain ⟨j, rfl⟩ := Nat.exists_eq_add_of_le' hk
  obtain ⟨v, g', r', t', e, h0, h1, h2, h3⟩ := t_draw g cs r t (ds.length : Int) ht ht2 (by omega) (by omega) (k := j + 2) (by omega)
  obtain ⟨i, rfl⟩ := Int.eq_ofNat_of_zero_le h0
  have hi : i < ds.length := by omega
  have ha : atI ds (i : Int) = some ds[i] := atI_nat (List.getElem?_eq_getElem hi)
  refine ⟨ds[i], g', r', t', ?_, List.getElem_mem hi, h2, h3⟩
  rw [call_def fd_l_law_pick rfl]
  cases sq
  · simp [F_l_law_pick, B_l_law_pick, e, ha]
    exact fin_rt (M := St0 g' cs r' t') _ _
  · simp [F_l_law_pick, B_l_law_pick, e, ha]
    exact fin_rt (M := St0 g' cs r' t') _ _
theorem t_some_number (w : Nat) (hw : w ≤ 1000) (g cs : List Int) (r t : Int) (ht : 0 ≤ t) (ht2 : t < 2 ^ 28) {k : Nat} (hk : 4 ≤ k) :
    ∃ (x : Rat) (g' : List Int) (r' t' : Int), callF T k 29 [.loc 1, .int w] (St0 g cs r t) = .ok (numD x) (St0 g' cs r' t') ∧ Fr 6 (6 * w) x ∧ 0 ≤ t' ∧ t' ≤ t + 2 := by
  obtain ⟨j, rfl⟩ := Nat.exists_eq_add_of_le' hk
  obtain ⟨v, g1, r1, t1, e1, h0, h1, h2, h3⟩ := t_draw g cs r t (2 * w + 1) ht (by omega) (by omega) (by omega) (k := j + 3) (by omega)
  obtain ⟨d, g2, r2, t2, e2, dm, h4, h5⟩ := t_pick [.int 1, .int 1, .int 1, .int 1, .int 2, .int 3] (by decide) (by decide) false g1 cs r1 t1 h2 (by omega) (k := j + 3) (by omega)
  simp only [Bool.false_eq_true, if_false] at e2
  obtain ⟨q, rfl, q0, q1⟩ : ∃ q : Nat, d = .int (q : Int) ∧ 0 < q ∧ (q = 1 ∨ q = 2 ∨ q = 3) := by
    simp only [List.mem_cons, List.not_mem_nil, or_false] at dm
    rcases dm with h | h | h | h | h | h
    · exact ⟨1, h, by decide, by simp⟩
    · exact ⟨1, h, by decide, by simp⟩
    · exact ⟨1, h, by decide, by simp⟩
    · exact ⟨1, h, by decide, by simp⟩
    · exact ⟨2, h, by decide, by simp⟩
    · exact ⟨3, h, by decide, by simp⟩
  have e3 := t_no (v - w) q (by omega) (s := 2) (by omega) (by decide) (k := j + 3) (by omega) (St0 g2 cs r2 t2)
  refine ⟨Rat.normalize (v - w) q (by omega), g2, r2, t2, ?_, ?_, h4, by omega⟩
  · have f : binop .mul (.int 2) (.int (w : Int)) = some (.int (2 * w)) := b_mulL (by decide) (by decide)
    rw [call_def fd_l_law_some_number rfl]
    simp [F_l_law_some_number, B_l_law_some_number, f, e1, e2, e3, sizeLine_eq]
    exact fin_rt (M := St0 g2 cs r2 t2) _ _
  · have hq : (q : Rat) ≠ 0 := by
      intro z
      have : q = 0 := by exact_mod_cast z
      omega
    refine ⟨(v - w) * ((6 / q : Nat) : Int), ?_, ?_⟩
    · rw [Rat.normalize_eq_mkRat, Rat.mkRat_eq_div, Rat.intCast_mul]
      rcases q1 with rfl | rfl | rfl
      · show ((v - w : Int) : Rat) / ((1 : Nat) : Rat) * ((6 : Nat) : Rat) = ((v - w : Int) : Rat) * (((6 : Nat) : Int) : Rat)
        have : ((1 : Nat) : Rat) = 1 := rfl
        have h6 : (((6 : Nat) : Int) : Rat) = ((6 : Nat) : Rat) := rfl
        rw [this, h6]
        grind
      · show ((v - w : Int) : Rat) / ((2 : Nat) : Rat) * ((6 : Nat) : Rat) = ((v - w : Int) : Rat) * (((3 : Nat) : Int) : Rat)
        have h2 : ((2 : Nat) : Rat) = 2 := rfl
        have h6 : ((6 : Nat) : Rat) = 6 := rfl
        have h3 : (((3 : Nat) : Int) : Rat) = 3 := rfl
        rw [h2, h6, h3]
        grind
      · show ((v - w : Int) : Rat) / ((3 : Nat) : Rat) * ((6 : Nat) : Rat) = ((v - w : Int) : Rat) * (((2 : Nat) : Int) : Rat)
        have h2 : ((3 : Nat) : Rat) = 3 := rfl
        have h6 : ((6 : Nat) : Rat) = 6 := rfl
        have h3 : (((2 : Nat) : Int) : Rat) = 2 := rfl
        rw [h2, h6, h3]
        grind
    · rw [Int.natAbs_mul, Int.natAbs_natCast]
      have a1 : (v - w).natAbs ≤ w := by omega
      have a2 : 6 / q ≤ 6 := Nat.div_le_self 6 q
      calc (v - w).natAbs * (6 / q) ≤ w * 6 := Nat.mul_le_mul a1 a2
        _ = 6 * w := Nat.mul_comm ..
theorem t_some_line (n : Nat) (hn : n ≤ 4) (g cs : List Int) (r t : Int) (ht : 0 ≤ t) (ht2 : t < 2 ^ 19) {k : Nat} (hk : 5 ≤ k) :
    ∃ (f : List Int → Rat) (g' : List Int) (r' t' : Int), callF T k 34 [.loc 1, .int n] (St0 g cs r t) = .ok (.tup (lnD n f)) (St0 g' cs r' t') ∧ (∀ x ∈ pts n, Fr 6 18 (f x)) ∧ 0 ≤ t' ∧ t' ≤ t + 32 := by
  obtain ⟨j, rfl⟩ := Nat.exists_eq_add_of_le' hk
  have hp := t_points n hn (k := j + 4) (by omega) (St0 g cs r t)
  have h16 := p_le hn
  have hlen : ((pts n).map pD).length = 2 ^ n := by rw [List.length_map, pts_len]
  obtain ⟨xs, g', r', t', e, l, z, h3, h4⟩ := comp_draw (cl := callF T (j + 4)) (c := 2) (cs := cs) (i := 2) (w := ⟨(pts n).map pD, []⟩) (ρ := [some (.loc 1), some (.int n), none]) (e := ev T (callF T (j + 4)) (.call 29 0 (.cons (.var 0) (.cons (.lit (.int 3)) .nil)) .nil)) numD (Fr 6 18) (fun _ => same_nil) ((pts n).map pD) (fun d hd g r t h0 h1 => by
    obtain ⟨x, g1, r1, t1, e1, z1, h3, h4⟩ := t_some_number 3 (by decide) g cs r t h0 (by omega) (k := j + 4) (by omega)
    refine ⟨x, g1, r1, t1, ?_, z1, h3, h4⟩
    have e1 : callF T (j + 4) 29 [.loc 1, .int 3] (St0 g cs r t) = .ok (numD x) (St0 g1 cs r1 t1) := e1
    simp only [List.set_cons_succ, List.set_cons_zero, e29_0, evs_cons, evs_nil, ev_var, List.getElem?_cons_zero, Option.join_some, oR_some, Res.bd_ok, ev_lit, clN2, e1]) g r t ht (by rw [hlen]; omega)
  rw [hlen] at l h4
  obtain ⟨f, rfl⟩ := line_fn 0 (pts n) xs (pts_nodup n) (by rw [l, pts_len])
  refine ⟨f, g', r', t', ?_, fun x hx => z _ (List.mem_map_of_mem hx), h3, by omega⟩
  have hL : (((pts n).map f).map numD).length ≤ sizeLine := by rw [sizeLine_eq, List.length_map, l]; omega
  rw [call_def fd_l_law_some_line rfl]
  simp only [F_l_law_some_line, B_l_law_some_line, List.map_cons, List.map_nil, List.replicate, List.cons_append, List.nil_append, xss_cons, xs_ret, ev_bltF, evs_cons, evs_nil, ev_compF, evi_seq, e30_0, ev_var, List.getElem?_cons_succ, List.getElem?_cons_zero, Option.join_some, oR_some, Res.bd_ok, clN1, hp, seqR_l, wipeE, List.set_cons_succ, List.set_cons_zero, e, okIw_pos hL, t_tupL, sR_bd, sq_rt]
  exact fin_rt (M := St0 g' cs r' t') _ _
end Sw
end

section
set_option Elab.async false
set_option linter.all false
set_option maxHeartbeats 1000000
/-! the law's begun, wide, sign, spread -/
namespace Sw
open PySem L2 Iv Wal
theorem t_wide (n : Nat) (hn : n ≤ 4) {k : Nat} (hk : 2 ≤ k) (M : Sto) : callF T k 31 [.int n] M = .ok (.int ((2 ^ n : Nat) : Int)) M := by
  obtain ⟨j, rfl⟩ := Nat.exists_eq_add_of_le' hk
  have hp := t_points n hn (k := j + 1) (by omega) M
  rw [call_def fd_l_law_wide rfl]
  simp [F_l_law_wide, B_l_law_wide, hp, pts_len]
theorem intsOf_ints : ∀ is : List Int, intsOf (is.map .int) = some is
  | [] => rfl
  | i :: is => by
    show (intsOf (is.map .int)).map (i :: ·) = _
    rw [intsOf_ints is]; rfl
theorem comp32 {cl : Nat → List D → Mo D} {M : Sto} (ρ : Iv.Env) (h : ρ.length = 4) (w : Wk) (hw : ∀ N, w.same N) : ∀ p q : List Int, (∀ b ∈ q, b = 0 ∨ b = 1) →
    compL w (.tp (.cons (.nm 2) (.cons (.nm 3) .nil))) (evc T cl .non) (ev T cl (.bin .mul (.var 2) (.var 3))) ρ (((p.map D.int).zip (q.map D.int)).map fun p => .tup [p.1, p.2]) M = .ok ((dot p q).map .int) M
  | [], _, _ => rfl
  | _ :: _, [], _ => rfl
  | a :: p, b :: q, hq => by
    refine compL_consw (ρ1 := (ρ.set 2 (some (.int a))).set 3 (some (.int b))) (M1 := M) (M2 := M) rfl rfl ?_ (hw M) (comp32 ρ h w hw p q fun x hx => hq x (.tail _ hx))
    have g1 : ((ρ.set 2 (some (D.int a))).set 3 (some (.int b)))[2]? = some (some (.int a)) := by
      rw [List.getElem?_set_ne (by decide), List.getElem?_set_self (by omega)]
    have g2 : ((ρ.set 2 (some (D.int a))).set 3 (some (.int b)))[3]? = some (some (.int b)) := by
      rw [List.getElem?_set_self (by simp; omega)]
    have hb := hq b (.head _)
    have f : binop .mul (.int a) (.int b) = some (.int (a * b)) := b_mulR (by omega) (by omega)
    simp only [ev_bin, ev_var, g1, g2, Option.join_some, oR_some, Res.bd_ok, f]
theorem dot_len : ∀ p q : List Int, (dot p q).length ≤ p.length
  | [], _ => by simp [dot]
  | _ :: _, [] => by simp [dot]
  | a :: p, b :: q => by
    have := dot_len p q
    simp only [dot, List.length_cons]
    omega
theorem t_sign (p q : List Int) (hp : p.length ≤ 10) (hq : ∀ b ∈ q, b = 0 ∨ b = 1) {k : Nat} (hk : 1 ≤ k) (M : Sto) : callF T k 32 [pD p, pD q] M = .ok (.int (sgn p q)) M := by
  obtain ⟨j, rfl⟩ := Nat.exists_eq_add_of_le' hk
  have hz : zipR (pD p) (pD q) M = .ok ⟨((p.map D.int).zip (q.map D.int)).map fun p => .tup [p.1, p.2], []⟩ M := zipR_ok rfl rfl rfl rfl
  have hc := comp32 (cl := callF T j) (M := M) [some (pD p), some (pD q), none, none] rfl ⟨((p.map D.int).zip (q.map D.int)).map fun p => .tup [p.1, p.2], []⟩ (fun _ => same_nil) p q hq
  have hl : ((dot p q).map D.int).length ≤ sizeLine := by
    have := dot_len p q
    rw [sizeLine_eq, List.length_map]; omega
  have hs : blt M .sum [.lst ((dot p q).map .int)] = some (.int (dot p q).sum) := by
    show (intsOf ((dot p q).map .int)).map (fun is => D.int is.sum) = _
    rw [intsOf_ints]; rfl
  have f1 : binop .mod (.int (dot p q).sum) (.int 2) = some (.int ((dot p q).sum % 2)) := b_mod (by decide)
  have f2 : binop .mul (.int 2) (.int ((dot p q).sum % 2)) = some (.int (2 * ((dot p q).sum % 2))) := b_mulL (by decide) (by decide)
  rw [call_def fd_l_law_sign rfl]
  simp only [F_l_law_sign, B_l_law_sign, List.map_cons, List.map_nil, List.replicate, List.cons_append, List.nil_append, xss_cons, xs_ret, ev_bin, ev_lit, ev_bltF, evs_cons, evs_nil, ev_compF, evi_zip, ev_var, List.getElem?_cons_succ, List.getElem?_cons_zero, Option.join_some, oR_some, Res.bd_ok, hz, wipeE, List.set_cons_succ, List.set_cons_zero, hc, okIw_pos hl, hs, t_int, f1, f2, b_sub, sR_bd, sq_rt, fin_rt]
  rfl
theorem comp_allT {α : Type} {cl : Nat → List D → Mo D} {e : Iv.Env → Mo D} {ρ : Iv.Env} {M : Sto} {w : Wk} {t : Tg} (emb : α → D) (b : α → Iv.Env) (f : α → D) (hw : ∀ N, w.same N) : ∀ as : List α, (∀ a ∈ as, bindT t (emb a) ρ = some (b a)) → (∀ a ∈ as, e (b a) M = .ok (f a) M) →
    compL w t (evc T cl .non) e ρ (as.map emb) M = .ok (as.map f) M
  | [], _, _ => rfl
  | a :: as, h1, h2 => compL_consw (h1 a (.head _)) rfl (h2 a (.head _)) (hw M) (comp_allT emb b f hw as (fun b hb => h1 b (.tail _ hb)) fun b hb => h2 b (.tail _ hb))
theorem zip_map {α β γ : Type} (f : α → β) (g : α → γ) : ∀ l : List α, (l.map f).zip (l.map g) = l.map fun x => (f x, g x)
  | [] => rfl
  | a :: l => by simp [zip_map f g l]
theorem chi_D (p q : List Int) : D.tup [.int (sgn p q), .int 1] = numD (chi p q) := rfl
theorem chi_sz (p q : List Int) : Sz 1 (chi p q) := by
  rcases chi_one p q with h | h <;> rw [h] <;> exact ⟨by decide, by decide⟩
theorem pt_len {m : Nat} {p : List Int} (h : p ∈ pts m) : p.length = m := (pts_mem m p h).1
theorem pt_bit {m : Nat} {p : List Int} (h : p ∈ pts m) : ∀ b ∈ p, b = 0 ∨ b = 1 := (pts_mem m p h).2
theorem few2 (a b : D) : [a, b].length ≤ sizeLine := by rw [sizeLine_eq]; exact (by decide : 2 ≤ 16777216)
theorem few3 (a b c : D) : [a, b, c].length ≤ sizeLine := by rw [sizeLine_eq]; exact (by decide : 3 ≤ 16777216)
theorem few1 (a : D) : [a].length ≤ sizeLine := by rw [sizeLine_eq]; exact (by decide : 1 ≤ 16777216)
theorem few0 : ([] : List D).length ≤ sizeLine := by rw [sizeLine_eq]; decide
theorem fewL {m : Nat} (hm : m ≤ 4) {α : Type} (g : List Int → α) : ((pts m).map g).length ≤ sizeLine := by
  have := p_le hm
  rw [List.length_map, pts_len, sizeLine_eq]; omega
theorem lnD_eq (m : Nat) (f : List Int → Rat) : lnD m f = (pts m).map fun x => numD (f x) := by
  unfold lnD
  rw [List.map_map]
  rfl
theorem zip_pts (m : Nat) (f : List Int → Rat) : ((((pts m).map pD).zip (lnD m f)).map fun p => D.tup [p.1, p.2]) = (pts m).map fun x => .tup [pD x, numD (f x)] := by
  unfold lnD
  rw [List.map_map, zip_map, List.map_map]
  rfl
theorem t_lspread {d n : Nat} (m : Nat) (hm : m ≤ 4) (f : List Int → Rat) (hf : ∀ x ∈ pts m, Fr d n (f x)) (hd : 0 < d) (h2 : d < 2 ^ 2000) (h1 : 17 * n < 2 ^ 2000) {k : Nat} (hk : 6 ≤ k) (M : Sto) :
    callF T k 33 [.int m, .tup (lnD m f)] M = .ok (.lst (lnD m (W m f))) M := by
  obtain ⟨j, rfl⟩ := Nat.exists_eq_add_of_le' hk
  have h3 : (2 : Nat) ^ 2000 < 2 ^ 3000 := Nat.pow_lt_pow_right (by decide) (by decide)
  have hp := t_points m hm (k := j + 5) (by omega) M
  have p16 := p_le hm
  have hz' : zipR (.lst ((pts m).map pD)) (.tup (lnD m f)) M = .ok ⟨(pts m).map fun x => .tup [pD x, numD (f x)], []⟩ M := by
    rw [← zip_pts]
    exact zipR_ok rfl rfl rfl rfl
  have fs : ∀ x ∈ pts m, Sz 3000 (f x) := fun x hx => (hf x hx).sz hd (by omega) (by omega)
  let ρ0 : List Int → Iv.Env := fun s => [some (.int m), some (.tup (lnD m f)), some (.lst ((pts m).map pD)), some (pD s), none, none]
  have inn : ∀ s ∈ pts m, compL ⟨(pts m).map fun x => .tup [pD x, numD (f x)], []⟩ (.tp (.cons (.nm 4) (.cons (.nm 5) .nil))) (evc T (callF T (j + 5)) .non) (ev T (callF T (j + 5)) (.call 27 0 (.cons (.tup (.cons (.call 32 0 (.cons (.var 3) (.cons (.var 4) .nil)) .nil) (.cons (.lit (.int 1)) .nil))) (.cons (.var 5) .nil)) .nil)) (ρ0 s) ((pts m).map fun x => .tup [pD x, numD (f x)]) M = .ok ((pts m).map fun x => numD (chi s x * f x)) M := fun s hs => by
    refine comp_allT (fun x => .tup [pD x, numD (f x)]) (fun x => ((ρ0 s).set 4 (some (pD x))).set 5 (some (numD (f x)))) (fun x => numD (chi s x * f x)) (fun _ => same_nil) (pts m) (fun x _ => rfl) fun x hx => ?_
    have c1 := t_sign s x (by rw [pt_len hs]; omega) (pt_bit hx) (k := j + 5) (by omega) M
    have c2 := l_times (chi_sz s x) (fs x hx) (by decide) (k := j + 5) (by omega) M
    rw [← chi_D] at c2
    simp only [ρ0, List.set_cons_succ, List.set_cons_zero, e27_0, evs_cons, evs_nil, ev_tup, e32_0, ev_var, List.getElem?_cons_succ, List.getElem?_cons_zero, Option.join_some, oR_some, Res.bd_ok, clN2, c1, ev_lit, okIw_pos (few2 _ _), c2]
  have tot : ∀ s ∈ pts m, callF T (j + 5) 28 [.lst ((pts m).map fun x => numD (chi s x * f x))] M = .ok (numD (W m f s)) M := fun s hs => by
    have c := l_totalF (d := d) (n := n) ((pts m).map fun x => chi s x * f x) (fun y hy => by
      obtain ⟨x, hx, rfl⟩ := List.mem_map.mp hy
      exact (hf x hx).chi s x) hd (by omega) (Nat.lt_of_le_of_lt (Nat.mul_le_mul_right n (by rw [List.length_map, pts_len]; omega : _ ≤ 17)) (by omega)) (k := j + 5) (by omega) M
    rw [List.map_map] at c
    exact c
  have hC : compL ⟨(pts m).map pD, []⟩ (.nm 3) (evc T (callF T (j + 5)) .non) (ev T (callF T (j + 5)) (.call 28 0 (.cons (.comp false [4, 5] (.tp (.cons (.nm 4) (.cons (.nm 5) .nil))) (.zip (.var 2) (.var 1)) .non (.call 27 0 (.cons (.tup (.cons (.call 32 0 (.cons (.var 3) (.cons (.var 4) .nil)) .nil) (.cons (.lit (.int 1)) .nil))) (.cons (.var 5) .nil)) .nil)) .nil) .nil)) [some (.int m), some (.tup (lnD m f)), some (.lst ((pts m).map pD)), none, none, none] ((pts m).map pD) M = .ok (lnD m (W m f)) M := by
    rw [lnD_eq m (W m f)]
    refine comp_all pD (fun s => numD (W m f s)) (fun _ => same_nil) (pts m) fun s hs => ?_
    have i1 := inn s hs
    have i2 := tot s hs
    simp only [ρ0] at i1
    simp only [List.set_cons_succ, List.set_cons_zero, e28_0, evs_cons, evs_nil, ev_compF, evi_zip, ev_var, List.getElem?_cons_succ, List.getElem?_cons_zero, Option.join_some, oR_some, Res.bd_ok, hz', wipeE, i1, okIw_pos (fewL hm _), clN1, i2]
  rw [call_def fd_l_law_spread rfl]
  simp only [F_l_law_spread, B_l_law_spread, List.map_cons, List.map_nil, List.replicate, List.cons_append, List.nil_append, xss_cons, xs_asg, e30_0, evs_cons, evs_nil, ev_var, List.getElem?_cons_succ, List.getElem?_cons_zero, Option.join_some, oR_some, Res.bd_ok, clN1, hp, sR_bd, bindR_nm, sq_nx, List.set_cons_succ, List.set_cons_zero, xs_ret, ev_compF, evi_seq, seqR_l, wipeE, hC]
  rw [okIw_pos (by unfold lnD; rw [List.length_map]; exact fewL hm _)]
  simp only [sR_bd, sq_rt, fin_rt]
end Sw
end

section
set_option Elab.async false
set_option linter.all false
set_option maxHeartbeats 1000000
/-! numbers compared, divided; lists compared -/
namespace Sw
open PySem L2 Iv Wal
theorem b_fdivN {i j : Int} (h : j < 0) (h2 : j.natAbs < 1073741824) : binop .fdiv (.int i) (.int j) = some (.int (i.fdiv j)) := by
  show (if 0 < j ∧ (j.natAbs.log2 < 9000 ∨ j < 1073741824) then some (D.int (i / j)) else if j ≠ 0 ∧ (j.natAbs.log2 < 9000 ∨ j.natAbs < 1073741824) then some (.int (i.fdiv j)) else none) = _
  rw [if_neg (by omega), if_pos ⟨by omega, .inr h2⟩]
theorem cast_ne {l : Int} (h : l ≠ 0) : (l : Rat) ≠ 0 := by
  intro z
  have : l = 0 := by exact_mod_cast z
  exact h this
theorem t_numberZ (u l : Int) (h : l ≠ 0) (hg : Int.gcd u l < 1073741824) {s : Nat} (hb : l.natAbs < 2 ^ s) (hs : s ≤ 8000) (k : Nat) (M : Sto) : callF T (k + 1) 3 [.int u, .int l] M = .ok (numD ((u : Rat) / (l : Rat))) M := by
  by_cases c : 0 < l
  · obtain ⟨n, rfl⟩ := Int.eq_ofNat_of_zero_le (Int.le_of_lt c)
    have hn : n ≠ 0 := by omega
    have e := t_number u n hn (s := s) (by simpa using hb) hs k M
    rw [Rat.normalize_eq_mkRat, Rat.mkRat_eq_div] at e
    exact e
  · have hl : l < 0 := by omega
    obtain ⟨n, rfl⟩ : ∃ n : Nat, l = -(n : Int) := ⟨l.natAbs, by omega⟩
    have hn : 0 < n := by omega
    have gp : 0 < u.natAbs.gcd n := Nat.gcd_pos_of_pos_right _ hn
    have hg' : u.natAbs.gcd n < 1073741824 := by
      have : Int.gcd u (-(n : Int)) = u.natAbs.gcd n := by
        unfold Int.gcd
        rw [Int.natAbs_neg, Int.natAbs_natCast]
      rw [← this]; exact hg
    have ev : (u : Rat) / ((-(n : Int) : Int) : Rat) = Rat.normalize (-u) n (by omega) := by
      rw [Rat.normalize_eq_mkRat, Rat.mkRat_eq_div, Rat.intCast_neg, Rat.intCast_neg, Rat.intCast_natCast]
      grind
    rw [ev, norm_D, Int.natAbs_neg]
    have gd : ((Nat.gcd u.natAbs (-(n : Int)).natAbs : Nat) : Int) = ((u.natAbs.gcd n : Nat) : Int) := by rw [Int.natAbs_neg, Int.natAbs_natCast]
    have g1 : blt M .gcd [.int u, .int (-(n : Int))] = some (.int ((u.natAbs.gcd n : Nat) : Int)) := by rw [t_gcd, gd]
    generalize hG : u.natAbs.gcd n = G at *
    have d1 : (G : Int) ∣ u := by rw [← hG]; exact Int.ofNat_dvd_left.mpr (Nat.gcd_dvd_left _ _)
    have d2 : (G : Int) ∣ (n : Int) := by rw [← hG]; exact Int.ofNat_dvd.mpr (Nat.gcd_dvd_right _ _)
    have f1 : binop .fdiv (.int u) (.int (0 - (G : Int))) = some (.int (-u / (G : Int))) := by
      rw [b_fdivN (by omega) (by omega)]
      obtain ⟨q, rfl⟩ := d1
      have hG0 : (G : Int) ≠ 0 := by omega
      congr 2
      rw [show (0 : Int) - (G : Int) = -(G : Int) from by omega, show -((G : Int) * q) = (G : Int) * (-q) from by rw [Int.mul_neg], Int.mul_ediv_cancel_left _ hG0]
      rw [show (G : Int) * q = (-(G : Int)) * (-q) from by rw [Int.neg_mul_neg], Int.mul_fdiv_cancel_left _ (by omega)]
    have f2 : binop .fdiv (.int (-(n : Int))) (.int (0 - (G : Int))) = some (.int ((n : Int) / (G : Int))) := by
      rw [b_fdivN (by omega) (by omega)]
      obtain ⟨q, hq⟩ := d2
      have hG0 : (G : Int) ≠ 0 := by omega
      congr 2
      rw [hq, show (0 : Int) - (G : Int) = -(G : Int) from by omega, Int.mul_ediv_cancel_left _ hG0, show -((G : Int) * q) = (-(G : Int)) * q from by rw [Int.neg_mul], Int.mul_fdiv_cancel_left _ (by omega)]
    have nl : decide ((0 : Int) < -(n : Int)) = false := decide_eq_false (by omega)
    rw [call_def fd_numbers1_number rfl]
    simp only [F_numbers1_number, B_numbers1_number, List.map_cons, List.map_nil, List.replicate, List.cons_append, List.nil_append, xss_cons, xs_asg, ev_ite, evt_cmp, ev_var, List.getElem?_cons_succ, List.getElem?_cons_zero, Option.join_some, oR_some, Res.bd_ok, ev_lit, c_gt, nl, Bool.false_eq_true, if_false, ev_bin, ev_bltF, evs_cons, evs_nil, g1, b_sub, sR_bd, bindR_nm, sq_nx, List.set_cons_succ, List.set_cons_zero, xs_ret, ev_tup, f1, f2, okIw_pos (few2 _ _), sq_rt, fin_rt]
theorem num_den (x : Rat) : (x.num : Rat) / (x.den : Rat) = x := by
  rw [← Rat.mkRat_eq_div, Rat.mkRat_self]
theorem div_eq (x y : Rat) (hy : y ≠ 0) : x / y = ((x.num * (y.den : Int) : Int) : Rat) / (((x.den : Int) * y.num : Int) : Rat) := by
  have hx := num_den x
  have hy' := num_den y
  have dx : (x.den : Rat) ≠ 0 := by
    intro z
    have : x.den = 0 := by exact_mod_cast z
    exact x.den_nz this
  have dy : (y.den : Rat) ≠ 0 := by
    intro z
    have : y.den = 0 := by exact_mod_cast z
    exact y.den_nz this
  have ny : (y.num : Rat) ≠ 0 := by
    intro z
    apply hy
    rw [← hy', z]
    grind
  rw [Rat.intCast_mul, Rat.intCast_mul, Rat.intCast_natCast, Rat.intCast_natCast]
  conv => lhs; rw [← hx, ← hy']
  generalize (x.num : Rat) = a at *
  generalize (x.den : Rat) = b at *
  generalize (y.num : Rat) = c at *
  generalize (y.den : Rat) = d at *
  rw [Rat.div_def, Rat.div_def, Rat.div_def, Rat.div_def]
  grind
/-! comparing -/
theorem eqv_num (x y : Rat) : PyData.eqv (numD x).py (numD y).py = decide (x = y) := by
  unfold numD
  simp only [D.py, pys, PyData.eqv, PyData.eqvAll, Bool.and_true]
  rw [Bool.eq_iff_iff]
  simp only [Bool.and_eq_true, beq_iff_eq, decide_eq_true_eq]
  constructor
  · intro ⟨h1, h2⟩
    exact Rat.ext h1 (by exact_mod_cast h2)
  · intro h
    subst h
    exact ⟨rfl, rfl⟩
theorem num_okE (x : Rat) : (numD x).okE = true := by
  obtain ⟨s, h⟩ := some_bound [x.num, (x.den : Int)]
  refine gd_okE (s := s) (j := 1) ?_ (by decide)
  unfold numD
  simp only [D.gd, gds, and_true]
  exact ⟨h _ (by simp), h _ (by simp)⟩
@[simp] theorem get_num {M : Sto} {x : Rat} : (numD x).get M = numD x := (rfl)
theorem c_eqN {M : Sto} {x y : Rat} : cmpop M .eq (numD x) (numD y) = some (decide (x = y)) := by
  rw [c_eqD, get_num, get_num]
  unfold eqD
  rw [num_okE, num_okE, eqv_num]
  rfl
theorem c_neN {M : Sto} {x y : Rat} : cmpop M .ne (numD x) (numD y) = some (!decide (x = y)) := by
  rw [c_neD, get_num, get_num]
  unfold eqD
  rw [num_okE, num_okE, eqv_num]
  rfl
theorem nil_okE : (D.lst []).okE = true := ints_okE []
theorem eqv_nil (ds : List D) : PyData.eqv (D.lst ds).py (D.lst []).py = ds.isEmpty := by
  cases ds with
  | nil => simp [D.py, pys, PyData.eqv, PyData.eqvAll]
  | cons a b => simp [D.py, pys, PyData.eqv, PyData.eqvAll]
theorem c_eqNil {M : Sto} {ds : List D} (h : (D.lst ds).okE = true) : cmpop M .eq (.lst ds) (.lst []) = some ds.isEmpty := by
  rw [c_eqD, get_lst, get_lst]
  unfold eqD
  rw [h, nil_okE, eqv_nil]
  rfl
theorem c_neNil {M : Sto} {ds : List D} (h : (D.lst ds).okE = true) : cmpop M .ne (.lst ds) (.lst []) = some (!ds.isEmpty) := by
  rw [c_neD, get_lst, get_lst]
  unfold eqD
  rw [h, nil_okE, eqv_nil]
  rfl
theorem pD_gd {l : List Int} (h : ∀ b ∈ l, b = 0 ∨ b = 1) (j : Nat) : (pD l).gd 1 (j + 1) := by
  unfold pD
  simp only [D.gd]
  rw [gds_iff]
  intro d hd
  obtain ⟨b, hb, rfl⟩ := List.mem_map.mp hd
  simp only [D.gd]
  rcases h b hb with rfl | rfl <;> decide
theorem pl_okE {l : List (List Int)} (h : ∀ p ∈ l, ∀ b ∈ p, b = 0 ∨ b = 1) : (D.lst (l.map pD)).okE = true := by
  refine gd_okE (s := 1) (j := 2) ?_ (by decide)
  simp only [D.gd]
  rw [gds_iff]
  intro d hd
  obtain ⟨p, hp, rfl⟩ := List.mem_map.mp hd
  exact pD_gd (h p hp) 0
theorem c_self {M : Sto} {s j : Nat} {d : D} (h : d.gd s j) (hj : j ≤ 64) : cmpop M .eq d d = some true := by
  rw [c_eqD, gd_get h]
  exact eqD_self h hj
theorem n_self {M : Sto} {s j : Nat} {d : D} (h : d.gd s j) (hj : j ≤ 64) : cmpop M .ne d d = some false := by
  rw [c_neD, gd_get h, eqD_self h hj]
  rfl
theorem str_gd (x : String) (h : PyData.strOk (reprText (Str.ofString x)) = true) (s j : Nat) : (D.str (Str.ofString x)).gd s j := by
  cases j <;> exact ⟨sok_of x, h⟩
end Sw
end

section
set_option Elab.async false
set_option linter.all false
set_option maxHeartbeats 4000000
/-! what tables need -/
namespace Sw
open PySem L2 Iv Wal
theorem atI_c0 (a : D) (l : List D) : atI (a :: l) 0 = some a := atI_nat (xs := a :: l) (j := 0) rfl
theorem lnD_congr {m : Nat} {f g : List Int → Rat} (h : ∀ x ∈ pts m, f x = g x) : lnD m f = lnD m g := by
  rw [lnD_eq, lnD_eq]
  exact List.map_congr_left fun x hx => by rw [h x hx]
theorem rep_flat (d : D) : ∀ n, (List.replicate n [d]).flatten = List.replicate n d
  | 0 => rfl
  | n + 1 => by rw [List.replicate_succ, List.flatten_cons, rep_flat d n]; rfl
theorem b_mulLst {ds : List D} {k : Nat} (h : ds.length * k ≤ sizeLine) (hk : k < 2 ^ 62) : binop .mul (.lst ds) (.int (k : Int)) = some (.lst (List.replicate k ds).flatten) := by
  simp only [binop]
  rw [if_pos ⟨by omega, by omega, by rw [Int.toNat_natCast]; exact h⟩, Int.toNat_natCast]
theorem zip_ln (m : Nat) (f g : List Int → Rat) : (((lnD m f).zip (lnD m g)).map fun p => D.tup [p.1, p.2]) = (pts m).map fun x => .tup [numD (f x), numD (g x)] := by
  rw [lnD_eq, lnD_eq, zip_map, List.map_map]
  rfl
def tabF (m : Nat) (f : List Int → Rat) : D := .tup [.str "table", .tup (lnD m f)]
theorem tabF_D (m : Nat) (f : List Int → Rat) : tabF m f = tabD ((pts m).map f) := rfl
theorem appL {M : Sto} {ds : List D} {x : D} (h : ds.length < sizeLine) : mth .append (.loc M.length) [x] (M ++ [.lst ds]) = .ok .non (M ++ [.lst (ds ++ [x])]) := by
  show onS (.loc M.length) (fun ds => if ds.length < sizeLine then some (D.non, ds ++ [x]) else none) (M ++ [.lst ds]) = _
  unfold onS
  have e : (M ++ [Ob.lst ds])[M.length]? = some (.lst ds) := by simp
  simp only [e, if_pos h]
  congr 1
  simp
theorem recL {M : Sto} {ds : List D} : recv (M ++ [.lst ds]) .append (.loc M.length) = true := by
  have e : (M ++ [Ob.lst ds])[M.length]? = some (.lst ds) := by simp
  show (lstOf (M ++ [.lst ds]) (.loc M.length)).isSome = true
  unfold lstOf
  simp only [e]
  rfl
theorem tupL {M : Sto} {ds : List D} : blt (M ++ [.lst ds]) .tuple [.loc M.length] = some (.tup ds) := by
  have e : (M ++ [Ob.lst ds])[M.length]? = some (.lst ds) := by simp
  show (seqOf (M ++ [.lst ds]) (.loc M.length)).map D.tup = _
  show (match (M ++ [Ob.lst ds])[M.length]? with
    | some (.lst ds) => some ds
    | _ => none).map D.tup = _
  rw [e]
  rfl
theorem sum_ints {M : Sto} (is : List Int) : blt M .sum [.lst (is.map .int)] = some (.int is.sum) := by
  show (intsOf (is.map .int)).map (fun is => D.int is.sum) = _
  rw [intsOf_ints]; rfl
theorem comp_dot {cl : Nat → List D → Mo D} {M : Sto} {a b : Nat} (hab : a ≠ b) (ρ : Iv.Env) (ha : a < ρ.length) (hb' : b < ρ.length) (w : Wk) (hw : ∀ N, w.same N) : ∀ p q : List Int, (∀ b ∈ q, b = 0 ∨ b = 1) →
    compL w (.tp (.cons (.nm a) (.cons (.nm b) .nil))) (evc T cl .non) (ev T cl (.bin .mul (.var a) (.var b))) ρ (((p.map D.int).zip (q.map D.int)).map fun p => .tup [p.1, p.2]) M = .ok ((dot p q).map .int) M
  | [], _, _ => rfl
  | _ :: _, [], _ => rfl
  | x :: p, y :: q, hq => by
    refine compL_consw (ρ1 := (ρ.set a (some (.int x))).set b (some (.int y))) (M1 := M) (M2 := M) rfl rfl ?_ (hw M) (comp_dot hab ρ ha hb' w hw p q fun x hx => hq x (.tail _ hx))
    have g1 : ((ρ.set a (some (D.int x))).set b (some (.int y)))[a]? = some (some (.int x)) := by
      rw [List.getElem?_set_ne (Ne.symm hab), List.getElem?_set_self ha]
    have g2 : ((ρ.set a (some (D.int x))).set b (some (.int y)))[b]? = some (some (.int y)) := by
      rw [List.getElem?_set_self (by simpa using hb')]
    have hb := hq y (.head _)
    have f : binop .mul (.int x) (.int y) = some (.int (x * y)) := b_mulR (by omega) (by omega)
    simp only [ev_bin, ev_var, g1, g2, Option.join_some, oR_some, Res.bd_ok, f]
theorem t_lenTab {M : Sto} {m : Nat} {f : List Int → Rat} : blt M .len [.tup (lnD m f)] = some (.int ((2 ^ m : Nat) : Int)) := by
  show some (D.int ((lnD m f).length : Int)) = _
  rw [lnD, List.length_map, ln_len]
theorem eqD_strs (x y : Str) (h : PyData.strOk x = true) (k : PyData.strOk y = true) : eqD (.str x) (.str y) = some (decide (x = y)) := by
  have a : ∀ x : Str, PyData.strOk x = true → (D.str x).okE = true := fun x h => by
    show (true && SeqAt.shaped (.str x)) = true
    unfold SeqAt.shaped
    simp [PyData.canLay0, PyData.depth, h]
  unfold eqD
  rw [a x h, a y k]
  show some (PyData.eqv (.str x) (.str y)) = _
  simp only [PyData.eqv]
  congr 1
theorem c_eqS {M : Sto} {x y : String} : cmpop M .eq (.str (Str.ofString x)) (.str (Str.ofString y)) = some (decide (Str.ofString x = Str.ofString y)) := by
  rw [c_eqD, get_str, get_str]
  exact eqD_strs _ _ (sok_of _) (sok_of _)
theorem c_neS {M : Sto} {x y : String} : cmpop M .ne (.str (Str.ofString x)) (.str (Str.ofString y)) = some (!decide (Str.ofString x = Str.ofString y)) := by
  rw [c_neD, get_str, get_str, eqD_strs _ _ (sok_of _) (sok_of _)]
  rfl
theorem atI_c1 (a b : D) (l : List D) : atI (a :: b :: l) 1 = some b := atI_nat (xs := a :: b :: l) (j := 1) rfl
end Sw
end

section
set_option Elab.async false
set_option linter.all false
set_option maxHeartbeats 2000000
/-! the law's folding, holed lines, zeros -/
namespace Sw
open PySem L2 Iv Wal
theorem tupsOf_pD : ∀ l : List (List Int), tupsOf (l.map pD) = some l
  | [] => rfl
  | p :: l => by
    have h1 : tupInts (pD p) = some p := intsOf_ints p
    show (match tupInts (pD p), tupsOf (l.map pD) with
      | some x, some y => some (x :: y)
      | _, _ => none) = _
    rw [h1, tupsOf_pD l]
theorem lookD_map (g : List Int → D) : ∀ (l : List (List Int)) (q : List Int), q ∈ l → lookD l (l.map g) q = some (g q)
  | p :: l, q, h => by
    show (if p = q then some (g p) else lookD l (l.map g) q) = _
    by_cases c : p = q
    · rw [if_pos c, c]
    · rw [if_neg c]
      rcases List.mem_cons.mp h with e | h
      · exact absurd e.symm c
      · exact lookD_map g l q h
theorem t_dict {m : Nat} (hm : m ≤ 4) (p : P2) (g : List Int → Rat) (sq : Bool) (M : Sto) : p2op p M (.lst ((pts m).map pD)) (if sq then .tup (lnD m g) else .lst (lnD m g)) = some (.dt (pts m) (lnD m g)) := by
  have e1 : seqOf M (.lst ((pts m).map pD)) = some ((pts m).map pD) := rfl
  have e2 : seqOf M (if sq then .tup (lnD m g) else .lst (lnD m g)) = some (lnD m g) := by cases sq <;> rfl
  have z : ((pts m).map pD).zip (lnD m g) = (pts m).map fun x => (pD x, numD (g x)) := by rw [lnD_eq, zip_map]
  have z1 : (((pts m).map fun x => (pD x, numD (g x))).map (·.1)) = (pts m).map pD := by rw [List.map_map]; rfl
  have z2 : (((pts m).map fun x => (pD x, numD (g x))).map (·.2)) = lnD m g := by rw [List.map_map, lnD_eq]; rfl
  unfold p2op
  rw [e1, e2]
  simp only [z, z1, z2, tupsOf_pD]
  have h16 := p_le hm
  show (if (pts m).Nodup ∧ (pts m).length ≤ sizeLine ∧ (pts m).length = (lnD m g).length then some (D.dt (pts m) (lnD m g)) else none) = _
  rw [if_pos ⟨pts_nodup m, by rw [pts_len, sizeLine_eq]; omega, by rw [lnD, List.length_map, List.length_map]⟩]
theorem idx_dt {m : Nat} (g : List Int → Rat) {q : List Int} (hq : q ∈ pts m) (M : Sto) : idx M (.dt (pts m) (lnD m g)) (pD q) = some (numD (g q)) := by
  show (intsOf (q.map D.int)).bind (lookD (pts m) (lnD m g)) = _
  rw [intsOf_ints, lnD_eq]
  exact lookD_map (fun x => numD (g x)) (pts m) q hq
theorem int_bl {M : Sto} {b : Bool} : blt M .int [.bl b] = some (.int (if b then 1 else 0)) := by cases b <;> rfl
theorem comp_xr {cl : Nat → List D → Mo D} {M : Sto} {a b : Nat} (hab : a ≠ b) (ρ : Iv.Env) (ha : a < ρ.length) (hb' : b < ρ.length) (w : Wk) (hw : ∀ N, w.same N) : ∀ p q : List Int,
    compL w (.tp (.cons (.nm a) (.cons (.nm b) .nil))) (evc T cl .non) (ev T cl (.blt false .int (.cons (.cmp .ne (.var a) (.var b)) .nil))) ρ (((p.map D.int).zip (q.map D.int)).map fun p => .tup [p.1, p.2]) M = .ok ((xr p q).map .int) M
  | [], _ => rfl
  | _ :: _, [] => rfl
  | x :: p, y :: q => by
    refine compL_consw (ρ1 := (ρ.set a (some (.int x))).set b (some (.int y))) (M1 := M) (M2 := M) rfl rfl ?_ (hw M) (comp_xr hab ρ ha hb' w hw p q)
    have g1 : ((ρ.set a (some (D.int x))).set b (some (.int y)))[a]? = some (some (.int x)) := by
      rw [List.getElem?_set_ne (Ne.symm hab), List.getElem?_set_self ha]
    have g2 : ((ρ.set a (some (D.int x))).set b (some (.int y)))[b]? = some (some (.int y)) := by
      rw [List.getElem?_set_self (by simpa using hb')]
    simp only [ev_bltF, evs_cons, evs_nil, ev_cmp, ev_var, g1, g2, Option.join_some, oR_some, Res.bd_ok, c_ne, Option.map_some, int_bl]
    by_cases c : x = y
    · simp [c]
    · simp [c]
theorem t_foldedG {d1 n1 d2 n2 m : Nat} (hm : m ≤ 4) (f g : List Int → Rat) (hf : ∀ x ∈ pts m, Fr d1 n1 (f x)) (hg : ∀ x ∈ pts m, Fr d2 n2 (g x)) (e1 : 0 < d1) (e2 : 0 < d2) (a1 : d1 < 2 ^ 3000) (a2 : d2 < 2 ^ 3000) (b1 : n1 < 2 ^ 3000) (b2 : n2 < 2 ^ 3000) (a3 : d1 * d2 < 2 ^ 3000) (b3 : 17 * (n1 * n2) < 2 ^ 3000)
    {og : D} {k : Nat} (hk : 6 ≤ k) (M : Sto) (hd : p2op .dlz M (.lst ((pts m).map pD)) og = some (.dt (pts m) (lnD m g))) : callF T k 48 [.int m, .tup (lnD m f), og] M = .ok (.lst (lnD m (fo m f g))) M := by
  obtain ⟨j, rfl⟩ := Nat.exists_eq_add_of_le' hk
  have hp := t_points m hm (k := j + 5) (by omega) M
  have p16 := p_le hm
  have zp : zipR (.lst ((pts m).map pD)) (.tup (lnD m f)) M = .ok ⟨(pts m).map fun x => .tup [pD x, numD (f x)], []⟩ M := by
    rw [← zip_pts]
    exact zipR_ok rfl rfl rfl rfl
  have sf : ∀ y ∈ pts m, Sz 3000 (f y) := fun y hy => (hf y hy).sz e1 b1 a1
  have sg : ∀ y ∈ pts m, Sz 3000 (g y) := fun y hy => (hg y hy).sz e2 b2 a2
  let ρ0 : List Int → Iv.Env := fun x => [some (.int m), some (.tup (lnD m f)), some og, some (.lst ((pts m).map pD)), some (.dt (pts m) (lnD m g)), some (pD x), none, none, none, none]
  have inn : ∀ x ∈ pts m, compL ⟨(pts m).map fun x => .tup [pD x, numD (f x)], []⟩ (.tp (.cons (.nm 6) (.cons (.nm 7) .nil))) (evc T (callF T (j + 5)) .non) (ev T (callF T (j + 5)) (.call 27 0 (.cons (.var 7) (.cons (.idx (.var 4) (.blt false .tuple (.cons (.comp false [8, 9] (.tp (.cons (.nm 8) (.cons (.nm 9) .nil))) (.zip (.var 5) (.var 6)) .non (.blt false .int (.cons (.cmp .ne (.var 8) (.var 9)) .nil))) .nil))) .nil)) .nil)) (ρ0 x) ((pts m).map fun x => .tup [pD x, numD (f x)]) M = .ok ((pts m).map fun y => numD (f y * g (xr x y))) M := fun x hx => by
    refine comp_allT (fun y => .tup [pD y, numD (f y)]) (fun y => ((ρ0 x).set 6 (some (pD y))).set 7 (some (numD (f y)))) (fun y => numD (f y * g (xr x y))) (fun _ => same_nil) (pts m) (fun y _ => rfl) fun y hy => ?_
    have zz : zipR (pD x) (pD y) M = .ok ⟨((x.map D.int).zip (y.map D.int)).map fun p => .tup [p.1, p.2], []⟩ M := zipR_ok rfl rfl rfl rfl
    have cx := comp_xr (cl := callF T (j + 5)) (M := M) (a := 8) (b := 9) (by decide) [some (.int m), some (.tup (lnD m f)), some og, some (.lst ((pts m).map pD)), some (.dt (pts m) (lnD m g)), some (pD x), some (pD y), some (numD (f y)), none, none] (by simp) (by simp) ⟨((x.map D.int).zip (y.map D.int)).map fun p => .tup [p.1, p.2], []⟩ (fun _ => same_nil) x y
    have lx : ((xr x y).map D.int).length ≤ sizeLine := by
      rw [List.length_map, pt_len (xr_mem hx hy), sizeLine_eq]; omega
    have cd := idx_dt g (xr_mem hx hy) M
    unfold pD at cd
    have ct := l_times (sf y hy) (sg _ (xr_mem hx hy)) (by decide) (k := j + 5) (by omega) M
    simp only [ρ0, List.set_cons_succ, List.set_cons_zero, e27_0, evs_cons, evs_nil, ev_var, List.getElem?_cons_succ, List.getElem?_cons_zero, Option.join_some, oR_some, Res.bd_ok, ev_idx, ev_bltF, ev_compF, evi_zip, zz, wipeE, cx, okIw_pos lx, t_tupL, cd, clN2, ct]
  have tot : ∀ x ∈ pts m, callF T (j + 5) 28 [.lst ((pts m).map fun y => numD (f y * g (xr x y)))] M = .ok (numD (fo m f g x)) M := fun x hx => by
    have c := l_totalF (d := d1 * d2) (n := n1 * n2) ((pts m).map fun y => f y * g (xr x y)) (fun z hz => by
      obtain ⟨y, hy, rfl⟩ := List.mem_map.mp hz
      exact (hf y hy).mul (hg _ (xr_mem hx hy))) (Nat.mul_pos e1 e2) a3 (Nat.lt_of_le_of_lt (Nat.mul_le_mul_right _ (by rw [List.length_map, pts_len]; omega : _ ≤ 17)) b3) (k := j + 5) (by omega) M
    rw [List.map_map] at c
    exact c
  have hC : compL ⟨(pts m).map pD, []⟩ (.nm 5) (evc T (callF T (j + 5)) .non) (ev T (callF T (j + 5)) (.call 28 0 (.cons (.comp false [6, 7] (.tp (.cons (.nm 6) (.cons (.nm 7) .nil))) (.zip (.var 3) (.var 1)) .non (.call 27 0 (.cons (.var 7) (.cons (.idx (.var 4) (.blt false .tuple (.cons (.comp false [8, 9] (.tp (.cons (.nm 8) (.cons (.nm 9) .nil))) (.zip (.var 5) (.var 6)) .non (.blt false .int (.cons (.cmp .ne (.var 8) (.var 9)) .nil))) .nil))) .nil)) .nil)) .nil) .nil)) [some (.int m), some (.tup (lnD m f)), some og, some (.lst ((pts m).map pD)), some (.dt (pts m) (lnD m g)), none, none, none, none, none] ((pts m).map pD) M = .ok (lnD m (fo m f g)) M := by
    rw [lnD_eq m (fo m f g)]
    refine comp_all pD (fun x => numD (fo m f g x)) (fun _ => same_nil) (pts m) fun x hx => ?_
    have i1 := inn x hx
    have i2 := tot x hx
    simp only [ρ0] at i1
    simp only [List.set_cons_succ, List.set_cons_zero, e28_0, evs_cons, evs_nil, ev_compF, evi_zip, ev_var, List.getElem?_cons_succ, List.getElem?_cons_zero, Option.join_some, oR_some, Res.bd_ok, zp, wipeE, i1, okIw_pos (fewL hm _), clN1, i2]
  rw [call_def fd_l_law_folded rfl]
  simp only [F_l_law_folded, B_l_law_folded, List.map_cons, List.map_nil, List.replicate, List.cons_append, List.nil_append, xss_cons, xs_asg, ev_tup, e30_0, evs_cons, evs_nil, ev_var, List.getElem?_cons_succ, List.getElem?_cons_zero, Option.join_some, oR_some, Res.bd_ok, clN1, hp, ev_p2, hd, okIw_pos (few2 _ _), sR_bd, bindR, bindT, bindTs, List.set_cons_succ, List.set_cons_zero, sq_nx, xs_ret, ev_compF, evi_seq, seqR_l, wipeE, hC]
  rw [okIw_pos (by unfold lnD; rw [List.length_map]; exact fewL hm _)]
  simp only [sR_bd, sq_rt, fin_rt]
theorem t_folded {d1 n1 d2 n2 m : Nat} (hm : m ≤ 4) (f g : List Int → Rat) (hf : ∀ x ∈ pts m, Fr d1 n1 (f x)) (hg : ∀ x ∈ pts m, Fr d2 n2 (g x)) (e1 : 0 < d1) (e2 : 0 < d2) (a1 : d1 < 2 ^ 3000) (a2 : d2 < 2 ^ 3000) (b1 : n1 < 2 ^ 3000) (b2 : n2 < 2 ^ 3000) (a3 : d1 * d2 < 2 ^ 3000) (b3 : 17 * (n1 * n2) < 2 ^ 3000)
    {k : Nat} (hk : 6 ≤ k) (M : Sto) : callF T k 48 [.int m, .tup (lnD m f), .tup (lnD m g)] M = .ok (.lst (lnD m (fo m f g))) M := by
  have hd := t_dict hm .dlz g true M
  simp only [if_true] at hd
  exact t_foldedG hm f g hf hg e1 e2 a1 a2 b1 b2 a3 b3 hk M hd
theorem t_foldedL {d1 n1 d2 n2 m : Nat} (hm : m ≤ 4) (f g : List Int → Rat) (hf : ∀ x ∈ pts m, Fr d1 n1 (f x)) (hg : ∀ x ∈ pts m, Fr d2 n2 (g x)) (e1 : 0 < d1) (e2 : 0 < d2) (a1 : d1 < 2 ^ 3000) (a2 : d2 < 2 ^ 3000) (b1 : n1 < 2 ^ 3000) (b2 : n2 < 2 ^ 3000) (a3 : d1 * d2 < 2 ^ 3000) (b3 : 17 * (n1 * n2) < 2 ^ 3000)
    {k : Nat} (hk : 6 ≤ k) (M : Sto) : callF T k 48 [.int m, .tup (lnD m f), .lst (lnD m g)] M = .ok (.lst (lnD m (fo m f g))) M := by
  have hd := t_dict hm .dlz g false M
  simp only [Bool.false_eq_true, if_false] at hd
  exact t_foldedG hm f g hf hg e1 e2 a1 a2 b1 b2 a3 b3 hk M hd
theorem c_eq0 {M : Sto} {i : Int} : cmpop M .eq (.int i) (.int 0) = some (i == 0) := c_eq
theorem t_holed (m : Nat) (hm : m ≤ 4) (g cs : List Int) (r t : Int) (ht : 0 ≤ t) (ht2 : t < 2 ^ 19) {k : Nat} (hk : 7 ≤ k) :
    ∃ (f : List Int → Rat) (g' : List Int) (r' t' : Int), callF T k 49 [.loc 1, .int m] (St0 g cs r t) = .ok (.tup (lnD m (U m f))) (St0 g' cs r' t') ∧ (∀ x ∈ pts m, Fr 6 18 (f x)) ∧ 0 ≤ t' ∧ t' ≤ t + 48 := by
  obtain ⟨j, rfl⟩ := Nat.exists_eq_add_of_le' hk
  have hp := t_points m hm (k := j + 6) (by omega) (St0 g cs r t)
  have h16 := p_le hm
  have hlen : ((pts m).map pD).length = 2 ^ m := by rw [List.length_map, pts_len]
  obtain ⟨xs, g', r', t', e, l, z, h3, h4⟩ := comp_draw (cl := callF T (j + 6)) (c := 3) (cs := cs) (i := 3) (w := ⟨(pts m).map pD, []⟩) (ρ := [some (.loc 1), some (.int m), none, none, none]) (e := ev T (callF T (j + 6)) (.ite (.cmp .eq (.call 20 0 (.cons (.var 0) (.cons (.lit (.int 3)) .nil)) .nil) (.lit (.int 0))) (.tup (.cons (.lit (.int 0)) (.cons (.lit (.int 1)) .nil))) (.call 29 0 (.cons (.var 0) (.cons (.lit (.int 3)) .nil)) .nil))) numD (Fr 6 18) (fun _ => same_nil) ((pts m).map pD) (fun d hd g r t h0 h1 => by
    obtain ⟨v, g1, r1, t1, e1, v0, v1, h3, h4⟩ := t_draw g cs r t 3 h0 (by omega) (by decide) (by decide) (k := j + 6) (by omega)
    by_cases c : v = 0
    · refine ⟨0, g1, r1, t1, ?_, Fr.zero 6 18, h3, by omega⟩
      have cb : (v == 0) = true := beq_iff_eq.mpr c
      simp only [List.set_cons_succ, List.set_cons_zero, ev_ite, evt_cmp, e20_0, evs_cons, evs_nil, ev_var, List.getElem?_cons_zero, Option.join_some, oR_some, Res.bd_ok, ev_lit, clN2, e1, c_eq0, cb, if_true, ev_tup, okIw_pos (few2 _ _), numD0]
    · obtain ⟨x, g2, r2, t2, e2, z2, h5, h6⟩ := t_some_number 3 (by decide) g1 cs r1 t1 h3 (by omega) (k := j + 6) (by omega)
      refine ⟨x, g2, r2, t2, ?_, z2, h5, by omega⟩
      have cb : (v == 0) = false := beq_eq_false_iff_ne.mpr c
      have e2 : callF T (j + 6) 29 [.loc 1, .int 3] (St0 g1 cs r1 t1) = .ok (numD x) (St0 g2 cs r2 t2) := e2
      simp only [List.set_cons_succ, List.set_cons_zero, ev_ite, evt_cmp, e20_0, evs_cons, evs_nil, ev_var, List.getElem?_cons_zero, Option.join_some, oR_some, Res.bd_ok, ev_lit, clN2, e1, c_eq0, cb, Bool.false_eq_true, if_false, e29_0, e2]) g r t ht (by rw [hlen]; omega)
  rw [hlen] at l h4
  obtain ⟨f, rfl⟩ := line_fn 0 (pts m) xs (pts_nodup m) (by rw [l, pts_len])
  have hf : ∀ x ∈ pts m, Fr 6 18 (f x) := fun x hx => z _ (List.mem_map_of_mem hx)
  refine ⟨f, g', r', t', ?_, hf, h3, by omega⟩
  have b1 : (2 : Nat) ^ 10 < 2 ^ 2000 := Nat.pow_lt_pow_right (by decide) (by decide)
  have b3 : (2 : Nat) ^ 10 < 2 ^ 3000 := Nat.pow_lt_pow_right (by decide) (by decide)
  have hL : (lnD m f).length ≤ sizeLine := by unfold lnD; rw [List.length_map]; exact fewL hm _
  have cs' := t_lspread m hm f hf (by decide) (Nat.lt_of_le_of_lt (by decide : 6 ≤ 2 ^ 10) b1) (Nat.lt_of_le_of_lt (by decide : 17 * 18 ≤ 2 ^ 10) b1) (k := j + 6) (by omega) (St0 g' cs r' t')
  have cw := t_wide m hm (k := j + 6) (by omega) (St0 g' cs r' t')
  generalize hM : St0 g' cs r' t' = N at e cs' cw ⊢
  have kk : compL ⟨lnD m (W m f), []⟩ (.nm 4) (evc T (callF T (j + 6)) .non) (ev T (callF T (j + 6)) (.call 27 0 (.cons (.tup (.cons (.lit (.int 1)) (.cons (.call 31 0 (.cons (.var 1) .nil) .nil) .nil))) (.cons (.var 4) .nil)) .nil)) [some (.loc 1), some (.int m), some (.tup (lnD m f)), none, none] (lnD m (W m f)) N = .ok (lnD m (U m f)) N := by
    rw [lnD_eq m (W m f), lnD_eq m (U m f)]
    refine comp_all (fun x => numD (W m f x)) (fun x => numD (U m f x)) (fun _ => same_nil) (pts m) fun x hx => ?_
    have zw : Sz 3000 (W m f x) := (Fr.W hf x).sz (by decide) (Nat.lt_of_le_of_lt (Nat.le_trans (Nat.mul_le_mul_right 18 h16) (by decide : 16 * 18 ≤ 2 ^ 10)) b3) (Nat.lt_of_le_of_lt (by decide : 6 ≤ 2 ^ 10) b3)
    have ct := l_times (share_sz hm) zw (by decide) (k := j + 6) (by omega) N
    rw [← share_D hm] at ct
    simp only [List.set_cons_succ, List.set_cons_zero, e27_0, evs_cons, evs_nil, ev_tup, ev_lit, e31_0, ev_var, List.getElem?_cons_succ, List.getElem?_cons_zero, Option.join_some, oR_some, Res.bd_ok, clN1, cw, okIw_pos (few2 _ _), clN2, ct]
    rfl
  have hL2 : (lnD m (U m f)).length ≤ sizeLine := by unfold lnD; rw [List.length_map]; exact fewL hm _
  have e : compL ⟨(pts m).map pD, []⟩ (.nm 3) (evc T (callF T (j + 6)) .non) (ev T (callF T (j + 6)) (.ite (.cmp .eq (.call 20 0 (.cons (.var 0) (.cons (.lit (.int 3)) .nil)) .nil) (.lit (.int 0))) (.tup (.cons (.lit (.int 0)) (.cons (.lit (.int 1)) .nil))) (.call 29 0 (.cons (.var 0) (.cons (.lit (.int 3)) .nil)) .nil))) [some (.loc 1), some (.int m), none, none, none] ((pts m).map pD) (St0 g cs r t) = .ok (lnD m f) N := e
  rw [call_def fd_l_law_some_holed rfl]
  simp only [F_l_law_some_holed, B_l_law_some_holed, List.map_cons, List.map_nil, List.replicate, List.cons_append, List.nil_append, xss_cons, xs_asg, ev_bltF, evs_cons, evs_nil, ev_compF, evi_seq, e30_0, ev_var, List.getElem?_cons_succ, List.getElem?_cons_zero, Option.join_some, oR_some, Res.bd_ok, clN1, hp, seqR_l, wipeE, List.set_cons_succ, List.set_cons_zero, e, okIw_pos hL, t_tupL, sR_bd, bindR_nm, sq_nx, xs_ret, e33_0, clN2, cs', kk, okIw_pos hL2, sq_rt]
  subst hM
  exact fin_rt (M := St0 g' cs r' t') _ _
end Sw
end

section
set_option Elab.async false
set_option linter.all false
set_option maxHeartbeats 1000000
/-! the law's begun -/
namespace Sw
open PySem L2 Iv Wal
def absI (i : Int) : Int := if i < 0 then -i else i
def greatOf : List Int → List Int
  | [] => []
  | i :: r => if 10 ^ 18 ≤ absI i then (absI i - 10 ^ 18) :: greatOf r else greatOf r
theorem greatOf_len : ∀ l, (greatOf l).length ≤ l.length
  | [] => Nat.le_refl _
  | i :: r => by
    have := greatOf_len r
    unfold greatOf
    split <;> simp only [List.length_cons] <;> omega
theorem t_absI {M : Sto} {i : Int} : blt M .abs [.int i] = some (.int (absI i)) := (rfl)
theorem comp18a {cl : Nat → List D → Mo D} {M : Sto} (ρ : Iv.Env) (h : ρ.length = 3) (w : Wk) (hw : ∀ N, w.same N) : ∀ l : List Int,
    compL w (.nm 2) (evc T cl (.som (.cmp .ge (.blt false .abs (.cons (.var 2) .nil)) (.bin .pow (.lit (.int 10)) (.lit (.int 18)))))) (ev T cl (.bin .sub (.blt false .abs (.cons (.var 2) .nil)) (.bin .pow (.lit (.int 10)) (.lit (.int 18))))) ρ (l.map .int) M = .ok ((greatOf l).map .int) M
  | [] => rfl
  | i :: r => by
    have f : binop .pow (.int 10) (.int 18) = some (.int (10 ^ 18)) := b_pow (by decide) (by decide) (by decide)
    have g : (ρ.set 2 (some (D.int i)))[2]? = some (some (.int i)) := by rw [List.getElem?_set_self (by omega)]
    by_cases c : 10 ^ 18 ≤ absI i
    · have e : greatOf (i :: r) = (absI i - 10 ^ 18) :: greatOf r := if_pos c
      rw [e]
      refine compL_consw (ρ1 := ρ.set 2 (some (.int i))) (M1 := M) (M2 := M) rfl ?_ ?_ (hw M) (comp18a ρ h w hw r)
      · simp only [evc_som, evt_cmp, ev_bltF, evs_cons, evs_nil, ev_var, g, Option.join_some, oR_some, Res.bd_ok, t_absI, ev_bin, ev_lit, f, c_ge, decide_eq_true c]
      · simp only [ev_bin, ev_bltF, evs_cons, evs_nil, ev_var, g, Option.join_some, oR_some, Res.bd_ok, t_absI, ev_lit, f, b_sub]
    · have e : greatOf (i :: r) = greatOf r := if_neg c
      rw [e]
      show compL _ _ _ _ _ (D.int i :: r.map .int) M = _
      rw [compL_skip (ρ1 := ρ.set 2 (some (.int i))) (M1 := M) rfl ?_ (hw M)]
      · exact comp18a ρ h w hw r
      · simp only [evc_som, evt_cmp, ev_bltF, evs_cons, evs_nil, ev_var, g, Option.join_some, oR_some, Res.bd_ok, t_absI, ev_bin, ev_lit, f, c_ge, decide_eq_false c]
theorem comp18b {cl : Nat → List D → Mo D} {M : Sto} (ρ : Iv.Env) (h : ρ.length = 3) (w : Wk) (hw : ∀ N, w.same N) : ∀ l : List Int,
    compL w (.nm 2) (evc T cl .non) (ev T cl (.blt false .abs (.cons (.var 2) .nil))) ρ (l.map .int) M = .ok ((l.map absI).map .int) M
  | [] => rfl
  | i :: r => by
    have g : (ρ.set 2 (some (D.int i)))[2]? = some (some (.int i)) := by rw [List.getElem?_set_self (by omega)]
    refine compL_consw (ρ1 := ρ.set 2 (some (.int i))) (M1 := M) (M2 := M) rfl rfl ?_ (hw M) (comp18b ρ h w hw r)
    simp only [ev_bltF, evs_cons, evs_nil, ev_var, g, Option.join_some, oR_some, Res.bd_ok, t_absI]
theorem t_begun (l : List Int) (hl : l.length ≤ 63) {k : Nat} (hk : 1 ≤ k) : callF T k 18 [.frl (l.map .int)] [] = .ok (.loc 1) (St0 (greatOf l) (l.map absI) 0 0) := by
  obtain ⟨j, rfl⟩ := Nat.exists_eq_add_of_le' hk
  have gl := greatOf_len l
  have c1 := comp18a (cl := callF T j) (M := []) [some (.frl (l.map .int)), none, none] rfl ⟨l.map .int, []⟩ (fun _ => same_nil) l
  have c2 := comp18b (cl := callF T j) (M := [.lst ((greatOf l).map .int)]) [some (.frl (l.map .int)), some (.loc 0), none] rfl ⟨l.map .int, []⟩ (fun _ => same_nil) l
  have l1 : ((greatOf l).map D.int).length ≤ sizeLine := by rw [sizeLine_eq, List.length_map]; omega
  have l2 : ((l.map absI).map D.int).length ≤ sizeLine := by rw [sizeLine_eq, List.length_map, List.length_map]; omega
  rw [call_def fd_l_law_begun rfl]
  simp only [F_l_law_begun, B_l_law_begun, List.map_cons, List.map_nil, List.replicate, List.cons_append, List.nil_append, xss_cons, xs_asg, ev_compT, evi_seq, ev_var, List.getElem?_cons_zero, Option.join_some, oR_some, Res.bd_ok, seqR_f, wipeE, List.set_cons_succ, List.set_cons_zero, c1, okIw_pos l1, List.length_nil, sR_bd, bindR_nm, sq_nx, xs_ret, ev_dsp, evs_cons, evs_nil, List.getElem?_cons_succ, ev_compF, c2, okIw_pos l2, ev_lit]
  rw [okIw_pos ⟨rfl, by decide, by decide +kernel⟩]
  rfl
end Sw
end

section
set_option Elab.async false
set_option linter.all false
set_option maxHeartbeats 2000000
/-! what is shown, compared -/
namespace Sw
open PySem L2 Iv Wal
theorem num_gd {s : Nat} {x : Rat} (h : Sz s x) (j : Nat) : (numD x).gd s (j + 1) := by
  unfold numD
  simp only [D.gd, gds, and_true]
  exact ⟨h.1, by simpa using h.2⟩
theorem num_bulk (x : Rat) : (numD x).py.bulk = 2 := by
  unfold numD
  rw [bulk_tup, bulk_cons, bulk_cons, bulk_nil, bulk_int, bulk_int]
theorem nums_bulk : ∀ xs : List Rat, PyData.bulkAll (pys (xs.map numD)) = 3 * xs.length
  | [] => by rw [List.map_nil, bulk_nil]; rfl
  | x :: xs => by rw [List.map_cons, bulk_cons, num_bulk, nums_bulk xs, List.length_cons]; omega
theorem tab_ok2 : PyData.strOk (reprText (Str.ofString "table")) = true := by decide +kernel
theorem ln_gd {s m : Nat} {f : List Int → Rat} (h : ∀ x ∈ pts m, Sz s (f x)) (j : Nat) : gds s (j + 1) (lnD m f) := by
  rw [gds_iff, lnD_eq]
  intro d hd
  obtain ⟨x, hx, rfl⟩ := List.mem_map.mp hd
  exact num_gd (h x hx) j
theorem tab_gd {s m : Nat} {f : List Int → Rat} (h : ∀ x ∈ pts m, Sz s (f x)) (j : Nat) : (tabF m f).gd s (j + 3) := by
  unfold tabF
  simp only [D.gd, gds, and_true]
  exact ⟨⟨sok_of _, tab_ok2⟩, ln_gd h j⟩
theorem ln_bulk (m : Nat) (f : List Int → Rat) : PyData.bulkAll (pys (lnD m f)) = 3 * 2 ^ m := by
  unfold lnD
  rw [nums_bulk, ln_len]
theorem tab_bulk (m : Nat) (f : List Int → Rat) : (tabF m f).py.bulk = 7 + 3 * 2 ^ m := by
  unfold tabF
  rw [bulk_tup, bulk_cons, bulk_cons, bulk_nil, bulk_tup, ln_bulk, bulk_str]
  show (Str.ofString "table").length + 1 + _ = _
  rw [ofString_length]
  show 5 + 1 + _ = _
  omega
end Sw
end

section
set_option Elab.async false
set_option linter.all false
set_option maxHeartbeats 4000000
/-! tables2: points, lines, sums, folds -/
namespace Sw
open PySem L2 Iv Wal
theorem t_totalP (ys : List Rat) (I : Nat → Rat → Prop) (h0 : I 0 0) (hs : ∀ i x y, i < ys.length → I i x → y ∈ ys → I (i + 1) (x + y)) (hz : ∀ i x, i ≤ ys.length → I i x → Sz 3000 x) (hy : ∀ y ∈ ys, Sz 3000 y) {k : Nat} (hk : 4 ≤ k) (M : Sto) :
    callF T k 52 [.lst (ys.map numD)] M = .ok (numD (sumR 0 ys)) M := by
  obtain ⟨j, rfl⟩ := Nat.exists_eq_add_of_le' hk
  rw [call_def fd_numbers1_total rfl]
  have hf : ∀ (zs : List Rat) (i : Nat) (x : Rat) (w : Wk) (z : Option D), (∀ N, w.same N) → I i x → (∀ y ∈ zs, y ∈ ys) → i + zs.length = ys.length →
      ∃ z', forL w (.nm 2) (xss T (callF T (j + 3)) (.cons (.asg (.nm 1) (.call 5 0 (.cons (.var 1) (.cons (.var 2) .nil)) .nil)) .nil)) (zs.map numD) [some (.lst (ys.map numD)), some (numD x), z] M = .ok .nx [some (.lst (ys.map numD)), some (numD (sumR x zs)), z'] M := by
    intro zs
    induction zs with
    | nil => intro i x w z _ _ _ _; exact ⟨z, rfl⟩
    | cons y zs ih =>
      intro i x w z hw hx hz' hl
      rw [List.length_cons] at hl
      have ym := hz' y (.head _)
      obtain ⟨z', e'⟩ := ih (i + 1) (x + y) w (some (numD y)) hw (hs i x y (by omega) hx ym) (fun q hq => hz' q (.tail _ hq)) (by omega)
      refine ⟨z', (forL_nx (ρ1 := [some (.lst (ys.map numD)), some (numD x), some (numD y)]) (ρ2 := [some (.lst (ys.map numD)), some (numD (x + y)), some (numD y)]) (M2 := M) rfl ?_ (hw M)).trans e'⟩
      have c := t_plus (hz i x (by omega) hx) (hy y ym) (by decide) (k := j + 3) (by omega) M
      simp [c]
  obtain ⟨z', e⟩ := hf ys 0 0 ⟨ys.map numD, []⟩ none (fun N => same_nil) h0 (fun y h => h) (by omega)
  have g : T.gv 36 = some (numD 0) := rfl
  simp [F_numbers1_total, B_numbers1_total, g, e]
theorem t_totalF {d n : Nat} (ys : List Rat) (h : ∀ y ∈ ys, Fr d n y) (hd : 0 < d) (h2 : d < 2 ^ 3000) (h1 : (ys.length + 1) * n < 2 ^ 3000) {k : Nat} (hk : 4 ≤ k) (M : Sto) : callF T k 52 [.lst (ys.map numD)] M = .ok (numD (sumR 0 ys)) M := by
  refine t_totalP ys (fun i x => Fr d (i * n) x) (Fr.zero d _) (fun i x y _ hx hy => ?_) (fun i x hi hx => ?_) (fun y hy => ?_) hk M
  · rw [Nat.succ_mul]; exact hx.add (h y hy)
  · exact hx.sz hd (Nat.lt_of_le_of_lt (Nat.mul_le_mul_right n (by omega : i ≤ ys.length + 1)) h1) h2
  · exact (h y hy).sz hd (Nat.lt_of_le_of_lt (by rw [Nat.succ_mul]; omega) h1) h2
/-! points -/
theorem pts_back : ∀ n, pts (n + 1) = (pts n).flatMap fun p => [p ++ [0], p ++ [1]]
  | 0 => rfl
  | n + 1 => by
    have ih := pts_back n
    show (pts (n + 1)).map (0 :: ·) ++ (pts (n + 1)).map (1 :: ·) = ((pts n).map (0 :: ·) ++ (pts n).map (1 :: ·)).flatMap _
    rw [List.flatMap_append, List.flatMap_map, List.flatMap_map]
    conv => lhs; rw [ih]
    rw [List.map_flatMap, List.map_flatMap]
    rfl
theorem t_points_of (n : Nat) (hn : n ≤ 4) {k : Nat} (hk : 1 ≤ k) (M : Sto) : callF T k 53 [.int n] M = .ok (.lst ((pts n).map pD)) M := by
  obtain ⟨j, rfl⟩ := Nat.exists_eq_add_of_le' hk
  have hf : ∀ (r a : Nat) (w : Wk) (q z2 z3 z4 : Option D), (∀ N, w.same N) → a + r = n → ∃ z2', forL w (.nm 2) (xss T (callF T j) (.cons (.asg (.nm 1) (.comp2 false [3, 4] [4] (.nm 3) (.seq (.var 1)) (.nm 4) (.seq (.tup (.cons (.lit (.int 0)) (.cons (.lit (.int 1)) .nil)))) .non (.bin .add (.var 3) (.tup (.cons (.var 4) .nil))))) .nil)) ((List.range' a r).map fun i => .int (i : Nat)) [q, some (.lst ((pts a).map pD)), z2, z3, z4] M = .ok .nx [q, some (.lst ((pts n).map pD)), z2', z3, z4] M := by
    intro r
    induction r with
    | zero =>
      intro a w q z2 z3 z4 _ e
      have : a = n := by omega
      subst this
      exact ⟨z2, rfl⟩
    | succ r ih =>
      intro a w q z2 z3 z4 hw e
      obtain ⟨u2, k⟩ := ih (a + 1) w q (some (.int a)) z3 z4 hw (by omega)
      refine ⟨u2, (forL_nx (ρ1 := [q, some (.lst ((pts a).map pD)), some (.int a), z3, z4]) (ρ2 := [q, some (.lst ((pts (a + 1)).map pD)), some (.int a), z3, z4]) (M2 := M) rfl ?_ (hw M)).trans k⟩
      have hp : 2 ^ a ≤ 2 ^ 4 := Nat.pow_le_pow_right (by decide) (by omega)
      have c := compL2_flat (w := ⟨(pts a).map pD, []⟩) (t := .nm 3) (ρ := [q, some (.lst ((pts a).map pD)), some (.int a), none, none]) (M := M) (c := evc T (callF T j) .non) (e := ev T (callF T j) (.bin .add (.var 3) (.tup (.cons (.var 4) .nil)))) (t1 := .nm 4) (i1 := evi T (callF T j) (.seq (.tup (.cons (.lit (.int 0)) (.cons (.lit (.int 1)) .nil))))) (own1 := [4]) (f := fun d => match d with
        | .tup ds => [.tup (ds ++ [.int 0]), .tup (ds ++ [.int 1])]
        | _ => []) same_nil ((pts a).map pD) (fun d hd => by
          obtain ⟨l, hl, rfl⟩ := List.mem_map.mp hd
          refine ⟨[q, some (.lst ((pts a).map pD)), some (.int a), some (pD l), none], ⟨[.int 0, .int 1], []⟩, rfl, ?_, ?_⟩
          · simp only [evi_seq, ev_tup, evs_cons, evs_nil, ev_lit, Res.bd_ok, okIw_pos (few2 _ _), seqR_t]
          · have ll := pt_len hl
            have f : ∀ b : Int, binop .add (pD l) (.tup [.int b]) = some (.tup (l.map .int ++ [.int b])) := fun b => by
              unfold pD
              rw [b_tup (by rw [sizeLine_eq, List.length_map]; simp; omega)]
            have g : ∀ b : Int, ev T (callF T j) (.bin .add (.var 3) (.tup (.cons (.var 4) .nil))) [q, some (.lst ((pts a).map pD)), some (.int a), some (pD l), some (.int b)] M = .ok (.tup (l.map .int ++ [.int b])) M := fun b => by
              simp only [ev_bin, ev_var, List.getElem?_cons_succ, List.getElem?_cons_zero, Option.join_some, oR_some, Res.bd_ok, ev_tup, evs_cons, evs_nil, okIw_pos (few1 _), f]
            exact compL_consw (ρ1 := [q, some (.lst ((pts a).map pD)), some (.int a), some (pD l), some (.int 0)]) (M1 := M) (M2 := M) rfl rfl (g 0) same_nil (compL_consw (ρ1 := [q, some (.lst ((pts a).map pD)), some (.int a), some (pD l), some (.int 1)]) (M1 := M) (M2 := M) rfl rfl (g 1) same_nil rfl))
      have e1 : (((pts a).map pD).flatMap fun d => match d with
        | .tup ds => [D.tup (ds ++ [.int 0]), .tup (ds ++ [.int 1])]
        | _ => []) = (pts (a + 1)).map pD := by
        rw [pts_back, List.flatMap_map, List.map_flatMap]
        congr 1
        funext l
        simp [pD]
      rw [e1] at c
      have l1 : ((pts (a + 1)).map pD).length ≤ sizeLine := by rw [sizeLine_eq, List.length_map, pts_len, Nat.pow_succ]; omega
      simp only [xss_cons, xss_nil, xs_asg, ev_comp2F, evi_seq, ev_var, List.getElem?_cons_succ, List.getElem?_cons_zero, Option.join_some, oR_some, Res.bd_ok, seqR_l, wipeE, List.set_cons_succ, List.set_cons_zero]
      simp only [c, Res.bd_ok, okIw_pos l1, sR_bd, bindR_nm, List.set_cons_succ, List.set_cons_zero, sq_nx, xss_nil]
  obtain ⟨z2, e⟩ := hf n 0 ⟨(List.range n).map fun i => .int (i : Nat), []⟩ (some (.int n)) none none none (fun _ => same_nil) (by omega)
  have hr : rngR (.int (n : Int)) M = .ok ⟨(List.range n).map fun i => .int (i : Nat), []⟩ M := by
    have := rngR_i (M := M) (j := (n : Int)) (by omega)
    rwa [Int.toNat_natCast] at this
  rw [← List.range_eq_range'] at e
  have e0 : D.lst [.tup []] = .lst ((pts 0).map pD) := rfl
  rw [call_def fd_points1_points_of rfl]
  simp only [F_points1_points_of, B_points1_points_of, List.map_cons, List.map_nil, List.replicate, List.cons_append, List.nil_append, xss_cons, xs_asg, ev_lstF, evs_cons, evs_nil, ev_tup, okIw_pos few0, Res.bd_ok, okIw_pos (few1 _), sR_bd, bindR_nm, sq_nx, List.set_cons_succ, List.set_cons_zero, xs_fr, evi_rng, ev_var, List.getElem?_cons_zero, Option.join_some, oR_some, hr, e0, e, xs_ret, List.getElem?_cons_succ, sq_rt, fin_rt]
theorem comp_add {cl : Nat → List D → Mo D} {M : Sto} {a b : Nat} (hab : a ≠ b) (ρ : Iv.Env) (ha : a < ρ.length) (hb' : b < ρ.length) (w : Wk) (hw : ∀ N, w.same N) : ∀ p q : List Int, (∀ x ∈ p, x = 0 ∨ x = 1) → (∀ x ∈ q, x = 0 ∨ x = 1) →
    compL w (.tp (.cons (.nm a) (.cons (.nm b) .nil))) (evc T cl .non) (ev T cl (.bin .mod (.bin .add (.var a) (.var b)) (.lit (.int 2)))) ρ (((p.map D.int).zip (q.map D.int)).map fun p => .tup [p.1, p.2]) M = .ok ((xr p q).map .int) M
  | [], _, _, _ => rfl
  | _ :: _, [], _, _ => rfl
  | x :: p, y :: q, hp, hq => by
    refine compL_consw (ρ1 := (ρ.set a (some (.int x))).set b (some (.int y))) (M1 := M) (M2 := M) rfl rfl ?_ (hw M) (comp_add hab ρ ha hb' w hw p q (fun x hx => hp x (.tail _ hx)) fun x hx => hq x (.tail _ hx))
    have g1 : ((ρ.set a (some (D.int x))).set b (some (.int y)))[a]? = some (some (.int x)) := by
      rw [List.getElem?_set_ne (Ne.symm hab), List.getElem?_set_self ha]
    have g2 : ((ρ.set a (some (D.int x))).set b (some (.int y)))[b]? = some (some (.int y)) := by
      rw [List.getElem?_set_self (by simpa using hb')]
    have f1 : binop .mod (.int (x + y)) (.int 2) = some (.int ((x + y) % 2)) := b_mod (by decide)
    have hx := hp x (.head _)
    have hy := hq y (.head _)
    have e : (x + y) % 2 = if x = y then 0 else 1 := by
      rcases hx with rfl | rfl <;> rcases hy with rfl | rfl <;> rfl
    simp only [ev_bin, ev_var, ev_lit, g1, g2, Option.join_some, oR_some, Res.bd_ok, b_add, f1, e]
theorem t_added {m : Nat} (hm : m ≤ 4) {p q : List Int} (hp : p ∈ pts m) (hq : q ∈ pts m) {k : Nat} (hk : 1 ≤ k) (M : Sto) : callF T k 54 [pD p, pD q] M = .ok (pD (xr p q)) M := by
  obtain ⟨j, rfl⟩ := Nat.exists_eq_add_of_le' hk
  have zz : zipR (pD p) (pD q) M = .ok ⟨((p.map D.int).zip (q.map D.int)).map fun p => .tup [p.1, p.2], []⟩ M := zipR_ok rfl rfl rfl rfl
  have c := comp_add (cl := callF T j) (M := M) (a := 2) (b := 3) (by decide) [some (pD p), some (pD q), none, none] (by simp) (by simp) ⟨((p.map D.int).zip (q.map D.int)).map fun p => .tup [p.1, p.2], []⟩ (fun _ => same_nil) p q (pt_bit hp) (pt_bit hq)
  have l : ((xr p q).map D.int).length ≤ sizeLine := by rw [List.length_map, pt_len (xr_mem hp hq), sizeLine_eq]; omega
  rw [call_def fd_points1_added rfl]
  simp only [F_points1_added, B_points1_added, List.map_cons, List.map_nil, List.replicate, List.cons_append, List.nil_append, xss_cons, xs_ret, ev_bltF, evs_cons, evs_nil, ev_compF, evi_zip, ev_var, List.getElem?_cons_succ, List.getElem?_cons_zero, Option.join_some, oR_some, Res.bd_ok, zz, wipeE, List.set_cons_succ, List.set_cons_zero, c, okIw_pos l, t_tupL, sR_bd, sq_rt, fin_rt]
  rfl
theorem t_is_odd {m : Nat} (hm : m ≤ 4) {p q : List Int} (hp : p ∈ pts m) (hq : q ∈ pts m) {k : Nat} (hk : 1 ≤ k) (M : Sto) : callF T k 55 [pD p, pD q] M = .ok (.bl ((dot p q).sum % 2 == 1)) M := by
  obtain ⟨j, rfl⟩ := Nat.exists_eq_add_of_le' hk
  have zz : zipR (pD p) (pD q) M = .ok ⟨((p.map D.int).zip (q.map D.int)).map fun p => .tup [p.1, p.2], []⟩ M := zipR_ok rfl rfl rfl rfl
  have c := comp_dot (cl := callF T j) (M := M) (a := 2) (b := 3) (by decide) [some (pD p), some (pD q), none, none] (by simp) (by simp) ⟨((p.map D.int).zip (q.map D.int)).map fun p => .tup [p.1, p.2], []⟩ (fun _ => same_nil) p q (pt_bit hq)
  have l : ((dot p q).map D.int).length ≤ sizeLine := by
    have := dot_len p q
    have := pt_len hp
    rw [sizeLine_eq, List.length_map]; omega
  have f1 : binop .mod (.int (dot p q).sum) (.int 2) = some (.int ((dot p q).sum % 2)) := b_mod (by decide)
  rw [call_def fd_points1_is_odd rfl]
  simp only [F_points1_is_odd, B_points1_is_odd, List.map_cons, List.map_nil, List.replicate, List.cons_append, List.nil_append, xss_cons, xs_ret, ev_cmp, ev_bin, ev_bltF, evs_cons, evs_nil, ev_compF, evi_zip, ev_var, ev_lit, List.getElem?_cons_succ, List.getElem?_cons_zero, Option.join_some, oR_some, Res.bd_ok, zz, wipeE, List.set_cons_succ, List.set_cons_zero, c, okIw_pos l, sum_ints, f1, c_eq, Option.map_some, sR_bd, sq_rt, fin_rt]
theorem odd_chi (p q : List Int) (y : Rat) : (if ((dot p q).sum % 2 == 1) = true then -y else y) = chi p q * y := by
  unfold chi sgn
  by_cases c : (dot p q).sum % 2 = 1
  · rw [c]
    show -y = ((1 - 2 * 1 : Int) : Rat) * y
    have : ((1 - 2 * 1 : Int) : Rat) = -1 := rfl
    rw [this]
    grind
  · have c0 : (dot p q).sum % 2 = 0 := by omega
    rw [c0]
    show y = ((1 - 2 * 0 : Int) : Rat) * y
    have : ((1 - 2 * 0 : Int) : Rat) = 1 := rfl
    rw [this]
    grind
/-! tables -/
theorem t_need_any {m : Nat} (hm : m ≤ 4) (f : List Int → Rat) {k : Nat} (hk : 4 ≤ k) (M : Sto) : callF T k 56 [tabF m f] M = .ok .non M := by
  obtain ⟨j, rfl⟩ := Nat.exists_eq_add_of_le' hk
  have c := t_any_table ((pts m).map f) (wid_of hm (ln_len m f)) (k := j + 3) (by omega) M
  rw [← tabF_D] at c
  rw [call_def fd_tables2_need_any rfl]
  simp [F_tables2_need_any, B_tables2_need_any, c]
theorem t_need_alike {m : Nat} (hm : m ≤ 4) (f g : List Int → Rat) {k : Nat} (hk : 5 ≤ k) (M : Sto) : callF T k 57 [tabF m f, tabF m g] M = .ok .non M := by
  obtain ⟨j, rfl⟩ := Nat.exists_eq_add_of_le' hk
  have c1 := t_need_any hm f (k := j + 4) (by omega) M
  have c2 := t_need_any hm g (k := j + 4) (by omega) M
  have i1 : ∀ g : List Int → Rat, idx M (tabF m g) (.int 1) = some (.tup (lnD m g)) := fun g => atI_c1 _ _ []
  rw [call_def fd_tables2_need_alike rfl]
  have ll : (lnD m f).length = (lnD m g).length := by simp [lnD]
  simp [F_tables2_need_alike, B_tables2_need_alike, c1, c2, i1, ll]
theorem t_made {m : Nat} (f : List Int → Rat) {k : Nat} (hk : 1 ≤ k) (M : Sto) : callF T k 58 [.lst (lnD m f)] M = .ok (tabF m f) M := by
  obtain ⟨j, rfl⟩ := Nat.exists_eq_add_of_le' hk
  rw [call_def fd_tables2_made rfl]
  simp [F_tables2_made, B_tables2_made, sizeLine_eq]
  rfl
theorem t_madeL {m : Nat} (f : List Int → Rat) {k : Nat} (hk : 1 ≤ k) (M : Sto) : callF T k 58 [.loc M.length] (M ++ [.lst (lnD m f)]) = .ok (tabF m f) (M ++ [.lst (lnD m f)]) := by
  obtain ⟨j, rfl⟩ := Nat.exists_eq_add_of_le' hk
  rw [call_def fd_tables2_made rfl]
  simp only [F_tables2_made, B_tables2_made, List.map_cons, List.map_nil, List.replicate, List.cons_append, List.nil_append, xss_cons, xs_ret, ev_tup, evs_cons, evs_nil, ev_lit, ev_bltF, ev_var, List.getElem?_cons_zero, Option.join_some, oR_some, Res.bd_ok, tupL, okIw_pos (few2 _ _), sR_bd, sq_rt, fin_rt]
  rfl
theorem t_lines {m : Nat} (hm : m ≤ 4) (f : List Int → Rat) {k : Nat} (hk : 2 ≤ k) (M : Sto) : callF T k 59 [tabF m f] M = .ok (.dt (pts m) (lnD m f)) M := by
  obtain ⟨j, rfl⟩ := Nat.exists_eq_add_of_le' hk
  have c1 := t_switches ((pts m).map f) hm (ln_len m f) (k := j + 1) (by omega) M
  rw [← tabF_D] at c1
  have c2 := t_points_of m hm (k := j + 1) (by omega) M
  have i1 : idx M (tabF m f) (.int 1) = some (.tup (lnD m f)) := atI_c1 _ _ []
  have hd := t_dict hm .dzip f true M
  simp only [if_true] at hd
  rw [call_def fd_tables2_lines rfl]
  simp only [F_tables2_lines, B_tables2_lines, List.map_cons, List.map_nil, List.replicate, List.cons_append, List.nil_append, xss_cons, xs_ret, ev_p2, e53_0, e10_0, evs_cons, evs_nil, ev_idx, ev_lit, ev_var, List.getElem?_cons_zero, Option.join_some, oR_some, Res.bd_ok, clN1, c1, c2, i1, hd, sR_bd, sq_rt, fin_rt]
end Sw
end

section
set_option Elab.async false
set_option linter.all false
set_option maxHeartbeats 4000000
/-! tables2: sums, products, folds, spread; spread3 -/
namespace Sw
open PySem L2 Iv Wal
theorem idx1 (m : Nat) (f : List Int → Rat) {M : Sto} : idx M (tabF m f) (.int 1) = some (.tup (lnD m f)) := atI_c1 _ _ []
theorem lnL (m : Nat) (hm : m ≤ 4) (f : List Int → Rat) : (lnD m f).length ≤ sizeLine := by unfold lnD; rw [List.length_map]; exact fewL hm _
theorem t_summed {s t m : Nat} (hm : m ≤ 4) (f g : List Int → Rat) (hf : ∀ x ∈ pts m, Sz s (f x)) (hg : ∀ x ∈ pts m, Sz t (g x)) (b : s + t ≤ 7000) {k : Nat} (hk : 3 ≤ k) (M : Sto) :
    callF T k 60 [tabF m f, tabF m g] M = .ok (tabF m fun x => f x + g x) M := by
  obtain ⟨j, rfl⟩ := Nat.exists_eq_add_of_le' hk
  have zz : zipR (.tup (lnD m f)) (.tup (lnD m g)) M = .ok ⟨(pts m).map fun x => .tup [numD (f x), numD (g x)], []⟩ M := by
    rw [← zip_ln]
    exact zipR_ok rfl rfl rfl rfl
  have c := comp_allT (cl := callF T (j + 2)) (e := ev T (callF T (j + 2)) (.call 5 0 (.cons (.var 2) (.cons (.var 3) .nil)) .nil)) (ρ := [some (tabF m f), some (tabF m g), none, none]) (M := M) (w := ⟨(pts m).map fun x => .tup [numD (f x), numD (g x)], []⟩) (t := .tp (.cons (.nm 2) (.cons (.nm 3) .nil))) (fun x => .tup [numD (f x), numD (g x)]) (fun x => [some (tabF m f), some (tabF m g), some (numD (f x)), some (numD (g x))]) (fun x => numD (f x + g x)) (fun _ => same_nil) (pts m) (fun x _ => rfl) fun x hx => by
    have c := t_plus (hf x hx) (hg x hx) b (k := j + 2) (by omega) M
    simp only [e5_0, evs_cons, evs_nil, ev_var, List.getElem?_cons_succ, List.getElem?_cons_zero, Option.join_some, oR_some, Res.bd_ok, clN2, c]
  rw [← lnD_eq m fun x => f x + g x] at c
  have cm := t_made (m := m) (fun x => f x + g x) (k := j + 2) (by omega) M
  rw [call_def fd_tables2_summed rfl]
  simp only [F_tables2_summed, B_tables2_summed, List.map_cons, List.map_nil, List.replicate, List.cons_append, List.nil_append, xss_cons, xs_ret, e58_0, evs_cons, evs_nil, ev_compF, evi_zip, ev_idx, ev_lit, ev_var, List.getElem?_cons_succ, List.getElem?_cons_zero, Option.join_some, oR_some, Res.bd_ok, idx1, zz, wipeE, List.set_cons_succ, List.set_cons_zero, c, okIw_pos (lnL m hm _), clN1, cm, sR_bd, sq_rt, fin_rt]
theorem t_times_of {s t m : Nat} (hm : m ≤ 4) (f g : List Int → Rat) (hf : ∀ x ∈ pts m, Sz s (f x)) (hg : ∀ x ∈ pts m, Sz t (g x)) (b : s + t ≤ 7000) {k : Nat} (hk : 3 ≤ k) (M : Sto) :
    callF T k 62 [tabF m f, tabF m g] M = .ok (tabF m fun x => f x * g x) M := by
  obtain ⟨j, rfl⟩ := Nat.exists_eq_add_of_le' hk
  have zz : zipR (.tup (lnD m f)) (.tup (lnD m g)) M = .ok ⟨(pts m).map fun x => .tup [numD (f x), numD (g x)], []⟩ M := by
    rw [← zip_ln]
    exact zipR_ok rfl rfl rfl rfl
  have c := comp_allT (cl := callF T (j + 2)) (e := ev T (callF T (j + 2)) (.call 7 0 (.cons (.var 2) (.cons (.var 3) .nil)) .nil)) (ρ := [some (tabF m f), some (tabF m g), none, none]) (M := M) (w := ⟨(pts m).map fun x => .tup [numD (f x), numD (g x)], []⟩) (t := .tp (.cons (.nm 2) (.cons (.nm 3) .nil))) (fun x => .tup [numD (f x), numD (g x)]) (fun x => [some (tabF m f), some (tabF m g), some (numD (f x)), some (numD (g x))]) (fun x => numD (f x * g x)) (fun _ => same_nil) (pts m) (fun x _ => rfl) fun x hx => by
    have c := t_times (hf x hx) (hg x hx) b (k := j + 2) (by omega) M
    simp only [e7_0, evs_cons, evs_nil, ev_var, List.getElem?_cons_succ, List.getElem?_cons_zero, Option.join_some, oR_some, Res.bd_ok, clN2, c]
  rw [← lnD_eq m fun x => f x * g x] at c
  have cm := t_made (m := m) (fun x => f x * g x) (k := j + 2) (by omega) M
  rw [call_def fd_tables2_times_of rfl]
  simp only [F_tables2_times_of, B_tables2_times_of, List.map_cons, List.map_nil, List.replicate, List.cons_append, List.nil_append, xss_cons, xs_ret, e58_0, evs_cons, evs_nil, ev_compF, evi_zip, ev_idx, ev_lit, ev_var, List.getElem?_cons_succ, List.getElem?_cons_zero, Option.join_some, oR_some, Res.bd_ok, idx1, zz, wipeE, List.set_cons_succ, List.set_cons_zero, c, okIw_pos (lnL m hm _), clN1, cm, sR_bd, sq_rt, fin_rt]
theorem t_scaled {s t m : Nat} (hm : m ≤ 4) (a : Rat) (f : List Int → Rat) (ha : Sz t a) (hf : ∀ x ∈ pts m, Sz s (f x)) (b : t + s ≤ 7000) {k : Nat} (hk : 3 ≤ k) (M : Sto) :
    callF T k 61 [numD a, tabF m f] M = .ok (tabF m fun x => a * f x) M := by
  obtain ⟨j, rfl⟩ := Nat.exists_eq_add_of_le' hk
  have c := comp_all (cl := callF T (j + 2)) (e := ev T (callF T (j + 2)) (.call 7 0 (.cons (.var 0) (.cons (.var 2) .nil)) .nil)) (ρ := [some (numD a), some (tabF m f), none]) (M := M) (w := ⟨lnD m f, []⟩) (i := 2) (fun x => numD (f x)) (fun x => numD (a * f x)) (fun _ => same_nil) (pts m) fun x hx => by
    have c := t_times ha (hf x hx) b (k := j + 2) (by omega) M
    simp only [List.set_cons_succ, List.set_cons_zero, e7_0, evs_cons, evs_nil, ev_var, List.getElem?_cons_succ, List.getElem?_cons_zero, Option.join_some, oR_some, Res.bd_ok, clN2, c]
  rw [← lnD_eq m fun x => a * f x, ← lnD_eq m f] at c
  have cm := t_made (m := m) (fun x => a * f x) (k := j + 2) (by omega) M
  rw [call_def fd_tables2_scaled rfl]
  simp only [F_tables2_scaled, B_tables2_scaled, List.map_cons, List.map_nil, List.replicate, List.cons_append, List.nil_append, xss_cons, xs_ret, e58_0, evs_cons, evs_nil, ev_compF, evi_seq, seqR_t, ev_idx, ev_lit, ev_var, List.getElem?_cons_succ, List.getElem?_cons_zero, Option.join_some, oR_some, Res.bd_ok, idx1, wipeE, List.set_cons_succ, List.set_cons_zero, c, okIw_pos (lnL m hm _), clN1, cm, sR_bd, sq_rt, fin_rt]
def bSp : Sts := (.cons (.ex (.mth .append (.var 3) (.cons (.call 52 0 (.cons (.comp false [4] (.nm 4) (.dks (.var 2)) .non (.ite (.call 55 0 (.cons (.var 1) (.cons (.var 4) .nil)) .nil) (.call 6 0 (.cons (.idx (.var 2) (.var 4)) .nil) .nil) (.idx (.var 2) (.var 4)))) .nil) .nil) .nil))) .nil)
theorem keys_dt (m : Nat) (f : List Int → Rat) : keysD (.dt (pts m) (lnD m f)) = some ((pts m).map pD) := rfl
theorem t_tspread {d n m : Nat} (hm : m ≤ 4) (f : List Int → Rat) (hf : ∀ x ∈ pts m, Fr d n (f x)) (hd : 0 < d) (h2 : d < 2 ^ 3000) (h1 : 17 * n < 2 ^ 3000) {k : Nat} (hk : 5 ≤ k) {M : Sto} (hc : Cl M) :
    callF T k 64 [tabF m f] M = .ok (tabF m (W m f)) M := by
  obtain ⟨j, rfl⟩ := Nat.exists_eq_add_of_le' hk
  have p16 := p_le hm
  have cl0 := t_lines hm f (k := j + 4) (by omega) M
  let DT : D := .dt (pts m) (lnD m f)
  have hL : ∀ (l : List (List Int)) (acc : List D) (w : Wk) (z1 z4 : Option D), (∀ N, w.same N) → (∀ p ∈ l, p ∈ pts m) → acc.length + l.length ≤ 16 →
      ∃ z1' z4', forL w (.nm 1) (xss T (callF T (j + 4)) bSp) (l.map pD) [some (tabF m f), z1, some DT, some (.loc M.length), z4] (M ++ [.lst acc]) = .ok .nx [some (tabF m f), z1', some DT, some (.loc M.length), z4'] (M ++ [.lst (acc ++ l.map fun p => numD (W m f p))]) := by
    intro l
    induction l with
    | nil => intro acc w z1 z4 _ _ _; exact ⟨z1, z4, by simp [forL]⟩
    | cons p l ih =>
      intro acc w z1 z4 hw hp hl
      rw [List.length_cons] at hl
      obtain ⟨z1', z4', e⟩ := ih (acc ++ [numD (W m f p)]) w (some (pD p)) z4 hw (fun q hq => hp q (.tail _ hq)) (by simp; omega)
      refine ⟨z1', z4', (forL_nx (ρ1 := [some (tabF m f), some (pD p), some DT, some (.loc M.length), z4]) (ρ2 := [some (tabF m f), some (pD p), some DT, some (.loc M.length), z4]) (M2 := M ++ [.lst (acc ++ [numD (W m f p)])]) rfl ?_ (hw _)).trans ?_⟩
      · have pm := hp p (.head _)
        have c := comp_all (cl := callF T (j + 4)) (e := ev T (callF T (j + 4)) (.ite (.call 55 0 (.cons (.var 1) (.cons (.var 4) .nil)) .nil) (.call 6 0 (.cons (.idx (.var 2) (.var 4)) .nil) .nil) (.idx (.var 2) (.var 4)))) (ρ := [some (tabF m f), some (pD p), some DT, some (.loc M.length), none]) (M := M ++ [.lst acc]) (w := ⟨(pts m).map pD, []⟩) (i := 4) pD (fun x => numD (chi p x * f x)) (fun _ => same_nil) (pts m) fun x hx => by
          have c1 := t_is_odd hm pm hx (k := j + 4) (by omega) (M ++ [.lst acc])
          have c2 := t_minus (f x) (k := j + 4) (by omega) (M ++ [.lst acc])
          have c3 : idx (M ++ [.lst acc]) DT (pD x) = some (numD (f x)) := idx_dt f hx _
          have o := odd_chi p x (f x)
          simp only [List.set_cons_succ, List.set_cons_zero, ev_ite, h55_0, e6_0, ev_idx, evs_cons, evs_nil, ev_var, List.getElem?_cons_succ, List.getElem?_cons_zero, Option.join_some, oR_some, Res.bd_ok, clN2, clN1, c1, c3, tru_bl]
          cases h : (dot p x).sum % 2 == 1 with
          | true =>
            rw [h] at o
            simp only [if_true, c2] at o ⊢
            rw [o]
          | false =>
            rw [h] at o
            simp only [Bool.false_eq_true, if_false] at o ⊢
            rw [← o]
        have tot : callF T (j + 4) 52 [.lst ((pts m).map fun x => numD (chi p x * f x))] (M ++ [.lst acc]) = .ok (numD (W m f p)) (M ++ [.lst acc]) := by
          have c := t_totalF (d := d) (n := n) ((pts m).map fun x => chi p x * f x) (fun y hy => by
            obtain ⟨x, hx, rfl⟩ := List.mem_map.mp hy
            exact (hf x hx).chi p x) hd h2 (Nat.lt_of_le_of_lt (Nat.mul_le_mul_right n (by rw [List.length_map, pts_len]; omega : _ ≤ 17)) h1) (k := j + 4) (by omega) (M ++ [.lst acc])
          rw [List.map_map] at c
          exact c
        simp only [bSp, xss_cons, xss_nil, xs_ex, ev_mth, ev_var, List.getElem?_cons_succ, List.getElem?_cons_zero, Option.join_some, oR_some, Res.bd_ok, recL, if_true, evs_cons, evs_nil, e52_0, ev_compF, evi_dks, DT, keys_dt, optR_some, wipeE, List.set_cons_succ, List.set_cons_zero]
        simp only [DT] at c
        simp only [c, Res.bd_ok, evs_nil, xss_nil, okIw_pos (fewL hm _), clN1, tot, appL (show acc.length < sizeLine by rw [sizeLine_eq]; omega), sR_bd, sq_nx]
      · rw [e, List.map_cons, List.append_assoc]
        rfl
  obtain ⟨z1', z4', e⟩ := hL (pts m) [] ⟨(pts m).map pD, []⟩ none none (fun _ => same_nil) (fun p hp => hp) (by simp; rw [pts_len]; omega)
  rw [List.nil_append, ← lnD_eq m (W m f)] at e
  simp only [bSp, DT] at e
  have cm := t_madeL (m := m) (W m f) (k := j + 4) (by omega) M
  rw [call_def fd_tables2_spread rfl]
  simp only [F_tables2_spread, B_tables2_spread, List.map_cons, List.map_nil, List.replicate, List.cons_append, List.nil_append, xss_cons, xs_asg, ev_tup, e59_0, evs_cons, evs_nil, ev_var, List.getElem?_cons_succ, List.getElem?_cons_zero, Option.join_some, oR_some, Res.bd_ok, clN1, cl0, ev_lstT, okIw_pos few0, okIw_pos (few2 _ _), sR_bd, bindR, bindT, bindTs, List.set_cons_succ, List.set_cons_zero, sq_nx, xs_fr, evi_dks, keys_dt, optR_some, e, xs_ret, e58_0, cm, sq_rt]
  exact trim_app (show (tabF m (W m f)).blw M.length = true from by
    show (true && (blws M.length (lnD m (W m f)) && true)) = true
    rw [show blws M.length (lnD m (W m f)) = true from pu_nums _ _]; rfl) hc
end Sw
end

section
set_option Elab.async false
set_option linter.all false
set_option maxHeartbeats 4000000
/-! tables2: folds, what is asked; spread3 -/
namespace Sw
open PySem L2 Iv Wal
def bFo : Sts := (.cons (.ex (.mth .append (.var 5) (.cons (.call 52 0 (.cons (.comp false [6] (.nm 6) (.dks (.var 3)) .non (.call 7 0 (.cons (.idx (.var 3) (.var 6)) (.cons (.idx (.var 4) (.call 54 0 (.cons (.var 2) (.cons (.var 6) .nil)) .nil)) .nil)) .nil)) .nil) .nil) .nil))) .nil)
theorem t_fold_of {d1 n1 d2 n2 m : Nat} (hm : m ≤ 4) (f g : List Int → Rat) (hf : ∀ x ∈ pts m, Fr d1 n1 (f x)) (hg : ∀ x ∈ pts m, Fr d2 n2 (g x)) (e1 : 0 < d1) (e2 : 0 < d2) (a1 : d1 < 2 ^ 3000) (a2 : d2 < 2 ^ 3000) (b1 : n1 < 2 ^ 3000) (b2 : n2 < 2 ^ 3000) (a3 : d1 * d2 < 2 ^ 3000) (b3 : 17 * (n1 * n2) < 2 ^ 3000)
    {k : Nat} (hk : 5 ≤ k) {M : Sto} (hc : Cl M) : callF T k 63 [tabF m f, tabF m g] M = .ok (tabF m (fo m f g)) M := by
  obtain ⟨j, rfl⟩ := Nat.exists_eq_add_of_le' hk
  have p16 := p_le hm
  have sf : ∀ y ∈ pts m, Sz 3000 (f y) := fun y hy => (hf y hy).sz e1 b1 a1
  have sg : ∀ y ∈ pts m, Sz 3000 (g y) := fun y hy => (hg y hy).sz e2 b2 a2
  have cl0 := t_lines hm f (k := j + 4) (by omega) M
  have cl1 := t_lines hm g (k := j + 4) (by omega) M
  let DT : D := .dt (pts m) (lnD m f)
  let DG : D := .dt (pts m) (lnD m g)
  have hL : ∀ (l : List (List Int)) (acc : List D) (w : Wk) (z2 z6 : Option D), (∀ N, w.same N) → (∀ p ∈ l, p ∈ pts m) → acc.length + l.length ≤ 16 →
      ∃ z2' z6', forL w (.nm 2) (xss T (callF T (j + 4)) bFo) (l.map pD) [some (tabF m f), some (tabF m g), z2, some DT, some DG, some (.loc M.length), z6] (M ++ [.lst acc]) = .ok .nx [some (tabF m f), some (tabF m g), z2', some DT, some DG, some (.loc M.length), z6'] (M ++ [.lst (acc ++ l.map fun p => numD (fo m f g p))]) := by
    intro l
    induction l with
    | nil => intro acc w z2 z6 _ _ _; exact ⟨z2, z6, by simp [forL]⟩
    | cons p l ih =>
      intro acc w z2 z6 hw hp hl
      rw [List.length_cons] at hl
      obtain ⟨z2', z6', e⟩ := ih (acc ++ [numD (fo m f g p)]) w (some (pD p)) z6 hw (fun q hq => hp q (.tail _ hq)) (by simp; omega)
      refine ⟨z2', z6', (forL_nx (ρ1 := [some (tabF m f), some (tabF m g), some (pD p), some DT, some DG, some (.loc M.length), z6]) (ρ2 := [some (tabF m f), some (tabF m g), some (pD p), some DT, some DG, some (.loc M.length), z6]) (M2 := M ++ [.lst (acc ++ [numD (fo m f g p)])]) rfl ?_ (hw _)).trans ?_⟩
      · have pm := hp p (.head _)
        have c := comp_all (cl := callF T (j + 4)) (e := ev T (callF T (j + 4)) (.call 7 0 (.cons (.idx (.var 3) (.var 6)) (.cons (.idx (.var 4) (.call 54 0 (.cons (.var 2) (.cons (.var 6) .nil)) .nil)) .nil)) .nil)) (ρ := [some (tabF m f), some (tabF m g), some (pD p), some DT, some DG, some (.loc M.length), none]) (M := M ++ [.lst acc]) (w := ⟨(pts m).map pD, []⟩) (i := 6) pD (fun x => numD (f x * g (xr p x))) (fun _ => same_nil) (pts m) fun x hx => by
          have c1 := t_added hm pm hx (k := j + 4) (by omega) (M ++ [.lst acc])
          have c2 := t_times (sf x hx) (sg _ (xr_mem pm hx)) (by decide) (k := j + 4) (by omega) (M ++ [.lst acc])
          have c3 : idx (M ++ [.lst acc]) DT (pD x) = some (numD (f x)) := idx_dt f hx _
          have c4 : idx (M ++ [.lst acc]) DG (pD (xr p x)) = some (numD (g (xr p x))) := idx_dt g (xr_mem pm hx) _
          simp only [List.set_cons_succ, List.set_cons_zero, e7_0, e54_0, ev_idx, evs_cons, evs_nil, ev_var, List.getElem?_cons_succ, List.getElem?_cons_zero, Option.join_some, oR_some, Res.bd_ok, clN2, c1, c3, c4, c2]
        have tot : callF T (j + 4) 52 [.lst ((pts m).map fun x => numD (f x * g (xr p x)))] (M ++ [.lst acc]) = .ok (numD (fo m f g p)) (M ++ [.lst acc]) := by
          have c := t_totalF (d := d1 * d2) (n := n1 * n2) ((pts m).map fun x => f x * g (xr p x)) (fun y hy => by
            obtain ⟨x, hx, rfl⟩ := List.mem_map.mp hy
            exact (hf x hx).mul (hg _ (xr_mem pm hx))) (Nat.mul_pos e1 e2) a3 (Nat.lt_of_le_of_lt (Nat.mul_le_mul_right _ (by rw [List.length_map, pts_len]; omega : _ ≤ 17)) b3) (k := j + 4) (by omega) (M ++ [.lst acc])
          rw [List.map_map] at c
          exact c
        simp only [bFo, xss_cons, xss_nil, xs_ex, ev_mth, ev_var, List.getElem?_cons_succ, List.getElem?_cons_zero, Option.join_some, oR_some, Res.bd_ok, recL, if_true, evs_cons, evs_nil, e52_0, ev_compF, evi_dks, DT, DG, keys_dt, optR_some, wipeE, List.set_cons_succ, List.set_cons_zero]
        simp only [DT, DG] at c
        simp only [c, Res.bd_ok, evs_nil, xss_nil, okIw_pos (fewL hm _), clN1, tot, appL (show acc.length < sizeLine by rw [sizeLine_eq]; omega), sR_bd, sq_nx]
      · rw [e, List.map_cons, List.append_assoc]
        rfl
  obtain ⟨z2', z6', e⟩ := hL (pts m) [] ⟨(pts m).map pD, []⟩ none none (fun _ => same_nil) (fun p hp => hp) (by simp; rw [pts_len]; omega)
  rw [List.nil_append, ← lnD_eq m (fo m f g)] at e
  simp only [bFo, DT, DG] at e
  have cm := t_madeL (m := m) (fo m f g) (k := j + 4) (by omega) M
  rw [call_def fd_tables2_fold_of rfl]
  simp only [F_tables2_fold_of, B_tables2_fold_of, List.map_cons, List.map_nil, List.replicate, List.cons_append, List.nil_append, xss_cons, xs_asg, ev_tup, e59_0, evs_cons, evs_nil, ev_var, List.getElem?_cons_succ, List.getElem?_cons_zero, Option.join_some, oR_some, Res.bd_ok, clN1, cl0, cl1, ev_lstT, okIw_pos few0, okIw_pos (few3 _ _ _), sR_bd, bindR, bindT, bindTs, List.set_cons_succ, List.set_cons_zero, sq_nx, xs_fr, evi_dks, keys_dt, optR_some, e, xs_ret, e58_0, cm, sq_rt]
  exact trim_app (show (tabF m (fo m f g)).blw M.length = true from by
    show (true && (blws M.length (lnD m (fo m f g)) && true)) = true
    rw [show blws M.length (lnD m (fo m f g)) = true from pu_nums _ _]; rfl) hc
/-! what is asked -/
theorem t_plus_tables {s t m : Nat} (hm : m ≤ 4) (f g : List Int → Rat) (hf : ∀ x ∈ pts m, Sz s (f x)) (hg : ∀ x ∈ pts m, Sz t (g x)) (b : s + t ≤ 7000) {k : Nat} (hk : 6 ≤ k) (M : Sto) :
    callF T k 65 [tabF m f, tabF m g] M = .ok (tabF m fun x => f x + g x) M := by
  obtain ⟨j, rfl⟩ := Nat.exists_eq_add_of_le' hk
  have c1 := t_need_alike hm f g (k := j + 5) (by omega) M
  have c2 := t_summed hm f g hf hg b (k := j + 5) (by omega) M
  rw [call_def fd_tables2_plus_tables rfl]
  simp only [F_tables2_plus_tables, B_tables2_plus_tables, List.map_cons, List.map_nil, List.replicate, List.cons_append, List.nil_append, xss_cons, xs_ex, e57_0, evs_cons, evs_nil, ev_var, List.getElem?_cons_succ, List.getElem?_cons_zero, Option.join_some, oR_some, Res.bd_ok, clN2, c1, sR_bd, sq_nx, xs_ret, e60_0, c2, sq_rt, fin_rt]
theorem t_times_tables {s t m : Nat} (hm : m ≤ 4) (f g : List Int → Rat) (hf : ∀ x ∈ pts m, Sz s (f x)) (hg : ∀ x ∈ pts m, Sz t (g x)) (b : s + t ≤ 7000) {k : Nat} (hk : 6 ≤ k) (M : Sto) :
    callF T k 66 [tabF m f, tabF m g] M = .ok (tabF m fun x => f x * g x) M := by
  obtain ⟨j, rfl⟩ := Nat.exists_eq_add_of_le' hk
  have c1 := t_need_alike hm f g (k := j + 5) (by omega) M
  have c2 := t_times_of hm f g hf hg b (k := j + 5) (by omega) M
  rw [call_def fd_tables2_times_tables rfl]
  simp only [F_tables2_times_tables, B_tables2_times_tables, List.map_cons, List.map_nil, List.replicate, List.cons_append, List.nil_append, xss_cons, xs_ex, e57_0, evs_cons, evs_nil, ev_var, List.getElem?_cons_succ, List.getElem?_cons_zero, Option.join_some, oR_some, Res.bd_ok, clN2, c1, sR_bd, sq_nx, xs_ret, e62_0, c2, sq_rt, fin_rt]
theorem t_fold_tables {d1 n1 d2 n2 m : Nat} (hm : m ≤ 4) (f g : List Int → Rat) (hf : ∀ x ∈ pts m, Fr d1 n1 (f x)) (hg : ∀ x ∈ pts m, Fr d2 n2 (g x)) (e1 : 0 < d1) (e2 : 0 < d2) (a1 : d1 < 2 ^ 3000) (a2 : d2 < 2 ^ 3000) (b1 : n1 < 2 ^ 3000) (b2 : n2 < 2 ^ 3000) (a3 : d1 * d2 < 2 ^ 3000) (b3 : 17 * (n1 * n2) < 2 ^ 3000)
    {k : Nat} (hk : 6 ≤ k) {M : Sto} (hc : Cl M) : callF T k 67 [tabF m f, tabF m g] M = .ok (tabF m (fo m f g)) M := by
  obtain ⟨j, rfl⟩ := Nat.exists_eq_add_of_le' hk
  have c1 := t_need_alike hm f g (k := j + 5) (by omega) M
  have c2 := t_fold_of hm f g hf hg e1 e2 a1 a2 b1 b2 a3 b3 (k := j + 5) (by omega) hc
  rw [call_def fd_tables2_fold_tables rfl]
  simp only [F_tables2_fold_tables, B_tables2_fold_tables, List.map_cons, List.map_nil, List.replicate, List.cons_append, List.nil_append, xss_cons, xs_ex, e57_0, evs_cons, evs_nil, ev_var, List.getElem?_cons_succ, List.getElem?_cons_zero, Option.join_some, oR_some, Res.bd_ok, clN2, c1, sR_bd, sq_nx, xs_ret, e63_0, c2, sq_rt, fin_rt]
theorem t_scaled_table {s t m : Nat} (hm : m ≤ 4) (a : Rat) (f : List Int → Rat) (ha : Sz t a) (hf : ∀ x ∈ pts m, Sz s (f x)) (b : t + s ≤ 7000) {k : Nat} (hk : 5 ≤ k) (M : Sto) :
    callF T k 68 [numD a, tabF m f] M = .ok (tabF m fun x => a * f x) M := by
  obtain ⟨j, rfl⟩ := Nat.exists_eq_add_of_le' hk
  have c1 := t_need_any hm f (k := j + 4) (by omega) M
  have c2 := t_is_number a (k := j + 4) (by omega) M
  have c3 := t_scaled hm a f ha hf b (k := j + 4) (by omega) M
  rw [call_def fd_tables2_scaled_table rfl]
  simp only [F_tables2_scaled_table, B_tables2_scaled_table, List.map_cons, List.map_nil, List.replicate, List.cons_append, List.nil_append, xss_cons, xss_nil, xs_ex, e56_0, evs_cons, evs_nil, ev_var, List.getElem?_cons_succ, List.getElem?_cons_zero, Option.join_some, oR_some, Res.bd_ok, clN1, c1, sR_bd, sq_nx, xs_iff, evt_nt, h4_0, c2, tru_bl, Bool.not_true, Bool.false_eq_true, if_false, xs_ret, e61_0, clN2, c3, sq_rt, fin_rt]
theorem t_spread_table {d n m : Nat} (hm : m ≤ 4) (f : List Int → Rat) (hf : ∀ x ∈ pts m, Fr d n (f x)) (hd : 0 < d) (h2 : d < 2 ^ 3000) (h1 : 17 * n < 2 ^ 3000) {k : Nat} (hk : 6 ≤ k) {M : Sto} (hc : Cl M) :
    callF T k 69 [tabF m f] M = .ok (tabF m (W m f)) M := by
  obtain ⟨j, rfl⟩ := Nat.exists_eq_add_of_le' hk
  have c1 := t_need_any hm f (k := j + 5) (by omega) M
  have c3 := t_tspread hm f hf hd h2 h1 (k := j + 5) (by omega) hc
  rw [call_def fd_tables2_spread_table rfl]
  simp only [F_tables2_spread_table, B_tables2_spread_table, List.map_cons, List.map_nil, List.replicate, List.cons_append, List.nil_append, xss_cons, xss_nil, xs_ex, e56_0, evs_cons, evs_nil, ev_var, List.getElem?_cons_succ, List.getElem?_cons_zero, Option.join_some, oR_some, Res.bd_ok, clN1, c1, sR_bd, sq_nx, xs_ret, e64_0, c3, sq_rt, fin_rt]
/-! spread3 -/
theorem t_sp3 {d n m : Nat} (hm : m ≤ 4) (f : List Int → Rat) (hf : ∀ x ∈ pts m, Fr d n (f x)) (hd : 0 < d) (h2 : d < 2 ^ 3000) (h1 : 16 * n < 2 ^ 3000) {k : Nat} (hk : 6 ≤ k) {M : Sto} (hc : Cl M) :
    callF T k 15 [tabF m f] M = .ok (tabF m (W m f)) M := by
  obtain ⟨j, rfl⟩ := Nat.exists_eq_add_of_le' hk
  have c1 := t_spread_line hm hf hd h2 h1 true (k := j + 5) (by omega) hc
  simp only [if_true] at c1
  have c2 := t_many_of ((pts m).map f) hm (ln_len m f) (k := j + 5) (by omega) M
  rw [← tabF_D] at c2
  rw [call_def fd_spread3_spread rfl]
  simp only [F_spread3_spread, B_spread3_spread, List.map_cons, List.map_nil, List.replicate, List.cons_append, List.nil_append, xss_cons, xs_ex, e12_0, evs_cons, evs_nil, ev_var, List.getElem?_cons_zero, Option.join_some, oR_some, Res.bd_ok, clN1, c2, sR_bd, sq_nx, xs_ret, ev_tup, ev_lit, ev_bltF, e13_0, ev_idx, idx1, c1, t_tupL, okIw_pos (few2 _ _), sq_rt, fin_rt]
  rfl
theorem t_un3 {d n m : Nat} (hm : m ≤ 4) (f : List Int → Rat) (hf : ∀ x ∈ pts m, Fr d n (f x)) (hd : 0 < d) (h2 : d < 2 ^ 2000) (h1 : 16 * n < 2 ^ 2000) {k : Nat} (hk : 6 ≤ k) {M : Sto} (hc : Cl M) :
    callF T k 16 [tabF m f] M = .ok (tabF m (U m f)) M := by
  obtain ⟨j, rfl⟩ := Nat.exists_eq_add_of_le' hk
  have c1 := t_parted_line hm hf hd h2 h1 true (k := j + 5) (by omega) hc
  simp only [if_true] at c1
  have c2 := t_many_of ((pts m).map f) hm (ln_len m f) (k := j + 5) (by omega) M
  rw [← tabF_D] at c2
  rw [call_def fd_spread3_unspread rfl]
  simp only [F_spread3_unspread, B_spread3_unspread, List.map_cons, List.map_nil, List.replicate, List.cons_append, List.nil_append, xss_cons, xs_ex, e12_0, evs_cons, evs_nil, ev_var, List.getElem?_cons_zero, Option.join_some, oR_some, Res.bd_ok, clN1, c2, sR_bd, sq_nx, xs_ret, ev_tup, ev_lit, ev_bltF, e14_0, ev_idx, idx1, c1, t_tupL, okIw_pos (few2 _ _), sq_rt, fin_rt]
  rfl
end Sw
end

section
set_option Elab.async false
set_option linter.all false
set_option maxHeartbeats 4000000
/-! law k52: a turn -/
namespace Sw
open PySem L2 Iv Wal
theorem lt100 {n : Nat} (h : n < 2 ^ 30) : n < 2 ^ 100 := Nat.lt_of_lt_of_le h (Nat.pow_le_pow_right (by decide) (by decide))
theorem lt2000 {n : Nat} (h : n < 2 ^ 30) : n < 2 ^ 2000 := Nat.lt_of_lt_of_le h (Nat.pow_le_pow_right (by decide) (by decide))
theorem lt3000 {n : Nat} (h : n < 2 ^ 30) : n < 2 ^ 3000 := Nat.lt_of_lt_of_le h (Nat.pow_le_pow_right (by decide) (by decide))
theorem fr_up {d n : Nat} {x : Rat} (h : Fr d n x) (e : Nat) : Fr (d * e) (n * e) x := by
  have h1 : Fr e e 1 := ⟨(e : Int), by rw [Rat.one_mul]; exact (Rat.intCast_natCast e).symm, by simp⟩
  have := h.mul h1
  rwa [Rat.mul_one] at this
theorem fr100 {d n : Nat} {x : Rat} (h : Fr d n x) (hd : 0 < d) (h1 : n < 2 ^ 30) (h2 : d < 2 ^ 30) : Sz 100 x := h.sz hd (lt100 h1) (lt100 h2)
theorem fr_fo {d1 n1 d2 n2 m : Nat} {f g : List Int → Rat} (hf : ∀ x ∈ pts m, Fr d1 n1 (f x)) (hg : ∀ x ∈ pts m, Fr d2 n2 (g x)) : ∀ x ∈ pts m, Fr (d1 * d2) (2 ^ m * (n1 * n2)) (fo m f g x) := fun x hx =>
  Fr.S fun y hy => (hf y hy).mul (hg _ (xr_mem hx hy))
theorem tabF_congr {m : Nat} {f g : List Int → Rat} (h : ∀ x ∈ pts m, f x = g x) : tabF m f = tabF m g := by
  unfold tabF
  rw [lnD_congr h]
/-- products spread, folds -/
theorem prod_fo {m : Nat} (f g : List Int → Rat) : ∀ x ∈ pts m, wd m * W m (fun x => f x * g x) x = fo m (W m f) (W m g) x := W_inj (m := m) fun s hs => by
  rw [W_mul, WW m _ s hs, W_fo m _ _ s hs, WW m f s hs, WW m g s hs]
  grind
theorem un_fo {m : Nat} (f g : List Int → Rat) : ∀ x ∈ pts m, U m (fun s => W m f s * W m g s) x = fo m f g x := fun x hx => by
  have e : U m (fun s => W m f s * W m g s) x = U m (W m (fo m f g)) x := by
    unfold U
    rw [W_congr fun s hs => (W_fo m f g s hs).symm]
  rw [e, UW m _ x hx]
theorem is_tab {m : Nat} (hm : m ≤ 4) {a : List Int → Rat} (ha : ∀ x ∈ pts m, Sz 100 (a x)) {k : Nat} (hk : 5 ≤ k) (M : Sto) : callF T k 23 [tabF m a, tabF m a] M = .ok (.bl true) M := by
  have p16 := p_le hm
  exact t_is (s := 100) (j := 3) M (tab_gd ha 0) (by decide) (by decide) (by decide) (by rw [tab_bulk]; omega) hk
theorem is_tab2 {m : Nat} (hm : m ≤ 4) {a b : List Int → Rat} (ha : ∀ x ∈ pts m, Sz 100 (a x)) (hb : ∀ x ∈ pts m, Sz 100 (b x)) {k : Nat} (hk : 6 ≤ k) (M : Sto) : callF T k 23 [.lst [tabF m a, tabF m b], .lst [tabF m a, tabF m b]] M = .ok (.bl true) M := by
  have p16 := p_le hm
  refine t_is (s := 100) (j := 4) M ?_ (by decide) (by decide) (by decide) ?_ hk
  · simp only [D.gd, gds, and_true]
    exact ⟨tab_gd ha 0, tab_gd hb 0⟩
  · rw [bulk_lst, bulk_cons, bulk_cons, bulk_nil, tab_bulk, tab_bulk]
    omega
def bLaw : Sts := match B_l_law with
  | .cons _ (.cons _ (.cons _ (.cons (.fr _ _ b) _))) => b
  | _ => .nil
theorem wd_D (m : Nat) : D.tup [.int ((2 ^ m : Nat) : Int), .int 1] = numD (wd m) := by
  unfold numD wd
  have e : ((2 ^ m : Nat) : Rat) = (((2 ^ m : Nat) : Int) : Rat) := (Rat.intCast_natCast _).symm
  rw [e, Rat.num_intCast, Rat.den_intCast]
  rfl
theorem wd_sz {m : Nat} (hm : m ≤ 4) : Sz 100 (wd m) := by
  have p16 := p_le hm
  refine fr100 (d := 1) (n := 16) ⟨((2 ^ m : Nat) : Int), ?_, ?_⟩ (by decide) (by decide) (by decide)
  · have : wd m = (((2 ^ m : Nat) : Int) : Rat) := (Rat.intCast_natCast _).symm
    rw [this]
    simp
  · rw [Int.natAbs_natCast]; exact p16
theorem turn_k52 (q0 q2 : Option D) (g cs : List Int) (r t : Int) (ht : 0 ≤ t) (ht2 : t < 2 ^ 18) {k : Nat} (hk : 10 ≤ k) (z3 z4 z5 z6 z7 z8 z9 z10 : Option D) :
    ∃ (g' : List Int) (r' t' : Int) (y3 y4 y5 y6 y7 y8 y9 y10 : Option D), xss T (callF T k) bLaw [q0, some (.loc 1), q2, z3, z4, z5, z6, z7, z8, z9, z10] (St0 g cs r t) = .ok .nx [q0, some (.loc 1), q2, y3, y4, y5, y6, y7, y8, y9, y10] (St0 g' cs r' t') ∧ 0 ≤ t' ∧ t' ≤ t + 100 := by
  obtain ⟨v, g1, r1, t1, e1, v0, v1, h1, h2⟩ := t_draw g cs r t 5 ht (by omega) (by decide) (by decide) (k := k) (by omega)
  obtain ⟨m, rfl⟩ := Int.eq_ofNat_of_zero_le v0
  have hm : m ≤ 4 := by omega
  obtain ⟨f, g2, r2, t2, e2, hf, h3, h4⟩ := t_some_line m hm g1 cs r1 t1 h1 (by omega) (k := k) (by omega)
  obtain ⟨f2, g3, r3, t3, e3, hf2, h5, h6⟩ := t_holed m hm g2 cs r2 t2 h3 (by omega) (k := k) (by omega)
  obtain ⟨a, g4, r4, t4, e4, ha, h7, h8⟩ := t_some_number 4 (by decide) g3 cs r3 t3 h5 (by omega) (k := k) (by omega)
  have p16 := p_le hm
  have p1 := Nat.two_pow_pos m
  have hg : ∀ x ∈ pts m, Fr (2 ^ m * 6) (2 ^ m * 18) (U m f2 x) := fun x hx => Fr.U hf2 x
  have hWg : ∀ x ∈ pts m, Fr 6 18 (W m (U m f2) x) := fun x hx => by rw [WU m f2 x hx]; exact hf2 x hx
  generalize hu : U m f2 = u at e3 hg hWg
  have hWf : ∀ s ∈ pts m, Fr 6 (2 ^ m * 18) (W m f s) := fun s hs => Fr.W hf s
  have hfu : ∀ x ∈ pts m, Fr (6 * (2 ^ m * 6)) (2 ^ m * (18 * (2 ^ m * 18))) (fo m f u x) := fr_fo hf hg
  have bfu : 2 ^ m * (18 * (2 ^ m * 18)) ≤ 16 * (18 * (16 * 18)) := Nat.mul_le_mul p16 (Nat.mul_le_mul_left _ (Nat.mul_le_mul_right _ p16))
  have hpr : ∀ x ∈ pts m, Fr (6 * (2 ^ m * 6)) (18 * (2 ^ m * 18)) (f x * u x) := fun x hx => (hf x hx).mul (hg x hx)
  have hWp : ∀ x ∈ pts m, Fr (6 * (2 ^ m * 6)) (2 ^ m * (18 * (2 ^ m * 18))) (W m (fun x => f x * u x) x) := fun x hx => Fr.W hpr x
  have hpW : ∀ x ∈ pts m, Fr (6 * 6) (2 ^ m * 18 * 18) (W m f x * W m u x) := fun x hx => (hWf x hx).mul (hWg x hx)
  have sf : ∀ x ∈ pts m, Sz 100 (f x) := fun x hx => fr100 (hf x hx) (by omega) (by omega) (by omega)
  have su : ∀ x ∈ pts m, Sz 100 (u x) := fun x hx => fr100 (hg x hx) (by omega) (by omega) (by omega)
  have sWf : ∀ x ∈ pts m, Sz 100 (W m f x) := fun x hx => fr100 (hWf x hx) (by omega) (by omega) (by omega)
  have sWu : ∀ x ∈ pts m, Sz 100 (W m u x) := fun x hx => fr100 (hWg x hx) (by omega) (by omega) (by omega)
  have sfu : ∀ x ∈ pts m, Sz 100 (fo m f u x) := fun x hx => fr100 (hfu x hx) (by omega) (by omega) (by omega)
  have spW : ∀ x ∈ pts m, Sz 100 (W m f x * W m u x) := fun x hx => fr100 (hpW x hx) (by omega) (by omega) (by omega)
  have sWp : ∀ x ∈ pts m, Sz 100 (W m (fun x => f x * u x) x) := fun x hx => fr100 (hWp x hx) (by omega) (by omega) (by omega)
  have sWW : ∀ x ∈ pts m, Sz 100 (fo m (W m f) (W m u) x) := fun x hx => fr100 (fr_fo hWf hWg x hx) (by omega) (by
    have : 2 ^ m * (2 ^ m * 18 * 18) ≤ 16 * (16 * 18 * 18) := Nat.mul_le_mul p16 (Nat.mul_le_mul_right _ (Nat.mul_le_mul_right _ p16))
    omega) (by omega)
  have sa : Sz 100 a := fr100 ha (by omega) (by omega) (by omega)
  have hau : ∀ x ∈ pts m, Fr (6 * (2 ^ m * 6)) (6 * 4 * (2 ^ m * 18)) (a * u x) := fun x hx => ha.mul (hg x hx)
  have sau : ∀ x ∈ pts m, Sz 100 (a * u x) := fun x hx => fr100 (hau x hx) (by omega) (by omega) (by omega)
  have hs : ∀ x ∈ pts m, Fr (6 * (2 ^ m * 6)) (18 * (2 ^ m * 6) + 6 * 4 * (2 ^ m * 18)) (f x + a * u x) := fun x hx => (fr_up (hf x hx) (2 ^ m * 6)).add (hau x hx)
  have haW : ∀ x ∈ pts m, Fr (6 * 6) (6 * 4 * 18) (a * W m u x) := fun x hx => ha.mul (hWg x hx)
  have saW : ∀ x ∈ pts m, Sz 100 (a * W m u x) := fun x hx => fr100 (haW x hx) (by omega) (by omega) (by omega)
  have sWs : ∀ x ∈ pts m, Sz 100 (W m (fun x => f x + a * u x) x) := fun x hx => fr100 (Fr.W hs x) (by omega) (by
    have : 2 ^ m * (18 * (2 ^ m * 6) + 6 * 4 * (2 ^ m * 18)) ≤ 16 * (18 * (16 * 6) + 6 * 4 * (16 * 18)) := Nat.mul_le_mul p16 (by omega)
    omega) (by omega)
  have c3 : Cl (St0 g3 cs r3 t3) := cl_st _ _ _ _
  have c4 : Cl (St0 g4 cs r4 t4) := cl_st _ _ _ _
  have hT : ∀ f : List Int → Rat, D.tup [.str "table", .tup (lnD m f)] = tabF m f := fun _ => rfl
  generalize hM : St0 g3 cs r3 t3 = M at e3 e4 c3
  generalize hN : St0 g4 cs r4 t4 = N at e4 c4
  have e4 : callF T k 29 [.loc 1, .int 4] M = .ok (numD a) N := e4
  have cw := t_wide m hm (k := k) (by omega) M
  have a1 := t_spread_table hm f hf (by omega) (lt3000 (by omega)) (lt3000 (by omega)) (k := k) (by omega) c3
  have a2 := t_sp3 hm u hg (by omega) (lt3000 (by omega)) (lt3000 (by omega)) (k := k) (by omega) c3
  have a3 := t_sp3 hm f hf (by omega) (lt3000 (by omega)) (lt3000 (by omega)) (k := k) (by omega) c3
  have a4 := t_spread_table hm u hg (by omega) (lt3000 (by omega)) (lt3000 (by omega)) (k := k) (by omega) c3
  have i1 := is_tab2 hm sWf sWu (k := k) (by omega) M
  have fd : callF T k 48 [.int m, .tup (lnD m f), .tup (lnD m u)] M = .ok (.lst (lnD m (fo m f u))) M := t_folded hm f u hf hg (by omega) (by omega) (lt3000 (by omega)) (lt3000 (by omega)) (lt3000 (by omega)) (lt3000 (by omega)) (lt3000 (by omega)) (lt3000 (by omega)) (k := k) (by omega) M
  have b1 := t_fold_tables hm f u hf hg (by omega) (by omega) (lt3000 (by omega)) (lt3000 (by omega)) (lt3000 (by omega)) (lt3000 (by omega)) (lt3000 (by omega)) (lt3000 (by omega)) (k := k) (by omega) c3
  have b2 := t_sp3 hm (fo m f u) hfu (by omega) (lt3000 (by omega)) (lt3000 (by omega)) (k := k) (by omega) c3
  rw [tabF_congr fun s hs => W_fo m f u s hs] at b2
  have b3 := t_times_tables hm (W m f) (W m u) sWf sWu (by decide) (k := k) (by omega) M
  have i2 := is_tab2 hm sfu spW (k := k) (by omega) M
  have d1 := t_times_tables hm f u sf su (by decide) (k := k) (by omega) M
  have d2 := t_sp3 hm (fun x => f x * u x) hpr (by omega) (lt3000 (by omega)) (lt3000 (by omega)) (k := k) (by omega) c3
  have d3 := t_scaled_table hm (wd m) (W m fun x => f x * u x) (wd_sz hm) sWp (by decide) (k := k) (by omega) M
  rw [tabF_congr (prod_fo f u)] at d3
  have d4 := t_fold_tables hm (W m f) (W m u) hWf hWg (by omega) (by omega) (lt3000 (by omega)) (lt3000 (by omega)) (lt3000 (by omega)) (lt3000 (by omega)) (lt3000 (by omega)) (lt3000 (by omega)) (k := k) (by omega) c3
  have i3 := is_tab hm sWW (k := k) (by omega) M
  have d5 := t_un3 hm (fun s => W m f s * W m u s) hpW (by omega) (lt2000 (by omega)) (lt2000 (by omega)) (k := k) (by omega) c3
  rw [tabF_congr (un_fo f u)] at d5
  have i4 := is_tab hm sfu (k := k) (by omega) M
  have j1 := t_scaled_table hm a u sa su (by decide) (k := k) (by omega) N
  have j2 := t_plus_tables hm f (fun x => a * u x) sf sau (by decide) (k := k) (by omega) N
  have j3 := t_sp3 hm (fun x => f x + a * u x) hs (by omega) (lt3000 (by omega)) (lt3000 (by omega)) (k := k) (by omega) c4
  have j4 := t_sp3 hm f hf (by omega) (lt3000 (by omega)) (lt3000 (by omega)) (k := k) (by omega) c4
  have j5 := t_sp3 hm u hg (by omega) (lt3000 (by omega)) (lt3000 (by omega)) (k := k) (by omega) c4
  have j6 := t_scaled_table hm a (W m u) sa sWu (by decide) (k := k) (by omega) N
  have j7 := t_plus_tables hm (W m f) (fun x => a * W m u x) sWf saW (by decide) (k := k) (by omega) N
  have lin : ∀ s ∈ pts m, W m (fun x => f x + a * u x) s = W m f s + a * W m u s := fun s _ => by rw [W_add, W_mul]
  rw [← tabF_congr lin] at j7
  have i5 := is_tab hm sWs (k := k) (by omega) N
  refine ⟨g4, r4, t4, some (tabF m f), some (tabF m u), some (.int m), some (.lst [.tup (lnD m f), .tup (lnD m u)]), some (tabF m (fo m f u)), some (tabF m fun x => f x * u x), some (numD a), some (numD (wd m)), ?_, h7, by omega⟩
  have at0 : ∀ x y : D, atI [x, y] 0 = some x := atI0
  have at1 : ∀ x y : D, atI [x, y] 1 = some y := atI1
  simp only [bLaw, B_l_law, xss_cons, xs_asg, e20_0, evs_cons, evs_nil, ev_var, ev_lit, List.getElem?_cons_succ, List.getElem?_cons_zero, Option.join_some, oR_some, Res.bd_ok, clN2, e1, sR_bd, bindR_nm, sq_nx, List.set_cons_succ, List.set_cons_zero, ev_lstF, e34_0, e2, e49_0, hu, e3, okIw_pos (few2 _ _), hM]
  simp only [xs_par3, ev_tup, evs_cons, evs_nil, ev_lit, ev_idx, ev_var, e31_0, List.getElem?_cons_succ, List.getElem?_cons_zero, Option.join_some, oR_some, Res.bd_ok, i_lst, at0, at1, okIw_pos (few2 _ _), clN1, cw, hT, wd_D, sR_bd, List.set_cons_succ, List.set_cons_zero, sq_nx, xss_cons]
  simp only [xs_iff, evt_nt, h23_0, evs_cons, evs_nil, ev_lstF, e69_0, e15_0, ev_var, List.getElem?_cons_succ, List.getElem?_cons_zero, Option.join_some, oR_some, Res.bd_ok, clN1, a1, a2, a3, a4, okIw_pos (few2 _ _), clN2, i1, tru_bl, Bool.not_true, Bool.false_eq_true, if_false, sR_bd, xss_nil, sq_nx, xss_cons]
  simp only [xs_asg, ev_tup, evs_cons, evs_nil, ev_lit, ev_bltF, e48_0, ev_idx, ev_var, List.getElem?_cons_succ, List.getElem?_cons_zero, Option.join_some, oR_some, Res.bd_ok, i_lst, at0, at1, clN3, fd, t_tupL, okIw_pos (few2 _ _), hT, sR_bd, bindR_nm, List.set_cons_succ, List.set_cons_zero, sq_nx, xss_cons]
  simp only [xs_iff, evt_nt, h23_0, evs_cons, evs_nil, ev_lstF, e67_0, e66_0, e15_0, ev_var, List.getElem?_cons_succ, List.getElem?_cons_zero, Option.join_some, oR_some, Res.bd_ok, clN1, clN2, a2, a3, b1, b2, b3, okIw_pos (few2 _ _), i2, tru_bl, Bool.not_true, Bool.false_eq_true, if_false, sR_bd, xss_nil, sq_nx, xss_cons]
  simp only [xs_asg, e66_0, evs_cons, evs_nil, ev_var, List.getElem?_cons_succ, List.getElem?_cons_zero, Option.join_some, oR_some, Res.bd_ok, clN2, d1, sR_bd, bindR_nm, List.set_cons_succ, List.set_cons_zero, sq_nx, xss_cons]
  simp only [xs_iff, evt_disj, evt_nt, h23_0, evs_cons, evs_nil, e68_0, e67_0, e66_0, e15_0, e16_0, ev_var, List.getElem?_cons_succ, List.getElem?_cons_zero, Option.join_some, oR_some, Res.bd_ok, clN1, clN2, a2, a3, b3, d2, d3, d4, d5, i3, i4, tru_bl, Bool.not_true, Bool.false_eq_true, if_false, sR_bd, xss_nil, sq_nx, xss_cons]
  simp only [xs_asg, e29_0, evs_cons, evs_nil, ev_var, ev_lit, List.getElem?_cons_succ, List.getElem?_cons_zero, Option.join_some, oR_some, Res.bd_ok, clN2, e4, sR_bd, bindR_nm, List.set_cons_succ, List.set_cons_zero, sq_nx, xss_cons]
  simp only [xs_iff, evt_nt, h23_0, evs_cons, evs_nil, e65_0, e68_0, e15_0, ev_var, List.getElem?_cons_succ, List.getElem?_cons_zero, Option.join_some, oR_some, Res.bd_ok, clN1, clN2, j1, j2, j3, j4, j5, j6, j7, i5, tru_bl, Bool.not_true, Bool.false_eq_true, if_false, sR_bd, xss_nil, sq_nx, xss_cons, hN]
end Sw
end

section
set_option Elab.async false
set_option linter.all false
set_option maxHeartbeats 4000000
/-! law k52: the law -/
namespace Sw
open PySem L2 Iv Wal
theorem loop_k52 (q0 : Option D) (cs : List Int) {k : Nat} (hk : 10 ≤ k) : ∀ (n : Nat) (ds : List D), ds.length = n → ∀ (w : Wk) (g : List Int) (r t : Int) (z2 z3 z4 z5 z6 z7 z8 z9 z10 : Option D), (∀ N, w.same N) → 0 ≤ t → t + 100 * n < 2 ^ 17 →
    ∃ ρ' M', forL w (.nm 2) (xss T (callF T k) bLaw) ds [q0, some (.loc 1), z2, z3, z4, z5, z6, z7, z8, z9, z10] (St0 g cs r t) = .ok .nx ρ' M' := by
  intro n
  induction n with
  | zero =>
    intro ds hl w g r t z2 z3 z4 z5 z6 z7 z8 z9 z10 hw h0 h1
    obtain rfl := List.length_eq_zero_iff.mp hl
    exact ⟨_, _, rfl⟩
  | succ n ih =>
    intro ds hl w g r t z2 z3 z4 z5 z6 z7 z8 z9 z10 hw h0 h1
    match ds, hl with
    | d :: ds, hl =>
      obtain ⟨g', r', t', y3, y4, y5, y6, y7, y8, y9, y10, e, a, b⟩ := turn_k52 q0 (some d) g cs r t h0 (by omega) hk z3 z4 z5 z6 z7 z8 z9 z10
      obtain ⟨ρ', M', e'⟩ := ih ds (by simpa using hl) w g' r' t' (some d) y3 y4 y5 y6 y7 y8 y9 y10 hw a (by omega)
      exact ⟨ρ', M', (forL_nx (ρ1 := [q0, some (.loc 1), some d, z3, z4, z5, z6, z7, z8, z9, z10]) rfl e (hw _)).trans e'⟩
def fA (p : List Int) : Rat := if p = [0] then 1 else 2
def fB (p : List Int) : Rat := if p = [0] then 3 else -1
def fC (p : List Int) : Rat := if p = [0] then 1 else 5
def fE (p : List Int) : Rat := if p = [0] then 6 else -4
theorem law_ok (ns : List Int) (h : ns.length ≤ 63) (hb : ∀ z ∈ ns, Builtin.Int.intBits z ≤ 1048576) : ∃ M, callF T 40 35 [.frl (ns.map .int)] [] = .ok (.bl true) M := by
  have e0 := t_begun ns h (k := 39) (by omega)
  generalize hg : greatOf ns = g at e0
  generalize hcs : ns.map absI = cs at e0
  have hc : Cl (St0 g cs 0 0) := cl_st _ _ _ _
  have f1 : ∀ x ∈ pts 1, Fr 1 2 (fA x) := fun x hx => by
    unfold fA
    split
    · exact (Fr.int 1).mono (by decide)
    · exact (Fr.int 2)
  have f2 : ∀ x ∈ pts 1, Fr 1 3 (fB x) := fun x hx => by
    unfold fB
    split
    · exact (Fr.int 3)
    · exact (Fr.int (-1)).mono (by decide)
  have w1 : ∀ x ∈ pts 1, Fr 1 (2 ^ 1 * 2) (W 1 fA x) := fun x hx => Fr.W f1 x
  have w2 : ∀ x ∈ pts 1, Fr 1 (2 ^ 1 * 3) (W 1 fB x) := fun x hx => Fr.W f2 x
  have s1 : ∀ x ∈ pts 1, Sz 100 (W 1 fA x) := fun x hx => fr100 (w1 x hx) (by decide) (by decide) (by decide)
  have s2 : ∀ x ∈ pts 1, Sz 100 (W 1 fB x) := fun x hx => fr100 (w2 x hx) (by decide) (by decide) (by decide)
  have c1 := t_fold_tables (m := 1) (by decide) fA fB f1 f2 (by decide) (by decide) (lt3000 (by decide)) (lt3000 (by decide)) (lt3000 (by decide)) (lt3000 (by decide)) (lt3000 (by decide)) (lt3000 (by decide)) (k := 39) (by omega) hc
  have c2 := t_sp3 (m := 1) (by decide) fA f1 (by decide) (lt3000 (by decide)) (lt3000 (by decide)) (k := 39) (by omega) hc
  have c3 := t_sp3 (m := 1) (by decide) fB f2 (by decide) (lt3000 (by decide)) (lt3000 (by decide)) (k := 39) (by omega) hc
  have c4 := t_times_tables (m := 1) (by decide) (W 1 fA) (W 1 fB) s1 s2 (by decide) (k := 39) (by omega) (St0 g cs 0 0)
  rw [tabF_congr (f := fo 1 fA fB) (g := fC) (by decide +kernel)] at c1
  rw [tabF_congr (f := fun x => W 1 fA x * W 1 fB x) (g := fE) (by decide +kernel)] at c4
  have t1 : D.tup [.str "table", .tup [.tup [.int 1, .int 1], .tup [.int 2, .int 1]]] = tabF 1 fA := rfl
  have t2 : D.tup [.str "table", .tup [.tup [.int 3, .int 1], .tup [.int (-1), .int 1]]] = tabF 1 fB := rfl
  have t3 : D.tup [.str "table", .tup [.tup [.int 1, .int 1], .tup [.int 5, .int 1]]] = tabF 1 fC := rfl
  have t4 : D.tup [.str "table", .tup [.tup [.int 6, .int 1], .tup [.int (-4), .int 1]]] = tabF 1 fE := rfl
  have zc : ∀ x ∈ pts 1, Sz 100 (fC x) := fun x hx => by
    unfold fC
    split <;> exact ⟨by decide +kernel, by decide +kernel⟩
  have ze : ∀ x ∈ pts 1, Sz 100 (fE x) := fun x hx => by
    unfold fE
    split <;> exact ⟨by decide +kernel, by decide +kernel⟩
  have i1 := is_tab2 (m := 1) (by decide) zc ze (k := 39) (by omega) (St0 g cs 0 0)
  obtain ⟨n, hn, hn2⟩ : ∃ n : Nat, (5 + (if (7 : Int) < ((ns.map D.int).length : Int) then (7 : Int) else ((ns.map D.int).length : Int))) = (n : Int) ∧ n ≤ 12 := by
    refine ⟨(5 + (if (7 : Int) < ((ns.map D.int).length : Int) then (7 : Int) else ((ns.map D.int).length : Int))).toNat, ?_, ?_⟩ <;> split <;> omega
  obtain ⟨ρ', M', e4⟩ := loop_k52 (some (.frl (ns.map .int))) cs (k := 39) (by omega) n ((List.range n).map fun i => .int (i : Nat)) (by simp) ⟨(List.range n).map fun i => .int (i : Nat), []⟩ g 0 0 none (some (tabF 1 fA)) (some (tabF 1 fB)) none none none none none none (fun _ => same_nil) (by omega) (by omega)
  have hr : rngR (.int (n : Int)) (St0 g cs 0 0) = .ok ⟨(List.range n).map fun i => .int (i : Nat), []⟩ (St0 g cs 0 0) := by
    have := rngR_i (M := St0 g cs 0 0) (j := (n : Int)) (by omega)
    rwa [Int.toNat_natCast] at this
  have hB : bLaw = bLaw := rfl
  conv at hB => lhs; simp only [bLaw, B_l_law]
  rw [call_def fd_l_law rfl]
  simp only [F_l_law, B_l_law, List.map_cons, List.map_nil, List.replicate, List.cons_append, List.nil_append, xss_cons, xs_asg, e18_0, evs_cons, evs_nil, ev_var, List.getElem?_cons_zero, Option.join_some, oR_some, Res.bd_ok, clN1, e0, sR_bd, bindR_nm, sq_nx, List.set_cons_succ, List.set_cons_zero]
  simp only [ev_tup, evs_cons, evs_nil, ev_lit, ev_neg, negD_i, oR_some, Res.bd_ok, okIw_pos (few2 _ _), t1, t2, sR_bd, bindR, bindT, bindTs, List.set_cons_succ, List.set_cons_zero, sq_nx, xss_cons]
  simp only [xs_iff, evt_nt, h23_0, evs_cons, evs_nil, ev_lstF, e67_0, e66_0, e15_0, ev_tup, ev_lit, ev_neg, negD_i, ev_var, List.getElem?_cons_succ, List.getElem?_cons_zero, Option.join_some, oR_some, Res.bd_ok, clN1, clN2, c1, c2, c3, c4, okIw_pos (few2 _ _), t3, t4, i1, tru_bl, Bool.not_true, Bool.false_eq_true, if_false, sR_bd, xss_nil, sq_nx, xss_cons, hB]
  simp only [xs_fr, evi_rng, ev_bin, ev_lit, ev_bltF, evs_cons, evs_nil, ev_var, List.getElem?_cons_succ, List.getElem?_cons_zero, Option.join_some, oR_some, Res.bd_ok, t_lenF, t_min, b_add, hn, hr, sR_bd, e4, sq_nx, xss_cons, xs_ret, sq_rt]
  exact ⟨[], rfl⟩
end Sw
end
section
namespace Sw
open Iv
theorem mem_of_lk {β : Type} : ∀ {l : List (Nat × β)} {n : Nat} {b : β}, l.lookup n = some b → (n, b) ∈ l
  | [], _, _, h => by cases h
  | (m, c) :: r, n, b, h => by
    rw [List.lookup_cons] at h
    cases hb : n == m with
    | true =>
      rw [hb] at h
      cases h
      rw [beq_iff_eq.mp hb]
      exact List.mem_cons_self
    | false =>
      rw [hb] at h
      exact List.mem_cons_of_mem _ (mem_of_lk h)
end Sw
end
set_option Elab.async false
set_option linter.all false
set_option maxRecDepth 100000
set_option maxHeartbeats 0
namespace Sw
open PySem PySem.Spec PyProof.Rows L2 Iv
def top (i : Nat) : Stmt := PySem.Challenge.pw_switchbook_k52_whole_spread_folds_and_pr.main.body.getD i (.Pass ⟨0, 0, 0, 0⟩)
def d_names1_is_whole : He.DefD := ⟨("is_whole", none), "is_whole", "is_whole", defArgs (top 6), defBody (top 6), defScope (top 6), [], []⟩
def d_names1_is_below : He.DefD := ⟨("is_below", none), "is_below", "is_below", defArgs (top 7), defBody (top 7), defScope (top 7), [], []⟩
def d_numbers1_number : He.DefD := ⟨("number", none), "number", "number", defArgs (top 10), defBody (top 10), defScope (top 10), [.int 1], []⟩
def d_numbers1_is_number : He.DefD := ⟨("is_number", none), "is_number", "is_number", defArgs (top 11), defBody (top 11), defScope (top 11), [], []⟩
def d_numbers1_plus : He.DefD := ⟨("plus", none), "plus", "plus", defArgs (top 12), defBody (top 12), defScope (top 12), [], []⟩
def d_numbers1_minus : He.DefD := ⟨("minus", none), "minus", "minus", defArgs (top 13), defBody (top 13), defScope (top 13), [], []⟩
def d_numbers1_times : He.DefD := ⟨("times", none), "times", "times", defArgs (top 14), defBody (top 14), defScope (top 14), [], []⟩
def d_numbers1_total : He.DefD := ⟨("total", none), "total", "total", defArgs (top 15), defBody (top 15), defScope (top 15), [], []⟩
def d_points1_points_of : He.DefD := ⟨("points_of", none), "points_of", "points_of", defArgs (top 18), defBody (top 18), defScope (top 18), [], []⟩
def d_points1_need_many : He.DefD := ⟨("need_many", none), "need_many", "need_many", defArgs (top 19), defBody (top 19), defScope (top 19), [], []⟩
def d_points1_added : He.DefD := ⟨("added", none), "added", "added", defArgs (top 20), defBody (top 20), defScope (top 20), [], []⟩
def d_points1_is_odd : He.DefD := ⟨("is_odd", none), "is_odd", "is_odd", defArgs (top 21), defBody (top 21), defScope (top 21), [], []⟩
def d_tables2_is_any_table : He.DefD := ⟨("is_any_table", none), "is_any_table", "is_any_table", defArgs (top 24), defBody (top 24), defScope (top 24), [], []⟩
def d_tables2_need_any : He.DefD := ⟨("need_any", none), "need_any", "need_any", defArgs (top 25), defBody (top 25), defScope (top 25), [], []⟩
def d_tables2_switches_of : He.DefD := ⟨("switches_of", none), "switches_of", "switches_of", defArgs (top 26), defBody (top 26), defScope (top 26), [], []⟩
def d_tables2_is_table : He.DefD := ⟨("is_table", none), "is_table", "is_table", defArgs (top 27), defBody (top 27), defScope (top 27), [], []⟩
def d_tables2_need_alike : He.DefD := ⟨("need_alike", none), "need_alike", "need_alike", defArgs (top 28), defBody (top 28), defScope (top 28), [], []⟩
def d_tables2_made : He.DefD := ⟨("made", none), "made", "made", defArgs (top 29), defBody (top 29), defScope (top 29), [], []⟩
def d_tables2_lines : He.DefD := ⟨("lines", none), "lines", "lines", defArgs (top 30), defBody (top 30), defScope (top 30), [], []⟩
def d_tables2_summed : He.DefD := ⟨("summed", none), "summed", "summed", defArgs (top 31), defBody (top 31), defScope (top 31), [], []⟩
def d_tables2_scaled : He.DefD := ⟨("scaled", none), "scaled", "scaled", defArgs (top 32), defBody (top 32), defScope (top 32), [], []⟩
def d_tables2_times_of : He.DefD := ⟨("times_of", none), "times_of", "times_of", defArgs (top 33), defBody (top 33), defScope (top 33), [], []⟩
def d_tables2_fold_of : He.DefD := ⟨("fold_of", none), "fold_of", "fold_of", defArgs (top 34), defBody (top 34), defScope (top 34), [], []⟩
def d_tables2_spread : He.DefD := ⟨("spread_tables2", none), "spread", "spread", defArgs (top 35), defBody (top 35), defScope (top 35), [], []⟩
def d_tables2_plus_tables : He.DefD := ⟨("plus_tables", none), "plus_tables", "plus_tables", defArgs (top 37), defBody (top 37), defScope (top 37), [], []⟩
def d_tables2_times_tables : He.DefD := ⟨("times_tables", none), "times_tables", "times_tables", defArgs (top 38), defBody (top 38), defScope (top 38), [], []⟩
def d_tables2_fold_tables : He.DefD := ⟨("fold_tables", none), "fold_tables", "fold_tables", defArgs (top 39), defBody (top 39), defScope (top 39), [], []⟩
def d_tables2_scaled_table : He.DefD := ⟨("scaled_table", none), "scaled_table", "scaled_table", defArgs (top 40), defBody (top 40), defScope (top 40), [], []⟩
def d_tables2_spread_table : He.DefD := ⟨("spread_table", none), "spread_table", "spread_table", defArgs (top 41), defBody (top 41), defScope (top 41), [], []⟩
def d_spread3_many_of : He.DefD := ⟨("many_of", none), "many_of", "many_of", defArgs (top 44), defBody (top 44), defScope (top 44), [], []⟩
def d_spread3_spread_line : He.DefD := ⟨("spread_line", none), "spread_line", "spread_line", defArgs (top 45), defBody (top 45), defScope (top 45), [], []⟩
def d_spread3_parted_line : He.DefD := ⟨("parted_line", none), "parted_line", "parted_line", defArgs (top 46), defBody (top 46), defScope (top 46), [], []⟩
def d_spread3_spread : He.DefD := ⟨("spread_spread3", none), "spread", "spread", defArgs (top 47), defBody (top 47), defScope (top 47), [], []⟩
def d_spread3_unspread : He.DefD := ⟨("unspread", none), "unspread", "unspread", defArgs (top 49), defBody (top 49), defScope (top 49), [], []⟩
def d_l_law_begun : He.DefD := ⟨("_law_begun", none), "_law_begun", "_law_begun", defArgs (top 51), defBody (top 51), defScope (top 51), [], []⟩
def d_l_law_mixed : He.DefD := ⟨("_law_mixed", none), "_law_mixed", "_law_mixed", defArgs (top 52), defBody (top 52), defScope (top 52), [], []⟩
def d_l_law_draw : He.DefD := ⟨("_law_draw", none), "_law_draw", "_law_draw", defArgs (top 53), defBody (top 53), defScope (top 53), [], []⟩
def d_l_law_pick : He.DefD := ⟨("_law_pick", none), "_law_pick", "_law_pick", defArgs (top 54), defBody (top 54), defScope (top 54), [], []⟩
def d_l_law_plain : He.DefD := ⟨("_law_plain", none), "_law_plain", "_law_plain", defArgs (top 55), defBody (top 55), defScope (top 55), [], []⟩
def d_l_law_is : He.DefD := ⟨("_law_is", none), "_law_is", "_law_is", defArgs (top 56), defBody (top 56), defScope (top 56), [], []⟩
def d_l_law_common : He.DefD := ⟨("_law_common", none), "_law_common", "_law_common", defArgs (top 57), defBody (top 57), defScope (top 57), [], []⟩
def d_l_law_no : He.DefD := ⟨("_law_no", none), "_law_no", "_law_no", defArgs (top 58), defBody (top 58), defScope (top 58), [], []⟩
def d_l_law_plus : He.DefD := ⟨("_law_plus", none), "_law_plus", "_law_plus", defArgs (top 59), defBody (top 59), defScope (top 59), [], []⟩
def d_l_law_times : He.DefD := ⟨("_law_times", none), "_law_times", "_law_times", defArgs (top 60), defBody (top 60), defScope (top 60), [], []⟩
def d_l_law_total : He.DefD := ⟨("_law_total", none), "_law_total", "_law_total", defArgs (top 61), defBody (top 61), defScope (top 61), [], []⟩
def d_l_law_some_number : He.DefD := ⟨("_law_some_number", none), "_law_some_number", "_law_some_number", defArgs (top 62), defBody (top 62), defScope (top 62), [], []⟩
def d_l_law_points : He.DefD := ⟨("_law_points", none), "_law_points", "_law_points", defArgs (top 63), defBody (top 63), defScope (top 63), [], []⟩
def d_l_law_wide : He.DefD := ⟨("_law_wide", none), "_law_wide", "_law_wide", defArgs (top 64), defBody (top 64), defScope (top 64), [], []⟩
def d_l_law_sign : He.DefD := ⟨("_law_sign", none), "_law_sign", "_law_sign", defArgs (top 65), defBody (top 65), defScope (top 65), [], []⟩
def d_l_law_spread : He.DefD := ⟨("_law_spread", none), "_law_spread", "_law_spread", defArgs (top 66), defBody (top 66), defScope (top 66), [], []⟩
def d_l_law_folded : He.DefD := ⟨("_law_folded", none), "_law_folded", "_law_folded", defArgs (top 67), defBody (top 67), defScope (top 67), [], []⟩
def d_l_law_some_line : He.DefD := ⟨("_law_some_line", none), "_law_some_line", "_law_some_line", defArgs (top 68), defBody (top 68), defScope (top 68), [], []⟩
def d_l_law_some_holed : He.DefD := ⟨("_law_some_holed", none), "_law_some_holed", "_law_some_holed", defArgs (top 69), defBody (top 69), defScope (top 69), [], []⟩
def d_l_law : He.DefD := ⟨("law", none), "law", "law", defArgs (top 70), defBody (top 70), defScope (top 70), [], []⟩
def dfs : List He.DefD := [d_names1_is_whole, d_names1_is_below, d_numbers1_number, d_numbers1_is_number, d_numbers1_plus, d_numbers1_minus, d_numbers1_times, d_numbers1_total, d_points1_points_of, d_points1_need_many, d_points1_added, d_points1_is_odd, d_tables2_is_any_table, d_tables2_need_any, d_tables2_switches_of, d_tables2_is_table, d_tables2_need_alike, d_tables2_made, d_tables2_lines, d_tables2_summed, d_tables2_scaled, d_tables2_times_of, d_tables2_fold_of, d_tables2_spread, d_tables2_plus_tables, d_tables2_times_tables, d_tables2_fold_tables, d_tables2_scaled_table, d_tables2_spread_table, d_spread3_many_of, d_spread3_spread_line, d_spread3_parted_line, d_spread3_spread, d_spread3_unspread, d_l_law_begun, d_l_law_mixed, d_l_law_draw, d_l_law_pick, d_l_law_plain, d_l_law_is, d_l_law_common, d_l_law_no, d_l_law_plus, d_l_law_times, d_l_law_total, d_l_law_some_number, d_l_law_points, d_l_law_wide, d_l_law_sign, d_l_law_spread, d_l_law_folded, d_l_law_some_line, d_l_law_some_holed, d_l_law]
def fcs : List He.Fa := [.glo "is_whole", .glo "is_below", .glo "number", .glo "is_number", .glo "plus", .glo "minus", .glo "times", .glo "total", .glo "points_of", .glo "need_many", .glo "added", .glo "is_odd", .glo "is_any_table", .glo "need_any", .glo "switches_of", .glo "is_table", .glo "need_alike", .glo "made", .glo "lines", .glo "summed", .glo "scaled", .glo "times_of", .glo "fold_of", .glo "spread_tables2", .glo "plus_tables", .glo "times_tables", .glo "fold_tables", .glo "scaled_table", .glo "spread_table", .glo "many_of", .glo "spread_line", .glo "parted_line", .glo "spread_spread3", .glo "unspread", .glo "_law_begun", .glo "_law_mixed", .glo "_law_draw", .glo "_law_pick", .glo "_law_plain", .glo "_law_is", .glo "_law_common", .glo "_law_no", .glo "_law_plus", .glo "_law_times", .glo "_law_total", .glo "_law_some_number", .glo "_law_points", .glo "_law_wide", .glo "_law_sign", .glo "_law_spread", .glo "_law_folded", .glo "_law_some_line", .glo "_law_some_holed", .glo "law", .free "abs", .free "all", .free "bool", .free "dict", .free "int", .free "isinstance", .free "len", .free "list", .free "min", .free "range", .free "repr", .free "sorted", .free "str", .free "sum", .free "tuple", .free "zip", .glo "ZERO", .int "MOST_SWITCHES_points1" 4, .glo "WIDTHS", .int "MOST_SWITCHES_spread3" 4]
def tixB (K : PySem.W.Frag) (x : Str) : Bool := match K.lookup (He.ga K x) with
  | some ⟨.type c, none, _, _⟩ => decide (c = "tuple")
  | _ => false
theorem tixB_ok {K : PySem.W.Frag} {x : Str} (h : tixB K x = true) : ∃ o : Obj, K.lookup (He.ga K x) = some o ∧ o.cls = .type "tuple" ∧ o.dict = none := by
  unfold tixB at h
  split at h
  · rename_i c _ _ e
    exact ⟨_, e, congrArg Value.type (of_decide_eq_true h), rfl⟩
  · cases h
def exs (K : PySem.W.Frag) : Bool := He.tupB K "ZERO" [.int 0, .int 1] && tixB K "ZERO" && (He.tupB K "WIDTHS" [.int 1, .int 2, .int 4, .int 8, .int 16] && tixB K "WIDTHS" && (He.eqO (PySem.W.nsIn K mainGlobals "gcd") (some (some (.builtin "math.gcd")))))
abbrev Fcs (w : World) (h : Heap) (K : PySem.W.Frag) : Prop := He.SaysX fcs dfs [] [] exs w h K
theorem fcsD {w : World} {h : Heap} {K : PySem.W.Frag} (c : Fcs w h K) : He.SaysD fcs dfs K := congrArg (fun z : He.AlT => z.1) (show He.obsT fcs dfs [] K = He.valT dfs [] w from c.t)
theorem k_names1_is_whole : chkSs T [("thing" : Str)] B_names1_is_whole d_names1_is_whole.scope d_names1_is_whole.body = true := by decide +kernel
theorem s_names1_is_whole : FnScope [("thing" : Str)] [("thing" : Str)] d_names1_is_whole.scope := ⟨rfl, rfl, rfl, by decide +kernel, rfl, by decide +kernel, by decide +kernel⟩
theorem k_names1_is_below : chkSs T [("thing" : Str), ("many" : Str)] B_names1_is_below d_names1_is_below.scope d_names1_is_below.body = true := by decide +kernel
theorem s_names1_is_below : FnScope [("thing" : Str), ("many" : Str)] [("thing" : Str), ("many" : Str)] d_names1_is_below.scope := ⟨rfl, rfl, rfl, by decide +kernel, rfl, by decide +kernel, by decide +kernel⟩
theorem k_numbers1_number : chkSs T [("upper" : Str), ("lower" : Str), ("by" : Str)] B_numbers1_number d_numbers1_number.scope d_numbers1_number.body = true := by decide +kernel
theorem s_numbers1_number : FnScope [("upper" : Str), ("lower" : Str), ("by" : Str)] [("upper" : Str), ("lower" : Str)] d_numbers1_number.scope := ⟨rfl, rfl, rfl, by decide +kernel, rfl, by decide +kernel, by decide +kernel⟩
theorem k_numbers1_is_number : chkSs T [("thing" : Str), ("one" : Str)] B_numbers1_is_number d_numbers1_is_number.scope d_numbers1_is_number.body = true := by decide +kernel
theorem s_numbers1_is_number : FnScope [("thing" : Str), ("one" : Str)] [("thing" : Str)] d_numbers1_is_number.scope := ⟨rfl, rfl, rfl, by decide +kernel, rfl, by decide +kernel, by decide +kernel⟩
theorem k_numbers1_plus : chkSs T [("one" : Str), ("other" : Str)] B_numbers1_plus d_numbers1_plus.scope d_numbers1_plus.body = true := by decide +kernel
theorem s_numbers1_plus : FnScope [("one" : Str), ("other" : Str)] [("one" : Str), ("other" : Str)] d_numbers1_plus.scope := ⟨rfl, rfl, rfl, by decide +kernel, rfl, by decide +kernel, by decide +kernel⟩
theorem k_numbers1_minus : chkSs T [("one" : Str)] B_numbers1_minus d_numbers1_minus.scope d_numbers1_minus.body = true := by decide +kernel
theorem s_numbers1_minus : FnScope [("one" : Str)] [("one" : Str)] d_numbers1_minus.scope := ⟨rfl, rfl, rfl, by decide +kernel, rfl, by decide +kernel, by decide +kernel⟩
theorem k_numbers1_times : chkSs T [("one" : Str), ("other" : Str)] B_numbers1_times d_numbers1_times.scope d_numbers1_times.body = true := by decide +kernel
theorem s_numbers1_times : FnScope [("one" : Str), ("other" : Str)] [("one" : Str), ("other" : Str)] d_numbers1_times.scope := ⟨rfl, rfl, rfl, by decide +kernel, rfl, by decide +kernel, by decide +kernel⟩
theorem k_numbers1_total : chkSs T [("numbers" : Str), ("found" : Str), ("one" : Str)] B_numbers1_total d_numbers1_total.scope d_numbers1_total.body = true := by decide +kernel
theorem s_numbers1_total : FnScope [("numbers" : Str), ("found" : Str), ("one" : Str)] [("numbers" : Str)] d_numbers1_total.scope := ⟨rfl, rfl, rfl, by decide +kernel, rfl, by decide +kernel, by decide +kernel⟩
theorem k_points1_points_of : chkSs T [("many" : Str), ("found" : Str), ("lap" : Str), ("point" : Str), ("mark" : Str)] B_points1_points_of d_points1_points_of.scope d_points1_points_of.body = true := by decide +kernel
theorem s_points1_points_of : FnScope [("many" : Str), ("found" : Str), ("lap" : Str), ("point" : Str), ("mark" : Str)] [("many" : Str)] d_points1_points_of.scope := ⟨rfl, rfl, rfl, by decide +kernel, rfl, by decide +kernel, by decide +kernel⟩
theorem k_points1_need_many : chkSs T [("many" : Str)] B_points1_need_many d_points1_need_many.scope d_points1_need_many.body = true := by decide +kernel
theorem s_points1_need_many : FnScope [("many" : Str)] [("many" : Str)] d_points1_need_many.scope := ⟨rfl, rfl, rfl, by decide +kernel, rfl, by decide +kernel, by decide +kernel⟩
theorem k_points1_added : chkSs T [("one" : Str), ("other" : Str), ("here" : Str), ("there" : Str)] B_points1_added d_points1_added.scope d_points1_added.body = true := by decide +kernel
theorem s_points1_added : FnScope [("one" : Str), ("other" : Str), ("here" : Str), ("there" : Str)] [("one" : Str), ("other" : Str)] d_points1_added.scope := ⟨rfl, rfl, rfl, by decide +kernel, rfl, by decide +kernel, by decide +kernel⟩
theorem k_points1_is_odd : chkSs T [("one" : Str), ("other" : Str), ("here" : Str), ("there" : Str)] B_points1_is_odd d_points1_is_odd.scope d_points1_is_odd.body = true := by decide +kernel
theorem s_points1_is_odd : FnScope [("one" : Str), ("other" : Str), ("here" : Str), ("there" : Str)] [("one" : Str), ("other" : Str)] d_points1_is_odd.scope := ⟨rfl, rfl, rfl, by decide +kernel, rfl, by decide +kernel, by decide +kernel⟩
theorem k_tables2_is_any_table : chkSs T [("thing" : Str), ("one" : Str)] B_tables2_is_any_table d_tables2_is_any_table.scope d_tables2_is_any_table.body = true := by decide +kernel
theorem s_tables2_is_any_table : FnScope [("thing" : Str), ("one" : Str)] [("thing" : Str)] d_tables2_is_any_table.scope := ⟨rfl, rfl, rfl, by decide +kernel, rfl, by decide +kernel, by decide +kernel⟩
theorem k_tables2_need_any : chkSs T [("table" : Str)] B_tables2_need_any d_tables2_need_any.scope d_tables2_need_any.body = true := by decide +kernel
theorem s_tables2_need_any : FnScope [("table" : Str)] [("table" : Str)] d_tables2_need_any.scope := ⟨rfl, rfl, rfl, by decide +kernel, rfl, by decide +kernel, by decide +kernel⟩
theorem k_tables2_switches_of : chkSs T [("table" : Str)] B_tables2_switches_of d_tables2_switches_of.scope d_tables2_switches_of.body = true := by decide +kernel
theorem s_tables2_switches_of : FnScope [("table" : Str)] [("table" : Str)] d_tables2_switches_of.scope := ⟨rfl, rfl, rfl, by decide +kernel, rfl, by decide +kernel, by decide +kernel⟩
theorem k_tables2_is_table : chkSs T [("many" : Str), ("thing" : Str)] B_tables2_is_table d_tables2_is_table.scope d_tables2_is_table.body = true := by decide +kernel
theorem s_tables2_is_table : FnScope [("many" : Str), ("thing" : Str)] [("many" : Str), ("thing" : Str)] d_tables2_is_table.scope := ⟨rfl, rfl, rfl, by decide +kernel, rfl, by decide +kernel, by decide +kernel⟩
theorem k_tables2_need_alike : chkSs T [("one" : Str), ("other" : Str)] B_tables2_need_alike d_tables2_need_alike.scope d_tables2_need_alike.body = true := by decide +kernel
theorem s_tables2_need_alike : FnScope [("one" : Str), ("other" : Str)] [("one" : Str), ("other" : Str)] d_tables2_need_alike.scope := ⟨rfl, rfl, rfl, by decide +kernel, rfl, by decide +kernel, by decide +kernel⟩
theorem k_tables2_made : chkSs T [("numbers" : Str)] B_tables2_made d_tables2_made.scope d_tables2_made.body = true := by decide +kernel
theorem s_tables2_made : FnScope [("numbers" : Str)] [("numbers" : Str)] d_tables2_made.scope := ⟨rfl, rfl, rfl, by decide +kernel, rfl, by decide +kernel, by decide +kernel⟩
theorem k_tables2_lines : chkSs T [("table" : Str)] B_tables2_lines d_tables2_lines.scope d_tables2_lines.body = true := by decide +kernel
theorem s_tables2_lines : FnScope [("table" : Str)] [("table" : Str)] d_tables2_lines.scope := ⟨rfl, rfl, rfl, by decide +kernel, rfl, by decide +kernel, by decide +kernel⟩
theorem k_tables2_summed : chkSs T [("one" : Str), ("other" : Str), ("here" : Str), ("there" : Str)] B_tables2_summed d_tables2_summed.scope d_tables2_summed.body = true := by decide +kernel
theorem s_tables2_summed : FnScope [("one" : Str), ("other" : Str), ("here" : Str), ("there" : Str)] [("one" : Str), ("other" : Str)] d_tables2_summed.scope := ⟨rfl, rfl, rfl, by decide +kernel, rfl, by decide +kernel, by decide +kernel⟩
theorem k_tables2_scaled : chkSs T [("by" : Str), ("table" : Str), ("here" : Str)] B_tables2_scaled d_tables2_scaled.scope d_tables2_scaled.body = true := by decide +kernel
theorem s_tables2_scaled : FnScope [("by" : Str), ("table" : Str), ("here" : Str)] [("by" : Str), ("table" : Str)] d_tables2_scaled.scope := ⟨rfl, rfl, rfl, by decide +kernel, rfl, by decide +kernel, by decide +kernel⟩
theorem k_tables2_times_of : chkSs T [("one" : Str), ("other" : Str), ("here" : Str), ("there" : Str)] B_tables2_times_of d_tables2_times_of.scope d_tables2_times_of.body = true := by decide +kernel
theorem s_tables2_times_of : FnScope [("one" : Str), ("other" : Str), ("here" : Str), ("there" : Str)] [("one" : Str), ("other" : Str)] d_tables2_times_of.scope := ⟨rfl, rfl, rfl, by decide +kernel, rfl, by decide +kernel, by decide +kernel⟩
theorem k_tables2_fold_of : chkSs T [("one" : Str), ("other" : Str), ("point" : Str), ("here" : Str), ("there" : Str), ("found" : Str), ("middle" : Str)] B_tables2_fold_of d_tables2_fold_of.scope d_tables2_fold_of.body = true := by decide +kernel
theorem s_tables2_fold_of : FnScope [("one" : Str), ("other" : Str), ("point" : Str), ("here" : Str), ("there" : Str), ("found" : Str), ("middle" : Str)] [("one" : Str), ("other" : Str)] d_tables2_fold_of.scope := ⟨rfl, rfl, rfl, by decide +kernel, rfl, by decide +kernel, by decide +kernel⟩
theorem k_tables2_spread : chkSs T [("table" : Str), ("point" : Str), ("own" : Str), ("found" : Str), ("other" : Str)] B_tables2_spread d_tables2_spread.scope d_tables2_spread.body = true := by decide +kernel
theorem s_tables2_spread : FnScope [("table" : Str), ("point" : Str), ("own" : Str), ("found" : Str), ("other" : Str)] [("table" : Str)] d_tables2_spread.scope := ⟨rfl, rfl, rfl, by decide +kernel, rfl, by decide +kernel, by decide +kernel⟩
theorem k_tables2_plus_tables : chkSs T [("one" : Str), ("other" : Str)] B_tables2_plus_tables d_tables2_plus_tables.scope d_tables2_plus_tables.body = true := by decide +kernel
theorem s_tables2_plus_tables : FnScope [("one" : Str), ("other" : Str)] [("one" : Str), ("other" : Str)] d_tables2_plus_tables.scope := ⟨rfl, rfl, rfl, by decide +kernel, rfl, by decide +kernel, by decide +kernel⟩
theorem k_tables2_times_tables : chkSs T [("one" : Str), ("other" : Str)] B_tables2_times_tables d_tables2_times_tables.scope d_tables2_times_tables.body = true := by decide +kernel
theorem s_tables2_times_tables : FnScope [("one" : Str), ("other" : Str)] [("one" : Str), ("other" : Str)] d_tables2_times_tables.scope := ⟨rfl, rfl, rfl, by decide +kernel, rfl, by decide +kernel, by decide +kernel⟩
theorem k_tables2_fold_tables : chkSs T [("one" : Str), ("other" : Str)] B_tables2_fold_tables d_tables2_fold_tables.scope d_tables2_fold_tables.body = true := by decide +kernel
theorem s_tables2_fold_tables : FnScope [("one" : Str), ("other" : Str)] [("one" : Str), ("other" : Str)] d_tables2_fold_tables.scope := ⟨rfl, rfl, rfl, by decide +kernel, rfl, by decide +kernel, by decide +kernel⟩
theorem k_tables2_scaled_table : chkSs T [("by" : Str), ("table" : Str)] B_tables2_scaled_table d_tables2_scaled_table.scope d_tables2_scaled_table.body = true := by decide +kernel
theorem s_tables2_scaled_table : FnScope [("by" : Str), ("table" : Str)] [("by" : Str), ("table" : Str)] d_tables2_scaled_table.scope := ⟨rfl, rfl, rfl, by decide +kernel, rfl, by decide +kernel, by decide +kernel⟩
theorem k_tables2_spread_table : chkSs T [("table" : Str)] B_tables2_spread_table d_tables2_spread_table.scope d_tables2_spread_table.body = true := by decide +kernel
theorem s_tables2_spread_table : FnScope [("table" : Str)] [("table" : Str)] d_tables2_spread_table.scope := ⟨rfl, rfl, rfl, by decide +kernel, rfl, by decide +kernel, by decide +kernel⟩
theorem k_spread3_many_of : chkSs T [("table" : Str), ("many" : Str)] B_spread3_many_of d_spread3_many_of.scope d_spread3_many_of.body = true := by decide +kernel
theorem s_spread3_many_of : FnScope [("table" : Str), ("many" : Str)] [("table" : Str)] d_spread3_many_of.scope := ⟨rfl, rfl, rfl, by decide +kernel, rfl, by decide +kernel, by decide +kernel⟩
theorem k_spread3_spread_line : chkSs T [("numbers" : Str), ("found" : Str), ("step" : Str), ("at" : Str), ("one" : Str), ("other" : Str)] B_spread3_spread_line d_spread3_spread_line.scope d_spread3_spread_line.body = true := by decide +kernel
theorem s_spread3_spread_line : FnScope [("numbers" : Str), ("found" : Str), ("step" : Str), ("at" : Str), ("one" : Str), ("other" : Str)] [("numbers" : Str)] d_spread3_spread_line.scope := ⟨rfl, rfl, rfl, by decide +kernel, rfl, by decide +kernel, by decide +kernel⟩
theorem k_spread3_parted_line : chkSs T [("numbers" : Str), ("by" : Str), ("one" : Str)] B_spread3_parted_line d_spread3_parted_line.scope d_spread3_parted_line.body = true := by decide +kernel
theorem s_spread3_parted_line : FnScope [("numbers" : Str), ("by" : Str), ("one" : Str)] [("numbers" : Str)] d_spread3_parted_line.scope := ⟨rfl, rfl, rfl, by decide +kernel, rfl, by decide +kernel, by decide +kernel⟩
theorem k_spread3_spread : chkSs T [("table" : Str)] B_spread3_spread d_spread3_spread.scope d_spread3_spread.body = true := by decide +kernel
theorem s_spread3_spread : FnScope [("table" : Str)] [("table" : Str)] d_spread3_spread.scope := ⟨rfl, rfl, rfl, by decide +kernel, rfl, by decide +kernel, by decide +kernel⟩
theorem k_spread3_unspread : chkSs T [("table" : Str)] B_spread3_unspread d_spread3_unspread.scope d_spread3_unspread.body = true := by decide +kernel
theorem s_spread3_unspread : FnScope [("table" : Str)] [("table" : Str)] d_spread3_unspread.scope := ⟨rfl, rfl, rfl, by decide +kernel, rfl, by decide +kernel, by decide +kernel⟩
theorem k_l_law_begun : chkSs T [("script" : Str), ("great" : Str), ("cell" : Str)] B_l_law_begun d_l_law_begun.scope d_l_law_begun.body = true := by decide +kernel
theorem s_l_law_begun : FnScope [("script" : Str), ("great" : Str), ("cell" : Str)] [("script" : Str)] d_l_law_begun.scope := ⟨rfl, rfl, rfl, by decide +kernel, rfl, by decide +kernel, by decide +kernel⟩
theorem k_l_law_mixed : chkSs T [("state" : Str), ("prime" : Str), ("turn" : Str), ("found" : Str), ("blend" : Str), ("cell" : Str)] B_l_law_mixed d_l_law_mixed.scope d_l_law_mixed.body = true := by decide +kernel
theorem s_l_law_mixed : FnScope [("state" : Str), ("prime" : Str), ("turn" : Str), ("found" : Str), ("blend" : Str), ("cell" : Str)] [("state" : Str)] d_l_law_mixed.scope := ⟨rfl, rfl, rfl, by decide +kernel, rfl, by decide +kernel, by decide +kernel⟩
theorem k_l_law_draw : chkSs T [("state" : Str), ("room" : Str), ("found" : Str)] B_l_law_draw d_l_law_draw.scope d_l_law_draw.body = true := by decide +kernel
theorem s_l_law_draw : FnScope [("state" : Str), ("room" : Str), ("found" : Str)] [("state" : Str), ("room" : Str)] d_l_law_draw.scope := ⟨rfl, rfl, rfl, by decide +kernel, rfl, by decide +kernel, by decide +kernel⟩
theorem k_l_law_pick : chkSs T [("state" : Str), ("some" : Str)] B_l_law_pick d_l_law_pick.scope d_l_law_pick.body = true := by decide +kernel
theorem s_l_law_pick : FnScope [("state" : Str), ("some" : Str)] [("state" : Str), ("some" : Str)] d_l_law_pick.scope := ⟨rfl, rfl, rfl, by decide +kernel, rfl, by decide +kernel, by decide +kernel⟩
theorem k_l_law_plain : chkSs T [("value" : Str), ("one" : Str)] B_l_law_plain d_l_law_plain.scope d_l_law_plain.body = true := by decide +kernel
theorem s_l_law_plain : FnScope [("value" : Str), ("one" : Str)] [("value" : Str)] d_l_law_plain.scope := ⟨rfl, rfl, rfl, by decide +kernel, rfl, by decide +kernel, by decide +kernel⟩
theorem k_l_law_is : chkSs T [("found" : Str), ("due" : Str)] B_l_law_is d_l_law_is.scope d_l_law_is.body = true := by decide +kernel
theorem s_l_law_is : FnScope [("found" : Str), ("due" : Str)] [("found" : Str), ("due" : Str)] d_l_law_is.scope := ⟨rfl, rfl, rfl, by decide +kernel, rfl, by decide +kernel, by decide +kernel⟩
theorem k_l_law_common : chkSs T [("one" : Str), ("other" : Str)] B_l_law_common d_l_law_common.scope d_l_law_common.body = true := by decide +kernel
theorem s_l_law_common : FnScope [("one" : Str), ("other" : Str)] [("one" : Str), ("other" : Str)] d_l_law_common.scope := ⟨rfl, rfl, rfl, by decide +kernel, rfl, by decide +kernel, by decide +kernel⟩
theorem k_l_law_no : chkSs T [("upper" : Str), ("lower" : Str), ("by" : Str)] B_l_law_no d_l_law_no.scope d_l_law_no.body = true := by decide +kernel
theorem s_l_law_no : FnScope [("upper" : Str), ("lower" : Str), ("by" : Str)] [("upper" : Str), ("lower" : Str)] d_l_law_no.scope := ⟨rfl, rfl, rfl, by decide +kernel, rfl, by decide +kernel, by decide +kernel⟩
theorem k_l_law_plus : chkSs T [("one" : Str), ("other" : Str)] B_l_law_plus d_l_law_plus.scope d_l_law_plus.body = true := by decide +kernel
theorem s_l_law_plus : FnScope [("one" : Str), ("other" : Str)] [("one" : Str), ("other" : Str)] d_l_law_plus.scope := ⟨rfl, rfl, rfl, by decide +kernel, rfl, by decide +kernel, by decide +kernel⟩
theorem k_l_law_times : chkSs T [("one" : Str), ("other" : Str)] B_l_law_times d_l_law_times.scope d_l_law_times.body = true := by decide +kernel
theorem s_l_law_times : FnScope [("one" : Str), ("other" : Str)] [("one" : Str), ("other" : Str)] d_l_law_times.scope := ⟨rfl, rfl, rfl, by decide +kernel, rfl, by decide +kernel, by decide +kernel⟩
theorem k_l_law_total : chkSs T [("numbers" : Str), ("found" : Str), ("number_v" : Str)] B_l_law_total d_l_law_total.scope d_l_law_total.body = true := by decide +kernel
theorem s_l_law_total : FnScope [("numbers" : Str), ("found" : Str), ("number_v" : Str)] [("numbers" : Str)] d_l_law_total.scope := ⟨rfl, rfl, rfl, by decide +kernel, rfl, by decide +kernel, by decide +kernel⟩
theorem k_l_law_some_number : chkSs T [("state" : Str), ("wide" : Str), ("upper" : Str)] B_l_law_some_number d_l_law_some_number.scope d_l_law_some_number.body = true := by decide +kernel
theorem s_l_law_some_number : FnScope [("state" : Str), ("wide" : Str), ("upper" : Str)] [("state" : Str), ("wide" : Str)] d_l_law_some_number.scope := ⟨rfl, rfl, rfl, by decide +kernel, rfl, by decide +kernel, by decide +kernel⟩
theorem k_l_law_points : chkSs T [("many" : Str), ("found" : Str), ("lap" : Str), ("one" : Str)] B_l_law_points d_l_law_points.scope d_l_law_points.body = true := by decide +kernel
theorem s_l_law_points : FnScope [("many" : Str), ("found" : Str), ("lap" : Str), ("one" : Str)] [("many" : Str)] d_l_law_points.scope := ⟨rfl, rfl, rfl, by decide +kernel, rfl, by decide +kernel, by decide +kernel⟩
theorem k_l_law_wide : chkSs T [("many" : Str)] B_l_law_wide d_l_law_wide.scope d_l_law_wide.body = true := by decide +kernel
theorem s_l_law_wide : FnScope [("many" : Str)] [("many" : Str)] d_l_law_wide.scope := ⟨rfl, rfl, rfl, by decide +kernel, rfl, by decide +kernel, by decide +kernel⟩
theorem k_l_law_sign : chkSs T [("one" : Str), ("other" : Str), ("here" : Str), ("there" : Str)] B_l_law_sign d_l_law_sign.scope d_l_law_sign.body = true := by decide +kernel
theorem s_l_law_sign : FnScope [("one" : Str), ("other" : Str), ("here" : Str), ("there" : Str)] [("one" : Str), ("other" : Str)] d_l_law_sign.scope := ⟨rfl, rfl, rfl, by decide +kernel, rfl, by decide +kernel, by decide +kernel⟩
theorem k_l_law_spread : chkSs T [("many" : Str), ("line" : Str), ("points" : Str), ("s" : Str), ("x" : Str), ("one" : Str)] B_l_law_spread d_l_law_spread.scope d_l_law_spread.body = true := by decide +kernel
theorem s_l_law_spread : FnScope [("many" : Str), ("line" : Str), ("points" : Str), ("s" : Str), ("x" : Str), ("one" : Str)] [("many" : Str), ("line" : Str)] d_l_law_spread.scope := ⟨rfl, rfl, rfl, by decide +kernel, rfl, by decide +kernel, by decide +kernel⟩
theorem k_l_law_folded : chkSs T [("many" : Str), ("one" : Str), ("other" : Str), ("points" : Str), ("known" : Str), ("x" : Str), ("y" : Str), ("here" : Str), ("a" : Str), ("b" : Str)] B_l_law_folded d_l_law_folded.scope d_l_law_folded.body = true := by decide +kernel
theorem s_l_law_folded : FnScope [("many" : Str), ("one" : Str), ("other" : Str), ("points" : Str), ("known" : Str), ("x" : Str), ("y" : Str), ("here" : Str), ("a" : Str), ("b" : Str)] [("many" : Str), ("one" : Str), ("other" : Str)] d_l_law_folded.scope := ⟨rfl, rfl, rfl, by decide +kernel, rfl, by decide +kernel, by decide +kernel⟩
theorem k_l_law_some_line : chkSs T [("state" : Str), ("many" : Str), ("point" : Str)] B_l_law_some_line d_l_law_some_line.scope d_l_law_some_line.body = true := by decide +kernel
theorem s_l_law_some_line : FnScope [("state" : Str), ("many" : Str), ("point" : Str)] [("state" : Str), ("many" : Str)] d_l_law_some_line.scope := ⟨rfl, rfl, rfl, by decide +kernel, rfl, by decide +kernel, by decide +kernel⟩
theorem k_l_law_some_holed : chkSs T [("state" : Str), ("many" : Str), ("line" : Str), ("point" : Str), ("one" : Str)] B_l_law_some_holed d_l_law_some_holed.scope d_l_law_some_holed.body = true := by decide +kernel
theorem s_l_law_some_holed : FnScope [("state" : Str), ("many" : Str), ("line" : Str), ("point" : Str), ("one" : Str)] [("state" : Str), ("many" : Str)] d_l_law_some_holed.scope := ⟨rfl, rfl, rfl, by decide +kernel, rfl, by decide +kernel, by decide +kernel⟩
theorem k_l_law : chkSs T [("script" : Str), ("state" : Str), ("lap" : Str), ("one" : Str), ("other" : Str), ("many" : Str), ("lines_v" : Str), ("folded" : Str), ("product" : Str), ("number_v" : Str), ("wide" : Str)] B_l_law d_l_law.scope d_l_law.body = true := by decide +kernel
theorem s_l_law : FnScope [("script" : Str), ("state" : Str), ("lap" : Str), ("one" : Str), ("other" : Str), ("many" : Str), ("lines_v" : Str), ("folded" : Str), ("product" : Str), ("number_v" : Str), ("wide" : Str)] [("script" : Str)] d_l_law.scope := ⟨rfl, rfl, rfl, by decide +kernel, rfl, by decide +kernel, by decide +kernel⟩
section
variable {w : World} {K : PySem.W.Frag} {h : Heap} {mg : Str → Option Value}
theorem g_names1_is_whole (KX : K.In h) (G : h.Ns mainGlobals mg) (c : Fcs w h K) : DefG K mg T 1 F_names1_is_whole := by
  obtain ⟨fdt, F⟩ := (fcsD c).def_ 0 (d := d_names1_is_whole) rfl
  refine ⟨_, _, _, _, _, _, _, _, fdt, [("thing" : Str)], [("thing" : Str)], He.glo_ok KX G ((fcsD c).fact 0 (f := .glo "is_whole") rfl), F, s_names1_is_whole, rfl, rfl, k_names1_is_whole, fun i sh hs => ?_⟩
  match i, hs with
  | 0, hs =>
    cases hs
    exact shp0 F fun kV doc pm an cdv ct us ws h1 h2 => match us, ws, h1, h2 with
      | [u0], [], _, _ => ⟨[u0], rfl, rfl, (.cons rfl .nil)⟩
  | n + 1, hs => cases hs
theorem g_names1_is_below (KX : K.In h) (G : h.Ns mainGlobals mg) (c : Fcs w h K) : DefG K mg T 2 F_names1_is_below := by
  obtain ⟨fdt, F⟩ := (fcsD c).def_ 1 (d := d_names1_is_below) rfl
  refine ⟨_, _, _, _, _, _, _, _, fdt, [("thing" : Str), ("many" : Str)], [("thing" : Str), ("many" : Str)], He.glo_ok KX G ((fcsD c).fact 1 (f := .glo "is_below") rfl), F, s_names1_is_below, rfl, rfl, k_names1_is_below, fun i sh hs => ?_⟩
  match i, hs with
  | 0, hs =>
    cases hs
    exact shp0 F fun kV doc pm an cdv ct us ws h1 h2 => match us, ws, h1, h2 with
      | [u0, u1], [], _, _ => ⟨[u0, u1], rfl, rfl, (.cons rfl (.cons rfl .nil))⟩
  | n + 1, hs => cases hs
theorem g_numbers1_number (KX : K.In h) (G : h.Ns mainGlobals mg) (c : Fcs w h K) : DefG K mg T 3 F_numbers1_number := by
  obtain ⟨fdt, F⟩ := (fcsD c).def_ 2 (d := d_numbers1_number) rfl
  refine ⟨_, _, _, _, _, _, _, _, fdt, [("upper" : Str), ("lower" : Str), ("by" : Str)], [("upper" : Str), ("lower" : Str)], He.glo_ok KX G ((fcsD c).fact 2 (f := .glo "number") rfl), F, s_numbers1_number, rfl, rfl, k_numbers1_number, fun i sh hs => ?_⟩
  match i, hs with
  | 0, hs =>
    cases hs
    exact shp1 F (fun z => nomatch z) fun a kV doc pm an cdv ct us ws its h1 h2 h3 => match us, ws, its, h1, h2, h3 with
      | [u0, u1], [], [e0], _, _, (.cons r0 .nil) => ⟨[u0, u1], (by first | exact .inr ⟨_, rfl, rfl⟩ | exact .inl rfl), rfl, (.cons rfl (.cons rfl .nil))⟩
  | n + 1, hs => cases hs
theorem g_numbers1_is_number (KX : K.In h) (G : h.Ns mainGlobals mg) (c : Fcs w h K) : DefG K mg T 4 F_numbers1_is_number := by
  obtain ⟨fdt, F⟩ := (fcsD c).def_ 3 (d := d_numbers1_is_number) rfl
  refine ⟨_, _, _, _, _, _, _, _, fdt, [("thing" : Str), ("one" : Str)], [("thing" : Str)], He.glo_ok KX G ((fcsD c).fact 3 (f := .glo "is_number") rfl), F, s_numbers1_is_number, rfl, rfl, k_numbers1_is_number, fun i sh hs => ?_⟩
  match i, hs with
  | 0, hs =>
    cases hs
    exact shp0 F fun kV doc pm an cdv ct us ws h1 h2 => match us, ws, h1, h2 with
      | [u0], [], _, _ => ⟨[u0], rfl, rfl, (.cons rfl .nil)⟩
  | n + 1, hs => cases hs
theorem g_numbers1_plus (KX : K.In h) (G : h.Ns mainGlobals mg) (c : Fcs w h K) : DefG K mg T 5 F_numbers1_plus := by
  obtain ⟨fdt, F⟩ := (fcsD c).def_ 4 (d := d_numbers1_plus) rfl
  refine ⟨_, _, _, _, _, _, _, _, fdt, [("one" : Str), ("other" : Str)], [("one" : Str), ("other" : Str)], He.glo_ok KX G ((fcsD c).fact 4 (f := .glo "plus") rfl), F, s_numbers1_plus, rfl, rfl, k_numbers1_plus, fun i sh hs => ?_⟩
  match i, hs with
  | 0, hs =>
    cases hs
    exact shp0 F fun kV doc pm an cdv ct us ws h1 h2 => match us, ws, h1, h2 with
      | [u0, u1], [], _, _ => ⟨[u0, u1], rfl, rfl, (.cons rfl (.cons rfl .nil))⟩
  | n + 1, hs => cases hs
theorem g_numbers1_minus (KX : K.In h) (G : h.Ns mainGlobals mg) (c : Fcs w h K) : DefG K mg T 6 F_numbers1_minus := by
  obtain ⟨fdt, F⟩ := (fcsD c).def_ 5 (d := d_numbers1_minus) rfl
  refine ⟨_, _, _, _, _, _, _, _, fdt, [("one" : Str)], [("one" : Str)], He.glo_ok KX G ((fcsD c).fact 5 (f := .glo "minus") rfl), F, s_numbers1_minus, rfl, rfl, k_numbers1_minus, fun i sh hs => ?_⟩
  match i, hs with
  | 0, hs =>
    cases hs
    exact shp0 F fun kV doc pm an cdv ct us ws h1 h2 => match us, ws, h1, h2 with
      | [u0], [], _, _ => ⟨[u0], rfl, rfl, (.cons rfl .nil)⟩
  | n + 1, hs => cases hs
theorem g_numbers1_times (KX : K.In h) (G : h.Ns mainGlobals mg) (c : Fcs w h K) : DefG K mg T 7 F_numbers1_times := by
  obtain ⟨fdt, F⟩ := (fcsD c).def_ 6 (d := d_numbers1_times) rfl
  refine ⟨_, _, _, _, _, _, _, _, fdt, [("one" : Str), ("other" : Str)], [("one" : Str), ("other" : Str)], He.glo_ok KX G ((fcsD c).fact 6 (f := .glo "times") rfl), F, s_numbers1_times, rfl, rfl, k_numbers1_times, fun i sh hs => ?_⟩
  match i, hs with
  | 0, hs =>
    cases hs
    exact shp0 F fun kV doc pm an cdv ct us ws h1 h2 => match us, ws, h1, h2 with
      | [u0, u1], [], _, _ => ⟨[u0, u1], rfl, rfl, (.cons rfl (.cons rfl .nil))⟩
  | n + 1, hs => cases hs
theorem g_numbers1_total (KX : K.In h) (G : h.Ns mainGlobals mg) (c : Fcs w h K) : DefG K mg T 52 F_numbers1_total := by
  obtain ⟨fdt, F⟩ := (fcsD c).def_ 7 (d := d_numbers1_total) rfl
  refine ⟨_, _, _, _, _, _, _, _, fdt, [("numbers" : Str), ("found" : Str), ("one" : Str)], [("numbers" : Str)], He.glo_ok KX G ((fcsD c).fact 7 (f := .glo "total") rfl), F, s_numbers1_total, rfl, rfl, k_numbers1_total, fun i sh hs => ?_⟩
  match i, hs with
  | 0, hs =>
    cases hs
    exact shp0 F fun kV doc pm an cdv ct us ws h1 h2 => match us, ws, h1, h2 with
      | [u0], [], _, _ => ⟨[u0], rfl, rfl, (.cons rfl .nil)⟩
  | n + 1, hs => cases hs
theorem g_points1_points_of (KX : K.In h) (G : h.Ns mainGlobals mg) (c : Fcs w h K) : DefG K mg T 53 F_points1_points_of := by
  obtain ⟨fdt, F⟩ := (fcsD c).def_ 8 (d := d_points1_points_of) rfl
  refine ⟨_, _, _, _, _, _, _, _, fdt, [("many" : Str), ("found" : Str), ("lap" : Str), ("point" : Str), ("mark" : Str)], [("many" : Str)], He.glo_ok KX G ((fcsD c).fact 8 (f := .glo "points_of") rfl), F, s_points1_points_of, rfl, rfl, k_points1_points_of, fun i sh hs => ?_⟩
  match i, hs with
  | 0, hs =>
    cases hs
    exact shp0 F fun kV doc pm an cdv ct us ws h1 h2 => match us, ws, h1, h2 with
      | [u0], [], _, _ => ⟨[u0], rfl, rfl, (.cons rfl .nil)⟩
  | n + 1, hs => cases hs
theorem g_points1_need_many (KX : K.In h) (G : h.Ns mainGlobals mg) (c : Fcs w h K) : DefG K mg T 8 F_points1_need_many := by
  obtain ⟨fdt, F⟩ := (fcsD c).def_ 9 (d := d_points1_need_many) rfl
  refine ⟨_, _, _, _, _, _, _, _, fdt, [("many" : Str)], [("many" : Str)], He.glo_ok KX G ((fcsD c).fact 9 (f := .glo "need_many") rfl), F, s_points1_need_many, rfl, rfl, k_points1_need_many, fun i sh hs => ?_⟩
  match i, hs with
  | 0, hs =>
    cases hs
    exact shp0 F fun kV doc pm an cdv ct us ws h1 h2 => match us, ws, h1, h2 with
      | [u0], [], _, _ => ⟨[u0], rfl, rfl, (.cons rfl .nil)⟩
  | n + 1, hs => cases hs
theorem g_points1_added (KX : K.In h) (G : h.Ns mainGlobals mg) (c : Fcs w h K) : DefG K mg T 54 F_points1_added := by
  obtain ⟨fdt, F⟩ := (fcsD c).def_ 10 (d := d_points1_added) rfl
  refine ⟨_, _, _, _, _, _, _, _, fdt, [("one" : Str), ("other" : Str), ("here" : Str), ("there" : Str)], [("one" : Str), ("other" : Str)], He.glo_ok KX G ((fcsD c).fact 10 (f := .glo "added") rfl), F, s_points1_added, rfl, rfl, k_points1_added, fun i sh hs => ?_⟩
  match i, hs with
  | 0, hs =>
    cases hs
    exact shp0 F fun kV doc pm an cdv ct us ws h1 h2 => match us, ws, h1, h2 with
      | [u0, u1], [], _, _ => ⟨[u0, u1], rfl, rfl, (.cons rfl (.cons rfl .nil))⟩
  | n + 1, hs => cases hs
theorem g_points1_is_odd (KX : K.In h) (G : h.Ns mainGlobals mg) (c : Fcs w h K) : DefG K mg T 55 F_points1_is_odd := by
  obtain ⟨fdt, F⟩ := (fcsD c).def_ 11 (d := d_points1_is_odd) rfl
  refine ⟨_, _, _, _, _, _, _, _, fdt, [("one" : Str), ("other" : Str), ("here" : Str), ("there" : Str)], [("one" : Str), ("other" : Str)], He.glo_ok KX G ((fcsD c).fact 11 (f := .glo "is_odd") rfl), F, s_points1_is_odd, rfl, rfl, k_points1_is_odd, fun i sh hs => ?_⟩
  match i, hs with
  | 0, hs =>
    cases hs
    exact shp0 F fun kV doc pm an cdv ct us ws h1 h2 => match us, ws, h1, h2 with
      | [u0, u1], [], _, _ => ⟨[u0, u1], rfl, rfl, (.cons rfl (.cons rfl .nil))⟩
  | n + 1, hs => cases hs
theorem g_tables2_is_any_table (KX : K.In h) (G : h.Ns mainGlobals mg) (c : Fcs w h K) : DefG K mg T 9 F_tables2_is_any_table := by
  obtain ⟨fdt, F⟩ := (fcsD c).def_ 12 (d := d_tables2_is_any_table) rfl
  refine ⟨_, _, _, _, _, _, _, _, fdt, [("thing" : Str), ("one" : Str)], [("thing" : Str)], He.glo_ok KX G ((fcsD c).fact 12 (f := .glo "is_any_table") rfl), F, s_tables2_is_any_table, rfl, rfl, k_tables2_is_any_table, fun i sh hs => ?_⟩
  match i, hs with
  | 0, hs =>
    cases hs
    exact shp0 F fun kV doc pm an cdv ct us ws h1 h2 => match us, ws, h1, h2 with
      | [u0], [], _, _ => ⟨[u0], rfl, rfl, (.cons rfl .nil)⟩
  | n + 1, hs => cases hs
theorem g_tables2_need_any (KX : K.In h) (G : h.Ns mainGlobals mg) (c : Fcs w h K) : DefG K mg T 56 F_tables2_need_any := by
  obtain ⟨fdt, F⟩ := (fcsD c).def_ 13 (d := d_tables2_need_any) rfl
  refine ⟨_, _, _, _, _, _, _, _, fdt, [("table" : Str)], [("table" : Str)], He.glo_ok KX G ((fcsD c).fact 13 (f := .glo "need_any") rfl), F, s_tables2_need_any, rfl, rfl, k_tables2_need_any, fun i sh hs => ?_⟩
  match i, hs with
  | 0, hs =>
    cases hs
    exact shp0 F fun kV doc pm an cdv ct us ws h1 h2 => match us, ws, h1, h2 with
      | [u0], [], _, _ => ⟨[u0], rfl, rfl, (.cons rfl .nil)⟩
  | n + 1, hs => cases hs
theorem g_tables2_switches_of (KX : K.In h) (G : h.Ns mainGlobals mg) (c : Fcs w h K) : DefG K mg T 10 F_tables2_switches_of := by
  obtain ⟨fdt, F⟩ := (fcsD c).def_ 14 (d := d_tables2_switches_of) rfl
  refine ⟨_, _, _, _, _, _, _, _, fdt, [("table" : Str)], [("table" : Str)], He.glo_ok KX G ((fcsD c).fact 14 (f := .glo "switches_of") rfl), F, s_tables2_switches_of, rfl, rfl, k_tables2_switches_of, fun i sh hs => ?_⟩
  match i, hs with
  | 0, hs =>
    cases hs
    exact shp0 F fun kV doc pm an cdv ct us ws h1 h2 => match us, ws, h1, h2 with
      | [u0], [], _, _ => ⟨[u0], rfl, rfl, (.cons rfl .nil)⟩
  | n + 1, hs => cases hs
theorem g_tables2_is_table (KX : K.In h) (G : h.Ns mainGlobals mg) (c : Fcs w h K) : DefG K mg T 11 F_tables2_is_table := by
  obtain ⟨fdt, F⟩ := (fcsD c).def_ 15 (d := d_tables2_is_table) rfl
  refine ⟨_, _, _, _, _, _, _, _, fdt, [("many" : Str), ("thing" : Str)], [("many" : Str), ("thing" : Str)], He.glo_ok KX G ((fcsD c).fact 15 (f := .glo "is_table") rfl), F, s_tables2_is_table, rfl, rfl, k_tables2_is_table, fun i sh hs => ?_⟩
  match i, hs with
  | 0, hs =>
    cases hs
    exact shp0 F fun kV doc pm an cdv ct us ws h1 h2 => match us, ws, h1, h2 with
      | [u0, u1], [], _, _ => ⟨[u0, u1], rfl, rfl, (.cons rfl (.cons rfl .nil))⟩
  | n + 1, hs => cases hs
theorem g_tables2_need_alike (KX : K.In h) (G : h.Ns mainGlobals mg) (c : Fcs w h K) : DefG K mg T 57 F_tables2_need_alike := by
  obtain ⟨fdt, F⟩ := (fcsD c).def_ 16 (d := d_tables2_need_alike) rfl
  refine ⟨_, _, _, _, _, _, _, _, fdt, [("one" : Str), ("other" : Str)], [("one" : Str), ("other" : Str)], He.glo_ok KX G ((fcsD c).fact 16 (f := .glo "need_alike") rfl), F, s_tables2_need_alike, rfl, rfl, k_tables2_need_alike, fun i sh hs => ?_⟩
  match i, hs with
  | 0, hs =>
    cases hs
    exact shp0 F fun kV doc pm an cdv ct us ws h1 h2 => match us, ws, h1, h2 with
      | [u0, u1], [], _, _ => ⟨[u0, u1], rfl, rfl, (.cons rfl (.cons rfl .nil))⟩
  | n + 1, hs => cases hs
theorem g_tables2_made (KX : K.In h) (G : h.Ns mainGlobals mg) (c : Fcs w h K) : DefG K mg T 58 F_tables2_made := by
  obtain ⟨fdt, F⟩ := (fcsD c).def_ 17 (d := d_tables2_made) rfl
  refine ⟨_, _, _, _, _, _, _, _, fdt, [("numbers" : Str)], [("numbers" : Str)], He.glo_ok KX G ((fcsD c).fact 17 (f := .glo "made") rfl), F, s_tables2_made, rfl, rfl, k_tables2_made, fun i sh hs => ?_⟩
  match i, hs with
  | 0, hs =>
    cases hs
    exact shp0 F fun kV doc pm an cdv ct us ws h1 h2 => match us, ws, h1, h2 with
      | [u0], [], _, _ => ⟨[u0], rfl, rfl, (.cons rfl .nil)⟩
  | n + 1, hs => cases hs
theorem g_tables2_lines (KX : K.In h) (G : h.Ns mainGlobals mg) (c : Fcs w h K) : DefG K mg T 59 F_tables2_lines := by
  obtain ⟨fdt, F⟩ := (fcsD c).def_ 18 (d := d_tables2_lines) rfl
  refine ⟨_, _, _, _, _, _, _, _, fdt, [("table" : Str)], [("table" : Str)], He.glo_ok KX G ((fcsD c).fact 18 (f := .glo "lines") rfl), F, s_tables2_lines, rfl, rfl, k_tables2_lines, fun i sh hs => ?_⟩
  match i, hs with
  | 0, hs =>
    cases hs
    exact shp0 F fun kV doc pm an cdv ct us ws h1 h2 => match us, ws, h1, h2 with
      | [u0], [], _, _ => ⟨[u0], rfl, rfl, (.cons rfl .nil)⟩
  | n + 1, hs => cases hs
theorem g_tables2_summed (KX : K.In h) (G : h.Ns mainGlobals mg) (c : Fcs w h K) : DefG K mg T 60 F_tables2_summed := by
  obtain ⟨fdt, F⟩ := (fcsD c).def_ 19 (d := d_tables2_summed) rfl
  refine ⟨_, _, _, _, _, _, _, _, fdt, [("one" : Str), ("other" : Str), ("here" : Str), ("there" : Str)], [("one" : Str), ("other" : Str)], He.glo_ok KX G ((fcsD c).fact 19 (f := .glo "summed") rfl), F, s_tables2_summed, rfl, rfl, k_tables2_summed, fun i sh hs => ?_⟩
  match i, hs with
  | 0, hs =>
    cases hs
    exact shp0 F fun kV doc pm an cdv ct us ws h1 h2 => match us, ws, h1, h2 with
      | [u0, u1], [], _, _ => ⟨[u0, u1], rfl, rfl, (.cons rfl (.cons rfl .nil))⟩
  | n + 1, hs => cases hs
theorem g_tables2_scaled (KX : K.In h) (G : h.Ns mainGlobals mg) (c : Fcs w h K) : DefG K mg T 61 F_tables2_scaled := by
  obtain ⟨fdt, F⟩ := (fcsD c).def_ 20 (d := d_tables2_scaled) rfl
  refine ⟨_, _, _, _, _, _, _, _, fdt, [("by" : Str), ("table" : Str), ("here" : Str)], [("by" : Str), ("table" : Str)], He.glo_ok KX G ((fcsD c).fact 20 (f := .glo "scaled") rfl), F, s_tables2_scaled, rfl, rfl, k_tables2_scaled, fun i sh hs => ?_⟩
  match i, hs with
  | 0, hs =>
    cases hs
    exact shp0 F fun kV doc pm an cdv ct us ws h1 h2 => match us, ws, h1, h2 with
      | [u0, u1], [], _, _ => ⟨[u0, u1], rfl, rfl, (.cons rfl (.cons rfl .nil))⟩
  | n + 1, hs => cases hs
theorem g_tables2_times_of (KX : K.In h) (G : h.Ns mainGlobals mg) (c : Fcs w h K) : DefG K mg T 62 F_tables2_times_of := by
  obtain ⟨fdt, F⟩ := (fcsD c).def_ 21 (d := d_tables2_times_of) rfl
  refine ⟨_, _, _, _, _, _, _, _, fdt, [("one" : Str), ("other" : Str), ("here" : Str), ("there" : Str)], [("one" : Str), ("other" : Str)], He.glo_ok KX G ((fcsD c).fact 21 (f := .glo "times_of") rfl), F, s_tables2_times_of, rfl, rfl, k_tables2_times_of, fun i sh hs => ?_⟩
  match i, hs with
  | 0, hs =>
    cases hs
    exact shp0 F fun kV doc pm an cdv ct us ws h1 h2 => match us, ws, h1, h2 with
      | [u0, u1], [], _, _ => ⟨[u0, u1], rfl, rfl, (.cons rfl (.cons rfl .nil))⟩
  | n + 1, hs => cases hs
theorem g_tables2_fold_of (KX : K.In h) (G : h.Ns mainGlobals mg) (c : Fcs w h K) : DefG K mg T 63 F_tables2_fold_of := by
  obtain ⟨fdt, F⟩ := (fcsD c).def_ 22 (d := d_tables2_fold_of) rfl
  refine ⟨_, _, _, _, _, _, _, _, fdt, [("one" : Str), ("other" : Str), ("point" : Str), ("here" : Str), ("there" : Str), ("found" : Str), ("middle" : Str)], [("one" : Str), ("other" : Str)], He.glo_ok KX G ((fcsD c).fact 22 (f := .glo "fold_of") rfl), F, s_tables2_fold_of, rfl, rfl, k_tables2_fold_of, fun i sh hs => ?_⟩
  match i, hs with
  | 0, hs =>
    cases hs
    exact shp0 F fun kV doc pm an cdv ct us ws h1 h2 => match us, ws, h1, h2 with
      | [u0, u1], [], _, _ => ⟨[u0, u1], rfl, rfl, (.cons rfl (.cons rfl .nil))⟩
  | n + 1, hs => cases hs
theorem g_tables2_spread (KX : K.In h) (G : h.Ns mainGlobals mg) (c : Fcs w h K) : DefG K mg T 64 F_tables2_spread := by
  obtain ⟨fdt, F⟩ := (fcsD c).def_ 23 (d := d_tables2_spread) rfl
  refine ⟨_, _, _, _, _, _, _, _, fdt, [("table" : Str), ("point" : Str), ("own" : Str), ("found" : Str), ("other" : Str)], [("table" : Str)], He.glo_ok KX G ((fcsD c).fact 23 (f := .glo "spread_tables2") rfl), F, s_tables2_spread, rfl, rfl, k_tables2_spread, fun i sh hs => ?_⟩
  match i, hs with
  | 0, hs =>
    cases hs
    exact shp0 F fun kV doc pm an cdv ct us ws h1 h2 => match us, ws, h1, h2 with
      | [u0], [], _, _ => ⟨[u0], rfl, rfl, (.cons rfl .nil)⟩
  | n + 1, hs => cases hs
theorem g_tables2_plus_tables (KX : K.In h) (G : h.Ns mainGlobals mg) (c : Fcs w h K) : DefG K mg T 65 F_tables2_plus_tables := by
  obtain ⟨fdt, F⟩ := (fcsD c).def_ 24 (d := d_tables2_plus_tables) rfl
  refine ⟨_, _, _, _, _, _, _, _, fdt, [("one" : Str), ("other" : Str)], [("one" : Str), ("other" : Str)], He.glo_ok KX G ((fcsD c).fact 24 (f := .glo "plus_tables") rfl), F, s_tables2_plus_tables, rfl, rfl, k_tables2_plus_tables, fun i sh hs => ?_⟩
  match i, hs with
  | 0, hs =>
    cases hs
    exact shp0 F fun kV doc pm an cdv ct us ws h1 h2 => match us, ws, h1, h2 with
      | [u0, u1], [], _, _ => ⟨[u0, u1], rfl, rfl, (.cons rfl (.cons rfl .nil))⟩
  | n + 1, hs => cases hs
theorem g_tables2_times_tables (KX : K.In h) (G : h.Ns mainGlobals mg) (c : Fcs w h K) : DefG K mg T 66 F_tables2_times_tables := by
  obtain ⟨fdt, F⟩ := (fcsD c).def_ 25 (d := d_tables2_times_tables) rfl
  refine ⟨_, _, _, _, _, _, _, _, fdt, [("one" : Str), ("other" : Str)], [("one" : Str), ("other" : Str)], He.glo_ok KX G ((fcsD c).fact 25 (f := .glo "times_tables") rfl), F, s_tables2_times_tables, rfl, rfl, k_tables2_times_tables, fun i sh hs => ?_⟩
  match i, hs with
  | 0, hs =>
    cases hs
    exact shp0 F fun kV doc pm an cdv ct us ws h1 h2 => match us, ws, h1, h2 with
      | [u0, u1], [], _, _ => ⟨[u0, u1], rfl, rfl, (.cons rfl (.cons rfl .nil))⟩
  | n + 1, hs => cases hs
theorem g_tables2_fold_tables (KX : K.In h) (G : h.Ns mainGlobals mg) (c : Fcs w h K) : DefG K mg T 67 F_tables2_fold_tables := by
  obtain ⟨fdt, F⟩ := (fcsD c).def_ 26 (d := d_tables2_fold_tables) rfl
  refine ⟨_, _, _, _, _, _, _, _, fdt, [("one" : Str), ("other" : Str)], [("one" : Str), ("other" : Str)], He.glo_ok KX G ((fcsD c).fact 26 (f := .glo "fold_tables") rfl), F, s_tables2_fold_tables, rfl, rfl, k_tables2_fold_tables, fun i sh hs => ?_⟩
  match i, hs with
  | 0, hs =>
    cases hs
    exact shp0 F fun kV doc pm an cdv ct us ws h1 h2 => match us, ws, h1, h2 with
      | [u0, u1], [], _, _ => ⟨[u0, u1], rfl, rfl, (.cons rfl (.cons rfl .nil))⟩
  | n + 1, hs => cases hs
theorem g_tables2_scaled_table (KX : K.In h) (G : h.Ns mainGlobals mg) (c : Fcs w h K) : DefG K mg T 68 F_tables2_scaled_table := by
  obtain ⟨fdt, F⟩ := (fcsD c).def_ 27 (d := d_tables2_scaled_table) rfl
  refine ⟨_, _, _, _, _, _, _, _, fdt, [("by" : Str), ("table" : Str)], [("by" : Str), ("table" : Str)], He.glo_ok KX G ((fcsD c).fact 27 (f := .glo "scaled_table") rfl), F, s_tables2_scaled_table, rfl, rfl, k_tables2_scaled_table, fun i sh hs => ?_⟩
  match i, hs with
  | 0, hs =>
    cases hs
    exact shp0 F fun kV doc pm an cdv ct us ws h1 h2 => match us, ws, h1, h2 with
      | [u0, u1], [], _, _ => ⟨[u0, u1], rfl, rfl, (.cons rfl (.cons rfl .nil))⟩
  | n + 1, hs => cases hs
theorem g_tables2_spread_table (KX : K.In h) (G : h.Ns mainGlobals mg) (c : Fcs w h K) : DefG K mg T 69 F_tables2_spread_table := by
  obtain ⟨fdt, F⟩ := (fcsD c).def_ 28 (d := d_tables2_spread_table) rfl
  refine ⟨_, _, _, _, _, _, _, _, fdt, [("table" : Str)], [("table" : Str)], He.glo_ok KX G ((fcsD c).fact 28 (f := .glo "spread_table") rfl), F, s_tables2_spread_table, rfl, rfl, k_tables2_spread_table, fun i sh hs => ?_⟩
  match i, hs with
  | 0, hs =>
    cases hs
    exact shp0 F fun kV doc pm an cdv ct us ws h1 h2 => match us, ws, h1, h2 with
      | [u0], [], _, _ => ⟨[u0], rfl, rfl, (.cons rfl .nil)⟩
  | n + 1, hs => cases hs
theorem g_spread3_many_of (KX : K.In h) (G : h.Ns mainGlobals mg) (c : Fcs w h K) : DefG K mg T 12 F_spread3_many_of := by
  obtain ⟨fdt, F⟩ := (fcsD c).def_ 29 (d := d_spread3_many_of) rfl
  refine ⟨_, _, _, _, _, _, _, _, fdt, [("table" : Str), ("many" : Str)], [("table" : Str)], He.glo_ok KX G ((fcsD c).fact 29 (f := .glo "many_of") rfl), F, s_spread3_many_of, rfl, rfl, k_spread3_many_of, fun i sh hs => ?_⟩
  match i, hs with
  | 0, hs =>
    cases hs
    exact shp0 F fun kV doc pm an cdv ct us ws h1 h2 => match us, ws, h1, h2 with
      | [u0], [], _, _ => ⟨[u0], rfl, rfl, (.cons rfl .nil)⟩
  | n + 1, hs => cases hs
theorem g_spread3_spread_line (KX : K.In h) (G : h.Ns mainGlobals mg) (c : Fcs w h K) : DefG K mg T 13 F_spread3_spread_line := by
  obtain ⟨fdt, F⟩ := (fcsD c).def_ 30 (d := d_spread3_spread_line) rfl
  refine ⟨_, _, _, _, _, _, _, _, fdt, [("numbers" : Str), ("found" : Str), ("step" : Str), ("at" : Str), ("one" : Str), ("other" : Str)], [("numbers" : Str)], He.glo_ok KX G ((fcsD c).fact 30 (f := .glo "spread_line") rfl), F, s_spread3_spread_line, rfl, rfl, k_spread3_spread_line, fun i sh hs => ?_⟩
  match i, hs with
  | 0, hs =>
    cases hs
    exact shp0 F fun kV doc pm an cdv ct us ws h1 h2 => match us, ws, h1, h2 with
      | [u0], [], _, _ => ⟨[u0], rfl, rfl, (.cons rfl .nil)⟩
  | n + 1, hs => cases hs
theorem g_spread3_parted_line (KX : K.In h) (G : h.Ns mainGlobals mg) (c : Fcs w h K) : DefG K mg T 14 F_spread3_parted_line := by
  obtain ⟨fdt, F⟩ := (fcsD c).def_ 31 (d := d_spread3_parted_line) rfl
  refine ⟨_, _, _, _, _, _, _, _, fdt, [("numbers" : Str), ("by" : Str), ("one" : Str)], [("numbers" : Str)], He.glo_ok KX G ((fcsD c).fact 31 (f := .glo "parted_line") rfl), F, s_spread3_parted_line, rfl, rfl, k_spread3_parted_line, fun i sh hs => ?_⟩
  match i, hs with
  | 0, hs =>
    cases hs
    exact shp0 F fun kV doc pm an cdv ct us ws h1 h2 => match us, ws, h1, h2 with
      | [u0], [], _, _ => ⟨[u0], rfl, rfl, (.cons rfl .nil)⟩
  | n + 1, hs => cases hs
theorem g_spread3_spread (KX : K.In h) (G : h.Ns mainGlobals mg) (c : Fcs w h K) : DefG K mg T 15 F_spread3_spread := by
  obtain ⟨fdt, F⟩ := (fcsD c).def_ 32 (d := d_spread3_spread) rfl
  refine ⟨_, _, _, _, _, _, _, _, fdt, [("table" : Str)], [("table" : Str)], He.glo_ok KX G ((fcsD c).fact 32 (f := .glo "spread_spread3") rfl), F, s_spread3_spread, rfl, rfl, k_spread3_spread, fun i sh hs => ?_⟩
  match i, hs with
  | 0, hs =>
    cases hs
    exact shp0 F fun kV doc pm an cdv ct us ws h1 h2 => match us, ws, h1, h2 with
      | [u0], [], _, _ => ⟨[u0], rfl, rfl, (.cons rfl .nil)⟩
  | 1, hs =>
    cases hs
    exact shp0 F fun kV doc pm an cdv ct us ws h1 h2 => match us, ws, h1, h2 with
      | [], [v0], _, _ => ⟨[v0], rfl, rfl, (.cons rfl .nil)⟩
  | n + 2, hs => cases hs
theorem g_spread3_unspread (KX : K.In h) (G : h.Ns mainGlobals mg) (c : Fcs w h K) : DefG K mg T 16 F_spread3_unspread := by
  obtain ⟨fdt, F⟩ := (fcsD c).def_ 33 (d := d_spread3_unspread) rfl
  refine ⟨_, _, _, _, _, _, _, _, fdt, [("table" : Str)], [("table" : Str)], He.glo_ok KX G ((fcsD c).fact 33 (f := .glo "unspread") rfl), F, s_spread3_unspread, rfl, rfl, k_spread3_unspread, fun i sh hs => ?_⟩
  match i, hs with
  | 0, hs =>
    cases hs
    exact shp0 F fun kV doc pm an cdv ct us ws h1 h2 => match us, ws, h1, h2 with
      | [u0], [], _, _ => ⟨[u0], rfl, rfl, (.cons rfl .nil)⟩
  | 1, hs =>
    cases hs
    exact shp0 F fun kV doc pm an cdv ct us ws h1 h2 => match us, ws, h1, h2 with
      | [], [v0], _, _ => ⟨[v0], rfl, rfl, (.cons rfl .nil)⟩
  | n + 2, hs => cases hs
theorem g_l_law_begun (KX : K.In h) (G : h.Ns mainGlobals mg) (c : Fcs w h K) : DefG K mg T 18 F_l_law_begun := by
  obtain ⟨fdt, F⟩ := (fcsD c).def_ 34 (d := d_l_law_begun) rfl
  refine ⟨_, _, _, _, _, _, _, _, fdt, [("script" : Str), ("great" : Str), ("cell" : Str)], [("script" : Str)], He.glo_ok KX G ((fcsD c).fact 34 (f := .glo "_law_begun") rfl), F, s_l_law_begun, rfl, rfl, k_l_law_begun, fun i sh hs => ?_⟩
  match i, hs with
  | 0, hs =>
    cases hs
    exact shp0 F fun kV doc pm an cdv ct us ws h1 h2 => match us, ws, h1, h2 with
      | [u0], [], _, _ => ⟨[u0], rfl, rfl, (.cons rfl .nil)⟩
  | n + 1, hs => cases hs
theorem g_l_law_mixed (KX : K.In h) (G : h.Ns mainGlobals mg) (c : Fcs w h K) : DefG K mg T 19 F_l_law_mixed := by
  obtain ⟨fdt, F⟩ := (fcsD c).def_ 35 (d := d_l_law_mixed) rfl
  refine ⟨_, _, _, _, _, _, _, _, fdt, [("state" : Str), ("prime" : Str), ("turn" : Str), ("found" : Str), ("blend" : Str), ("cell" : Str)], [("state" : Str)], He.glo_ok KX G ((fcsD c).fact 35 (f := .glo "_law_mixed") rfl), F, s_l_law_mixed, rfl, rfl, k_l_law_mixed, fun i sh hs => ?_⟩
  match i, hs with
  | 0, hs =>
    cases hs
    exact shp0 F fun kV doc pm an cdv ct us ws h1 h2 => match us, ws, h1, h2 with
      | [u0], [], _, _ => ⟨[u0], rfl, rfl, (.cons rfl .nil)⟩
  | n + 1, hs => cases hs
theorem g_l_law_draw (KX : K.In h) (G : h.Ns mainGlobals mg) (c : Fcs w h K) : DefG K mg T 20 F_l_law_draw := by
  obtain ⟨fdt, F⟩ := (fcsD c).def_ 36 (d := d_l_law_draw) rfl
  refine ⟨_, _, _, _, _, _, _, _, fdt, [("state" : Str), ("room" : Str), ("found" : Str)], [("state" : Str), ("room" : Str)], He.glo_ok KX G ((fcsD c).fact 36 (f := .glo "_law_draw") rfl), F, s_l_law_draw, rfl, rfl, k_l_law_draw, fun i sh hs => ?_⟩
  match i, hs with
  | 0, hs =>
    cases hs
    exact shp0 F fun kV doc pm an cdv ct us ws h1 h2 => match us, ws, h1, h2 with
      | [u0, u1], [], _, _ => ⟨[u0, u1], rfl, rfl, (.cons rfl (.cons rfl .nil))⟩
  | n + 1, hs => cases hs
theorem g_l_law_pick (KX : K.In h) (G : h.Ns mainGlobals mg) (c : Fcs w h K) : DefG K mg T 21 F_l_law_pick := by
  obtain ⟨fdt, F⟩ := (fcsD c).def_ 37 (d := d_l_law_pick) rfl
  refine ⟨_, _, _, _, _, _, _, _, fdt, [("state" : Str), ("some" : Str)], [("state" : Str), ("some" : Str)], He.glo_ok KX G ((fcsD c).fact 37 (f := .glo "_law_pick") rfl), F, s_l_law_pick, rfl, rfl, k_l_law_pick, fun i sh hs => ?_⟩
  match i, hs with
  | 0, hs =>
    cases hs
    exact shp0 F fun kV doc pm an cdv ct us ws h1 h2 => match us, ws, h1, h2 with
      | [u0, u1], [], _, _ => ⟨[u0, u1], rfl, rfl, (.cons rfl (.cons rfl .nil))⟩
  | n + 1, hs => cases hs
theorem g_l_law_plain (KX : K.In h) (G : h.Ns mainGlobals mg) (c : Fcs w h K) : DefG K mg T 22 F_l_law_plain := by
  obtain ⟨fdt, F⟩ := (fcsD c).def_ 38 (d := d_l_law_plain) rfl
  refine ⟨_, _, _, _, _, _, _, _, fdt, [("value" : Str), ("one" : Str)], [("value" : Str)], He.glo_ok KX G ((fcsD c).fact 38 (f := .glo "_law_plain") rfl), F, s_l_law_plain, rfl, rfl, k_l_law_plain, fun i sh hs => ?_⟩
  match i, hs with
  | 0, hs =>
    cases hs
    exact shp0 F fun kV doc pm an cdv ct us ws h1 h2 => match us, ws, h1, h2 with
      | [u0], [], _, _ => ⟨[u0], rfl, rfl, (.cons rfl .nil)⟩
  | n + 1, hs => cases hs
theorem g_l_law_is (KX : K.In h) (G : h.Ns mainGlobals mg) (c : Fcs w h K) : DefG K mg T 23 F_l_law_is := by
  obtain ⟨fdt, F⟩ := (fcsD c).def_ 39 (d := d_l_law_is) rfl
  refine ⟨_, _, _, _, _, _, _, _, fdt, [("found" : Str), ("due" : Str)], [("found" : Str), ("due" : Str)], He.glo_ok KX G ((fcsD c).fact 39 (f := .glo "_law_is") rfl), F, s_l_law_is, rfl, rfl, k_l_law_is, fun i sh hs => ?_⟩
  match i, hs with
  | 0, hs =>
    cases hs
    exact shp0 F fun kV doc pm an cdv ct us ws h1 h2 => match us, ws, h1, h2 with
      | [u0, u1], [], _, _ => ⟨[u0, u1], rfl, rfl, (.cons rfl (.cons rfl .nil))⟩
  | n + 1, hs => cases hs
theorem g_l_law_common (KX : K.In h) (G : h.Ns mainGlobals mg) (c : Fcs w h K) : DefG K mg T 24 F_l_law_common := by
  obtain ⟨fdt, F⟩ := (fcsD c).def_ 40 (d := d_l_law_common) rfl
  refine ⟨_, _, _, _, _, _, _, _, fdt, [("one" : Str), ("other" : Str)], [("one" : Str), ("other" : Str)], He.glo_ok KX G ((fcsD c).fact 40 (f := .glo "_law_common") rfl), F, s_l_law_common, rfl, rfl, k_l_law_common, fun i sh hs => ?_⟩
  match i, hs with
  | 0, hs =>
    cases hs
    exact shp0 F fun kV doc pm an cdv ct us ws h1 h2 => match us, ws, h1, h2 with
      | [u0, u1], [], _, _ => ⟨[u0, u1], rfl, rfl, (.cons rfl (.cons rfl .nil))⟩
  | n + 1, hs => cases hs
theorem g_l_law_no (KX : K.In h) (G : h.Ns mainGlobals mg) (c : Fcs w h K) : DefG K mg T 25 F_l_law_no := by
  obtain ⟨fdt, F⟩ := (fcsD c).def_ 41 (d := d_l_law_no) rfl
  refine ⟨_, _, _, _, _, _, _, _, fdt, [("upper" : Str), ("lower" : Str), ("by" : Str)], [("upper" : Str), ("lower" : Str)], He.glo_ok KX G ((fcsD c).fact 41 (f := .glo "_law_no") rfl), F, s_l_law_no, rfl, rfl, k_l_law_no, fun i sh hs => ?_⟩
  match i, hs with
  | 0, hs =>
    cases hs
    exact shp0 F fun kV doc pm an cdv ct us ws h1 h2 => match us, ws, h1, h2 with
      | [u0, u1], [], _, _ => ⟨[u0, u1], rfl, rfl, (.cons rfl (.cons rfl .nil))⟩
  | n + 1, hs => cases hs
theorem g_l_law_plus (KX : K.In h) (G : h.Ns mainGlobals mg) (c : Fcs w h K) : DefG K mg T 26 F_l_law_plus := by
  obtain ⟨fdt, F⟩ := (fcsD c).def_ 42 (d := d_l_law_plus) rfl
  refine ⟨_, _, _, _, _, _, _, _, fdt, [("one" : Str), ("other" : Str)], [("one" : Str), ("other" : Str)], He.glo_ok KX G ((fcsD c).fact 42 (f := .glo "_law_plus") rfl), F, s_l_law_plus, rfl, rfl, k_l_law_plus, fun i sh hs => ?_⟩
  match i, hs with
  | 0, hs =>
    cases hs
    exact shp0 F fun kV doc pm an cdv ct us ws h1 h2 => match us, ws, h1, h2 with
      | [u0, u1], [], _, _ => ⟨[u0, u1], rfl, rfl, (.cons rfl (.cons rfl .nil))⟩
  | n + 1, hs => cases hs
theorem g_l_law_times (KX : K.In h) (G : h.Ns mainGlobals mg) (c : Fcs w h K) : DefG K mg T 27 F_l_law_times := by
  obtain ⟨fdt, F⟩ := (fcsD c).def_ 43 (d := d_l_law_times) rfl
  refine ⟨_, _, _, _, _, _, _, _, fdt, [("one" : Str), ("other" : Str)], [("one" : Str), ("other" : Str)], He.glo_ok KX G ((fcsD c).fact 43 (f := .glo "_law_times") rfl), F, s_l_law_times, rfl, rfl, k_l_law_times, fun i sh hs => ?_⟩
  match i, hs with
  | 0, hs =>
    cases hs
    exact shp0 F fun kV doc pm an cdv ct us ws h1 h2 => match us, ws, h1, h2 with
      | [u0, u1], [], _, _ => ⟨[u0, u1], rfl, rfl, (.cons rfl (.cons rfl .nil))⟩
  | n + 1, hs => cases hs
theorem g_l_law_total (KX : K.In h) (G : h.Ns mainGlobals mg) (c : Fcs w h K) : DefG K mg T 28 F_l_law_total := by
  obtain ⟨fdt, F⟩ := (fcsD c).def_ 44 (d := d_l_law_total) rfl
  refine ⟨_, _, _, _, _, _, _, _, fdt, [("numbers" : Str), ("found" : Str), ("number_v" : Str)], [("numbers" : Str)], He.glo_ok KX G ((fcsD c).fact 44 (f := .glo "_law_total") rfl), F, s_l_law_total, rfl, rfl, k_l_law_total, fun i sh hs => ?_⟩
  match i, hs with
  | 0, hs =>
    cases hs
    exact shp0 F fun kV doc pm an cdv ct us ws h1 h2 => match us, ws, h1, h2 with
      | [u0], [], _, _ => ⟨[u0], rfl, rfl, (.cons rfl .nil)⟩
  | n + 1, hs => cases hs
theorem g_l_law_some_number (KX : K.In h) (G : h.Ns mainGlobals mg) (c : Fcs w h K) : DefG K mg T 29 F_l_law_some_number := by
  obtain ⟨fdt, F⟩ := (fcsD c).def_ 45 (d := d_l_law_some_number) rfl
  refine ⟨_, _, _, _, _, _, _, _, fdt, [("state" : Str), ("wide" : Str), ("upper" : Str)], [("state" : Str), ("wide" : Str)], He.glo_ok KX G ((fcsD c).fact 45 (f := .glo "_law_some_number") rfl), F, s_l_law_some_number, rfl, rfl, k_l_law_some_number, fun i sh hs => ?_⟩
  match i, hs with
  | 0, hs =>
    cases hs
    exact shp0 F fun kV doc pm an cdv ct us ws h1 h2 => match us, ws, h1, h2 with
      | [u0, u1], [], _, _ => ⟨[u0, u1], rfl, rfl, (.cons rfl (.cons rfl .nil))⟩
  | n + 1, hs => cases hs
theorem g_l_law_points (KX : K.In h) (G : h.Ns mainGlobals mg) (c : Fcs w h K) : DefG K mg T 30 F_l_law_points := by
  obtain ⟨fdt, F⟩ := (fcsD c).def_ 46 (d := d_l_law_points) rfl
  refine ⟨_, _, _, _, _, _, _, _, fdt, [("many" : Str), ("found" : Str), ("lap" : Str), ("one" : Str)], [("many" : Str)], He.glo_ok KX G ((fcsD c).fact 46 (f := .glo "_law_points") rfl), F, s_l_law_points, rfl, rfl, k_l_law_points, fun i sh hs => ?_⟩
  match i, hs with
  | 0, hs =>
    cases hs
    exact shp0 F fun kV doc pm an cdv ct us ws h1 h2 => match us, ws, h1, h2 with
      | [u0], [], _, _ => ⟨[u0], rfl, rfl, (.cons rfl .nil)⟩
  | n + 1, hs => cases hs
theorem g_l_law_wide (KX : K.In h) (G : h.Ns mainGlobals mg) (c : Fcs w h K) : DefG K mg T 31 F_l_law_wide := by
  obtain ⟨fdt, F⟩ := (fcsD c).def_ 47 (d := d_l_law_wide) rfl
  refine ⟨_, _, _, _, _, _, _, _, fdt, [("many" : Str)], [("many" : Str)], He.glo_ok KX G ((fcsD c).fact 47 (f := .glo "_law_wide") rfl), F, s_l_law_wide, rfl, rfl, k_l_law_wide, fun i sh hs => ?_⟩
  match i, hs with
  | 0, hs =>
    cases hs
    exact shp0 F fun kV doc pm an cdv ct us ws h1 h2 => match us, ws, h1, h2 with
      | [u0], [], _, _ => ⟨[u0], rfl, rfl, (.cons rfl .nil)⟩
  | n + 1, hs => cases hs
theorem g_l_law_sign (KX : K.In h) (G : h.Ns mainGlobals mg) (c : Fcs w h K) : DefG K mg T 32 F_l_law_sign := by
  obtain ⟨fdt, F⟩ := (fcsD c).def_ 48 (d := d_l_law_sign) rfl
  refine ⟨_, _, _, _, _, _, _, _, fdt, [("one" : Str), ("other" : Str), ("here" : Str), ("there" : Str)], [("one" : Str), ("other" : Str)], He.glo_ok KX G ((fcsD c).fact 48 (f := .glo "_law_sign") rfl), F, s_l_law_sign, rfl, rfl, k_l_law_sign, fun i sh hs => ?_⟩
  match i, hs with
  | 0, hs =>
    cases hs
    exact shp0 F fun kV doc pm an cdv ct us ws h1 h2 => match us, ws, h1, h2 with
      | [u0, u1], [], _, _ => ⟨[u0, u1], rfl, rfl, (.cons rfl (.cons rfl .nil))⟩
  | n + 1, hs => cases hs
theorem g_l_law_spread (KX : K.In h) (G : h.Ns mainGlobals mg) (c : Fcs w h K) : DefG K mg T 33 F_l_law_spread := by
  obtain ⟨fdt, F⟩ := (fcsD c).def_ 49 (d := d_l_law_spread) rfl
  refine ⟨_, _, _, _, _, _, _, _, fdt, [("many" : Str), ("line" : Str), ("points" : Str), ("s" : Str), ("x" : Str), ("one" : Str)], [("many" : Str), ("line" : Str)], He.glo_ok KX G ((fcsD c).fact 49 (f := .glo "_law_spread") rfl), F, s_l_law_spread, rfl, rfl, k_l_law_spread, fun i sh hs => ?_⟩
  match i, hs with
  | 0, hs =>
    cases hs
    exact shp0 F fun kV doc pm an cdv ct us ws h1 h2 => match us, ws, h1, h2 with
      | [u0, u1], [], _, _ => ⟨[u0, u1], rfl, rfl, (.cons rfl (.cons rfl .nil))⟩
  | n + 1, hs => cases hs
theorem g_l_law_folded (KX : K.In h) (G : h.Ns mainGlobals mg) (c : Fcs w h K) : DefG K mg T 48 F_l_law_folded := by
  obtain ⟨fdt, F⟩ := (fcsD c).def_ 50 (d := d_l_law_folded) rfl
  refine ⟨_, _, _, _, _, _, _, _, fdt, [("many" : Str), ("one" : Str), ("other" : Str), ("points" : Str), ("known" : Str), ("x" : Str), ("y" : Str), ("here" : Str), ("a" : Str), ("b" : Str)], [("many" : Str), ("one" : Str), ("other" : Str)], He.glo_ok KX G ((fcsD c).fact 50 (f := .glo "_law_folded") rfl), F, s_l_law_folded, rfl, rfl, k_l_law_folded, fun i sh hs => ?_⟩
  match i, hs with
  | 0, hs =>
    cases hs
    exact shp0 F fun kV doc pm an cdv ct us ws h1 h2 => match us, ws, h1, h2 with
      | [u0, u1, u2], [], _, _ => ⟨[u0, u1, u2], rfl, rfl, (.cons rfl (.cons rfl (.cons rfl .nil)))⟩
  | n + 1, hs => cases hs
theorem g_l_law_some_line (KX : K.In h) (G : h.Ns mainGlobals mg) (c : Fcs w h K) : DefG K mg T 34 F_l_law_some_line := by
  obtain ⟨fdt, F⟩ := (fcsD c).def_ 51 (d := d_l_law_some_line) rfl
  refine ⟨_, _, _, _, _, _, _, _, fdt, [("state" : Str), ("many" : Str), ("point" : Str)], [("state" : Str), ("many" : Str)], He.glo_ok KX G ((fcsD c).fact 51 (f := .glo "_law_some_line") rfl), F, s_l_law_some_line, rfl, rfl, k_l_law_some_line, fun i sh hs => ?_⟩
  match i, hs with
  | 0, hs =>
    cases hs
    exact shp0 F fun kV doc pm an cdv ct us ws h1 h2 => match us, ws, h1, h2 with
      | [u0, u1], [], _, _ => ⟨[u0, u1], rfl, rfl, (.cons rfl (.cons rfl .nil))⟩
  | n + 1, hs => cases hs
theorem g_l_law_some_holed (KX : K.In h) (G : h.Ns mainGlobals mg) (c : Fcs w h K) : DefG K mg T 49 F_l_law_some_holed := by
  obtain ⟨fdt, F⟩ := (fcsD c).def_ 52 (d := d_l_law_some_holed) rfl
  refine ⟨_, _, _, _, _, _, _, _, fdt, [("state" : Str), ("many" : Str), ("line" : Str), ("point" : Str), ("one" : Str)], [("state" : Str), ("many" : Str)], He.glo_ok KX G ((fcsD c).fact 52 (f := .glo "_law_some_holed") rfl), F, s_l_law_some_holed, rfl, rfl, k_l_law_some_holed, fun i sh hs => ?_⟩
  match i, hs with
  | 0, hs =>
    cases hs
    exact shp0 F fun kV doc pm an cdv ct us ws h1 h2 => match us, ws, h1, h2 with
      | [u0, u1], [], _, _ => ⟨[u0, u1], rfl, rfl, (.cons rfl (.cons rfl .nil))⟩
  | n + 1, hs => cases hs
theorem g_l_law (KX : K.In h) (G : h.Ns mainGlobals mg) (c : Fcs w h K) : DefG K mg T 35 F_l_law := by
  obtain ⟨fdt, F⟩ := (fcsD c).def_ 53 (d := d_l_law) rfl
  refine ⟨_, _, _, _, _, _, _, _, fdt, [("script" : Str), ("state" : Str), ("lap" : Str), ("one" : Str), ("other" : Str), ("many" : Str), ("lines_v" : Str), ("folded" : Str), ("product" : Str), ("number_v" : Str), ("wide" : Str)], [("script" : Str)], He.glo_ok KX G ((fcsD c).fact 53 (f := .glo "law") rfl), F, s_l_law, rfl, rfl, k_l_law, fun i sh hs => ?_⟩
  match i, hs with
  | 0, hs =>
    cases hs
    exact shp0 F fun kV doc pm an cdv ct us ws h1 h2 => match us, ws, h1, h2 with
      | [u0], [], _, _ => ⟨[u0], rfl, rfl, (.cons rfl .nil)⟩
  | n + 1, hs => cases hs
theorem all_g (KX : K.In h) (G : h.Ns mainGlobals mg) (c : Fcs w h K) : ∀ fi fd, T.fd fi = some fd → DefG K mg T fi fd := by
  have all : ∀ q ∈ fds, DefG K mg T q.1 q.2 := by
    exact List.forall_mem_cons.mpr ⟨g_names1_is_whole KX G c, List.forall_mem_cons.mpr ⟨g_names1_is_below KX G c, List.forall_mem_cons.mpr ⟨g_numbers1_number KX G c, List.forall_mem_cons.mpr ⟨g_numbers1_is_number KX G c, List.forall_mem_cons.mpr ⟨g_numbers1_plus KX G c, List.forall_mem_cons.mpr ⟨g_numbers1_minus KX G c, List.forall_mem_cons.mpr ⟨g_numbers1_times KX G c, List.forall_mem_cons.mpr ⟨g_numbers1_total KX G c, List.forall_mem_cons.mpr ⟨g_points1_points_of KX G c, List.forall_mem_cons.mpr ⟨g_points1_need_many KX G c, List.forall_mem_cons.mpr ⟨g_points1_added KX G c, List.forall_mem_cons.mpr ⟨g_points1_is_odd KX G c, List.forall_mem_cons.mpr ⟨g_tables2_is_any_table KX G c, List.forall_mem_cons.mpr ⟨g_tables2_need_any KX G c, List.forall_mem_cons.mpr ⟨g_tables2_switches_of KX G c, List.forall_mem_cons.mpr ⟨g_tables2_is_table KX G c, List.forall_mem_cons.mpr ⟨g_tables2_need_alike KX G c, List.forall_mem_cons.mpr ⟨g_tables2_made KX G c, List.forall_mem_cons.mpr ⟨g_tables2_lines KX G c, List.forall_mem_cons.mpr ⟨g_tables2_summed KX G c, List.forall_mem_cons.mpr ⟨g_tables2_scaled KX G c, List.forall_mem_cons.mpr ⟨g_tables2_times_of KX G c, List.forall_mem_cons.mpr ⟨g_tables2_fold_of KX G c, List.forall_mem_cons.mpr ⟨g_tables2_spread KX G c, List.forall_mem_cons.mpr ⟨g_tables2_plus_tables KX G c, List.forall_mem_cons.mpr ⟨g_tables2_times_tables KX G c, List.forall_mem_cons.mpr ⟨g_tables2_fold_tables KX G c, List.forall_mem_cons.mpr ⟨g_tables2_scaled_table KX G c, List.forall_mem_cons.mpr ⟨g_tables2_spread_table KX G c, List.forall_mem_cons.mpr ⟨g_spread3_many_of KX G c, List.forall_mem_cons.mpr ⟨g_spread3_spread_line KX G c, List.forall_mem_cons.mpr ⟨g_spread3_parted_line KX G c, List.forall_mem_cons.mpr ⟨g_spread3_spread KX G c, List.forall_mem_cons.mpr ⟨g_spread3_unspread KX G c, List.forall_mem_cons.mpr ⟨g_l_law_begun KX G c, List.forall_mem_cons.mpr ⟨g_l_law_mixed KX G c, List.forall_mem_cons.mpr ⟨g_l_law_draw KX G c, List.forall_mem_cons.mpr ⟨g_l_law_pick KX G c, List.forall_mem_cons.mpr ⟨g_l_law_plain KX G c, List.forall_mem_cons.mpr ⟨g_l_law_is KX G c, List.forall_mem_cons.mpr ⟨g_l_law_common KX G c, List.forall_mem_cons.mpr ⟨g_l_law_no KX G c, List.forall_mem_cons.mpr ⟨g_l_law_plus KX G c, List.forall_mem_cons.mpr ⟨g_l_law_times KX G c, List.forall_mem_cons.mpr ⟨g_l_law_total KX G c, List.forall_mem_cons.mpr ⟨g_l_law_some_number KX G c, List.forall_mem_cons.mpr ⟨g_l_law_points KX G c, List.forall_mem_cons.mpr ⟨g_l_law_wide KX G c, List.forall_mem_cons.mpr ⟨g_l_law_sign KX G c, List.forall_mem_cons.mpr ⟨g_l_law_spread KX G c, List.forall_mem_cons.mpr ⟨g_l_law_folded KX G c, List.forall_mem_cons.mpr ⟨g_l_law_some_line KX G c, List.forall_mem_cons.mpr ⟨g_l_law_some_holed KX G c, List.forall_mem_cons.mpr ⟨g_l_law KX G c, List.forall_mem_nil _⟩⟩⟩⟩⟩⟩⟩⟩⟩⟩⟩⟩⟩⟩⟩⟩⟩⟩⟩⟩⟩⟩⟩⟩⟩⟩⟩⟩⟩⟩⟩⟩⟩⟩⟩⟩⟩⟩⟩⟩⟩⟩⟩⟩⟩⟩⟩⟩⟩⟩⟩⟩⟩⟩
  intro fi fd e
  exact all (fi, fd) (mem_of_lk e)
theorem gv_g (KX : K.In h) (G : h.Ns mainGlobals mg) (c : Fcs w h K) : ∀ (x : Nat) (d : D), T.gv x = some d → ∃ (u : Value) (v : V), mg (T.nm x) = some u ∧ RelV v u ∧ ∀ w : Wd, Rep K w d v := by
  have hx := c.more
  obtain ⟨hq0, hr0⟩ := a2 hx
  obtain ⟨ht0, hi0⟩ := a2 hq0
  obtain ⟨hq1, hr1⟩ := a2 hr0
  obtain ⟨ht1, hi1⟩ := a2 hq1
  have hg := hr1
  have all : ∀ q ∈ gvs, ∃ (u : Value) (v : V), mg (T.nm q.1) = some u ∧ RelV v u ∧ ∀ w : Wd, Rep K w q.2 v := by
    exact List.forall_mem_cons.mpr ⟨⟨_, .ref (He.ga K "ZERO"), He.glo_ok KX G ((fcsD c).fact 70 (f := .glo "ZERO") rfl), rfl, fun w => .tup (He.tupB_ok ht0 w.H) (.cons (.int _) (.cons (.int _) .nil))⟩, List.forall_mem_cons.mpr ⟨(by
      obtain ⟨t, e⟩ := He.int_ok KX G ((fcsD c).fact 71 (f := .int "MOST_SWITCHES_points1" 4) rfl)
      exact ⟨_, .int 4, e, ⟨t, rfl⟩, fun _ => .int _⟩), List.forall_mem_cons.mpr ⟨⟨_, .ref (He.ga K "WIDTHS"), He.glo_ok KX G ((fcsD c).fact 72 (f := .glo "WIDTHS") rfl), rfl, fun w => .tup (He.tupB_ok ht1 w.H) (.cons (.int _) (.cons (.int _) (.cons (.int _) (.cons (.int _) (.cons (.int _) .nil)))))⟩, List.forall_mem_cons.mpr ⟨(by
      obtain ⟨t, e⟩ := He.int_ok KX G ((fcsD c).fact 73 (f := .int "MOST_SWITCHES_spread3" 4) rfl)
      exact ⟨_, .int 4, e, ⟨t, rfl⟩, fun _ => .int _⟩), List.forall_mem_nil _⟩⟩⟩⟩
  intro x d e
  exact all (x, d) (mem_of_lk e)
theorem fr_g (KX : K.In h) (G : h.Ns mainGlobals mg) (c : Fcs w h K) : ∀ x ∈ T.free, mg x = none := by
  exact List.forall_mem_cons.mpr ⟨He.free_ok KX G ((fcsD c).fact 54 (f := .free "abs") rfl), List.forall_mem_cons.mpr ⟨He.free_ok KX G ((fcsD c).fact 55 (f := .free "all") rfl), List.forall_mem_cons.mpr ⟨He.free_ok KX G ((fcsD c).fact 56 (f := .free "bool") rfl), List.forall_mem_cons.mpr ⟨He.free_ok KX G ((fcsD c).fact 57 (f := .free "dict") rfl), List.forall_mem_cons.mpr ⟨He.free_ok KX G ((fcsD c).fact 58 (f := .free "int") rfl), List.forall_mem_cons.mpr ⟨He.free_ok KX G ((fcsD c).fact 59 (f := .free "isinstance") rfl), List.forall_mem_cons.mpr ⟨He.free_ok KX G ((fcsD c).fact 60 (f := .free "len") rfl), List.forall_mem_cons.mpr ⟨He.free_ok KX G ((fcsD c).fact 61 (f := .free "list") rfl), List.forall_mem_cons.mpr ⟨He.free_ok KX G ((fcsD c).fact 62 (f := .free "min") rfl), List.forall_mem_cons.mpr ⟨He.free_ok KX G ((fcsD c).fact 63 (f := .free "range") rfl), List.forall_mem_cons.mpr ⟨He.free_ok KX G ((fcsD c).fact 64 (f := .free "repr") rfl), List.forall_mem_cons.mpr ⟨He.free_ok KX G ((fcsD c).fact 65 (f := .free "sorted") rfl), List.forall_mem_cons.mpr ⟨He.free_ok KX G ((fcsD c).fact 66 (f := .free "str") rfl), List.forall_mem_cons.mpr ⟨He.free_ok KX G ((fcsD c).fact 67 (f := .free "sum") rfl), List.forall_mem_cons.mpr ⟨He.free_ok KX G ((fcsD c).fact 68 (f := .free "tuple") rfl), List.forall_mem_cons.mpr ⟨He.free_ok KX G ((fcsD c).fact 69 (f := .free "zip") rfl), List.forall_mem_nil _⟩⟩⟩⟩⟩⟩⟩⟩⟩⟩⟩⟩⟩⟩⟩⟩
theorem gc_g (KX : K.In h) (G : h.Ns mainGlobals mg) (c : Fcs w h K) : T.gcd = true → mg "gcd" = some (.builtin "math.gcd") := by
  intro _
  have hx := c.more
  obtain ⟨hq0, hr0⟩ := a2 hx
  obtain ⟨ht0, hi0⟩ := a2 hq0
  obtain ⟨hq1, hr1⟩ := a2 hr0
  obtain ⟨ht1, hi1⟩ := a2 hq1
  have hg := hr1
  exact PySem.W.mg_of KX G (He.eqO_ok hg)
theorem tx_g (KX : K.In h) (G : h.Ns mainGlobals mg) (c : Fcs w h K) : ∀ x ∈ T.tix, ∃ (a : Addr) (o : Obj), mg (T.nm x) = some (.ref a) ∧ K.lookup a = some o ∧ o.cls = .type "tuple" ∧ o.dict = none := by
  have hx := c.more
  obtain ⟨hq0, hr0⟩ := a2 hx
  obtain ⟨ht0, hi0⟩ := a2 hq0
  obtain ⟨hq1, hr1⟩ := a2 hr0
  obtain ⟨ht1, hi1⟩ := a2 hq1
  have hg := hr1
  exact List.forall_mem_cons.mpr ⟨(by
    obtain ⟨o, o1, o2, o3⟩ := tixB_ok hi0
    exact ⟨_, o, He.glo_ok KX G ((fcsD c).fact 70 (f := .glo "ZERO") rfl), o1, o2, o3⟩), List.forall_mem_cons.mpr ⟨(by
    obtain ⟨o, o1, o2, o3⟩ := tixB_ok hi1
    exact ⟨_, o, He.glo_ok KX G ((fcsD c).fact 72 (f := .glo "WIDTHS") rfl), o1, o2, o3⟩), List.forall_mem_nil _⟩⟩
end
abbrev Rw : PySem.W.OpenRow := PySem.W.OpenLaw.row PySem.Challenge.rw_switchbook_k52_whole_spread_folds_and_pr
abbrev hk : PySem.W.Hook := He.hookX 4 fcs dfs [] [] exs

theorem law_g {P : Program} {w : World} {K : PySem.W.Frag} {h : Heap} {mg : Str → Option Value} {f : Addr} (KX : K.In h) (G : h.Ns mainGlobals mg) (hfa : mg ("law" : Str) = some (.ref f)) (c : Fcs w h K) :
    ∃ fdt : FuncData, (∀ (s : Shared) (v : Value), BindsTo s fdt ⟨[v], []⟩ [("script", v)]) ∧ ∀ base : Heap, K.In base → base.Ns mainGlobals mg → FnG P w K mg base 40 f fdt ["script"] (callF T 40 35) := by
  obtain ⟨fdt, F⟩ := (fcsD c).def_ 53 (d := d_l_law) rfl
  have e := hfa.symm.trans (He.glo_ok KX G ((fcsD c).fact 53 (f := .glo "law") rfl))
  cases e
  have b := FunD.bindsA (ps := ["script"]) F fun _ _ _ _ _ _ us hl => match us, hl with | [_], _ => rfl
  obtain ⟨oc, od, dV, kV, doc, pm, an, cdv, ct, osl, e, lk, hcd, _, _⟩ := F.ex
  subst e
  refine ⟨_, fun s v => b s [v] rfl, fun base kb gb => fnG_of lk hcd s_l_law fd_l_law rfl rfl k_l_law (libG (all_g KX G c) (gv_g KX G c) (fr_g KX G c) (gc_g KX G c) (tx_g KX G c) 39)⟩
end Sw
open PySem PySem.W PySem.Calls PyProof.Rows
theorem PySem.Challenge.cw_switchbook_k52_whole_spread_folds_and_pr_holds : PySem.Challenge.rw_switchbook_k52_whole_spread_folds_and_pr.Holds := by
  w_on
  o_law
  o_head Sw.hk
  case hw => w_witness2
  case hc =>
    refine Iv.walk_G (l := PySem.Challenge.rw_switchbook_k52_whole_spread_folds_and_pr) (n := 63) (k := 40) (x := "script") rfl (by decide) (by kernel_rfl) ⟨rfl, by decide, by decide⟩ ?_
    intro w mg fa h Y G hmg0
    obtain ⟨K, KX, c⟩ := Y
    have hmg : mg ("law" : Str) = some (.ref fa) := by
      exact hmg0
    obtain ⟨fdt, hb, hF⟩ := Sw.law_g (P := (PySem.Challenge.rw_switchbook_k52_whole_spread_folds_and_pr).prog) (w := w) KX G hmg c
    exact ⟨K, fdt, _, KX, hb, Sw.law_ok, hF⟩
