import PyProof.Rows.All
import HandS.Walk
import HandS.Star
import HandS.TupAny
import HandS.TupMul
import HandS.Zip
import HandS.Deep
import HandS.Flow
import HandS.Text
import KE.DataCmp
import KE.SortData
import KE.KDictKeyed
import HandS.Slots
import HandS.ExcInit
import HandS.IsInst
import HandS.Style
import HandS.Sort
import HandS.TryOnly
import KE.KAssignIn
import KE.KExcSuper
import HandS.Base
import HandS.Call
import HandS.Exc
import HandS.ExcField
import HandS.ExcIs
import KE.KExcIs
import PyProof.SumAny
import KE.DataMinKey
import PyProof.WalkInts
import PyProof.ListRange
import PyProof.ConsumeS
import HandS.SortKw
import HandS.Words
import HandS.Defaults
import HandS.HeadHook1
import HandS.HeadHook2
import HandS.HeadEnd
import HandS.Head0
import HandS.Head1
import HandS.Head2
import Wide.All
import OpenK.AllK
import Wide.FinOn
import PySem.Challenge.RW_oncesettled_k64_errors_and_what_they_kee
set_option Elab.async false
set_option linter.all false
set_option maxRecDepth 100000
/-! Values, a small syntax, its evaluator. -/
namespace Onc
open PySem L2

/-- a value: numbers, texts, tuples and lists that are no more changed (deep), or the n-th object that can be changed -/
inductive D where
  | non | bl (b : Bool) | int (i : Int) | str (x : Str)
  | tup (xs : List D) | lst (xs : List D) | ref (n : Nat)
  /-- the list that is handed in: it is only cut -/
  | arg (xs : List D)
  /-- an instance that is no more changed: its class, what its slots hold -/
  | obj (x : Str) (fs : List D)
  /-- an exception that is a value: its class, its fields, what they hold -/
  | exc (x : Str) (ns : List Str) (fs : List D)

/-- an object that can be changed: a list, an instance with slots -/
inductive O where
  | lst (xs : List D)
  | ins (x : Str) (fs : List (Option D))
abbrev HS := List O

/-- the n-th from the bottom (the newest stands first) -/
def nth {α : Type} : List α → Nat → Option α
  | [], _ => none
  | o :: h, n => if n = h.length then some o else nth h n
def put {α : Type} : List α → Nat → α → List α
  | [], _, _ => []
  | o :: h, n, u => if n = h.length then u :: h else o :: put h n u

mutual
def D.toP : D → Option PyData
  | .non => some .none
  | .bl b => some (.bool b)
  | .int i => some (.int i)
  | .str x => some (.str x)
  | .tup xs => (D.toPs xs).map .tuple
  | .lst xs => (D.toPs xs).map .list
  | .ref _ => none
  | .arg _ => none
  | .obj _ _ => none
  | .exc _ _ _ => none
def D.toPs : List D → Option (List PyData)
  | [] => some []
  | x :: xs => match x.toP, D.toPs xs with
    | some a, some as => some (a :: as)
    | _, _ => none
end

structure Exc where
  cls : Str
  args : List D

abbrev Res (α : Type) := Option (Except Exc α × HS)
abbrev M (α : Type) := HS → Res α
def M.ret {α : Type} (a : α) : M α := fun h => some (.ok a, h)
def M.fail {α : Type} : M α := fun _ => none
def M.bnd {α β : Type} (m : M α) (f : α → M β) : M β := fun h => match m h with
  | some (.ok a, h') => f a h'
  | some (.error x, h') => some (.error x, h')
  | none => none
def M.opt {α : Type} : Option α → M α
  | some a => M.ret a
  | none => M.fail

/-- a value as it is read now: a list that can be changed as a list -/
def rd (h : HS) : D → D
  | .ref n => match nth h n with
    | some (.lst xs) => .lst xs
    | _ => .ref n
  | d => d

/-- what a primitive gives: a value, or a new list -/
inductive PR where
  | v (x : D) | l (xs : List D)
def PR.fin (fz : Bool) : PR → M D
  | .v x => M.ret x
  | .l xs => fun h => if xs.length ≤ sizeLine then (if fz then some (.ok (.lst xs), h) else some (.ok (.ref h.length), .lst xs :: h)) else none

abbrev Loc := List (Option D)

/-- targets -/
inductive T where
  | nm (i : Nat) | nil | cons (t r : T) | tp (ts : T)

/-- expressions; nil, cons, star: rows of them; none: a part of a slice that is not there -/
inductive E where
  | var (i : Nat)
  | glob (x : Str)
  | int (i : Int) | bl (b : Bool) | non | str (x : Str)
  | bin (fz : Bool) (op : Operator) (a b : E)
  | neg (a : E)
  | cmp (op : CmpOp) (a b : E)
  | isN (a : E) | notN (a : E)
  | chain (op op' : CmpOp) (a b c : E)
  | and (a r : E) | and1 (a : E) | or (a r : E) | or1 (a : E)
  | not (a : E)
  | ite (c a b : E)
  | nil | cons (e r : E) | star (e r : E)
  | tup (es : E) | lst (fz : Bool) (es : E)
  | ix (a b : E)
  | sl (fz : Bool) (a lo hi : E)
  | rev (fz : Bool) (a : E)
  | call (f : Str) (es : E)
  | blt (fz : Bool) (f : String) (es : E)
  | isi (a : E) (tys : List String)
  | app (o e : E) | ext (o e : E)
  | maxSum (a : E)
  | attr (a : E) (f : Str)
  | mk (x : Str) (es : E)
  | mcl (c : Str) (a : E) (m : Str) (es : E)
  | dget (d k : E)
  | mkx (x : Str) (kw : Bool) (es : E)
  | attrx (a : E) (f : Str)
  | isx (a : E) (c : Str)
  | isb (a : E) (tys : List String)
  | lc (fz : Bool) (elt : E) (t : T) (own : List (Str × Nat)) (k : Nat) (it ifs : E)
  | lc2 (fz : Bool) (elt : E) (t : T) (own : List (Str × Nat)) (k : Nat) (it ifs : E) (t2 : T) (vs2 : List Nat) (k2 : Nat) (it2 ifs2 : E)

/-- statements; nil, cons: blocks -/
inductive S where
  | nil | cons (s r : S)
  | asg (t : T) (e : E)
  | aug (i : Nat) (op : Operator) (e : E)
  | setix (o i e : E)
  | sta (i : Nat) (f : Str) (e : E)
  | stas (i : Nat) (fs : List Str) (e : E)
  | expr (e : E) | pass | ret (e : E) | retN
  | iff (c : E) (a b : S)
  | for (t : T) (k : Nat) (it : E) (b : S)
  | while (c : E) (b : S)
  | skip | never

inductive Fl where
  | nx (l : Loc) | rt (d : D) | bk (l : Loc) | ct (l : Loc)

/-! ### primitives -/
/-- a part of a list -/
def cut {α : Type} (xs : List α) (lo hi : Option Int) : List α := (xs.drop (HT.sIx xs.length 0 lo)).take (HT.sIx xs.length xs.length hi - HT.sIx xs.length 0 lo)
def small {α : Type} (n : Nat) (a : α) : Option α := if n ≤ sizeLine then some a else none
def tupP (xs : List D) : Option PR := small xs.length (.v (.tup xs))

def binP (op : Operator) (a b : D) : Option PR :=
  match op, a, b with
  | .Add, .int i, .int j => some (.v (.int (i + j)))
  | .Sub, .int i, .int j => some (.v (.int (i - j)))
  | .Mult, .int i, .int j => if (-(2 ^ 64) < i ∧ i < 2 ^ 64) ∨ (-(2 ^ 64) < j ∧ j < 2 ^ 64) then some (.v (.int (i * j))) else none
  | .Mod, .int i, .int j => if 0 < j then some (.v (.int (i % j))) else none
  | .FloorDiv, .int i, .int j => if 0 < j ∧ j < 1073741824 then some (.v (.int (i / j))) else none
  | .Pow, .int i, .int j => if 0 ≤ j ∧ j ≤ 1000000 ∧ i.natAbs < 2 ^ 64 then some (.v (.int (i ^ j.toNat))) else none
  | .Add, .str x, .str y => small (x.length + y.length) (.v (.str (x ++ y)))
  | .Add, .tup xs, .tup ys => small (xs.length + ys.length) (.v (.tup (xs ++ ys)))
  | .Add, .lst xs, .lst ys => small (xs.length + ys.length) (.l (xs ++ ys))
  | .Mult, .tup xs, .int k => if 0 ≤ k ∧ k ≤ 1000 ∧ xs.length ≤ 1000 then some (.v (.tup (List.replicate k.toNat xs).flatten)) else none
  | .Mult, .lst xs, .int k => if 0 ≤ k ∧ k ≤ 1000 ∧ xs.length ≤ 1000 then some (.l (List.replicate k.toNat xs).flatten) else none
  | _, _, _ => none

/-- data that == is asked of -/
def D.sh (a : D) : Option PyData := match a.toP with
  | some x => if SeqAt.shaped x = true then some x else none
  | none => none
def eqP (a b : D) : Option Bool := match a.sh, b.sh with
  | some x, some y => some (PyData.eqv x y)
  | _, _ => none
def noneP : PyData → Bool
  | .none => true
  | _ => false
def ordP (f : PyData → PyData → Bool) (a b : D) : Option Bool := match a.sh, b.sh with
  | some x, some y => if (PySem.W.alike x y && !noneP x) = true then some (f x y) else none
  | _, _ => none
/-- the signs of a text -/
def signs (z : Str) : List D := z.cps.toList.map fun c => .str ⟨#[c]⟩
def inP (a b : D) : Option Bool := match b with
  | .tup xs | .lst xs => match a.sh, (D.lst xs).sh with
    | some x, some (.list ys) => some (ys.any fun z => PyData.eqv z x)
    | _, _ => none
  | .str z => match a with
    | .str ⟨⟨[c]⟩⟩ => some (decide (c ∈ z.cps.toList))
    | _ => none
  | _ => none
def cmpP (op : CmpOp) (a b : D) : Option Bool :=
  match op with
  | .Eq => eqP a b
  | .NotEq => (eqP a b).map (!·)
  | .Lt => ordP (fun x y => PySem.W.dataLt x y) a b
  | .Gt => ordP (fun x y => PySem.W.dataLt y x) a b
  | .LtE => ordP (fun x y => !PySem.W.dataLt y x) a b
  | .GtE => ordP (fun x y => !PySem.W.dataLt x y) a b
  | .In => inP a b
  | .NotIn => (inP a b).map (!·)
  | _ => none
def truth : D → Option Bool
  | .non => some false
  | .bl b => some b
  | .int i => some (i != 0)
  | .str x => if x.length ≤ sizeLine then some (x.length != 0) else none
  | .tup xs => some (!xs.isEmpty)
  | .lst xs => some (!xs.isEmpty)
  | .ref _ => none
  | .arg _ => none
  | .obj _ _ => none
  | .exc _ _ _ => none
def ixP (a b : D) : Option D := match a, b with
  | .tup xs, .int i | .lst xs, .int i => atI xs i
  | .str z, .int i => if z.length ≤ sizeLine then (atI z.cps.toList i).map fun c => .str ⟨#[c]⟩ else none
  | _, _ => none
def slP (a : D) (lo hi : Option Int) : Option PR := match a with
  | .tup xs => some (.v (.tup (cut xs lo hi)))
  | .lst xs => some (.l (cut xs lo hi))
  | .arg xs => some (.l (cut xs lo hi))
  | _ => none
def revP : D → Option PR
  | .tup xs => some (.v (.tup xs.reverse))
  | .lst xs => some (.l xs.reverse)
  | _ => none
def isiP (a : D) (ty : String) : Option Bool := match a with
  | .non => some false
  | .bl _ => some (ty == "bool" || ty == "int")
  | .int _ => some (ty == "int")
  | .str _ => some (ty == "str")
  | .tup _ => some (ty == "tuple")
  | .lst _ => some (ty == "list")
  | .ref _ => none
  | .arg _ => none
  | .obj _ _ => none
  | .exc _ _ _ => none
def boolsP : List D → Option (List Bool)
  | [] => some []
  | .bl b :: r => (boolsP r).map (b :: ·)
  | _ => none
def encD (d : D) : PyData := (d.toP).getD .none
def isTupP : PyData → Bool
  | .tuple _ => true
  | _ => false
/-- rows that sorted takes -/
def sortOk (xs : List D) : Bool := (xs.all fun d => d.sh.isSome) && (xs.all fun d => xs.all fun e => PySem.W.alike (encD d) (encD e)) && ((xs.all fun d => isTupP (encD d)) || xs.all fun d => !isTupP (encD d) && !noneP (encD d)) && decide (xs.length ≤ sizeLine)
def sortP (xs : List D) : Option PR := if sortOk xs = true then some (.l (xs.mergeSort (PySem.W.dataLe false encD))) else none
def bltP (f : String) (as : List D) : Option PR :=
  match as with
  | [.int i] => if f = "abs" then some (.v (.int (if i < 0 then -i else i))) else if f = "int" then some (.v (.int i)) else none
  | [.bl b] => if f = "int" then some (.v (.int (if b then 1 else 0))) else none
  | [.str z] => if f = "len" then small z.length (.v (.int z.length)) else none
  | [.tup xs] => if f = "len" then some (.v (.int xs.length)) else if f = "tuple" then some (.v (.tup xs)) else if f = "list" then some (.l xs) else if f = "sorted" then sortP xs else none
  | [.lst xs] => if f = "len" then some (.v (.int xs.length)) else if f = "tuple" then some (.v (.tup xs)) else if f = "list" then some (.l xs)
      else if f = "sorted" then sortP xs else if f = "all" then (boolsP xs).map fun bs => .v (.bl (bs.all id)) else if f = "any" then (boolsP xs).map fun bs => .v (.bl (bs.any id)) else none
  | [.int i, .int j] => if f = "max" then some (.v (.int (if j > i then j else i))) else if f = "min" then some (.v (.int (if j < i then j else i))) else none
  | _ => none

/-- max(xs, key=sum, default=None): rows of truths -/
def sumB : D → Option Nat
  | .tup xs => (boolsP xs).map fun bs => (bs.filter id).length
  | _ => none
def bestS : D → List D → D
  | b, [] => b
  | b, x :: xs => if (sumB b).getD 0 < (sumB x).getD 0 then bestS x xs else bestS b xs
def maxSumP : D → Option D
  | .lst [] => some .non
  | .lst (x :: xs) => if ((x :: xs).all fun d => (sumB d).isSome) = true then some (bestS x xs) else none
  | _ => none

/-! ### dict(pairs).get(key): tuples as keys -/
mutual
def D.key : D → Option NestedKey
  | .non => some .none
  | .bl b => some (.num (if b = true then 1 else 0))
  | .int i => some (.num i)
  | .str x => some (.text x)
  | .tup xs => (D.keys xs).map .tup
  | .lst _ => none
  | .ref _ => none
  | .arg _ => none
  | .obj _ _ => none
  | .exc _ _ _ => none
def D.keys : List D → Option (List NestedKey)
  | [] => some []
  | x :: xs => match x.key, D.keys xs with
    | some a, some as => some (a :: as)
    | _, _ => none
end
def keyT (d : D) : Option NestedKey := match d with
  | .tup xs => match D.key (.tup xs) with
    | some k => if k.depth ≤ 8 then some k else none
    | none => none
  | _ => none
def pairsP : List D → Option (List (NestedKey × D))
  | [] => some []
  | .tup [k, v] :: r => match keyT k, pairsP r with
    | some a, some ps => some ((a, v) :: ps)
    | _, _ => none
  | _ => none
/-- the last of a key -/
def lastP (k : NestedKey) : List (NestedKey × D) → Option D
  | [] => none
  | (a, v) :: r => match lastP k r with
    | some u => some u
    | none => if a = k then some v else none
def dgetP (d k : D) : Option D := match d, keyT k with
  | .tup ps, some a => if ps.length ≤ 1000 then match pairsP ps with
    | some kvs => some ((lastP a kvs).getD .non)
    | none => none
    else none
  | _, _ => none

/-! ### what is walked -/
inductive Src1 where
  | fix (xs : List D) | live (n : Nat)
def Src1.at (h : HS) (i : Nat) : Src1 → Option (Option D)
  | .fix xs => some xs[i]?
  | .live n => match nth h n with
    | some (.lst xs) => some xs[i]?
    | _ => none
def Src1.len (h : HS) : Src1 → Nat
  | .fix xs => xs.length
  | .live n => match nth h n with
    | some (.lst xs) => xs.length
    | _ => 0
/-- it is a list, where it is told by its address -/
def Src1.ok (h : HS) : Src1 → Bool
  | .fix _ => true
  | .live n => match nth h n with
    | some (.lst _) => true
    | _ => false
inductive Src where
  | one (x : Src1) | enum (x : Src1) | zip (x y : Src1) | rng (lo : Int) (n : Nat)
def Src.at (h : HS) (i : Nat) : Src → Option (Option D)
  | .one x => x.at h i
  | .enum x => match x.at h i with
    | some (some d) => some (some (.tup [.int i, d]))
    | r => r
  | .zip x y => match x.at h i, y.at h i with
    | some (some d), some (some e) => some (some (.tup [d, e]))
    | some _, some _ => some none
    | _, _ => none
  | .rng lo n => if i < n then some (some (.int (lo + i))) else some none
def Src.len (h : HS) : Src → Nat
  | .one x | .enum x => x.len h
  | .zip x _ => x.len h
  | .rng _ n => n
def Src.ok (h : HS) : Src → Bool
  | .one x | .enum x => x.ok h
  | .zip x y => x.ok h && y.ok h
  | .rng _ _ => true
def src1P : D → Option Src1
  | .tup xs | .lst xs => some (.fix xs)
  | .str z => some (.fix (signs z))
  | .ref n => some (.live n)
  | _ => none
def src1L : D → Option Src1
  | .lst xs => some (.fix xs)
  | .ref n => some (.live n)
  | _ => none
def intOk (i : Int) : Bool := decide (-(2 ^ 62) ≤ i ∧ i < 2 ^ 62)
def srcP (k : Nat) (as : List D) : Option Src :=
  match k, as with
  | 0, [a] => (src1P a).map .one
  | 1, [.int n] => if intOk n = true then some (.rng 0 n.toNat) else none
  | 2, [.int a, .int b] => if (intOk a && intOk b) = true then some (.rng a (b - a).toNat) else none
  | 3, [a] => (src1L a).map .enum
  | 4, [a, b] => match a, b with
    | .tup xs, .tup ys => some (.zip (.fix xs) (.fix ys))
    | a, b => match src1L a, src1L b with
      | some x, some y => some (.zip x y)
      | _, _ => none
  | _, _ => none

/-! ### targets -/
mutual
def T.set : T → D → Loc → Option Loc
  | .nm i, d, l => some (l.set i (some d))
  | .tp ts, .tup xs, l => T.sets ts xs l
  | .tp ts, .lst xs, l => T.sets ts xs l
  | _, _, _ => none
def T.sets : T → List D → Loc → Option Loc
  | .nil, [], l => some l
  | .cons t r, x :: xs, l => match T.set t x l with
    | some l' => T.sets r xs l'
    | none => none
  | _, _, _ => none
end
def wipeL (l : Loc) : List Nat → Loc
  | [] => l
  | v :: vs => (wipeL l vs).set v none

structure Gx where
  call : Str → List D → M D
  glob : Str → Option D
  wh : Nat
  /-- the place of a class's slot -/
  slot : Str → Str → Option Nat
  /-- the name of a class's method among the defs -/
  meth : Str → Str → Option Str
  /-- an own exception class: the built-in class above, its field -/
  exc : Str → Option (String × Option Str)

/-- what the module's names stand for: constants; own exception classes, the built-in class above, the field -/
structure Glo where
  d : Str → Option D
  xl : List (Str × String × Option Str)
instance : CoeFun Glo fun _ => Str → Option D := ⟨Glo.d⟩
def Glo.x (g : Glo) (y : Str) : Option (String × Option Str) := g.xl.lookup y
/-- the turns of a for -/
def loopM (s : Src) (body : D → Loc → M Fl) : Nat → Nat → Loc → M Fl
  | 0, _, _ => M.fail
  | k + 1, i, l => fun h => match s.at h i with
    | none => none
    | some none => some (.ok (.nx l), h)
    | some (some d) => (body d l).bnd (fun f => match f with
      | .nx l' | .ct l' => loopM s body k (i + 1) l'
      | .bk l' => M.ret (.nx l')
      | .rt d => M.ret (.rt d)) h
/-- the turns of a comprehension: what an item adds -/
def compM (s : Src) (body : D → List D → M (List D)) : Nat → Nat → List D → M (List D)
  | 0, _, _ => M.fail
  | k + 1, i, acc => fun h => match s.at h i with
    | none => none
    | some none => some (.ok acc, h)
    | some (some d) => (body d acc).bnd (fun acc' => compM s body k (i + 1) acc') h
def whileM (c : Loc → M Bool) (body : Loc → M Fl) : Nat → Loc → M Fl
  | 0, _ => M.fail
  | k + 1, l => (c l).bnd fun b => if b = true then (body l).bnd (fun f => match f with
      | .nx l' | .ct l' => whileM c body k l'
      | .bk l' => M.ret (.nx l')
      | .rt d => M.ret (.rt d)) else M.ret (.nx l)
def addTo (acc : List D) (d : D) : M (List D) := if acc.length < sizeLine then M.ret (acc ++ [d]) else M.fail
def M.rd (d : D) : M D := fun h => some (.ok (Onc.rd h d), h)
def M.upd (n : Nat) (o : O) : M Unit := fun h => some (.ok (), put h n o)
def M.getL (d : D) : M (Nat × List D) := fun h => match d with
  | .ref n => match nth h n with
    | some (.lst xs) => some (.ok (n, xs), h)
    | _ => none
  | _ => none
/-- what a slot holds -/
def fldO (g : Gx) (f : Str) (h : HS) : D → Option D
  | .ref n => match nth h n with
    | some (.ins x fs) => (g.slot x f).bind fun j => (fs[j]?).join
    | _ => none
  | .obj x fs => (g.slot x f).bind fun j => fs[j]?
  | _ => none
def M.fld (g : Gx) (f : Str) (d : D) : M D := fun h => M.opt (fldO g f h d) h
def putF (j : Nat) (d : D) (fs : List (Option D)) : List (Option D) := (fs ++ List.replicate (j + 1 - fs.length) none).set j (some d)
def stoO (g : Gx) (f : Str) (h : HS) (d : D) : D → Option HS
  | .ref n => match nth h n with
    | some (.ins x fs) => (g.slot x f).map fun j => put h n (.ins x (putF j d fs))
    | _ => none
  | _ => none
/-- a slot is stored into -/
def M.sto (g : Gx) (f : Str) (o d : D) : M Unit := fun h => match stoO g f h d o with
  | some h' => some (.ok (), h')
  | none => none
def M.stos (g : Gx) (o : D) : List Str → List D → M Unit
  | [], [] => M.ret ()
  | f :: fs, d :: ds => (M.sto g f o d).bnd fun _ => M.stos g o fs ds
  | _, _ => M.fail
/-- a new instance, then its __init__ -/
def M.make (g : Gx) (x : Str) (as : List D) : M D := fun h => match g.meth x "__init__" with
  | some y => ((g.call y (.ref h.length :: as)).bnd fun d => match d with
    | .non => M.ret (.ref h.length)
    | _ => M.fail) (.ins x [] :: h)
  | none => none
def clsD (h : HS) : D → Option Str
  | .ref n => match nth h n with
    | some (.ins x _) => some x
    | _ => none
  | .obj x _ => some x
  | _ => none
/-- it is an instance of the class -/
def M.isC (c : Str) (o : D) : M Unit := fun h => if clsD h o = some c then some (.ok (), h) else none
/-- a method of an instance of the class -/
def M.meth (g : Gx) (c m : Str) (as : List D) : M D := match g.meth c m with
  | some y => g.call y as
  | none => M.fail
/-- a new exception -/
def mkxO (g : Gx) (x : Str) (as : List D) : Option D := match g.exc x, as with
  | some (_, none), [] => some (.exc x [] [])
  | some (_, some f), [d] => some (.exc x [f] [d])
  | _, _ => none
def fldX (g : Gx) (f : Str) : D → Option D
  | .exc x ns [d] => match g.exc x with
    | some (_, some f') => if f' = f ∧ ns = [f] then some d else none
    | _ => none
  | _ => none
def isxP (g : Gx) (c : Str) : D → Option Bool
  | .exc x _ _ => if ((g.exc x).isSome && (g.exc c).isSome) = true then some (decide (x = c)) else none
  | _ => none
def isbP (g : Gx) (tys : List String) : D → Option Bool
  | .exc x _ _ => (g.exc x).map fun p => tys.any fun t => decide (t = p.1)
  | _ => none
def M.src (s : Src) (f : Nat → M α) : M α := fun h => if s.ok h = true then f (s.len h + 1) h else none

/-- what a term is: as a value, as a test, as a row, as a part of a slice, as a comprehension's tests -/
structure Mn where
  v : Loc → M D
  t : Loc → M Bool
  s : Loc → M (List D)
  p : Loc → M (Option Int)
  i : Loc → M Bool
def tstOf (v : Loc → M D) : Loc → M Bool := fun l => (v l).bnd fun x => (M.rd x).bnd fun x => M.opt (truth x)
def prtOf (v : Loc → M D) : Loc → M (Option Int) := fun l => (v l).bnd fun x => match x with
    | .int i => M.ret (some i)
    | _ => M.fail
def Mn.of (v : Loc → M D) : Mn := ⟨v, tstOf v, fun _ => M.fail, prtOf v, tstOf v⟩
def Mn.of2 (v : Loc → M D) (t : Loc → M Bool) : Mn := ⟨v, t, fun _ => M.fail, prtOf v, t⟩
def Mn.row (s : Loc → M (List D)) : Mn := ⟨fun _ => M.fail, fun _ => M.fail, s, fun _ => M.fail, fun _ => M.fail⟩

/-- one clause of a comprehension -/
def M.noX {α : Type} (m : M α) : M α := fun h => match m h with
  | some (.ok a, h') => some (.ok a, h')
  | _ => none
def clauseM (k : Nat) (it : Loc → M (List D)) (l : Loc) (wp : Loc) (t : T) (ifs : Loc → M Bool) (inner : Loc → List D → M (List D)) (acc : List D) : M (List D) :=
  (it l).bnd fun as => (M.opt (srcP k as)).bnd fun s => M.noX (M.src s fun n => compM s (fun d acc => match t.set d wp with
      | some l1 => (ifs l1).bnd fun ok => if ok = true then inner l1 acc else M.ret acc
      | none => M.fail) n 0 acc)

variable (g : Gx)
def den : E → Mn
  | .var i => .of fun l => match l[i]? with
    | some (some d) => M.ret d
    | _ => M.fail
  | .glob x => .of fun _ => M.opt (g.glob x)
  | .int i => .of fun _ => M.ret (.int i)
  | .bl b => .of fun _ => M.ret (.bl b)
  | .non => .of fun _ => M.ret .non
  | .str x => .of fun _ => M.ret (.str x)
  | .bin fz op a b => .of fun l => ((den a).v l).bnd fun x => ((den b).v l).bnd fun y => (M.rd x).bnd fun x => (M.rd y).bnd fun y => (M.opt (binP op x y)).bnd (PR.fin fz)
  | .neg a => .of fun l => ((den a).v l).bnd fun x => match x with
    | .int i => M.ret (.int (-i))
    | _ => M.fail
  | .cmp op a b => .of fun l => ((den a).v l).bnd fun x => ((den b).v l).bnd fun y => (M.rd x).bnd fun x => (M.rd y).bnd fun y => (M.opt (cmpP op x y)).bnd fun k => M.ret (.bl k)
  | .isN a => .of fun l => ((den a).v l).bnd fun x => match x with
    | .non => M.ret (.bl true)
    | _ => M.ret (.bl false)
  | .notN a => .of fun l => ((den a).v l).bnd fun x => match x with
    | .non => M.ret (.bl false)
    | _ => M.ret (.bl true)
  | .chain op op' a b c => .of fun l => ((den a).v l).bnd fun x => ((den b).v l).bnd fun y => (M.rd x).bnd fun x' => (M.rd y).bnd fun y' => (M.opt (cmpP op x' y')).bnd fun k =>
      if k = true then ((den c).v l).bnd fun z => (M.rd y).bnd fun y' => (M.rd z).bnd fun z' => (M.opt (cmpP op' y' z')).bnd fun k => M.ret (.bl k) else M.ret (.bl false)
  | .and a r => .of2 (fun l => ((den a).v l).bnd fun x => (M.rd x).bnd fun x' => (M.opt (truth x')).bnd fun k => if k = true then (den r).v l else M.ret x)
      (fun l => ((den a).t l).bnd fun k => if k = true then (den r).t l else M.ret false)
  | .and1 a => .of2 (den a).v (den a).t
  | .or a r => .of2 (fun l => ((den a).v l).bnd fun x => (M.rd x).bnd fun x' => (M.opt (truth x')).bnd fun k => if k = true then M.ret x else (den r).v l)
      (fun l => ((den a).t l).bnd fun k => if k = true then M.ret true else (den r).t l)
  | .or1 a => .of2 (den a).v (den a).t
  | .not a => .of2 (fun l => ((den a).v l).bnd fun x => (M.rd x).bnd fun x => (M.opt (truth x)).bnd fun k => M.ret (.bl (!k))) (fun l => ((den a).t l).bnd fun k => M.ret (!k))
  | .ite c a b => .of2 (fun l => ((den c).t l).bnd fun k => if k = true then (den a).v l else (den b).v l) (fun l => ((den c).t l).bnd fun k => if k = true then (den a).t l else (den b).t l)
  | .tup es => .of fun l => ((den es).s l).bnd fun xs => (M.opt (tupP xs)).bnd (PR.fin true)
  | .lst fz es => .of fun l => ((den es).s l).bnd fun xs => PR.fin fz (.l xs)
  | .ix a b => .of fun l => ((den a).v l).bnd fun x => ((den b).v l).bnd fun y => (M.rd x).bnd fun x => M.opt (ixP x y)
  | .sl fz a lo hi => .of fun l => ((den a).v l).bnd fun x => ((den lo).p l).bnd fun u => ((den hi).p l).bnd fun v => (M.rd x).bnd fun x => (M.opt (slP x u v)).bnd (PR.fin fz)
  | .rev fz a => .of fun l => ((den a).v l).bnd fun x => (M.rd x).bnd fun x => (M.opt (revP x)).bnd (PR.fin fz)
  | .call f es => .of fun l => ((den es).s l).bnd fun xs => g.call f xs
  | .blt fz f es => .of fun l => ((den es).s l).bnd fun xs => fun h => (M.opt (bltP f (xs.map (rd h)))).bnd (PR.fin fz) h
  | .isi a tys => .of fun l => ((den a).v l).bnd fun x => (M.rd x).bnd fun x => (M.opt (tys.mapM (isiP x))).bnd fun bs => M.ret (.bl (bs.any id))
  | .app o e => .of fun l => ((den o).v l).bnd fun x => (M.getL x).bnd fun _ => ((den e).v l).bnd fun y => (M.getL x).bnd fun p => if p.2.length < sizeLine then (M.upd p.1 (.lst (p.2 ++ [y]))).bnd fun _ => M.ret .non else M.fail
  | .ext o e => .of fun l => ((den o).v l).bnd fun x => (M.getL x).bnd fun _ => ((den e).v l).bnd fun y => (M.getL x).bnd fun p => (M.rd y).bnd fun y => match y with
    | .lst ys => if p.2.length + ys.length ≤ sizeLine then (M.upd p.1 (.lst (p.2 ++ ys))).bnd fun _ => M.ret .non else M.fail
    | _ => M.fail
  | .attr a f => .of fun l => ((den a).v l).bnd (M.fld g f)
  | .mk x es => .of fun l => ((den es).s l).bnd (M.make g x)
  | .mcl c a m es => .of fun l => ((den a).v l).bnd fun x => (M.isC c x).bnd fun _ => ((den es).s l).bnd fun as => M.meth g c m (x :: as)
  | .mkx x kw es => .of fun l => if kw = true then ((den es).v l).bnd fun d => M.opt (mkxO g x [d]) else ((den es).s l).bnd fun as => M.opt (mkxO g x as)
  | .attrx a f => .of fun l => ((den a).v l).bnd fun x => M.opt (fldX g f x)
  | .isx a c => .of fun l => ((den a).v l).bnd fun x => (M.opt (isxP g c x)).bnd fun b => M.ret (.bl b)
  | .isb a tys => .of fun l => ((den a).v l).bnd fun x => (M.opt (isbP g tys x)).bnd fun b => M.ret (.bl b)
  | .dget d k => .of fun l => ((den d).v l).bnd fun x => ((den k).v l).bnd fun y => M.opt (dgetP x y)
  | .maxSum a => .of fun l => ((den a).v l).bnd fun x => (M.rd x).bnd fun x => M.opt (maxSumP x)
  | .lc fz elt t own k it ifs => .of fun l => (clauseM k (den it).s l (wipeL l (own.map (·.2))) t (den ifs).i (fun l1 acc => ((den elt).v l1).bnd fun x => addTo acc x) []).bnd fun xs => PR.fin fz (.l xs)
  | .lc2 fz elt t own k it ifs t2 vs2 k2 it2 ifs2 => .of fun l => (clauseM k (den it).s l (wipeL l (own.map (·.2))) t (den ifs).i (fun l1 acc =>
      clauseM k2 (den it2).s l1 (wipeL l1 vs2) t2 (den ifs2).i (fun l2 acc => ((den elt).v l2).bnd fun x => addTo acc x) acc) []).bnd fun xs => PR.fin fz (.l xs)
  | .nil => ⟨fun _ => M.fail, fun _ => M.fail, fun _ => M.ret [], fun _ => M.ret none, fun _ => M.ret true⟩
  | .cons e r => .row fun l => ((den e).v l).bnd fun x => ((den r).s l).bnd fun xs => M.ret (x :: xs)
  | .star e r => .row fun l => ((den e).v l).bnd fun x => (M.rd x).bnd fun x => match x with
    | .tup ys | .lst ys => ((den r).s l).bnd fun xs => M.ret (ys ++ xs)
    | _ => M.fail

def storeF (t : T) (x x' : D) (l : Loc) : M Fl := match t with
    | .nm i => M.ret (.nx (l.set i (some x)))
    | t => match t.set x' l with
      | some l' => M.ret (.nx l')
      | none => M.fail
def augP (op : Operator) (x y : D) : Option Int := match op, x, y with
  | .Add, .int a, .int b => some (a + b)
  | .Sub, .int a, .int b => some (a - b)
  | _, _, _ => none
/-- statements -/
def exe : S → Loc → M Fl
  | .nil, l => M.ret (.nx l)
  | .cons s r, l => (exe s l).bnd fun f => match f with
    | .nx l' => exe r l'
    | f => M.ret f
  | .asg t e, l => ((den g e).v l).bnd fun x => (M.rd x).bnd fun x' => storeF t x x' l
  | .aug i op e, l => (M.opt ((l[i]?).getD none)).bnd fun x => ((den g e).v l).bnd fun y => (M.opt (augP op x y)).bnd fun z => M.ret (.nx (l.set i (some (.int z))))
  | .setix o i e, l => ((den g e).v l).bnd fun x => ((den g o).v l).bnd fun y => ((den g i).v l).bnd fun z => (M.getL y).bnd fun p => match z with
    | .int k => match ixN p.2.length k with
      | some j => (M.upd p.1 (.lst (p.2.set j x))).bnd fun _ => M.ret (.nx l)
      | none => M.fail
    | _ => M.fail
  | .sta i f e, l => ((den g e).v l).bnd fun d => (M.opt ((l[i]?).getD none)).bnd fun o => (M.sto g f o d).bnd fun _ => M.ret (.nx l)
  | .stas i fs e, l => ((den g e).v l).bnd fun d => match d with
    | .tup ds => (M.opt ((l[i]?).getD none)).bnd fun o => (M.stos g o fs ds).bnd fun _ => M.ret (.nx l)
    | _ => M.fail
  | .expr e, l => ((den g e).v l).bnd fun _ => M.ret (.nx l)
  | .pass, l => M.ret (.nx l)
  | .skip, l => M.ret (.nx l)
  | .never, _ => M.fail
  | .ret e, l => ((den g e).v l).bnd fun x => M.ret (.rt x)
  | .retN, _ => M.ret (.rt .non)
  | .iff c a b, l => ((den g c).t l).bnd fun k => if k = true then exe a l else exe b l
  | .for t k it b, l => ((den g it).s l).bnd fun as => (M.opt (srcP k as)).bnd fun s => M.src s fun n => loopM s (fun d l => match t.set d l with
      | some l1 => exe b l1
      | none => M.fail) n 0 l
  | .while c b, l => whileM (den g c).t (exe b) g.wh l
end Onc
set_option Elab.async false
set_option linter.all false
set_option maxRecDepth 100000
/-! What stands for what: values, lists that can be changed, locals; what is kept. -/
namespace Onc
open PySem PySem.Spec PyProof.Rows L2

/-- what everything leans on: the written part, the program, the world -/
structure KW where
  f : PySem.W.Frag
  P : Program
  w : World
  /-- where a class stands -/
  cl : Str → Option Addr
instance : Coe KW PySem.W.Frag := ⟨KW.f⟩
/-- the classes' addresses, as the module's names give them -/
def clOf (mg : Str → Option Value) (x : Str) : Option Addr := match mg x with
  | some (.ref a) => some a
  | _ => none
abbrev kw (X : Cx) : KW := ⟨X.K, X.prog, X.w, clOf X.mg⟩
/-- the addresses of what can be changed: those that are told of (the newest first), those of lists that are being built -/
structure Ro where
  l : List Addr
  z : List Addr
def Ro.has (ρ : Ro) (a : Addr) : Prop := a ∈ ρ.l ∨ a ∈ ρ.z
instance : Membership Addr Ro := ⟨Ro.has⟩
def Ro.cons (a : Addr) (ρ : Ro) : Ro := ⟨a :: ρ.l, ρ.z⟩
def Ro.hid (a : Addr) (ρ : Ro) : Ro := ⟨ρ.l, a :: ρ.z⟩
def Ro.nil : Ro := ⟨[], []⟩
theorem Ro.mem_l {ρ : Ro} {a : Addr} (h : a ∈ ρ.l) : a ∈ ρ := .inl h
theorem Ro.mem_z {ρ : Ro} {a : Addr} (h : a ∈ ρ.z) : a ∈ ρ := .inr h
theorem Ro.mem_cons {ρ : Ro} {a b : Addr} (h : b ∈ Ro.cons a ρ) : b = a ∨ b ∈ ρ := by
  rcases h with h | h
  · rcases List.mem_cons.mp h with e | m
    · exact .inl e
    · exact .inr (.inl m)
  · exact .inr (.inr h)
theorem Ro.mem_hid {ρ : Ro} {a b : Addr} (h : b ∈ Ro.hid a ρ) : b = a ∨ b ∈ ρ := by
  rcases h with h | h
  · exact .inr (.inl h)
  · rcases List.mem_cons.mp h with e | m
    · exact .inl e
    · exact .inr (.inr m)
section
variable (K : KW)
/-- a sequence that stands still: tracked and not to be changed, or of the written part -/
def FzT (H : Hp) (ρ : Ro) (a : Addr) (xs : List V) : Prop :=
  (Rd H a (.tup xs) ∧ a ∉ ρ) ∨ ∃ (o : Obj) (its : Array Value) (n : Nat), K.f.lookup a = some o ∧ o.dict = none ∧ o.cls = .type "tuple" ∧ o.data = .seq its n ∧ its.size ≤ sizeLine ∧ Vals xs its.toList
def FzL (H : Hp) (ρ : Ro) (a : Addr) (xs : List V) : Prop := H a = some (.lst xs) ∧ a ∉ ρ
/-- an instance that stands still -/
def FzO (H : Hp) (ρ : Ro) (x : Str) (a : Addr) (vs : List V) : Prop := ∃ C dx, K.cl x = some C ∧ H a = some (SlX.SlO a C dx (vs.map some)) ∧ H dx = some (.xd []) ∧ a ∉ ρ ∧ dx ∉ ρ
/-- an exception that stands still -/
def FzX (H : Hp) (ρ : Ro) (x : Str) (ns : List Str) (a : Addr) (vs : List V) : Prop := ∃ C d, K.cl x = some C ∧ H a = some (exo a C d) ∧ a ∉ ρ ∧
  ((d = none ∧ ns = [] ∧ vs = []) ∨ ∃ dx f v, d = some dx ∧ ns = [f] ∧ vs = [v] ∧ H dx = some (.xd [(f, v)]) ∧ dx ∉ ρ)
def ArgL (H : Hp) (ρ : Ro) (a : Addr) (xs : List V) : Prop :=
  (Rd H a (.lst xs) ∧ a ∉ ρ) ∨ ∃ (o : Obj) (its : Array Value) (n : Nat), K.f.lookup a = some o ∧ o.cls = .type "list" ∧ o.dict = none ∧ o.data = .seq its n ∧ its.size ≤ sizeLine ∧ Vals xs its.toList
mutual
inductive RD (H : Hp) (ρ : Ro) : D → V → Prop
  | non : RD H ρ .non .non
  | bl (b : Bool) : RD H ρ (.bl b) (.bl b)
  | int (i : Int) : RD H ρ (.int i) (.int i)
  | str (x : Str) : RD H ρ (.str x) (.str x)
  | tup {a : Addr} {vs : List V} {xs : List D} : FzT K H ρ a vs → RDs H ρ xs vs → RD H ρ (.tup xs) (.ref a)
  | lst {a : Addr} {vs : List V} {xs : List D} : FzL H ρ a vs → RDs H ρ xs vs → RD H ρ (.lst xs) (.ref a)
  | ref {n : Nat} {a : Addr} : nth ρ.l n = some a → RD H ρ (.ref n) (.ref a)
  | arg {a : Addr} {vs : List V} {xs : List D} : ArgL K H ρ a vs → RDs H ρ xs vs → RD H ρ (.arg xs) (.ref a)
  | obj {a : Addr} {vs : List V} {x : Str} {xs : List D} : FzO K H ρ x a vs → RDs H ρ xs vs → RD H ρ (.obj x xs) (.ref a)
  | exc {a : Addr} {vs : List V} {x : Str} {ns : List Str} {xs : List D} : FzX K H ρ x ns a vs → RDs H ρ xs vs → RD H ρ (.exc x ns xs) (.ref a)
inductive RDs (H : Hp) (ρ : Ro) : List D → List V → Prop
  | nil : RDs H ρ [] []
  | cons {d : D} {v : V} {ds : List D} {vs : List V} : RD H ρ d v → RDs H ρ ds vs → RDs H ρ (d :: ds) (v :: vs)
end
/-- what is kept: the untouchable objects, the addresses of those that can be changed -/
structure Kp (H : Hp) (ρ : Ro) (H' : Hp) (ρ' : Ro) : Prop where
  keep : ∀ a o, H a = some o → a ∉ ρ → H' a = some o ∧ a ∉ ρ'
  pre0 : ∃ new, ρ'.l = new ++ ρ.l
structure Ext (H : Hp) (ρ : Ro) (H' : Hp) (ρ' : Ro) : Prop where
  keep : ∀ a o, H a = some o → a ∉ ρ.l → H' a = some o ∧ a ∉ ρ'.l
  pre : ∃ new, ρ'.l = new ++ ρ.l ∧ ρ'.z = ρ.z
theorem Ext.kp {H : Hp} {ρ : Ro} {H' : Hp} {ρ' : Ro} (x : Ext H ρ H' ρ') : Kp H ρ H' ρ' :=
  ⟨fun a o e n => ⟨(x.keep a o e fun m => n (.inl m)).1, fun m => m.elim (x.keep a o e fun m => n (.inl m)).2 fun m => n (.inr (let ⟨_, _, hz⟩ := x.pre; hz ▸ m))⟩, let ⟨n, e, _⟩ := x.pre; ⟨n, e⟩⟩
theorem Kp.trans {H H1 H' : Hp} {ρ ρ1 ρ' : Ro} (a : Kp H ρ H1 ρ1) (b : Kp H1 ρ1 H' ρ') : Kp H ρ H' ρ' :=
  ⟨fun x o e n => let ⟨e1, n1⟩ := a.keep x o e n; b.keep x o e1 n1, let ⟨n1, e1⟩ := a.pre0; let ⟨n2, e2⟩ := b.pre0; ⟨n2 ++ n1, by rw [e2, e1, List.append_assoc]⟩⟩
/-- slots and what they hold -/
def RSl (H : Hp) (ρ : Ro) (fs : List (Option D)) (vs : List (Option V)) : Prop := fs.length = vs.length ∧ ∀ (i : Nat) (d : D), fs[i]? = some (some d) → ∃ v, vs[i]? = some (some v) ∧ RD K H ρ d v
def OH (H : Hp) (ρ : Ro) (a : Addr) : O → Prop
  | .lst xs => ∃ vs, H a = some (.lst vs) ∧ RDs K H ρ xs vs
  | .ins x fs => ∃ C dx vs, K.cl x = some C ∧ H a = some (SlX.SlO a C dx vs) ∧ H dx = some (.xd []) ∧ dx ∉ ρ ∧ RSl K H ρ fs vs
structure SimH (H : Hp) (ρ : Ro) (h : HS) : Prop where
  len : ρ.l.length = h.length
  nd : (ρ.l ++ ρ.z).Nodup
  hid : ∀ a, a ∈ ρ.z → H a ≠ none
  obj : ∀ n o a, nth h n = some o → nth ρ.l n = some a → OH K H ρ a o
def SimL (H : Hp) (ρ : Ro) (l : Loc) (σ : L2.St) : Prop := l.length = σ.length ∧ ∀ (i : Nat) (d : D), l[i]? = some (some d) → ∃ v, σ[i]? = some (some v) ∧ RD K H ρ d v
end

theorem nth_app {α : Type} : ∀ (new l : List α) {n : Nat} {a : α}, nth l n = some a → nth (new ++ l) n = some a
  | [], _, _, _, h => h
  | b :: new, l, n, a, h => by
    have ih := nth_app new l h
    have hl : ∀ (l : List α) n a, nth l n = some a → n < l.length := by
      intro l
      induction l with
      | nil => intro n a h; cases h
      | cons x l ih =>
        intro n a h
        unfold nth at h
        split at h
        · rw [List.length_cons]; omega
        · have := ih n a h; rw [List.length_cons]; omega
    show (if n = (new ++ l).length then some b else nth (new ++ l) n) = some a
    rw [if_neg (by have := hl _ _ _ h; rw [List.length_append]; omega)]
    exact ih
theorem nth_lt {α : Type} : ∀ {l : List α} {n : Nat} {a : α}, nth l n = some a → n < l.length
  | [], _, _, h => nomatch h
  | b :: l, n, a, h => by
    unfold nth at h
    rw [List.length_cons]
    split at h
    · omega
    · have := nth_lt h; omega
theorem nth_some {α : Type} : ∀ {l : List α} {n : Nat}, n < l.length → ∃ a, nth l n = some a
  | [], _, h => absurd h (Nat.not_lt_zero _)
  | b :: l, n, h => by
    unfold nth
    by_cases e : n = l.length
    · exact ⟨b, if_pos e⟩
    · rw [if_neg e]
      rw [List.length_cons] at h
      exact nth_some (by omega)
theorem nth_mem {α : Type} : ∀ {l : List α} {n : Nat} {a : α}, nth l n = some a → a ∈ l
  | [], _, _, h => nomatch h
  | b :: l, n, a, h => by
    unfold nth at h
    split at h
    · cases h; exact List.mem_cons_self
    · exact List.mem_cons_of_mem _ (nth_mem h)
theorem mem_nth {α : Type} : ∀ {l : List α} {a : α}, a ∈ l → ∃ n, nth l n = some a
  | [], _, h => nomatch h
  | b :: l, a, h => by
    rcases List.mem_cons.mp h with e | h
    · exact ⟨l.length, by unfold nth; rw [if_pos rfl, e]⟩
    · obtain ⟨n, e⟩ := mem_nth h
      exact ⟨n, nth_app [b] l e⟩
theorem nth_inj {α : Type} : ∀ {l : List α} {n m : Nat} {a : α}, l.Nodup → nth l n = some a → nth l m = some a → n = m
  | [], _, _, _, _, h, _ => nomatch h
  | b :: l, n, m, a, nd, h1, h2 => by
    have nd' := List.nodup_cons.mp nd
    unfold nth at h1 h2
    split at h1 <;> split at h2
    · omega
    · cases h1; exact absurd (nth_mem h2) nd'.1
    · cases h2; exact absurd (nth_mem h1) nd'.1
    · exact nth_inj nd'.2 h1 h2
theorem put_length {α : Type} : ∀ (l : List α) (n : Nat) (a : α), (put l n a).length = l.length
  | [], _, _ => rfl
  | b :: l, n, a => by
    unfold put
    split
    · rfl
    · rw [List.length_cons, List.length_cons, put_length]
theorem nth_put_same {α : Type} : ∀ {l : List α} {n : Nat} {a : α}, n < l.length → nth (put l n a) n = some a
  | [], _, _, h => absurd h (Nat.not_lt_zero _)
  | b :: l, n, a, h => by
    unfold put
    by_cases e : n = l.length
    · rw [if_pos e]; unfold nth; rw [if_pos e]
    · rw [if_neg e]; unfold nth; rw [put_length, if_neg e]
      rw [List.length_cons] at h
      exact nth_put_same (by omega)
theorem nth_put_ne {α : Type} : ∀ {l : List α} {n m : Nat} {a : α}, m ≠ n → nth (put l n a) m = nth l m
  | [], _, _, _, _ => rfl
  | b :: l, n, m, a, h => by
    unfold put
    by_cases e : n = l.length
    · rw [if_pos e]; unfold nth
      rw [if_neg (by omega), if_neg (by omega)]
    · rw [if_neg e]; unfold nth; rw [put_length, nth_put_ne h]

variable {K : KW} {H H' H1 : Hp} {ρ ρ' ρ1 : Ro} {h h' : HS}
theorem Ext.refl : Ext H ρ H ρ := ⟨fun _ _ e n => ⟨e, n⟩, [], rfl, rfl⟩
theorem Ext.trans (a : Ext H ρ H1 ρ1) (b : Ext H1 ρ1 H' ρ') : Ext H ρ H' ρ' :=
  ⟨fun x o e n => let ⟨e1, n1⟩ := a.keep x o e n; b.keep x o e1 n1, let ⟨n1, e1, z1⟩ := a.pre; let ⟨n2, e2, z2⟩ := b.pre; ⟨n2 ++ n1, by rw [e2, e1, List.append_assoc], z2.trans z1⟩⟩
theorem Rd.kp {a : Addr} {u : HO} (x : Kp H ρ H' ρ') (r : Rd H a u) (n : a ∉ ρ) : Rd H' a u ∧ a ∉ ρ' := by
  rcases r with r | ⟨o, r⟩
  · exact ⟨.inl (x.keep a _ r n).1, (x.keep a _ r n).2⟩
  · exact ⟨.inr ⟨o, (x.keep a _ r n).1⟩, (x.keep a _ r n).2⟩
theorem FzT.kp {a : Addr} {vs : List V} (x : Kp H ρ H' ρ') (f : FzT K H ρ a vs) : FzT K H' ρ' a vs := by
  rcases f with ⟨r, n⟩ | f
  · exact .inl (Rd.kp x r n)
  · exact .inr f
theorem ArgL.kp {a : Addr} {vs : List V} (x : Kp H ρ H' ρ') (f : ArgL K H ρ a vs) : ArgL K H' ρ' a vs := by
  rcases f with ⟨r, n⟩ | f
  · exact .inl (Rd.kp x r n)
  · exact .inr f
theorem FzO.kp {x : Str} {a : Addr} {vs : List V} (k : Kp H ρ H' ρ') (f : FzO K H ρ x a vs) : FzO K H' ρ' x a vs := by
  obtain ⟨C, dx, e, e1, e2, n1, n2⟩ := f
  exact ⟨C, dx, e, (k.keep _ _ e1 n1).1, (k.keep _ _ e2 n2).1, (k.keep _ _ e1 n1).2, (k.keep _ _ e2 n2).2⟩
theorem FzX.kp {x : Str} {ns : List Str} {a : Addr} {vs : List V} (k : Kp H ρ H' ρ') (f : FzX K H ρ x ns a vs) : FzX K H' ρ' x ns a vs := by
  obtain ⟨C, d, e, e1, n1, q⟩ := f
  refine ⟨C, d, e, (k.keep _ _ e1 n1).1, (k.keep _ _ e1 n1).2, q.imp id ?_⟩
  rintro ⟨dx, f, v, h1, h2, h3, h4, h5⟩
  exact ⟨dx, f, v, h1, h2, h3, (k.keep _ _ h4 h5).1, (k.keep _ _ h4 h5).2⟩
mutual
theorem RD.kp (x : Kp H ρ H' ρ') : ∀ {d : D} {v : V}, RD K H ρ d v → RD K H' ρ' d v
  | _, _, .non => .non
  | _, _, .bl b => .bl b
  | _, _, .int i => .int i
  | _, _, .str z => .str z
  | _, _, .tup f r => .tup (f.kp x) (RDs.kp x r)
  | _, _, .lst f r => .lst (x.keep _ _ f.1 f.2) (RDs.kp x r)
  | _, _, .arg f r => .arg (f.kp x) (RDs.kp x r)
  | _, _, .obj f r => .obj (f.kp x) (RDs.kp x r)
  | _, _, .exc f r => .exc (f.kp x) (RDs.kp x r)
  | _, _, .ref e => .ref (by obtain ⟨new, en⟩ := x.pre0; rw [en]; exact nth_app new ρ.l e)
theorem RDs.kp (x : Kp H ρ H' ρ') : ∀ {ds : List D} {vs : List V}, RDs K H ρ ds vs → RDs K H' ρ' ds vs
  | _, _, .nil => .nil
  | _, _, .cons a r => .cons (RD.kp x a) (RDs.kp x r)
end
theorem FzT.ext {a : Addr} {vs : List V} (x : Ext H ρ H' ρ') (f : FzT K H ρ a vs) : FzT K H' ρ' a vs := f.kp x.kp
theorem ArgL.ext {a : Addr} {vs : List V} (x : Ext H ρ H' ρ') (f : ArgL K H ρ a vs) : ArgL K H' ρ' a vs := f.kp x.kp
theorem RD.ext (x : Ext H ρ H' ρ') {d : D} {v : V} (r : RD K H ρ d v) : RD K H' ρ' d v := r.kp x.kp
theorem RDs.ext (x : Ext H ρ H' ρ') {ds : List D} {vs : List V} (r : RDs K H ρ ds vs) : RDs K H' ρ' ds vs := r.kp x.kp
theorem SimL.kp {l : Loc} {σ : L2.St} (x : Kp H ρ H' ρ') (s : SimL K H ρ l σ) : SimL K H' ρ' l σ := ⟨s.1, fun i d e => let ⟨v, e1, r⟩ := s.2 i d e; ⟨v, e1, r.kp x⟩⟩
theorem SimL.ext {l : Loc} {σ : L2.St} (x : Ext H ρ H' ρ') (s : SimL K H ρ l σ) : SimL K H' ρ' l σ := ⟨s.1, fun i d e => let ⟨v, e1, r⟩ := s.2 i d e; ⟨v, e1, r.ext x⟩⟩
theorem FzT.sq {a : Addr} {vs : List V} (f : FzT K H ρ a vs) : SqT K H a vs := f.elim (fun f => .inl f.1) fun ⟨o, its, n, e1, _, e2⟩ => .inr ⟨o, its, n, e1, e2⟩
theorem FzL.sq {a : Addr} {vs : List V} (f : FzL H ρ a vs) : SqL K H a vs := .inl (.inl f.1)
theorem ArgL.sq {a : Addr} {vs : List V} (f : ArgL K H ρ a vs) : SqL K H a vs := f.elim (fun f => .inl f.1) .inr

/-- the addresses of what can be changed are tracked -/
theorem SimH.fresh (s : SimH K H ρ h) {a : Addr} (n : H a = none) : a ∉ ρ := fun m => by
  rcases m with m | m
  · obtain ⟨k, e⟩ := mem_nth m
    obtain ⟨o, eo⟩ := nth_some (l := h) (n := k) (by rw [← s.len]; exact nth_lt e)
    have q := s.obj k o a eo e
    cases o with
    | lst xs => obtain ⟨vs, e, _⟩ := q; rw [n] at e; cases e
    | ins x fs => obtain ⟨_, _, _, _, e, _⟩ := q; rw [n] at e; cases e
  · exact s.hid a m n
theorem SimH.at (s : SimH K H ρ h) {n : Nat} {a : Addr} {xs : List D} (e : nth ρ.l n = some a) (eh : nth h n = some (.lst xs)) : ∃ vs, H a = some (.lst vs) ∧ RDs K H ρ xs vs := s.obj n _ a eh e
/-- a new object that stands still -/
theorem ext_new (s : SimH K H ρ h) {p : Addr} {o : HO} (n : H p = none) : Ext H ρ (upd H p o) ρ :=
  ⟨fun a u e na => ⟨by rw [upd_ne (ne_of_none e n)]; exact e, na⟩, [], rfl, rfl⟩
theorem RSl.kp {fs : List (Option D)} {vs : List (Option V)} (x : Kp H ρ H' ρ') (r : RSl K H ρ fs vs) : RSl K H' ρ' fs vs := ⟨r.1, fun i d e => let ⟨v, ev, rv⟩ := r.2 i d e; ⟨v, ev, rv.kp x⟩⟩
theorem OH.kp {a : Addr} {o : O} (x : Kp H ρ H' ρ') (ha : ∀ u, H a = some u → H' a = some u) (q : OH K H ρ a o) : OH K H' ρ' a o := by
  cases o with
  | lst xs => obtain ⟨vs, e, r⟩ := q; exact ⟨vs, ha _ e, r.kp x⟩
  | ins y fs => obtain ⟨C, dx, vs, ec, e, ed, nd, r⟩ := q; exact ⟨C, dx, vs, ec, ha _ e, (x.keep _ _ ed nd).1, (x.keep _ _ ed nd).2, r.kp x⟩
theorem OH.ext {a : Addr} {o : O} (x : Ext H ρ H' ρ') (ha : ∀ u, H a = some u → H' a = some u) (q : OH K H ρ a o) : OH K H' ρ' a o := q.kp x.kp ha
theorem upd_some {p a : Addr} {o : HO} (e : H a ≠ none) : upd H p o a ≠ none := by
  by_cases h : a = p
  · rw [h, upd_same]; exact fun e => nomatch e
  · rw [upd_ne h]; exact e
theorem SimH.new (s : SimH K H ρ h) {p : Addr} {o : HO} (n : H p = none) : SimH K (upd H p o) ρ h :=
  ⟨s.len, s.nd, fun a m => upd_some (s.hid a m), fun k u a e1 e2 => (s.obj k u a e1 e2).ext (ext_new s n) fun u' e => by rw [upd_ne (ne_of_none e n)]; exact e⟩
/-- a new list that can be changed -/
theorem ext_mut (s : SimH K H ρ h) {p : Addr} {o : HO} (n : H p = none) : Ext H ρ (upd H p o) (Ro.cons p ρ) :=
  ⟨fun a u e na => ⟨by rw [upd_ne (ne_of_none e n)]; exact e, by
    intro m
    rcases List.mem_cons.mp m with rfl | m
    · rw [n] at e; cases e
    · exact na m⟩, [p], rfl, rfl⟩
theorem nth_len {α : Type} (l : List α) (a : α) : nth (a :: l) l.length = some a := by unfold nth; rw [if_pos rfl]
theorem SimH.mut (s : SimH K H ρ h) {p : Addr} {xs : List D} {vs : List V} (n : H p = none) (r : RDs K H ρ xs vs) : SimH K (upd H p (.lst vs)) (Ro.cons p ρ) (.lst xs :: h) := by
  refine ⟨by show (p :: ρ.l).length = _; rw [List.length_cons, List.length_cons, s.len], List.nodup_cons.mpr ⟨fun m => s.fresh n ((List.mem_append.mp m).elim .inl .inr), s.nd⟩, fun a m => upd_some (s.hid a m), fun k u a e1 e2 => ?_⟩
  have e2 : nth (p :: ρ.l) k = some a := e2
  unfold nth at e1 e2
  rw [s.len] at e2
  by_cases hk : k = h.length
  · rw [if_pos hk] at e1 e2
    cases e1; cases e2
    exact ⟨vs, upd_same, r.ext (ext_mut s n)⟩
  · rw [if_neg hk] at e1 e2
    exact (s.obj k u a e1 e2).ext (ext_mut s n) fun u' e => by rw [upd_ne (ne_of_none e n)]; exact e
/-- a list is changed -/
theorem ext_put (s : SimH K H ρ h) {a : Addr} {o : HO} (m : a ∈ ρ.l) : Ext H ρ (upd H a o) ρ :=
  ⟨fun b u e nb => ⟨by rw [upd_ne (fun z => nb (by rw [z]; exact m))]; exact e, nb⟩, [], rfl, rfl⟩
theorem SimH.put (s : SimH K H ρ h) {n : Nat} {a : Addr} {xs : List D} {vs : List V} (e : nth ρ.l n = some a) (r : RDs K H ρ xs vs) : SimH K (upd H a (.lst vs)) ρ (put h n (.lst xs)) := by
  have m := nth_mem e
  refine ⟨by rw [put_length]; exact s.len, s.nd, fun a m => upd_some (s.hid a m), fun k u b e1 e2 => ?_⟩
  by_cases hk : k = n
  · subst hk
    rw [e] at e2; cases e2
    rw [nth_put_same (by rw [← s.len]; exact nth_lt e)] at e1
    cases e1
    exact ⟨vs, upd_same, r.ext (ext_put s m)⟩
  · rw [nth_put_ne hk] at e1
    refine (s.obj k u b e1 e2).ext (ext_put s m) fun u' q => ?_
    rw [upd_ne (fun z => hk (nth_inj (List.nodup_append.mp s.nd).1 e2 (by rw [z]; exact e)))]
    exact q
/-- a list that is being built: from its start -/
theorem kp_hid {p : Addr} {o : HO} (n : H p = none) : Kp H ρ (upd H p o) (Ro.hid p ρ) :=
  ⟨fun a u e na => ⟨by rw [upd_ne (ne_of_none e n)]; exact e, fun m => by
    rcases Ro.mem_hid m with rfl | m
    · rw [n] at e; cases e
    · exact na m⟩, [], rfl⟩
theorem SimH.hide (s : SimH K H ρ h) {p : Addr} {o : HO} (n : H p = none) : SimH K (upd H p o) (Ro.hid p ρ) h := by
  refine ⟨s.len, ?_, fun a m => ?_, fun k u a e1 e2 => (s.obj k u a e1 e2).kp (kp_hid n) fun u' e => by rw [upd_ne (ne_of_none e n)]; exact e⟩
  · have hn : p ∉ ρ := s.fresh n
    show (ρ.l ++ p :: ρ.z).Nodup
    have nd := List.nodup_append.mp s.nd
    refine List.nodup_append.mpr ⟨nd.1, List.nodup_cons.mpr ⟨fun m => hn (.inr m), nd.2.1⟩, fun a ha b hb => ?_⟩
    rcases List.mem_cons.mp hb with rfl | hb
    · exact fun e => hn (.inl (e ▸ ha))
    · exact nd.2.2 a ha b hb
  · rcases List.mem_cons.mp m with rfl | m
    · rw [upd_same]; exact fun e => nomatch e
    · exact upd_some (s.hid a m)
/-- it grows -/
theorem kp_grow {p : Addr} {o : HO} (m : p ∈ ρ.z) : Kp H ρ (upd H p o) ρ :=
  ⟨fun b u e nb => ⟨by rw [upd_ne (fun z => nb (by rw [z]; exact .inr m))]; exact e, nb⟩, [], rfl⟩
theorem SimH.grow (s : SimH K H ρ h) {p : Addr} {o : HO} (m : p ∈ ρ.z) : SimH K (upd H p o) ρ h := by
  refine ⟨s.len, s.nd, fun a m => upd_some (s.hid a m), fun k u a e1 e2 => (s.obj k u a e1 e2).kp (kp_grow m) fun u' e => ?_⟩
  rw [upd_ne fun z => ?_]
  · exact e
  · subst z
    exact (List.nodup_append.mp s.nd).2.2 _ (nth_mem e2) _ m rfl
/-- the state of a comprehension's loop: its list at p; it began at H0 ρ0 -/
structure LcI (K : KW) (H0 : Hp) (ρ0 : Ro) (p : Addr) (acc : List D) (H : Hp) (ρ : Ro) (h : HS) : Prop where
  keep : ∀ a o, H0 a = some o → a ∉ ρ0.l → H a = some o ∧ a ∉ ρ.l
  pre : ∃ new, ρ.l = new ++ ρ0.l
  z : ρ.z = p :: ρ0.z
  sim : SimH K H ρ h
  cur : ∃ vs, H p = some (.lst vs) ∧ RDs K H ρ acc vs
theorem LcI.start (s : SimH K H ρ h) {p : Addr} (n : H p = none) : LcI K H ρ p [] (upd H p (.lst [])) (Ro.hid p ρ) h :=
  ⟨fun a o e na => ⟨by rw [upd_ne (ne_of_none e n)]; exact e, na⟩, ⟨[], rfl⟩, rfl, s.hide n, [], upd_same, .nil⟩
theorem LcI.mem {H0 : Hp} {ρ0 : Ro} {p : Addr} {acc : List D} (I : LcI K H0 ρ0 p acc H ρ h) : p ∈ ρ.z := by rw [I.z]; exact List.mem_cons_self
theorem LcI.kp {H0 : Hp} {ρ0 : Ro} {p : Addr} {acc : List D} (n : H0 p = none) (I : LcI K H0 ρ0 p acc H ρ h) : Kp H0 ρ0 H ρ :=
  ⟨fun a o e na => ⟨(I.keep a o e fun m => na (.inl m)).1, fun m => m.elim (I.keep a o e fun m => na (.inl m)).2 fun m => by
    rw [I.z] at m
    rcases List.mem_cons.mp m with rfl | m
    · rw [n] at e; cases e
    · exact na (.inr m)⟩, I.pre⟩
theorem LcI.move {H0 : Hp} {ρ0 : Ro} {p : Addr} {acc : List D} (I : LcI K H0 ρ0 p acc H ρ h) (x : Ext H ρ H' ρ') (s : SimH K H' ρ' h') : LcI K H0 ρ0 p acc H' ρ' h' := by
  obtain ⟨nw, e, hz⟩ := x.pre
  obtain ⟨nw0, e0⟩ := I.pre
  obtain ⟨vs, ev, r⟩ := I.cur
  exact ⟨fun a o ea na => let ⟨q1, q2⟩ := I.keep a o ea na; x.keep a o q1 q2, ⟨nw ++ nw0, by rw [e, e0, List.append_assoc]⟩, hz.trans I.z, s, vs, (x.keep p _ ev fun m => (List.nodup_append.mp I.sim.nd).2.2 _ m _ I.mem rfl).1, r.ext x⟩
/-- rows of values -/
theorem RDs.length : ∀ {ds : List D} {vs : List V}, RDs K H ρ ds vs → ds.length = vs.length
  | _, _, .nil => rfl
  | _, _, .cons _ r => by rw [List.length_cons, List.length_cons, r.length]
theorem RDs.append : ∀ {ds es : List D} {vs us : List V}, RDs K H ρ ds vs → RDs K H ρ es us → RDs K H ρ (ds ++ es) (vs ++ us)
  | _, _, _, _, .nil, b => b
  | _, _, _, _, .cons a r, b => .cons a (r.append b)
theorem RDs.get : ∀ {ds : List D} {vs : List V} {i : Nat} {d : D}, RDs K H ρ ds vs → ds[i]? = some d → ∃ v, vs[i]? = some v ∧ RD K H ρ d v
  | _, _, _, _, .nil, e => by simp at e
  | _, _, 0, _, .cons a _, e => by simp at e; subst e; exact ⟨_, rfl, a⟩
  | _, _, i + 1, _, .cons _ r, e => by simpa using r.get (by simpa using e)
theorem RDs.take (n : Nat) : ∀ {ds : List D} {vs : List V}, RDs K H ρ ds vs → RDs K H ρ (ds.take n) (vs.take n) := by
  induction n with
  | zero => intro ds vs r; exact .nil
  | succ n ih =>
    intro ds vs r
    cases r with
    | nil => exact .nil
    | cons a r => exact .cons a (ih r)
theorem RDs.drop (n : Nat) : ∀ {ds : List D} {vs : List V}, RDs K H ρ ds vs → RDs K H ρ (ds.drop n) (vs.drop n) := by
  induction n with
  | zero => intro ds vs r; exact r
  | succ n ih =>
    intro ds vs r
    cases r with
    | nil => exact .nil
    | cons a r => exact ih r
theorem RDs.set {d : D} {v : V} (a : RD K H ρ d v) : ∀ {ds : List D} {vs : List V} (i : Nat), RDs K H ρ ds vs → RDs K H ρ (ds.set i d) (vs.set i v)
  | _, _, _, .nil => .nil
  | _, _, 0, .cons _ r => .cons a r
  | _, _, i + 1, .cons b r => .cons b (r.set a i)
theorem RDs.reverse {ds : List D} {vs : List V} (r : RDs K H ρ ds vs) : RDs K H ρ ds.reverse vs.reverse := by
  induction r using RDs.rec (motive_1 := fun _ _ _ => True) with
  | non => trivial
  | bl => trivial
  | int => trivial
  | str => trivial
  | tup => trivial
  | lst => trivial
  | ref => trivial
  | arg => trivial
  | obj => trivial
  | exc => trivial
  | nil => exact .nil
  | cons a r _ ih => rw [List.reverse_cons, List.reverse_cons]; exact ih.append (.cons a .nil)
theorem LcI.grow {H0 : Hp} {ρ0 : Ro} {p : Addr} {acc : List D} {d : D} {v : V} {vs : List V} (n : H0 p = none) (I : LcI K H0 ρ0 p acc H ρ h) (e : H p = some (.lst vs)) (r : RD K H ρ d v) : LcI K H0 ρ0 p (acc ++ [d]) (upd H p (.lst (vs ++ [v]))) ρ h := by
  obtain ⟨us, eu, ru⟩ := I.cur
  rw [e] at eu
  cases eu
  exact ⟨fun a o ea na => ⟨by rw [upd_ne (fun z => by rw [z, n] at ea; cases ea)]; exact (I.keep a o ea na).1, (I.keep a o ea na).2⟩, I.pre, I.z, I.sim.grow I.mem, _, upd_same, (ru.kp (kp_grow I.mem)).append (.cons (r.kp (kp_grow I.mem)) .nil)⟩
/-- it is done -/
theorem LcI.done {H0 : Hp} {ρ0 : Ro} {h0 : HS} {p : Addr} {acc : List D} (n : H0 p = none) (s0 : SimH K H0 ρ0 h0) (I : LcI K H0 ρ0 p acc H ρ h) : Ext H0 ρ0 H ⟨ρ.l, ρ0.z⟩ ∧ SimH K H ⟨ρ.l, ρ0.z⟩ h ∧ p ∉ (⟨ρ.l, ρ0.z⟩ : Ro) ∧ ∃ vs, H p = some (.lst vs) ∧ RDs K H ⟨ρ.l, ρ0.z⟩ acc vs := by
  obtain ⟨nw0, e0⟩ := I.pre
  have nd := List.nodup_append.mp I.sim.nd
  have hz : ∀ a, a ∈ ρ0.z → a ∈ ρ.z := fun a m => by rw [I.z]; exact List.mem_cons_of_mem _ m
  have x : Kp H ρ H ⟨ρ.l, ρ0.z⟩ := ⟨fun a o e na => ⟨e, fun m => na (m.elim .inl fun m => .inr (hz a m))⟩, [], rfl⟩
  obtain ⟨vs, ev, r⟩ := I.cur
  refine ⟨⟨I.keep, nw0, e0, rfl⟩, ⟨I.sim.len, List.nodup_append.mpr ⟨nd.1, (List.nodup_append.mp s0.nd).2.1, fun a ha b hb => nd.2.2 a ha b (hz b hb)⟩, fun a m => I.sim.hid a (hz a m), fun k u a e1 e2 => ?_⟩, fun m => m.elim (fun q => nd.2.2 _ q _ I.mem rfl) fun q => s0.hid p q n, vs, ev, r.kp x⟩
  exact (I.sim.obj k u a e1 e2).kp x fun _ e => e
theorem LcI.doneM {H0 : Hp} {ρ0 : Ro} {h0 : HS} {p : Addr} {acc : List D} (n : H0 p = none) (s0 : SimH K H0 ρ0 h0) (I : LcI K H0 ρ0 p acc H ρ h) : Ext H0 ρ0 H ⟨p :: ρ.l, ρ0.z⟩ ∧ SimH K H ⟨p :: ρ.l, ρ0.z⟩ (.lst acc :: h) := by
  obtain ⟨nw0, e0⟩ := I.pre
  have nd := List.nodup_append.mp I.sim.nd
  have hz : ∀ a, a ∈ ρ0.z → a ∈ ρ.z := fun a m => by rw [I.z]; exact List.mem_cons_of_mem _ m
  have x : Kp H ρ H ⟨p :: ρ.l, ρ0.z⟩ := ⟨fun a o e na => ⟨e, fun m => na (m.elim (fun m => (List.mem_cons.mp m).elim (fun e => .inr (e ▸ I.mem)) .inl) fun m => .inr (hz a m))⟩, [p], rfl⟩
  obtain ⟨vs, ev, r⟩ := I.cur
  have pz : p ∉ ρ0.z := fun m => s0.hid p m n
  refine ⟨⟨fun a o e na => ⟨(I.keep a o e na).1, fun m => (List.mem_cons.mp m).elim (fun z => by rw [z, n] at e; cases e) (I.keep a o e na).2⟩, p :: nw0, by show p :: ρ.l = _; rw [e0]; rfl, rfl⟩, ?_, ?_, fun a m => I.sim.hid a (hz a m), fun k u a e1 e2 => ?_⟩
  · show (p :: ρ.l).length = _
    rw [List.length_cons, List.length_cons, I.sim.len]
  · show (p :: (ρ.l ++ ρ0.z)).Nodup
    refine List.nodup_cons.mpr ⟨fun m => (List.mem_append.mp m).elim (fun q => nd.2.2 _ q _ I.mem rfl) pz, List.nodup_append.mpr ⟨nd.1, (List.nodup_append.mp s0.nd).2.1, fun a ha b hb => nd.2.2 a ha b (hz b hb)⟩⟩
  · have e2 : nth (p :: ρ.l) k = some a := e2
    unfold nth at e1 e2
    rw [I.sim.len] at e2
    by_cases hk : k = h.length
    · rw [if_pos hk] at e1 e2
      cases e1; cases e2
      exact ⟨vs, ev, r.kp x⟩
    · rw [if_neg hk] at e1 e2
      exact (I.sim.obj k u a e1 e2).kp x fun _ e => e
theorem wipe_get {σ : L2.St} {i : Nat} : ∀ {vs : List Nat}, (wipe σ vs)[i]? = if i ∈ vs ∧ i < σ.length then some none else σ[i]?
  | [] => by simp [wipe]
  | v :: vs => by
    unfold wipe
    rw [List.getElem?_set, wipe_length, wipe_get]
    by_cases hv : v = i
    · subst hv
      by_cases hl : v < σ.length
      · simp [hl]
      · simp [hl]
    · simp [hv, Ne.symm hv]
theorem wipe_wipe {σ : L2.St} {vs : List Nat} : wipe (wipe σ vs) vs = wipe σ vs := by
  apply List.ext_getElem?
  intro i
  rw [wipe_get, wipe_get, wipe_length]
  by_cases hi : i ∈ vs ∧ i < σ.length
  · rw [if_pos hi, if_pos hi]
  · rw [if_neg hi, if_neg hi]
theorem SimL.set {l : Loc} {σ : L2.St} {i : Nat} {d : D} {v : V} (s : SimL K H ρ l σ) (r : RD K H ρ d v) : SimL K H ρ (l.set i (some d)) (σ.set i (some v)) := by
  refine ⟨by rw [List.length_set, List.length_set]; exact s.1, fun j e he => ?_⟩
  by_cases hj : i = j
  · subst hj
    by_cases hi : i < l.length
    · rw [List.getElem?_set_self hi] at he
      cases he
      exact ⟨v, by rw [List.getElem?_set_self (by rw [← s.1]; exact hi)], r⟩
    · rw [List.getElem?_eq_none (by rw [List.length_set]; omega)] at he
      cases he
  · rw [List.getElem?_set_ne hj] at he ⊢
    exact s.2 j e he
theorem SimL.wipe {l : Loc} {σ : L2.St} (s : SimL K H ρ l σ) : ∀ vs : List Nat, SimL K H ρ (wipeL l vs) (wipe σ vs)
  | [] => s
  | v :: vs => by
    have ih := s.wipe vs
    refine ⟨by unfold wipeL L2.wipe; rw [List.length_set, List.length_set]; exact ih.1, fun j e he => ?_⟩
    unfold wipeL at he
    unfold L2.wipe
    by_cases hj : v = j
    · subst hj
      by_cases hi : v < (wipeL l vs).length
      · rw [List.getElem?_set_self hi] at he; cases he
      · rw [List.getElem?_eq_none (by rw [List.length_set]; omega)] at he; cases he
    · rw [List.getElem?_set_ne hj] at he ⊢
      exact ih.2 j e he
end Onc
set_option Elab.async false
set_option linter.all false
set_option maxRecDepth 100000
/-! Readings and what the evaluator gives. -/
namespace Onc
open PySem PySem.Spec PyProof.Rows L2

abbrev XRel := Hp → Ro → Exc → Value → Option Addr → Prop
section
variable (K : KW) (E : XK) (XR : XRel)
def Post {α β : Type} (R : Hp → Ro → α → β → Prop) (H : Hp) (ρ : Ro) (r : Except Exc α) (h' : HS) (Q : β → Hp → Prop) : Prop :=
  match r with
  | .ok a => ∀ b H' ρ', Ext H ρ H' ρ' → SimH K H' ρ' h' → R H' ρ' a b → Q b H'
  | .error x => ∀ c d H' ρ', Ext H ρ H' ρ' → SimH K H' ρ' h' → XR H' ρ' x c d → E c d H'
def Rdg {α β : Type} (R : Hp → Ro → α → β → Prop) (t : L2.St → Hp → (β → Hp → Prop) → Prop) (f : Loc → M α) : Prop :=
  ∀ (σ : L2.St) (H : Hp) (ρ : Ro) (l : Loc) (h : HS) (r : Except Exc α) (h' : HS) (Q : β → Hp → Prop), SimL K H ρ l σ → SimH K H ρ h → f l h = some (r, h') → Post K E XR R H ρ r h' Q → t σ H Q
end
section
variable {K : KW} {E : XK} {XR : XRel} {α β γ δ : Type} {R1 : Hp → Ro → α → β → Prop} {R2 : Hp → Ro → γ → δ → Prop} {H H1 : Hp} {ρ ρ1 : Ro} {h h' : HS}
theorem Post.ext {r : Except Exc γ} {Q : δ → Hp → Prop} (x : Ext H ρ H1 ρ1) (p : Post K E XR R2 H ρ r h' Q) : Post K E XR R2 H1 ρ1 r h' Q := by
  cases r with
  | ok a => exact fun b H' ρ' y s q => p b H' ρ' (x.trans y) s q
  | error e => exact fun c d H' ρ' y s q => p c d H' ρ' (x.trans y) s q
theorem Rdg.step {ta : L2.St → Hp → (β → Hp → Prop) → Prop} {fa : Loc → M α} {k : α → M γ} {r : Except Exc γ} {Q : δ → Hp → Prop} {Q1 : β → Hp → Prop} {σ : L2.St} {l : Loc}
    (ha : Rdg K E XR R1 ta fa) (sl : SimL K H ρ l σ) (sh : SimH K H ρ h) (e : M.bnd (fa l) k h = some (r, h')) (p : Post K E XR R2 H ρ r h' Q)
    (next : ∀ a h1 b H1 ρ1, Ext H ρ H1 ρ1 → SimL K H1 ρ1 l σ → SimH K H1 ρ1 h1 → R1 H1 ρ1 a b → k a h1 = some (r, h') → Post K E XR R2 H1 ρ1 r h' Q → Q1 b H1) : ta σ H Q1 := by
  unfold M.bnd at e
  cases q : fa l h with
  | none => rw [q] at e; cases e
  | some p0 =>
    obtain ⟨r0, h0⟩ := p0
    rw [q] at e
    cases r0 with
    | ok a => exact ha σ H ρ l h (.ok a) h0 Q1 sl sh q fun b H' ρ' x s rr => next a h0 b H' ρ' x (sl.ext x) s rr e (p.ext x)
    | error xx =>
      cases e
      exact ha σ H ρ l h (.error xx) _ Q1 sl sh q p
theorem bnd_opt {o : Option α} {k : α → M γ} {r : Except Exc γ} (e : M.bnd (M.opt o) k h = some (r, h')) : ∃ a, o = some a ∧ k a h = some (r, h') := by
  cases o with
  | none => cases e
  | some a => exact ⟨a, rfl, e⟩
theorem opt_of {o : Option α} {r : Except Exc α} (e : M.opt o h = some (r, h')) : ∃ a, o = some a ∧ r = .ok a ∧ h' = h := by
  cases o with
  | none => cases e
  | some a => cases e; exact ⟨a, rfl, rfl, rfl⟩
theorem Post.here {a : γ} {b : δ} {Q : δ → Hp → Prop} (p : Post K E XR R2 H ρ (.ok a) h Q) (s : SimH K H ρ h) (r : R2 H ρ a b) : Q b H := p b H ρ Ext.refl s r
end

section
variable (K : KW) (E : XK) (XR : XRel)
/-- a value as it is read -/
def RN (H : Hp) (ρ : Ro) (d : D) (v : V) : Prop := RD K H ρ d v ∨ ∃ xs a vs, d = .lst xs ∧ v = .ref a ∧ H a = some (.lst vs) ∧ RDs K H ρ xs vs
/-- what a primitive's answer wants -/
def FinP (H : Hp) (ρ : Ro) (h : HS) (Q : VK) : PR → Prop
  | .v d => ∀ z H', Ext H ρ H' ρ → SimH K H' ρ h → RD K H' ρ d z → Q z H'
  | .l xs => ∀ p vs, H p = none → RDs K H ρ xs vs → Q (.ref p) (upd H p (.lst vs))
end
section
variable {K : KW} {E : XK} {XR : XRel} {H H' : Hp} {ρ : Ro} {h h' : HS} {d : D} {v : V}
theorem rd_ok (s : SimH K H ρ h) (r : RD K H ρ d v) : RN K H ρ (rd h d) v := by
  cases d with
  | ref n =>
    cases r with
    | ref e =>
      rename_i a
      show RN K H ρ (match nth h n with | some (.lst xs) => .lst xs | _ => .ref n) (.ref a)
      cases q : nth h n with
      | none => exact .inl (.ref e)
      | some o =>
        cases o with
        | lst xs =>
          obtain ⟨vs, e1, r1⟩ := s.at e q
          exact .inr ⟨xs, a, vs, rfl, rfl, e1, r1⟩
        | ins x fs => exact .inl (.ref e)
  | _ => exact .inl r
theorem RN.tup {xs : List D} (r : RN K H ρ (.tup xs) v) : ∃ a vs, v = .ref a ∧ SqT K H a vs ∧ RDs K H ρ xs vs ∧ FzT K H ρ a vs := by
  rcases r with r | ⟨_, _, _, e, _⟩
  · cases r with
    | tup f r => exact ⟨_, _, rfl, f.sq, r, f⟩
  · cases e
theorem RN.lst {xs : List D} (r : RN K H ρ (.lst xs) v) : ∃ a vs, v = .ref a ∧ H a = some (.lst vs) ∧ RDs K H ρ xs vs := by
  rcases r with r | ⟨ys, a, vs, e, ev, q, r⟩
  · cases r with
    | lst f r => exact ⟨_, _, rfl, f.1, r⟩
  · cases e
    exact ⟨a, vs, ev, q, r⟩
theorem RN.int {i : Int} (r : RN K H ρ (.int i) v) : v = .int i := by
  rcases r with r | ⟨_, _, _, e, _⟩
  · cases r; rfl
  · cases e
theorem RN.bl {i : Bool} (r : RN K H ρ (.bl i) v) : v = .bl i := by
  rcases r with r | ⟨_, _, _, e, _⟩
  · cases r; rfl
  · cases e
theorem RN.str {i : Str} (r : RN K H ρ (.str i) v) : v = .str i := by
  rcases r with r | ⟨_, _, _, e, _⟩
  · cases r; rfl
  · cases e
theorem RN.non (r : RN K H ρ .non v) : v = .non := by
  rcases r with r | ⟨_, _, _, e, _⟩
  · cases r; rfl
  · cases e
/-- the end of a primitive -/
theorem fin_ok {fz : Bool} {pr : PR} {r : Except Exc D} {Q : VK} (s : SimH K H ρ h) (e : PR.fin fz pr h = some (r, h')) (p : Post K E XR (RD K) H ρ r h' Q) : FinP K H ρ h Q pr := by
  cases pr with
  | v d =>
    cases e
    exact fun z H' x s' q => p z H' ρ x s' q
  | l xs =>
    intro a vs n q
    have e : (if xs.length ≤ sizeLine then (if fz then some (Except.ok (D.lst xs), h) else some (.ok (.ref h.length), .lst xs :: h)) else none) = some (r, h') := e
    split at e
    · split at e
      · cases e
        exact p _ _ ρ (ext_new s n) (s.new n) (.lst ⟨upd_same, s.fresh n⟩ (q.ext (ext_new s n)))
      · cases e
        exact p _ _ (Ro.cons a ρ) (ext_mut s n) (s.mut n q) (.ref (by rw [← s.len]; exact nth_len ρ.l a))
    · cases e
theorem fin_len {fz : Bool} {xs : List D} {r : Except Exc D} (e : PR.fin fz (.l xs) h = some (r, h')) : xs.length ≤ sizeLine := by
  have e : (if xs.length ≤ sizeLine then (if fz then some (Except.ok (D.lst xs), h) else some (.ok (.ref h.length), .lst xs :: h)) else none) = some (r, h') := e
  split at e
  · assumption
  · cases e
end

/-! ### primitives on two values -/
section
variable (X : Cx) (K : KW)
def Prim2 (op : Value → Value → Sem Value) (f : D → D → Option PR) : Prop :=
  ∃ r, OpR X op r ∧ ∀ x y pr, f x y = some pr → ∀ (H : Hp) (ρ : Ro) (h : HS) (v u : V) (Q : VK), SimH (kw X) H ρ h → RN (kw X) H ρ x v → RN (kw X) H ρ y u → FinP (kw X) H ρ h Q pr → r v u H Q
end
section
variable {X : Cx} {op : Value → Value → Sem Value} {f f1 f2 : D → D → Option PR}
theorem Prim2.or (a : Prim2 X op f1) (b : Prim2 X op f2) (h : ∀ x y pr, f x y = some pr → f1 x y = some pr ∨ f2 x y = some pr) : Prim2 X op f := by
  obtain ⟨r1, o1, q1⟩ := a
  obtain ⟨r2, o2, q2⟩ := b
  exact ⟨_, OpR.or o1 o2, fun x y pr e H ρ hh v u Q s rv ru fp => (h x y pr e).elim (fun e => .inl (q1 x y pr e H ρ hh v u Q s rv ru fp)) fun e => .inr (q2 x y pr e H ρ hh v u Q s rv ru fp)⟩
/-- two ints, an int -/
theorem Prim2.ints {C : Int → Int → Prop} {gg : Int → Int → V} {gd : Int → Int → D} (o : OpR X op (rI C gg)) (hg : ∀ i j H ρ, RD (kw X) H ρ (gd i j) (gg i j))
    (hf : ∀ x y pr, f x y = some pr → ∃ i j, x = .int i ∧ y = .int j ∧ pr = .v (gd i j) ∧ C i j) : Prim2 X op f := by
  refine ⟨_, o, fun x y pr e H ρ h v u Q s rv ru fp => ?_⟩
  obtain ⟨i, j, rfl, rfl, rfl, c⟩ := hf x y pr e
  exact ⟨i, j, rv.int, ru.int, c, fp _ H Ext.refl s (hg i j H ρ)⟩
theorem Prim2.ints0 {gg : Int → Int → V} {gd : Int → Int → D} (o : OpR X op (rI0 gg)) (hg : ∀ i j H ρ, RD (kw X) H ρ (gd i j) (gg i j))
    (hf : ∀ x y pr, f x y = some pr → ∃ i j, x = .int i ∧ y = .int j ∧ pr = .v (gd i j)) : Prim2 X op f := by
  refine ⟨_, o, fun x y pr e H ρ h v u Q s rv ru fp => ?_⟩
  obtain ⟨i, j, rfl, rfl, rfl⟩ := hf x y pr e
  exact ⟨i, j, rv.int, ru.int, fp _ H Ext.refl s (hg i j H ρ)⟩
end
theorem RN.arg {X : Cx} {H : Hp} {ρ : Ro} {v : V} {xs : List D} (r : RN (kw X) H ρ (.arg xs) v) : ∃ a vs, v = .ref a ∧ SqL X.K H a vs ∧ RDs (kw X) H ρ xs vs := by
  rcases r with r | ⟨_, _, _, e, _⟩
  · cases r with
    | arg f r => exact ⟨_, _, rfl, f.sq, r⟩
  · cases e
end Onc
set_option Elab.async false
set_option linter.all false
set_option maxRecDepth 100000
set_option maxHeartbeats 1000000
/-! Primitives keep what the evaluator says. -/
namespace Onc
open PySem PySem.Spec PyProof.Rows L2

/-! ### tuple * int, for 0, 1 -/
open AutoSeq1 (wpAny_loadPart') in
theorem tuple_mul1 (l : Addr) (items : Array Value) (n : Nat) (dd : Option Addr) (sl : Array (Option Value)) (x : Int) (u : Tok) (c0 : (decide (x < -(2 ^ 63)) || decide (x ≥ 2 ^ 63)) = false) (c1 : (items.isEmpty || x == 1) = true) :
    Meets (Builtin.«tuple.__mul__» ⟨[.ref l, .int x u], []⟩) (fun _ R s => s.heap.get? l = some { cls := .type "tuple", dict := dd, data := .seq items n, slots := sl } ∧ R (.ok (.ret (Value.ref l))) s) :=
  .of_wp fun prog w A R s h => by
    obtain ⟨hp, g, d, tk, os⟩ := s
    obtain ⟨hl, h⟩ := h
    have f1 := AutoSeq1.idx_int
    wp_walk using wpAny_loadPart' hl
    repeat (first
      | (refine wpAny_ite_false (decide_eq_false (by rw [c0]; exact Bool.false_ne_true)) ?_; wp_walk using wpAny_loadPart' hl)
      | (refine wpAny_ite_true (decide_eq_true c1) ?_; wp_walk using wpAny_loadPart' hl))
    first
    | exact ⟨_, rfl, h⟩
    | exact h
open AutoSeq1 (wpAny_loadPart') in
theorem tuple_mul0 (l : Addr) (items : Array Value) (n : Nat) (dd : Option Addr) (sl : Array (Option Value)) (x : Int) (u : Tok) (c0 : (decide (x < -(2 ^ 63)) || decide (x ≥ 2 ^ 63)) = false) (c1 : (items.isEmpty || x == 1) = false) (c2 : (decide (x ≤ 0) || items.isEmpty) = true) :
    Meets (Builtin.«tuple.__mul__» ⟨[.ref l, .int x u], []⟩) (fun _ R s => s.heap.get? l = some { cls := .type "tuple", dict := dd, data := .seq items n, slots := sl } ∧
      R (.ok (.ret (Value.ref s.heap.objs.size))) { s with heap := s.heap.push { cls := Value.type "tuple", data := Data.seq #[] }, toks := s.toks }) :=
  .of_wp fun prog w A R s h => by
    obtain ⟨hp, g, d, tk, os⟩ := s
    obtain ⟨hl, h⟩ := h
    have f1 := AutoSeq1.idx_int
    wp_walk using wpAny_loadPart' hl
    repeat (first
      | (refine wpAny_ite_false (decide_eq_false (by rw [c0]; exact Bool.false_ne_true)) ?_; wp_walk using wpAny_loadPart' hl)
      | (refine wpAny_ite_false (decide_eq_false (by rw [c1]; exact Bool.false_ne_true)) ?_; wp_walk using wpAny_loadPart' hl)
      | (refine wpAny_ite_true (decide_eq_true c2) ?_; wp_walk using wpAny_loadPart' hl)
      | (refine wpAny_ite_false (decide_eq_false (Nat.not_lt.mpr (Nat.zero_le _))) ?_; wp_walk using wpAny_loadPart' hl))
    first
    | exact ⟨_, rfl, h⟩
    | exact h
section
variable {X : Cx}
/-- tuple * int, from 0 to 1000 -/
def rRepA (K : KW) : R2 := fun x y H Q => ∃ l k xs, x = .ref l ∧ y = .int k ∧ SqT K H l xs ∧ 0 ≤ k ∧ k ≤ 1000 ∧ xs.length ≤ 1000 ∧
  ((xs = [] ∨ k = 1) → Q (.ref l) H) ∧ (xs ≠ [] → k ≠ 1 → ∀ p, H p = none → Q (.ref p) (upd H p (.tup (List.replicate k.toNat xs).flatten)))
theorem op_repA : OpR X (binaryOp .Mult) (rRepA (kw X)) := by
  intro pins s σ H x y v u Q I rx ry h
  obtain ⟨l, k, xs, ex, ey, hT, h1, h2, hz, q1, q2⟩ := h
  by_cases hne : xs = [] ∨ k = 1
  · subst ex ey
    cases rx
    obtain ⟨t, rfl⟩ := ry
    obtain ⟨its, r, ⟨⟨cls, dd, data, sl⟩, ho, hc, n, hd⟩, hs⟩ := I.tuple hT
    simp only at hc hd
    subst hc hd
    have hle : its.length = xs.length := r.length.symm
    have c0 : (decide (k < -(2 ^ 63)) || decide (k ≥ 2 ^ 63)) = false := by
      rw [decide_eq_false (by omega), decide_eq_false (by omega)] <;> rfl
    have c1 : (its.toArray.isEmpty || k == 1) = true := by
      rcases hne with e | e
      · rw [e] at hle
        have : its = [] := List.eq_nil_of_length_eq_zero hle
        subst this
        rfl
      · subst e; simp
    refine wpAny_binaryOp_repeat_ref (T := "tuple") (U := "int") (by decide) ⟨_, ho, rfl⟩ (fun s' => typeIs_int s' k t) noFill_tuple_mul F.fills_int_mul F.slot_int_rmul repeat_tuple F.slot_int_index.lookup
      (call_meets F.slot_int_rmul (typeIs_int s k t) F.entry_int_rmul (F.args_int_rmul_2 _ _) (int_rmul_tuple k t l its.toArray n dd sl)
        ⟨ho, rfl, ⟨_, ho, rfl⟩, call_meets F.slot_tuple_mul ⟨_, ho, rfl⟩ F.entry_tuple_mul (F.args_tuple_mul_2 _ _) (tuple_mul1 l its.toArray n dd sl k t c0 c1) ⟨ho, ?_⟩⟩)
    exact ⟨.ref l, H, I, rfl, q1 hne⟩
  · have n1 : xs ≠ [] := fun e => hne (.inl e)
    have n2 : k ≠ 1 := fun e => hne (.inr e)
    by_cases hk : k = 0
    · subst ex ey hk
      cases rx
      obtain ⟨t, rfl⟩ := ry
      obtain ⟨its, r, ⟨⟨cls, dd, data, sl⟩, ho, hc, n, hd⟩, hs⟩ := I.tuple hT
      simp only at hc hd
      subst hc hd
      have hle : its.length = xs.length := r.length.symm
      have hi : its.toArray.isEmpty = false := by
        cases its with
        | nil => exact absurd (List.eq_nil_of_length_eq_zero hle.symm) n1
        | cons a b => rfl
      refine wpAny_binaryOp_repeat_ref (T := "tuple") (U := "int") (by decide) ⟨_, ho, rfl⟩ (fun s' => typeIs_int s' 0 t) noFill_tuple_mul F.fills_int_mul F.slot_int_rmul repeat_tuple F.slot_int_index.lookup
        (call_meets F.slot_int_rmul (typeIs_int s 0 t) F.entry_int_rmul (F.args_int_rmul_2 _ _) (int_rmul_tuple 0 t l its.toArray n dd sl)
          ⟨ho, rfl, ⟨_, ho, rfl⟩, call_meets F.slot_tuple_mul ⟨_, ho, rfl⟩ F.entry_tuple_mul (F.args_tuple_mul_2 _ _) (tuple_mul0 l its.toArray n dd sl 0 t (by decide) (by rw [hi]; rfl) (by rw [hi]; rfl)) ⟨ho, ?_⟩⟩)
      refine ⟨.ref s.heap.objs.size, _, I.laid (t' := s.toks) (o := .tup []) (fun b ob q => Heap.get?_push_of_some _ q) (Nat.le_refl _) ?_, rfl, q2 n1 n2 _ (I.hok.fresh (Nat.le_refl _))⟩
      exact ⟨Nat.zero_le _, [], .nil, ⟨_, Heap.get?_push_size _ rfl, rfl, _, rfl⟩⟩
    · exact op_repT pins s σ H x y v u Q I rx ry ⟨l, k, xs, ex, ey, hT, n1, by omega, h2, hz, q2 n1 n2⟩
end
theorem OpR.none {X : Cx} {op : Value → Value → Sem Value} : OpR X op (fun _ _ _ _ => False) := fun _ _ _ _ _ _ _ _ _ _ _ _ h => h.elim
theorem Prim2.none {X : Cx} {op : Value → Value → Sem Value} {f : D → D → Option PR} (h : ∀ x y, f x y = .none) : Prim2 X op f :=
  ⟨_, OpR.none, fun x y pr e => by rw [h x y] at e; cases e⟩
theorem small_some {α : Type} {n : Nat} {a b : α} (h : small n a = some b) : n ≤ sizeLine ∧ a = b := by
  unfold small at h
  split at h
  · cases h; exact ⟨by assumption, rfl⟩
  · cases h
section
variable {X : Cx} {H : Hp} {ρ : Ro} {h : HS} {Q : VK} {xs : List D} {vs : List V}
/-- a tuple, new or not -/
theorem fin_tup (s : SimH (kw X) H ρ h) (fp : FinP (kw X) H ρ h Q (.v (.tup xs))) (r : RDs (kw X) H ρ xs vs) : ∀ p, H p = .none → Q (.ref p) (upd H p (.tup vs)) := fun p n =>
  fp _ _ (ext_new s n) (s.new n) (.tup (.inl ⟨.inl upd_same, s.fresh n⟩) (r.ext (ext_new s n)))
theorem fin_old {a : Addr} (s : SimH (kw X) H ρ h) (fp : FinP (kw X) H ρ h Q (.v (.tup xs))) (f : FzT (kw X) H ρ a vs) (r : RDs (kw X) H ρ xs vs) : Q (.ref a) H := fp _ _ Ext.refl s (.tup f r)
theorem RDs.nil_iff (r : RDs (kw X) H ρ xs vs) : vs = [] ↔ xs = [] := by cases r <;> simp
theorem rep_rds (r : RDs (kw X) H ρ xs vs) : ∀ n : Nat, RDs (kw X) H ρ (List.replicate n xs).flatten (List.replicate n vs).flatten
  | 0 => .nil
  | n + 1 => by
    rw [List.replicate_succ, List.replicate_succ, List.flatten_cons, List.flatten_cons]
    exact r.append (rep_rds r n)
theorem bin_add : Prim2 X (binaryOp .Add) (binP .Add) := by
  refine ⟨_, OpR.or op_add (OpR.or op_add_str (OpR.or op_catA op_cat)), fun x y pr e H ρ h v u Q s rv ru fp => ?_⟩
  cases x <;> cases y <;> simp only [binP] at e <;> try (cases e; done)
  · cases e
    exact .inl ⟨_, _, rv.int, ru.int, fp _ H Ext.refl s (.int _)⟩
  · obtain ⟨z, rfl⟩ := small_some e
    exact .inr (.inl ⟨_, _, rv.str, ru.str, z, fp _ H Ext.refl s (.str _)⟩)
  · obtain ⟨z, rfl⟩ := small_some e
    obtain ⟨a, vs, rfl, ha, r1, f1⟩ := rv.tup
    obtain ⟨b, us, rfl, hb, r2, f2⟩ := ru.tup
    refine .inr (.inr (.inl ⟨a, b, vs, us, rfl, rfl, ha, hb, by rw [← r1.length, ← r2.length]; exact z, fun e => ?_, fun e1 e2 => ?_, fun e1 e2 => ?_⟩))
    · have e' := r1.nil_iff.mp e
      subst e'
      exact fin_old s fp f2 (by rw [List.nil_append]; exact r2)
    · have e' := r2.nil_iff.mp e2
      subst e'
      exact fin_old s fp f1 (by rw [List.append_nil]; exact r1)
    · exact fin_tup s fp (r1.append r2)
  · obtain ⟨z, rfl⟩ := small_some e
    obtain ⟨a, vs, rfl, ha, r1⟩ := rv.lst
    obtain ⟨b, us, rfl, hb, r2⟩ := ru.lst
    exact .inr (.inr (.inr ⟨a, b, vs, us, rfl, rfl, ha, hb, by rw [← r1.length, ← r2.length]; exact z, fun p n => fp p _ n (r1.append r2)⟩))
theorem bin_sub : Prim2 X (binaryOp .Sub) (binP .Sub) := by
  refine ⟨_, op_sub, fun x y pr e H ρ h v u Q s rv ru fp => ?_⟩
  cases x <;> cases y <;> simp only [binP] at e <;> try (cases e; done)
  cases e
  exact ⟨_, _, rv.int, ru.int, fp _ H Ext.refl s (.int _)⟩
theorem bin_mul : Prim2 X (binaryOp .Mult) (binP .Mult) := by
  refine ⟨_, OpR.or op_mul (OpR.or op_repA op_rep), fun x y pr e H ρ h v u Q s rv ru fp => ?_⟩
  cases x <;> cases y <;> simp only [binP] at e <;> try (cases e; done)
  · split at e
    · cases e
      exact .inl ⟨_, _, rv.int, ru.int, by assumption, fp _ H Ext.refl s (.int _)⟩
    · cases e
  · split at e
    · cases e
      rename_i xs k hk
      obtain ⟨a, vs, rfl, ha, r1, f1⟩ := rv.tup
      have hl := r1.length
      refine .inr (.inl ⟨a, k, vs, rfl, ru.int, ha, hk.1, hk.2.1, by omega, fun e => ?_, fun e1 e2 => ?_⟩)
      · rcases e with e | e
        · have e' := r1.nil_iff.mp e
          subst e' e
          exact fin_old s fp f1 (rep_rds r1 k.toNat |>.length |> fun q => by
            have : (List.replicate k.toNat ([] : List D)).flatten = [] := by simp
            rw [this]; exact .nil)
        · subst e
          exact fin_old s fp f1 (by show RDs _ _ _ ([xs].flatten) vs; rw [List.flatten_cons, List.flatten_nil, List.append_nil]; exact r1)
      · exact fin_tup s fp (rep_rds r1 k.toNat)
    · cases e
  · split at e
    · cases e
      rename_i xs k hk
      obtain ⟨a, vs, rfl, ha, r1⟩ := rv.lst
      have hl := r1.length
      refine .inr (.inr ⟨a, k, vs, rfl, ru.int, ha, by omega, by omega, ?_, fun p n => fp p _ n (rep_rds r1 k.toNat)⟩)
      have a1 : vs.length * k.toNat ≤ 1000 * 1000 := Nat.mul_le_mul (by omega) (by omega)
      rw [sizeLine_eq]; omega
    · cases e
theorem bin_mod : Prim2 X (binaryOp .Mod) (binP .Mod) := by
  refine ⟨_, op_mod, fun x y pr e H ρ h v u Q s rv ru fp => ?_⟩
  cases x <;> cases y <;> simp only [binP] at e <;> try (cases e; done)
  split at e
  · cases e
    exact ⟨_, _, rv.int, ru.int, by assumption, fp _ H Ext.refl s (.int _)⟩
  · cases e
theorem bin_fdiv : Prim2 X (binaryOp .FloorDiv) (binP .FloorDiv) := by
  refine ⟨_, op_fdiv, fun x y pr e H ρ h v u Q s rv ru fp => ?_⟩
  cases x <;> cases y <;> simp only [binP] at e <;> try (cases e; done)
  split at e
  · cases e
    exact ⟨_, _, rv.int, ru.int, by assumption, fp _ H Ext.refl s (.int _)⟩
  · cases e
theorem bin_pow : Prim2 X (binaryOp .Pow) (binP .Pow) := by
  refine ⟨_, op_pow, fun x y pr e H ρ h v u Q s rv ru fp => ?_⟩
  cases x <;> cases y <;> simp only [binP] at e <;> try (cases e; done)
  split at e
  · cases e
    exact ⟨_, _, rv.int, ru.int, by assumption, fp _ H Ext.refl s (.int _)⟩
  · cases e
theorem bin_ok (op : Operator) : Prim2 X (binaryOp op) (binP op) := by
  cases op with
  | Add => exact bin_add
  | Sub => exact bin_sub
  | Mult => exact bin_mul
  | Mod => exact bin_mod
  | FloorDiv => exact bin_fdiv
  | Pow => exact bin_pow
  | _ => exact Prim2.none fun x y => by cases x <;> cases y <;> rfl
end

/-! ### comparisons -/
def PrimB (X : Cx) (op : Value → Value → Sem Value) (f : D → D → Option Bool) : Prop :=
  ∃ r, OpR X op r ∧ ∀ x y k, f x y = some k → ∀ (H : Hp) (ρ : Ro) (v u : V) (Q : VK), RN (kw X) H ρ x v → RN (kw X) H ρ y u → Q (.bl k) H → r v u H Q
section
variable {K : KW} {H : Hp} {ρ : Ro}
theorem toPs_cons {x : D} {xs : List D} {ps : List PyData} (h : D.toPs (x :: xs) = some ps) : ∃ p qs, ps = p :: qs ∧ x.toP = some p ∧ D.toPs xs = some qs := by
  rw [D.toPs] at h
  split at h
  · cases h; exact ⟨_, _, rfl, by assumption, by assumption⟩
  · cases h
mutual
theorem dp_of : ∀ {d : D} {v : V} {p : PyData}, RD K H ρ d v → d.toP = some p → Dp K H v p
  | _, _, _, .non, e => by cases e; exact .non
  | _, _, _, .bl b, e => by cases e; exact .bl b
  | _, _, _, .int b, e => by cases e; exact .int b
  | _, _, _, .str b, e => by cases e; exact .str b
  | _, _, _, .tup (xs := xs) f r, e => by
    rw [D.toP] at e
    cases q : D.toPs xs with
    | none => rw [q] at e; cases e
    | some ps => rw [q] at e; cases e; exact .tup f.sq (dps_of r q)
  | _, _, _, .lst (xs := xs) f r, e => by
    rw [D.toP] at e
    cases q : D.toPs xs with
    | none => rw [q] at e; cases e
    | some ps => rw [q] at e; cases e; exact .lst f.sq (dps_of r q)
  | _, _, _, .ref _, e => by cases e
  | _, _, _, .arg _ _, e => by cases e
theorem dps_of : ∀ {ds : List D} {vs : List V} {ps : List PyData}, RDs K H ρ ds vs → D.toPs ds = some ps → DpAll K H vs ps
  | _, _, _, .nil, e => by cases e; exact .nil
  | _, _, _, .cons a r, e => by
    obtain ⟨p, qs, rfl, e1, e2⟩ := toPs_cons e
    exact .cons (dp_of a e1) (dps_of r e2)
end
theorem dp_rn {d : D} {v : V} {p : PyData} (r : RN K H ρ d v) (e : d.toP = some p) : Dp K H v p := by
  rcases r with r | ⟨xs, a, vs, rfl, rfl, q, r⟩
  · exact dp_of r e
  · rw [D.toP] at e
    cases z : D.toPs xs with
    | none => rw [z] at e; cases e
    | some ps => rw [z] at e; cases e; exact .lst (.inl (.inl q)) (dps_of r z)
theorem sh_some {d : D} {p : PyData} (h : d.sh = some p) : d.toP = some p ∧ SeqAt.shaped p = true := by
  unfold D.sh at h
  split at h
  · split at h
    · cases h; exact ⟨by assumption, by assumption⟩
    · cases h
  · cases h
theorem dp_sh {d : D} {v : V} {p : PyData} (r : RN K H ρ d v) (h : d.sh = some p) : Dp K H v p ∧ SeqAt.shaped p = true := ⟨dp_rn r (sh_some h).1, (sh_some h).2⟩
theorem two_sh {a b : D} {α : Type} {f : PyData → PyData → Option α} {k : α} (h : (match a.sh, b.sh with | some x, some y => f x y | _, _ => none) = some k) : ∃ x y, a.sh = some x ∧ b.sh = some y ∧ f x y = some k := by
  split at h
  · exact ⟨_, _, by assumption, by assumption, h⟩
  · cases h
end
section
variable {X : Cx}
theorem cmp_eq (hu : X.A.units + 64 < cLine) : PrimB X (compareOp .Eq) eqP := by
  refine ⟨_, op_eqD hu, fun x y k e H ρ v u Q rv ru q => ?_⟩
  obtain ⟨a, b, h1, h2, e⟩ := two_sh e
  cases e
  exact ⟨a, b, (dp_sh rv h1).1, (dp_sh ru h2).1, (dp_sh rv h1).2, (dp_sh ru h2).2, q⟩
theorem cmp_ne (hu : X.A.units + 64 < cLine) : PrimB X (compareOp .NotEq) (fun a b => (eqP a b).map (!·)) := by
  refine ⟨_, op_neD hu, fun x y k e H ρ v u Q rv ru q => ?_⟩
  obtain ⟨k', e', rfl⟩ := Option.map_eq_some_iff.mp e
  obtain ⟨a, b, h1, h2, e2⟩ := two_sh e'
  cases e2
  exact ⟨a, b, (dp_sh rv h1).1, (dp_sh ru h2).1, (dp_sh rv h1).2, (dp_sh ru h2).2, q⟩
def rOrd (K : KW) (f : PyData → PyData → Bool) : R2 := fun x y H Q => ∃ d e, Dp K H x d ∧ Dp K H y e ∧ SeqAt.shaped d = true ∧ SeqAt.shaped e = true ∧ PySem.W.alike d e = true ∧ d ≠ .none ∧ Q (.bl (f d e)) H
theorem noneP_ne {p : PyData} (h : noneP p = false) : p ≠ .none := by rintro rfl; cases h
theorem cmp_ord {op : CmpOp} {f : PyData → PyData → Bool} (o : OpR X (compareOp op) (rOrd (kw X) f)) : PrimB X (compareOp op) (ordP f) := by
  refine ⟨_, o, fun x y k e H ρ v u Q rv ru q => ?_⟩
  obtain ⟨a, b, h1, h2, e⟩ := two_sh e
  split at e
  · rename_i hc
    cases e
    rw [Bool.and_eq_true, Bool.not_eq_true'] at hc
    exact ⟨a, b, (dp_sh rv h1).1, (dp_sh ru h2).1, (dp_sh rv h1).2, (dp_sh ru h2).2, hc.1, noneP_ne hc.2, q⟩
  · cases e
theorem op_ltD (hu : X.A.units + 64 < cLine) : OpR X (compareOp .Lt) (rOrd (kw X) fun x y => PySem.W.dataLt x y) := by
  intro pins s σ H x y v u Q I rx ry h
  obtain ⟨d, e, hd, he, sd, se, ha, hn, q⟩ := h
  obtain ⟨as, r1⟩ := Dp.reads I d x v hd rx
  obtain ⟨bs, r2⟩ := Dp.reads I e y u he ry
  exact PySem.W.lt_data r1 r2 ha hn (SeqAt.room_of_shaped sd hu) ⟨.bl _, H, I, rfl, q⟩
theorem op_gtD (hu : X.A.units + 64 < cLine) : OpR X (compareOp .Gt) (rOrd (kw X) fun x y => PySem.W.dataLt y x) := by
  intro pins s σ H x y v u Q I rx ry h
  obtain ⟨d, e, hd, he, sd, se, ha, hn, q⟩ := h
  obtain ⟨as, r1⟩ := Dp.reads I d x v hd rx
  obtain ⟨bs, r2⟩ := Dp.reads I e y u he ry
  exact PySem.W.gt_data r1 r2 ha hn (SeqAt.room_of_shaped sd hu) ⟨.bl _, H, I, rfl, q⟩
theorem op_leD (hu : X.A.units + 64 < cLine) : OpR X (compareOp .LtE) (rOrd (kw X) fun x y => !PySem.W.dataLt y x) := by
  intro pins s σ H x y v u Q I rx ry h
  obtain ⟨d, e, hd, he, sd, se, ha, hn, q⟩ := h
  obtain ⟨as, r1⟩ := Dp.reads I d x v hd rx
  obtain ⟨bs, r2⟩ := Dp.reads I e y u he ry
  exact PySem.W.le_data r1 r2 ha hn (SeqAt.room_of_shaped sd hu) ⟨.bl _, H, I, rfl, q⟩
theorem op_geD (hu : X.A.units + 64 < cLine) : OpR X (compareOp .GtE) (rOrd (kw X) fun x y => !PySem.W.dataLt x y) := by
  intro pins s σ H x y v u Q I rx ry h
  obtain ⟨d, e, hd, he, sd, se, ha, hn, q⟩ := h
  obtain ⟨as, r1⟩ := Dp.reads I d x v hd rx
  obtain ⟨bs, r2⟩ := Dp.reads I e y u he ry
  exact PySem.W.ge_data r1 r2 ha hn (SeqAt.room_of_shaped sd hu) ⟨.bl _, H, I, rfl, q⟩
/-- x in a list, in a tuple -/
def rInA (K : KW) (g : Bool → Bool) : R2 := fun x y H Q => ∃ d ds, Dp K H x d ∧ (Dp K H y (.list ds) ∨ Dp K H y (.tuple ds)) ∧ SeqAt.shaped d = true ∧ SeqAt.shaped (.list ds) = true ∧ Q (.bl (g (ds.any fun z => PyData.eqv z d))) H
theorem op_inA (hu : X.A.units + 65 < cLine) : OpR X (compareOp .In) (rInA (kw X) id) := by
  intro pins s σ H x y v u Q I rx ry h
  obtain ⟨d, ds, hd, he, sd, se, q⟩ := h
  obtain ⟨as, r1⟩ := Dp.reads I d x v hd rx
  rcases he with he | he
  · obtain ⟨bs, r2⟩ := Dp.reads I (.list ds) y u he ry
    exact SeqAt.in_list_reads r2 r1 (SeqAt.canLay_of_shaped se) (SeqAt.canLay_of_shaped sd) (room_in_shaped sd hu) ⟨.bl _, H, I, rfl, q⟩
  · obtain ⟨bs, r2⟩ := Dp.reads I (.tuple ds) y u he ry
    exact SeqAt.in_tuple_reads r2 r1 (SeqAt.canLay_of_shaped se) (SeqAt.canLay_of_shaped sd) (room_in_shaped sd hu) ⟨.bl _, H, I, rfl, q⟩
theorem op_notInA (hu : X.A.units + 65 < cLine) : OpR X (compareOp .NotIn) (rInA (kw X) (!·)) := by
  intro pins s σ H x y v u Q I rx ry h
  obtain ⟨d, ds, hd, he, sd, se, q⟩ := h
  obtain ⟨as, r1⟩ := Dp.reads I d x v hd rx
  rcases he with he | he
  · obtain ⟨bs, r2⟩ := Dp.reads I (.list ds) y u he ry
    exact SeqAt.notIn_list_reads r2 r1 (SeqAt.canLay_of_shaped se) (SeqAt.canLay_of_shaped sd) (room_in_shaped sd hu) ⟨.bl _, H, I, rfl, q⟩
  · obtain ⟨bs, r2⟩ := Dp.reads I (.tuple ds) y u he ry
    exact SeqAt.notIn_tuple_reads r2 r1 (SeqAt.canLay_of_shaped se) (SeqAt.canLay_of_shaped sd) (room_in_shaped sd hu) ⟨.bl _, H, I, rfl, q⟩
theorem in_cases {a b : D} {k : Bool} (h : inP a b = some k) : (∃ xs x ys, (b = .tup xs ∨ b = .lst xs) ∧ a.sh = some x ∧ (D.lst xs).sh = some (.list ys) ∧ k = ys.any fun z => PyData.eqv z x) ∨
    ∃ z c, b = .str z ∧ a = .str ⟨#[c]⟩ ∧ k = decide (c ∈ z.cps.toList) := by
  unfold inP at h
  split at h
  · split at h
    · cases h; exact .inl ⟨_, _, _, .inl rfl, by assumption, by assumption, rfl⟩
    · cases h
  · split at h
    · cases h; exact .inl ⟨_, _, _, .inr rfl, by assumption, by assumption, rfl⟩
    · cases h
  · split at h
    · cases h; exact .inr ⟨_, _, rfl, rfl, rfl⟩
    · cases h
  · cases h
theorem lst_toP {xs : List D} {ys : List PyData} (h : (D.lst xs).toP = some (.list ys)) : D.toPs xs = some ys := by
  rw [D.toP] at h
  cases z : D.toPs xs with
  | none => rw [z] at h; cases h
  | some ps => rw [z] at h; cases h; rfl
theorem in_dp {K : KW} {H : Hp} {ρ : Ro} {b : D} {u : V} {xs : List D} {ys : List PyData} (ru : RN K H ρ b u) (hb : b = .tup xs ∨ b = .lst xs) (h : (D.lst xs).sh = some (.list ys)) : Dp K H u (.list ys) ∨ Dp K H u (.tuple ys) := by
  have e := lst_toP (sh_some h).1
  rcases hb with rfl | rfl
  · exact .inr (dp_rn ru (by rw [D.toP, e]; rfl))
  · exact .inl (dp_rn ru (by rw [D.toP, e]; rfl))
theorem cmp_in (hu : X.A.units + 65 < cLine) : PrimB X (compareOp .In) inP := by
  refine ⟨_, OpR.or (op_inA hu) op_in_sign, fun x y k e H ρ v u Q rv ru q => ?_⟩
  rcases in_cases e with ⟨xs, a, ys, hb, h1, h2, rfl⟩ | ⟨z, c, rfl, rfl, rfl⟩
  · exact .inl ⟨a, ys, (dp_sh rv h1).1, in_dp ru hb h2, (dp_sh rv h1).2, (sh_some h2).2, q⟩
  · exact .inr ⟨c, z, rv.str, ru.str, q⟩
theorem cmp_notIn (hu : X.A.units + 65 < cLine) : PrimB X (compareOp .NotIn) (fun a b => (inP a b).map (!·)) := by
  refine ⟨_, OpR.or (op_notInA hu) op_notIn_sign, fun x y k e H ρ v u Q rv ru q => ?_⟩
  obtain ⟨k', e', rfl⟩ := Option.map_eq_some_iff.mp e
  rcases in_cases e' with ⟨xs, a, ys, hb, h1, h2, rfl⟩ | ⟨z, c, rfl, rfl, rfl⟩
  · exact .inl ⟨a, ys, (dp_sh rv h1).1, in_dp ru hb h2, (dp_sh rv h1).2, (sh_some h2).2, q⟩
  · exact .inr ⟨c, z, rv.str, ru.str, q⟩
theorem cmp_ok (hu : X.A.units + 65 < cLine) (op : CmpOp) : PrimB X (compareOp op) (cmpP op) := by
  have hu' : X.A.units + 64 < cLine := by omega
  cases op with
  | Eq => exact cmp_eq hu'
  | NotEq => exact cmp_ne hu'
  | Lt => exact cmp_ord (op_ltD hu')
  | LtE => exact cmp_ord (op_leD hu')
  | Gt => exact cmp_ord (op_gtD hu')
  | GtE => exact cmp_ord (op_geD hu')
  | In => exact cmp_in hu
  | NotIn => exact cmp_notIn hu
  | Is => exact ⟨_, OpR.none, fun x y k e => by cases e⟩
  | IsNot => exact ⟨_, OpR.none, fun x y k e => by cases e⟩
end
end Onc
set_option Elab.async false
set_option linter.all false
set_option maxRecDepth 100000
set_option maxHeartbeats 1000000
/-! More primitives. -/
namespace Onc
open PySem PySem.Spec PyProof.Rows L2

section
variable {K : KW} {H : Hp} {ρ : Ro} {v : V}
theorem isEmpty_rds {xs : List D} {vs : List V} (r : RDs K H ρ xs vs) : vs.isEmpty = xs.isEmpty := by cases r <;> rfl
theorem truth_ok {d : D} {k : Bool} (r : RN K H ρ d v) (e : truth d = some k) : TruV K v H k := by
  cases d with
  | non => rw [r.non]; cases e; rfl
  | bl b => rw [r.bl]; cases e; rfl
  | int i => rw [r.int]; cases e; rfl
  | str x =>
    rw [r.str]
    have e : (if x.length ≤ sizeLine then some (x.length != 0) else none) = some k := e
    split at e
    · cases e
      refine ⟨by assumption, ?_⟩
      by_cases h : x.length = 0
      · rw [h]; rfl
      · rw [bne_iff_ne.mpr h]
        exact (bne_iff_ne.mpr (by omega)).symm
    · cases e
  | tup xs =>
    obtain ⟨a, vs, rfl, h, r, _⟩ := r.tup
    cases e
    exact .inr (.inl ⟨vs, h, by rw [isEmpty_rds r]⟩)
  | lst xs =>
    obtain ⟨a, vs, rfl, h, r⟩ := r.lst
    cases e
    exact .inl ⟨vs, .inl (.inl h), by rw [isEmpty_rds r]⟩
  | ref n => cases e
  | arg xs => cases e
  | obj x xs => cases e
  | exc x ns xs => cases e
theorem RDs.atI {xs : List D} {vs : List V} {i : Int} {d : D} (r : RDs K H ρ xs vs) (e : L2.atI xs i = some d) : ∃ v, L2.atI vs i = some v ∧ RD K H ρ d v := by
  unfold L2.atI at e ⊢
  rw [← r.length]
  cases q : ixN xs.length i with
  | none => rw [q] at e; cases e
  | some j =>
    rw [q] at e
    exact r.get e
theorem RDs.cut {xs : List D} {vs : List V} (r : RDs K H ρ xs vs) (lo hi : Option Int) : RDs K H ρ (Onc.cut xs lo hi) (cutV vs lo hi) := by
  unfold Onc.cut cutV
  rw [← r.length]
  exact (r.drop _).take _
end

section
variable {X : Cx}
/-- a subscript -/
theorem ix_ok : ∃ r, IxR X r ∧ ∀ x y d, ixP x y = some d → ∀ (H : Hp) (ρ : Ro) (v u : V) (Q : VK), RN (kw X) H ρ x v → RD (kw X) H ρ y u → (∀ z, RD (kw X) H ρ d z → Q z H) → r v u H Q := by
  refine ⟨_, IxR.or ix_list (IxR.or ix_tup ix_str), fun x y d e H ρ v u Q rv ru q => ?_⟩
  cases x <;> cases y <;> simp only [ixP] at e <;> try (cases e; done)
  · split at e
    · obtain ⟨c, hc, rfl⟩ := Option.map_eq_some_iff.mp e
      cases ru
      exact .inr (.inr ⟨_, _, c, rv.str, rfl, by assumption, hc, q _ (.str _)⟩)
    · cases e
  · obtain ⟨a, vs, rfl, h, r, _⟩ := rv.tup
    obtain ⟨z, hz, rz⟩ := r.atI e
    cases ru
    exact .inr (.inl ⟨a, vs, _, z, rfl, rfl, h, hz, q z rz⟩)
  · obtain ⟨a, vs, rfl, h, r⟩ := rv.lst
    obtain ⟨z, hz, rz⟩ := r.atI e
    cases ru
    exact .inl ⟨a, vs, _, z, rfl, rfl, .inl (.inl h), hz, q z rz⟩
/-- a slice -/
theorem sl_ok : ∃ r, SlR X r ∧ ∀ x lo hi pr, slP x lo hi = some pr → ∀ (H : Hp) (ρ : Ro) (h : HS) (v : V) (Q : VK), SimH (kw X) H ρ h → RN (kw X) H ρ x v → FinP (kw X) H ρ h Q pr → r v lo hi H Q := by
  refine ⟨_, SlR.or sl_list sl_tupA, fun x lo hi pr e H ρ h v Q s rv fp => ?_⟩
  cases x <;> simp only [slP] at e <;> cases e
  · obtain ⟨a, vs, rfl, hh, r, f⟩ := rv.tup
    refine .inr ⟨a, vs, rfl, hh, fun e => ?_, fun _ => fin_tup s fp (r.cut lo hi)⟩
    refine fin_old s fp f ?_
    have hc : cutV vs lo hi = vs := by
      unfold cutV
      rw [e.1, e.2, List.drop_zero, Nat.sub_zero, List.take_length]
    have := r.cut lo hi
    rw [hc] at this
    exact this
  · obtain ⟨a, vs, rfl, hh, r⟩ := rv.lst
    exact .inl ⟨a, vs, rfl, .inl (.inl hh), fun p n => fp p _ n (r.cut lo hi)⟩
  · obtain ⟨a, vs, rfl, hh, r⟩ := rv.arg
    exact .inl ⟨a, vs, rfl, hh, fun p n => fp p _ n (r.cut lo hi)⟩
end

/-! ### t[::-1] of a tuple -/
section
variable {prog : Program} {w : World} {A : Around} {E : Value → Shared → Prop} {s : Shared}
theorem rev_adjust (n : Nat) : Builtin.Slice.sliceAdjust none none (-1) (n : Int) = ((n : Int) - 1, -1) := rfl
theorem rev_places (n : Nat) : Builtin.Slice.slicePlaces ((n : Int) - 1) (-1) (-1) = n := by
  unfold Builtin.Slice.slicePlaces
  rw [if_neg (by decide)]
  by_cases h : n = 0
  · subst h; rfl
  · rw [if_pos (by omega)]
    have : ((n : Int) - 1 - -1 - 1) / - -1 + 1 = n := by
      rw [show (- -1 : Int) = 1 from rfl, Int.ediv_one]; omega
    rw [this]; rfl
theorem rev_pick : ∀ (xs : List Value), ((List.range xs.length).filterMap fun (k : Nat) => xs[(((xs.length : Nat) : Int) - 1 + (k : Int) * -1).toNat]?) = xs.reverse := by
  intro xs
  have h : ∀ m, m ≤ xs.length → ((List.range m).filterMap fun (k : Nat) => xs[(((xs.length : Nat) : Int) - 1 + (k : Int) * -1).toNat]?) = xs.reverse.take m := by
    intro m
    induction m with
    | zero => intro _; rfl
    | succ m ih =>
      intro hm
      rw [List.range_succ, List.filterMap_append, ih (by omega), List.take_add_one, List.getElem?_reverse (by omega)]
      congr 1
      have : (((xs.length : Nat) : Int) - 1 + (m : Int) * -1).toNat = xs.length - 1 - m := by omega
      rw [List.filterMap_cons, this]
      cases xs[xs.length - 1 - m]? <;> rfl
  rw [h _ (Nat.le_refl _), ← List.length_reverse, List.take_length]
theorem getItem_tuple_rev {t sl : Addr} {its : List Value} {vl vu vk : Value} {Q : Value → Shared → Prop} (ht : IsTup s.heap t its.toArray) (hs : s.heap.IsSliceOf sl vl vu vk) (pl : IsPart vl none) (pu : IsPart vu none) (pk : IsPart vk (some (-1)))
    (h : Q (.ref s.heap.objs.size) { s with heap := s.heap.push { cls := .type "tuple", data := .seq its.reverse.toArray } })
    (hsz : its.length ≤ sizeLine) : wpAny (model prog w) A (getItem (.ref t) (.ref sl)) Q E s := by
  have htake : sizeOk (.seq its.reverse.toArray) := by
    show its.reverse.toArray.size ≤ sizeLine
    rw [List.size_toArray, List.length_reverse]
    exact hsz
  obtain ⟨os, hos, hcs, hds⟩ := id hs
  have hTs : s.TypeIs (.ref sl) "slice" := ⟨os, hos, hcs⟩
  unfold getItem
  try with_reducible refine wpAny_holding ?_
  first | refine wpAny_bind (wpAny_pure ?_) | skip
  refine wpAny_bind (wpAny_sequenceKey ht.typeIs (by decide) ?_)
  refine wpAny_bind (wpAny_callSpecial?_slot (name := Str.ofString "__getitem__") ht.typeIs PyProof.Rows.slot_tuple_getitem
    (wpAny_call_entry PyProof.Rows.slot_tuple_getitem ht.typeIs entry_tuple_getitem ?_ (args_tuple_getitem _ _)))
  show wpAny _ _ (Builtin.Tuple.tupleItemsOf (.ref t) >>= _) _ _ s
  refine wpAny_bind (tupleItemsOf_ ht ?_)
  refine wpAny_bind (wpAny_typeOf hTs ?_)
  rw [if_pos (by decide)]
  have app : ∀ {A' : Around} {E' : Value → Shared → Prop} {Q' : Int × Int × Nat → Shared → Prop}, Q' (((its.length : Nat) : Int) - 1, -1, its.length) s → wpAny (model prog w) A' (Builtin.Slice.sliceApplied (.ref sl) (pure (its.toArray.size : Int))) Q' E' s := by
    intro A' E' Q' q
    unfold Builtin.Slice.sliceApplied Builtin.Slice.sliceFields
    refine wpAny_bind (wpAny_bind (wpAny_field hos hds (x := vl) rfl (wpAny_bind (wpAny_field hos hds (x := vu) rfl (wpAny_bind (wpAny_field hos hds (x := vk) rfl (wpAny_pure ?_)))))))
    refine wpAny_bind (HT.slicePart_ pk ?_)
    show wpAny _ _ (if ((-1 : Int) == 0) = true then _ else _) _ _ s
    rw [if_neg (by decide)]
    refine wpAny_bind (HT.slicePart_ pl (wpAny_bind (HT.slicePart_ pu (wpAny_bind (wpAny_pure ?_)))))
    show wpAny _ _ (match Builtin.Slice.sliceAdjust none none (-1) (its.toArray.size : Int) with | (lo, hi) => pure (lo, (-1 : Int), Builtin.Slice.slicePlaces lo hi (-1))) _ _ s
    rw [List.size_toArray, rev_adjust]
    show wpAny _ _ (pure (((its.length : Nat) : Int) - 1, (-1 : Int), Builtin.Slice.slicePlaces (((its.length : Nat) : Int) - 1) (-1) (-1))) _ _ s
    rw [rev_places]
    exact wpAny_pure q
  refine wpAny_bind (app ?_)
  have hno : ¬ ((((its.length : Nat) : Int) - 1 == 0 && (-1 : Int) == 1 && its.length == its.toArray.size) = true) := by
    intro q
    rw [Bool.and_eq_true, Bool.and_eq_true] at q
    exact absurd q.1.2 (by decide)
  show wpAny _ _ (if (((its.length : Nat) : Int) - 1 == 0 && (-1 : Int) == 1 && its.length == its.toArray.size) = true then _ else _) _ _ s
  have ep : ((List.range its.length).filterMap fun (k : Nat) => its.toArray[(((its.length : Nat) : Int) - 1 + (k : Int) * -1).toNat]?).toArray = its.reverse.toArray := by
    rw [← rev_pick its]
    simp only [List.getElem?_toArray]
  rw [if_neg hno, ep]
  first
    | exact wpAny_bind (m := Builtin.Tuple.tupleExact _) (wpAny_newObj_type (wpAny_pure ⟨_, rfl, wpAny_pure h⟩) htake)
    | exact wpAny_bind (m := Builtin.Tuple.tupleExact _) (wpAny_newObj_type (wpAny_bind (wpAny_pure (wpAny_pure ⟨_, rfl, wpAny_pure h⟩))) htake)
    | exact wpAny_bind (wpAny_bind (m := Builtin.Tuple.tupleExact _) (wpAny_newObj_type (wpAny_pure (wpAny_pure ⟨_, rfl, wpAny_pure h⟩)) htake))
    | exact wpAny_bind (wpAny_bind (m := Builtin.Tuple.tupleExact _) (wpAny_newObj_type (wpAny_pure ⟨_, rfl, wpAny_pure h⟩) htake))
end
section
variable {X : Cx}
def tRevT (K : KW) (te : TE) : TE := fun σ H Q => te σ H fun x H1 => ∃ a xs, x = .ref a ∧ SqT K H1 a xs ∧ ∀ p, H1 p = none → Q (.ref p) (upd H1 p (.tup xs.reverse))
theorem pe_revT {e : Expr} {te : TE} {k : Nat} {p1 p2 p3 pos : Pos} (he : PE X e te) : PE X (.Subscript e (.Slice none none (some (.UnaryOp .USub (.Constant (.int 1) k p1) p2)) p3) pos) (tRevT (kw X) te) := by
  refine ⟨fun pins s σ H Q I h => ?_⟩
  refine Subscript_ (thn (he.run pins s σ H _ I h) fun v s1 ⟨x, H1, I1, r1, q1⟩ => ?_)
  obtain ⟨a, xs, ex, hx, q⟩ := q1
  subst ex
  cases r1
  have hst : PO X (some (.UnaryOp .USub (.Constant (.int 1) k p1) p2)) (tPart (tUn (rU fun i => .int (-i)) (tC (.int 1)))) := po_some (pe_un un_neg pe_int)
  refine wpAny_Slice (thn (po_none.run pins s1 σ H1 (fun o H2 => o = none ∧ H2 = H1) I1 ⟨rfl, rfl⟩) fun vl s2 ⟨l, H2, I2, pl, el, e2⟩ => ?_)
  subst el e2
  refine thn (po_none.run pins s2 σ H2 (fun o H3 => o = none ∧ H3 = H2) I2 ⟨rfl, rfl⟩) fun vu s3 ⟨u, H3, I3, pu, eu, e3⟩ => ?_
  subst eu e3
  refine thn (hst.run pins s3 σ H3 (fun o H4 => o = some (-1) ∧ H4 = H3) I3 ⟨1, rfl, -1, rfl, rfl, rfl⟩) fun vs s4 ⟨o, H4, I4, ps, eo, e4⟩ => ?_
  subst eo e4
  have I5 : Inv X pins σ H4 { s4 with heap := s4.heap.push { cls := .type "slice", data := .fields #[vl, vu, vs] } } := I4.kept (t' := s4.toks) fun b ob q => Heap.get?_push_of_some _ q
  obtain ⟨its, r, ht, hz⟩ := I5.tuple hx
  have hlen := r.length
  show wpAny (model X.prog X.w) X.A (subscriptTail e (.Slice none none (some (.UnaryOp .USub (.Constant (.int 1) k p1) p2)) p3) (.ref a) (.ref s4.heap.objs.size)) (EP X pins σ Q) X.xe { s4 with heap := s4.heap.push { cls := .type "slice", data := .fields #[vl, vu, vs] } }
  refine tail_any (ops := [.ref a, .ref s4.heap.objs.size]) ht.typeIs (PyProof.Rows.slot_tuple_getitem.lookup) ?_ (by with_unfolding_all rfl)
  refine getItem_tuple_rev ht (Heap.IsSliceOf.new _ vl vu vs) pl pu ps ?_ (by omega)
  refine ⟨.ref _, _, I5.laid (t' := s4.toks) (o := .tup xs.reverse) (fun b ob q => Heap.get?_push_of_some _ q) (Nat.le_refl _) ?_, rfl, q _ (I5.hok.fresh (Nat.le_refl _))⟩
  exact ⟨by rw [List.length_reverse]; exact hz, _, r.reverse, IsTup.new _ _⟩
end

/-! ### isinstance -/
section
variable {K : KW} {H : Hp} {ρ : Ro} {v : V}
def tyD : D → Option String
  | .non => some "NoneType"
  | .bl _ => some "bool"
  | .int _ => some "int"
  | .str _ => some "str"
  | .tup _ => some "tuple"
  | .lst _ => some "list"
  | _ => none
theorem tyx_ok {d : D} {t : String} (r : RN K H ρ d v) (e : tyD d = some t) : TyX K H v (.type t) := by
  cases d with
  | non => rw [r.non]; cases e; exact .base .non
  | bl b => rw [r.bl]; cases e; exact .base (.bl b)
  | int i => rw [r.int]; cases e; exact .base (.int i)
  | str x => rw [r.str]; cases e; exact .base (.str x)
  | tup xs =>
    obtain ⟨a, vs, rfl, _, _, f⟩ := r.tup
    cases e
    rcases f with ⟨f, _⟩ | ⟨o, its, n, h1, _, h2, _⟩
    · rcases f with f | ⟨o, f⟩
      · exact .base (.tup f)
      · exact .fTuple f
    · exact .kTuple h1 h2
  | lst xs =>
    obtain ⟨a, vs, rfl, h, _⟩ := r.lst
    cases e
    exact .base (.lst h)
  | ref n => cases e
  | arg xs => cases e
  | obj x xs => cases e
  | exc x ns xs => cases e
def tyNames : List String := ["int", "bool", "str", "list", "tuple"]
theorem kit_ok : ∀ {d : D} {t u : String} {b : Bool}, tyD d = some t → u ∈ tyNames → isiP d u = some b → PySem.W.kitOne K (.type t) (.type u) = some b := by
  intro d t u b h1 h2 h3
  have hu : u = "int" ∨ u = "bool" ∨ u = "str" ∨ u = "list" ∨ u = "tuple" := by simpa [tyNames] using h2
  cases d <;> cases h1 <;> rcases hu with rfl | rfl | rfl | rfl | rfl <;> cases h3 <;> kernel_rfl
theorem isi_ty {d : D} {u : String} {b : Bool} (h : isiP d u = some b) : ∃ t, tyD d = some t := by
  cases d <;> first | exact ⟨_, rfl⟩ | cases h
theorem kitAny_ok {d : D} {t : String} (ht : tyD d = some t) : ∀ {us : List String} {bs : List Bool}, (∀ u ∈ us, u ∈ tyNames) → us.mapM (isiP d) = some bs → PySem.W.kitAny K (.type t) (us.map Value.type) = some (bs.any id)
  | [], bs, _, h => by cases h; rfl
  | u :: us, bs, hm, h => by
    rw [List.mapM_cons] at h
    cases e : isiP d u with
    | none => rw [e] at h; cases h
    | some b =>
      rw [e] at h
      cases e2 : us.mapM (isiP d) with
      | none => rw [e2] at h; cases h
      | some cs =>
        rw [e2] at h
        cases h
        have ih := kitAny_ok ht (fun u hu => hm u (List.mem_cons_of_mem _ hu)) e2
        have k1 : PySem.W.kitOne K (.type t) (.type u) = some b := kit_ok ht (hm u List.mem_cons_self) e
        show PySem.W.kitAny K (.type t) (Value.type u :: us.map Value.type) = _
        rw [PySem.W.kitAny, k1]
        cases b with
        | true => rfl
        | false => exact ih
end

/-! ### built-in functions -/
inductive RNs (K : KW) (H : Hp) (ρ : Ro) : List D → List V → Prop
  | nil : RNs K H ρ [] []
  | cons {d : D} {v : V} {ds : List D} {vs : List V} : RN K H ρ d v → RNs K H ρ ds vs → RNs K H ρ (d :: ds) (v :: vs)
theorem rns_of {K : KW} {H : Hp} {ρ : Ro} {h : HS} (s : SimH K H ρ h) : ∀ {ds : List D} {vs : List V}, RDs K H ρ ds vs → RNs K H ρ (ds.map (rd h)) vs
  | _, _, .nil => .nil
  | _, _, .cons a r => .cons (rd_ok s a) (rns_of s r)
def PrimC (X : Cx) (fv : Value) (f : List D → Option PR) : Prop :=
  ∃ r, CallR X fv r ∧ ∀ ds pr, f ds = some pr → ∀ (H : Hp) (ρ : Ro) (h : HS) (vs : List V) (Q : VK), SimH (kw X) H ρ h → RNs (kw X) H ρ ds vs → FinP (kw X) H ρ h Q pr → r vs H Q
section
variable {X : Cx}
theorem prim_abs : PrimC X (.builtin "abs") (bltP "abs") := by
  refine ⟨_, call_abs, fun ds pr e H ρ h vs Q s rs fp => ?_⟩
  unfold bltP at e
  split at e <;> simp at e
  subst e
  cases rs with
  | cons r rs =>
    cases rs
    rw [r.int]
    exact ⟨_, rfl, fp _ H Ext.refl s (.int _)⟩
theorem prim_int : PrimC X (.type "int") (bltP "int") := by
  refine ⟨_, call_int1, fun ds pr e H ρ h vs Q s rs fp => ?_⟩
  unfold bltP at e
  split at e <;> simp at e
  all_goals
    subst e
    cases rs with
    | cons r rs =>
      cases rs
      first
        | (rw [r.int]; exact .inl ⟨_, rfl, fp _ H Ext.refl s (.int _)⟩)
        | (rw [r.bl]; exact .inr ⟨_, rfl, fp _ H Ext.refl s (.int _)⟩)
theorem prim_len : PrimC X (.builtin "len") (bltP "len") := by
  refine ⟨_, call_len, fun ds pr e H ρ h vs Q s rs fp => ?_⟩
  unfold bltP at e
  split at e <;> simp at e
  all_goals
    cases rs with
    | cons r rs =>
      cases rs
      first
        | (obtain ⟨z, rfl⟩ := small_some e
           rw [r.str]; exact ⟨_, _, rfl, ⟨z, rfl⟩, fp _ H Ext.refl s (.int _)⟩)
        | (subst e
           obtain ⟨a, vs, rfl, hh, rr, _⟩ := r.tup
           exact ⟨_, vs.length, rfl, .inr (.inl ⟨vs, hh, rfl⟩), by rw [← rr.length]; exact fp _ H Ext.refl s (.int _)⟩)
        | (subst e
           obtain ⟨a, vs, rfl, hh, rr, _⟩ := r.tup
           exact ⟨_, vs.length, rfl, .inr ⟨vs, hh, rfl⟩, by rw [← rr.length]; exact fp _ H Ext.refl s (.int _)⟩)
        | (subst e
           obtain ⟨a, vs, rfl, hh, rr⟩ := r.lst
           exact ⟨_, vs.length, rfl, .inl ⟨vs, .inl (.inl hh), rfl⟩, by rw [← rr.length]; exact fp _ H Ext.refl s (.int _)⟩)
theorem prim_tuple : PrimC X (.type "tuple") (bltP "tuple") := by
  refine ⟨_, call_tuple_of, fun ds pr e H ρ h vs Q s rs fp => ?_⟩
  unfold bltP at e
  split at e <;> simp at e
  all_goals
    subst e
    cases rs with
    | cons r rs =>
      cases rs
      first
        | (obtain ⟨a, vs, rfl, hh, rr, f⟩ := r.tup
           exact ⟨_, vs, rfl, .inr ⟨hh, fin_old s fp f rr⟩⟩)
        | (obtain ⟨a, vs, rfl, hh, rr⟩ := r.lst
           exact ⟨_, vs, rfl, .inl ⟨.inl (.inl hh), fin_tup s fp rr⟩⟩)
theorem prim_list : PrimC X (.type "list") (bltP "list") := by
  refine ⟨_, call_list_of, fun ds pr e H ρ h vs Q s rs fp => ?_⟩
  unfold bltP at e
  split at e <;> simp at e
  all_goals
    subst e
    cases rs with
    | cons r rs =>
      cases rs
      first
        | (obtain ⟨a, vs, rfl, hh, rr, f⟩ := r.tup
           exact ⟨_, vs, rfl, .inr hh, fun p n => fp p _ n rr⟩)
        | (obtain ⟨a, vs, rfl, hh, rr⟩ := r.lst
           exact ⟨_, vs, rfl, .inl (.inl (.inl hh)), fun p n => fp p _ n rr⟩)
theorem bools_ok {K : KW} {H : Hp} {ρ : Ro} : ∀ {xs : List D} {vs : List V} {bs : List Bool}, RDs K H ρ xs vs → boolsP xs = some bs → vs = bs.map V.bl
  | _, _, _, .nil, e => by cases e; rfl
  | _, _, _, .cons (d := d) a r, e => by
    cases d <;> simp only [boolsP] at e <;> try (cases e; done)
    obtain ⟨cs, e1, rfl⟩ := Option.map_eq_some_iff.mp e
    cases a
    rw [bools_ok r e1]
    rfl
theorem prim_all (hc : X.calm = true) : PrimC X (.builtin "all") (bltP "all") := by
  refine ⟨_, cr_all hc, fun ds pr e H ρ h vs Q s rs fp => ?_⟩
  unfold bltP at e
  split at e <;> simp at e
  obtain ⟨bs, e1, rfl⟩ := e
  cases rs with
  | cons r rs =>
    cases rs
    obtain ⟨a, vs, rfl, hh, rr⟩ := r.lst
    rw [bools_ok rr e1] at hh
    exact ⟨a, bs, rfl, .inl (.inl hh), fp _ H Ext.refl s (.bl _)⟩
theorem prim_any (hc : X.calm = true) : PrimC X (.builtin "any") (bltP "any") := by
  refine ⟨_, cr_any hc, fun ds pr e H ρ h vs Q s rs fp => ?_⟩
  unfold bltP at e
  split at e <;> simp at e
  obtain ⟨bs, e1, rfl⟩ := e
  cases rs with
  | cons r rs =>
    cases rs
    obtain ⟨a, vs, rfl, hh, rr⟩ := r.lst
    rw [bools_ok rr e1] at hh
    exact ⟨a, bs, rfl, .inl (.inl hh), fp _ H Ext.refl s (.bl _)⟩
theorem prim_max (hc : X.calm = true) : PrimC X (.builtin "max") (bltP "max") := by
  refine ⟨_, call_max2 hc, fun ds pr e H ρ h vs Q s rs fp => ?_⟩
  unfold bltP at e
  split at e <;> simp at e
  subst e
  cases rs with
  | cons r rs =>
    cases rs with
    | cons r2 rs =>
      cases rs
      rw [r.int, r2.int]
      exact ⟨_, _, rfl, fp _ H Ext.refl s (.int _)⟩
theorem prim_min (hc : X.calm = true) : PrimC X (.builtin "min") (bltP "min") := by
  refine ⟨_, call_min2 hc, fun ds pr e H ρ h vs Q s rs fp => ?_⟩
  unfold bltP at e
  split at e <;> simp at e
  subst e
  cases rs with
  | cons r rs =>
    cases rs with
    | cons r2 rs =>
      cases rs
      rw [r.int, r2.int]
      exact ⟨_, _, rfl, fp _ H Ext.refl s (.int _)⟩
end
end Onc
set_option Elab.async false
set_option linter.all false
set_option maxRecDepth 100000
set_option maxHeartbeats 1000000
/-! What is walked; targets. -/
namespace Onc
open PySem PySem.Spec PyProof.Rows L2

/-- the iterator J gives what s tells, from H, ρ on -/
def Walks1 (K : KW) (J : It) (s : Src) (H : Hp) (ρ : Ro) : Prop :=
  ∀ (H2 : Hp) (ρ2 : Ro) (h2 : HS) (i : Nat), Kp H ρ H2 ρ2 → SimH K H2 ρ2 h2 →
    (∀ d, s.at h2 i = some (some d) → J.go i H2 ∧ ∀ x H3, J.yld i H2 x H3 → Ext H2 ρ2 H3 ρ2 ∧ SimH K H3 ρ2 h2 ∧ RD K H3 ρ2 d x) ∧ (s.at h2 i = some none → J.stop i H2)
theorem PI.or {X : Cx} {tg it : Expr} {w1 w2 : TI} (a : PI X tg it w1) (b : PI X tg it w2) : PI X tg it (fun σ H R => w1 σ H R ∨ w2 σ H R) :=
  ⟨fun pins s σ H R I h => h.elim (a.run pins s σ H R I) (b.run pins s σ H R I)⟩

section
variable {K : KW} {H H2 : Hp} {ρ ρ2 : Ro} {h2 : HS} {v : V} {i : Nat}
/-- a list that is walked -/
inductive SrcL (K : KW) (H : Hp) (ρ : Ro) : Src1 → Addr → Prop
  | fix {xs : List D} {a : Addr} {vs : List V} : FzL H ρ a vs → RDs K H ρ xs vs → SrcL K H ρ (.fix xs) a
  | live {n : Nat} {a : Addr} : nth ρ.l n = some a → SrcL K H ρ (.live n) a
theorem SrcL.kp {s : Src1} {a : Addr} (x : Kp H ρ H2 ρ2) (q : SrcL K H ρ s a) : SrcL K H2 ρ2 s a := by
  cases q with
  | fix f r => exact .fix (x.keep _ _ f.1 f.2) (r.kp x)
  | live e => exact .live (by obtain ⟨new, en⟩ := x.pre0; rw [en]; exact nth_app new ρ.l e)
theorem SrcL.now {s : Src1} {a : Addr} {o : Option D} (q : SrcL K H2 ρ2 s a) (sh : SimH K H2 ρ2 h2) (e : s.at h2 i = some o) :
    ∃ vs, SqL K H2 a vs ∧ (∀ d, o = some d → ∃ v, vs[i]? = some v ∧ RD K H2 ρ2 d v) ∧ (o = none → vs.length ≤ i) := by
  have fin : ∀ {xs : List D} {vs : List V}, SqL K H2 a vs → RDs K H2 ρ2 xs vs → xs[i]? = o → ∃ vs, SqL K H2 a vs ∧ (∀ d, o = some d → ∃ v, vs[i]? = some v ∧ RD K H2 ρ2 d v) ∧ (o = none → vs.length ≤ i) :=
    fun {xs vs} hq r e => ⟨vs, hq, fun d ed => r.get (by rw [e, ed]), fun en => by rw [en] at e; have := List.getElem?_eq_none_iff.mp e; rw [← r.length]; exact this⟩
  cases q with
  | fix f r => exact fin f.sq r (Option.some.inj e)
  | live en =>
    rename_i n
    have e : (match nth h2 n with | some (.lst xs) => some xs[i]? | _ => none) = some o := e
    cases q : nth h2 n with
    | none => rw [q] at e; cases e
    | some ob =>
      rw [q] at e
      cases ob with
      | lst xs =>
        obtain ⟨vs, ea, r⟩ := sh.at en q
        exact fin (.inl (.inl ea)) r (Option.some.inj e)
      | ins x fs => cases e
theorem srcL_of {d : D} {s : Src1} (r : RD K H ρ d v) (e : src1P d = some s) (nt : ∀ xs, d ≠ .tup xs) (ns : ∀ z, d ≠ .str z) : ∃ a, v = .ref a ∧ SrcL K H ρ s a := by
  cases d with
  | lst xs => cases e; cases r with | lst f r => exact ⟨_, rfl, .fix f r⟩
  | ref n => cases e; cases r with | ref e => exact ⟨_, rfl, .live e⟩
  | tup xs => exact absurd rfl (nt xs)
  | str z => exact absurd rfl (ns z)
  | _ => cases e
theorem SqL.uniq {a : Addr} {vs us : List V} (e : ∀ xs, SqL K H a xs → xs[i]? = some v) (q : SqL K H a vs) {u : V} (eu : vs[i]? = some u) : v = u := by
  have := e vs q
  rw [eu] at this
  exact (Option.some.inj this).symm
theorem srcT_now {xs : List D} {a : Addr} {vs : List V} {o : Option D} (f : FzT K H2 ρ2 a vs) (r : RDs K H2 ρ2 xs vs) (e : (Src1.fix xs).at h2 i = some o) :
    SqT K H2 a vs ∧ (∀ d, o = some d → ∃ v, vs[i]? = some v ∧ RD K H2 ρ2 d v) ∧ (o = none → vs.length ≤ i) := by
  have e : xs[i]? = o := Option.some.inj e
  exact ⟨f.sq, fun d ed => r.get (by rw [e, ed]), fun en => by rw [en] at e; have := List.getElem?_eq_none_iff.mp e; rw [← r.length]; exact this⟩
end

section
variable {K : KW} {H : Hp} {ρ : Ro}
theorem walks_list {s : Src1} {a : Addr} (q : SrcL K H ρ s a) : Walks1 K (Itl K a) (.one s) H ρ := by
  intro H2 ρ2 h2 i x sh
  refine ⟨fun d e => ?_, fun e => ?_⟩
  · obtain ⟨vs, hq, h1, _⟩ := (q.kp x).now sh e
    obtain ⟨v, hv, rv⟩ := h1 d rfl
    refine ⟨⟨vs, v, hq, hv⟩, fun y H3 hy => ?_⟩
    obtain ⟨rfl, e2⟩ := hy
    have := e2 vs hq
    rw [hv] at this
    cases this
    exact ⟨Ext.refl, sh, rv⟩
  · obtain ⟨vs, hq, _, h2⟩ := (q.kp x).now sh e
    exact ⟨vs, hq, h2 rfl⟩
theorem walks_tup {xs : List D} {a : Addr} {vs : List V} (f : FzT K H ρ a vs) (r : RDs K H ρ xs vs) : Walks1 K (Itt K a) (.one (.fix xs)) H ρ := by
  intro H2 ρ2 h2 i x sh
  refine ⟨fun d e => ?_, fun e => ?_⟩
  · obtain ⟨hq, h1, _⟩ := srcT_now (h2 := h2) (i := i) (f.kp x) (r.kp x) e
    obtain ⟨v, hv, rv⟩ := h1 d rfl
    refine ⟨⟨vs, v, hq, hv⟩, fun y H3 hy => ?_⟩
    obtain ⟨rfl, e2⟩ := hy
    have := e2 vs hq
    rw [hv] at this
    cases this
    exact ⟨Ext.refl, sh, rv⟩
  · obtain ⟨hq, _, h3⟩ := srcT_now (h2 := h2) (i := i) (f.kp x) (r.kp x) e
    exact ⟨vs, hq, h3 rfl⟩
theorem walks_str {z : Str} : Walks1 K (Its z) (.one (.fix (signs z))) H ρ := by
  intro H2 ρ2 h2 i x sh
  refine ⟨fun d e => ?_, fun e => ?_⟩
  · have e : (signs z)[i]? = some d := Option.some.inj e
    unfold signs at e
    rw [List.getElem?_map] at e
    obtain ⟨c, hc, rfl⟩ := Option.map_eq_some_iff.mp e
    rw [Array.getElem?_toList] at hc
    refine ⟨(Array.getElem?_eq_some_iff.mp hc).1, fun y H3 hy => ?_⟩
    obtain ⟨rfl, c', hc', rfl⟩ := hy
    rw [hc] at hc'
    cases hc'
    exact ⟨Ext.refl, sh, .str _⟩
  · have e : (signs z)[i]? = none := Option.some.inj e
    have := List.getElem?_eq_none_iff.mp e
    unfold signs at this
    rw [List.length_map, Array.length_toList] at this
    exact this
theorem walks_rng {lo : Int} {n : Nat} : Walks1 K (Itr lo n) (.rng lo n) H ρ := by
  intro H2 ρ2 h2 i x sh
  have e0 : Src.at h2 i (.rng lo n) = if i < n then some (some (.int (lo + i))) else some none := rfl
  refine ⟨fun d e => ?_, fun e => ?_⟩
  · rw [e0] at e
    split at e
    · cases e
      refine ⟨by assumption, fun y H3 hy => ?_⟩
      obtain ⟨rfl, rfl⟩ := hy
      exact ⟨Ext.refl, sh, .int _⟩
    · cases e
  · rw [e0] at e
    split at e
    · cases e
    · show n ≤ i
      omega
/-- a new pair -/
theorem pair_ok {H2 : Hp} {ρ2 : Ro} {h2 : HS} {a b : D} {x y : V} {T : Addr} (sh : SimH K H2 ρ2 h2) (n : H2 T = none) (r1 : RD K H2 ρ2 a x) (r2 : RD K H2 ρ2 b y) :
    Ext H2 ρ2 (upd H2 T (.tup [x, y])) ρ2 ∧ SimH K (upd H2 T (.tup [x, y])) ρ2 h2 ∧ RD K (upd H2 T (.tup [x, y])) ρ2 (.tup [a, b]) (.ref T) :=
  ⟨ext_new sh n, sh.new n, .tup (.inl ⟨.inl upd_same, sh.fresh n⟩) (.cons (r1.ext (ext_new sh n)) (.cons (r2.ext (ext_new sh n)) .nil))⟩
theorem enum_at {s : Src1} {h2 : HS} {i : Nat} {d : D} (e : Src.at h2 i (.enum s) = some (some d)) : ∃ x, s.at h2 i = some (some x) ∧ d = .tup [.int i, x] := by
  have e : (match s.at h2 i with | some (some d) => some (some (.tup [.int i, d])) | r => r) = some (some d) := e
  cases q : s.at h2 i with
  | none => rw [q] at e; cases e
  | some o =>
    rw [q] at e
    cases o with
    | none => cases e
    | some x => cases e; exact ⟨x, rfl, rfl⟩
theorem enum_end {s : Src1} {h2 : HS} {i : Nat} (e : Src.at h2 i (.enum s) = some none) : s.at h2 i = some none := by
  have e : (match s.at h2 i with | some (some d) => some (some (.tup [.int i, d])) | r => r) = some none := e
  cases q : s.at h2 i with
  | none => rw [q] at e; cases e
  | some o =>
    rw [q] at e
    cases o with
    | none => rfl
    | some x => cases e
theorem walks_enum {s : Src1} {a : Addr} (q : SrcL K H ρ s a) : Walks1 K (Ite K a) (.enum s) H ρ := by
  intro H2 ρ2 h2 i x sh
  refine ⟨fun d e => ?_, fun e => ?_⟩
  · obtain ⟨y, e1, rfl⟩ := enum_at e
    obtain ⟨vs, hq, h1, _⟩ := (q.kp x).now sh e1
    obtain ⟨v, hv, rv⟩ := h1 y rfl
    refine ⟨⟨vs, v, hq, hv⟩, fun y H3 hy => ?_⟩
    obtain ⟨T, u, rfl, hn, rfl, e2⟩ := hy
    have := e2 vs hq
    rw [hv] at this
    cases this
    exact pair_ok sh hn (.int _) rv
  · obtain ⟨vs, hq, _, h2⟩ := (q.kp x).now sh (enum_end e)
    exact ⟨vs, hq, h2 rfl⟩
theorem zip_at {s t : Src1} {h2 : HS} {i : Nat} {d : D} (e : Src.at h2 i (.zip s t) = some (some d)) : ∃ x y, s.at h2 i = some (some x) ∧ t.at h2 i = some (some y) ∧ d = .tup [x, y] := by
  have e : (match s.at h2 i, t.at h2 i with | some (some d), some (some e) => some (some (D.tup [d, e])) | some _, some _ => some none | _, _ => none) = some (some d) := e
  split at e
  · cases e; exact ⟨_, _, by assumption, by assumption, rfl⟩
  · cases e
  · cases e
theorem zip_end {s t : Src1} {h2 : HS} {i : Nat} (e : Src.at h2 i (.zip s t) = some none) : ∃ a b, s.at h2 i = some a ∧ t.at h2 i = some b ∧ (a = none ∨ b = none) := by
  have e : (match s.at h2 i, t.at h2 i with | some (some d), some (some e) => some (some (D.tup [d, e])) | some _, some _ => some none | _, _ => none) = some none := e
  split at e
  · cases e
  · rename_i a b hn h1 h2
    refine ⟨a, b, by assumption, by assumption, ?_⟩
    cases a with
    | none => exact .inl rfl
    | some x =>
      cases b with
      | none => exact .inr rfl
      | some y => exact absurd rfl (hn x y rfl)
  · cases e
theorem walks_zip {s t : Src1} {a b : Addr} (q : SrcL K H ρ s a) (p : SrcL K H ρ t b) : Walks1 K (Itz K a b) (.zip s t) H ρ := by
  intro H2 ρ2 h2 i x sh
  refine ⟨fun d e => ?_, fun e => ?_⟩
  · obtain ⟨y, z, e1, e2, rfl⟩ := zip_at e
    obtain ⟨vs, hq, h1, _⟩ := (q.kp x).now sh e1
    obtain ⟨us, hp, h3, _⟩ := (p.kp x).now sh e2
    obtain ⟨v, hv, rv⟩ := h1 y rfl
    obtain ⟨u, hu, ru⟩ := h3 z rfl
    refine ⟨⟨vs, us, v, u, hq, hp, hv, hu⟩, fun y H3 hy => ?_⟩
    obtain ⟨T, v', u', rfl, hn, rfl, e3, e4⟩ := hy
    have t1 := e3 vs hq
    have t2 := e4 us hp
    rw [hv] at t1
    rw [hu] at t2
    cases t1; cases t2
    exact pair_ok sh hn rv ru
  · obtain ⟨o1, o2, e1, e2, e3⟩ := zip_end e
    obtain ⟨vs, hq, _, h1⟩ := (q.kp x).now sh e1
    obtain ⟨us, hp, _, h3⟩ := (p.kp x).now sh e2
    exact ⟨vs, us, hq, hp, e3.imp h1 h3⟩
theorem walks_zipT {xs ys : List D} {a b : Addr} {vs us : List V} (f : FzT K H ρ a vs) (r : RDs K H ρ xs vs) (f2 : FzT K H ρ b us) (r2 : RDs K H ρ ys us) : Walks1 K (RZ.ItzT K a b) (.zip (.fix xs) (.fix ys)) H ρ := by
  intro H2 ρ2 h2 i x sh
  refine ⟨fun d e => ?_, fun e => ?_⟩
  · obtain ⟨y, z, e1, e2, rfl⟩ := zip_at e
    obtain ⟨hq, h1, _⟩ := srcT_now (h2 := h2) (i := i) (f.kp x) (r.kp x) e1
    obtain ⟨hp, h3, _⟩ := srcT_now (h2 := h2) (i := i) (f2.kp x) (r2.kp x) e2
    obtain ⟨v, hv, rv⟩ := h1 y rfl
    obtain ⟨u, hu, ru⟩ := h3 z rfl
    refine ⟨⟨vs, us, v, u, hq, hp, hv, hu⟩, fun y H3 hy => ?_⟩
    obtain ⟨T, v', u', rfl, hn, rfl, e3, e4⟩ := hy
    have t1 := e3 vs hq
    have t2 := e4 us hp
    rw [hv] at t1
    rw [hu] at t2
    cases t1; cases t2
    exact pair_ok sh hn rv ru
  · obtain ⟨o1, o2, e1, e2, e3⟩ := zip_end e
    obtain ⟨hq, _, h1⟩ := srcT_now (h2 := h2) (i := i) (f.kp x) (r.kp x) e1
    obtain ⟨hp, _, h3⟩ := srcT_now (h2 := h2) (i := i) (f2.kp x) (r2.kp x) e2
    exact ⟨vs, us, hq, hp, e3.imp h1 h3⟩
end
end Onc
set_option Elab.async false
set_option linter.all false
set_option maxRecDepth 100000
set_option maxHeartbeats 1000000
/-! Judgements of expressions, by what the evaluator gives. -/
namespace Onc
open PySem PySem.Spec PyProof.Rows L2

/-! ### what a piece of syntax is not -/
def isStar : Expr → Bool
  | .Starred .. => true
  | _ => false
def isSlice : Expr → Bool
  | .Slice .. => true
  | _ => false
def isSet : Expr → Bool
  | .Set .. => true
  | _ => false
def isCall0 : Expr → Bool
  | .Call _ [] [] _ => true
  | _ => false
def isCompE : Expr → Bool
  | .ListComp .. | .SetComp .. | .DictComp .. => true
  | _ => false
theorem starEach_one {e : Expr} {es : List Expr} {env : Env} (h : isStar e = false) : starEach (e :: es) env = (false, eval e env) :: starEach es env := by
  cases e <;> first | rfl | cases h
theorem nostar_any {pos : Pos} {env : Env} : ∀ {es : List Expr}, es.all (!isStar ·) = true → (backTo pos (starEach es env)).any (·.1) = false
  | [], _ => rfl
  | e :: es, h => by
    rw [List.all_cons, Bool.and_eq_true, Bool.not_eq_true'] at h
    rw [starEach_one h.1]
    show (false || (backTo pos (starEach es env)).any (·.1)) = false
    rw [nostar_any h.2]; rfl
theorem nostar_all {pos : Pos} {env : Env} : ∀ {es : List Expr}, es.all (!isStar ·) = true → (backTo pos (starEach es env)).all (fun x => !x.1) = true
  | [], _ => rfl
  | e :: es, h => by
    rw [List.all_cons, Bool.and_eq_true, Bool.not_eq_true'] at h
    rw [starEach_one h.1]
    show (true && (backTo pos (starEach es env)).all (fun x => !x.1)) = true
    rw [nostar_all h.2]; rfl
theorem plainIx_of {e : Expr} (h : isSlice e = false) : PlainIx e := by
  intro o i
  cases e <;> first | rfl | cases h
theorem nomark_of {e : Expr} {op : CmpOp} (h : isSet e = false) : behindInMarks op e = false := by
  cases e <;> first | rfl | cases h
theorem folded_of {e : Expr} {env : Env} (h : isSet e = false) : ∀ x, foldedSetIterable e env x = pure x := by
  intro x
  cases e <;> first | rfl | cases h
theorem base_of {o : Expr} {f : Str} {env : Env} {whole : Sem Value} (h : isCall0 o = false) : attributeBase o f env whole = whole := by
  cases o <;> first | rfl | skip
  rename_i func args kws pos
  cases func <;> first | rfl | skip
  cases args <;> first | rfl | skip
  cases kws <;> first | rfl | cases h
def plainTest : Expr → Bool
  | .UnaryOp .Not _ _ | .BoolOp .. | .IfExp .. | .Compare .. => false
  | _ => true
theorem truth_plain {e : Expr} {env : Env} (h : plainTest e = true) : ∀ whole, isTrue e env whole = (do let v ← whole; standAt e.pos; holding [v] (truthy v)) := by
  intro whole
  cases e <;> first | rfl | skip
  all_goals first | cases h | skip
  rename_i op _ _
  cases op <;> first | rfl | cases h

/-! ### canonical readings -/
def Can {α β : Type} (K : KW) (E : XK) (XR : XRel) (R : Hp → Ro → α → β → Prop) (f : Loc → M α) : L2.St → Hp → (β → Hp → Prop) → Prop :=
  fun σ H Q => ∃ ρ l h r h', SimL K H ρ l σ ∧ SimH K H ρ h ∧ f l h = some (r, h') ∧ Post K E XR R H ρ r h' Q
theorem Rdg.can {α β : Type} {K : KW} {E : XK} {XR : XRel} {R : Hp → Ro → α → β → Prop} {f : Loc → M α} : Rdg K E XR R (Can K E XR R f) f :=
  fun _ _ ρ l h r h' _ sl sh e p => ⟨ρ, l, h, r, h', sl, sh, e, p⟩
abbrev EvE (X : Cx) (E : XK) (XR : XRel) (e : Expr) (f : Loc → M D) : Prop := PE X e (Can (kw X) E XR (RD (kw X)) f)
def RB : Hp → Ro → Bool → Bool → Prop := fun _ _ a b => a = b
abbrev EvT (X : Cx) (E : XK) (XR : XRel) (e : Expr) (f : Loc → M Bool) : Prop := PT X e (Can (kw X) E XR RB f)
abbrev EvW (X : Cx) (E : XK) (XR : XRel) (e : Expr) (f : Loc → M Bool) : Prop := PW X e (Can (kw X) E XR RB f)
abbrev EvS (X : Cx) (E : XK) (XR : XRel) (es : List Expr) (f : Loc → M (List D)) : Prop := PA X es (Can (kw X) E XR (RDs (kw X)) f)
def RO : Hp → Ro → Option Int → Option Int → Prop := fun _ _ a b => a = b
abbrev EvP (X : Cx) (E : XK) (XR : XRel) (e : Option Expr) (f : Loc → M (Option Int)) : Prop := PO X e (Can (kw X) E XR RO f)
abbrev EvF (X : Cx) (E : XK) (XR : XRel) (ifs : List Expr) (f : Loc → M Bool) : Prop := PTs X ifs (Can (kw X) E XR RB f)
section
variable {X : Cx} {E : XK} {XR : XRel} {e : Expr}
theorem EvE.of {t : TE} {f : Loc → M D} (p : PE X e t) (r : Rdg (kw X) E XR (RD (kw X)) t f) : EvE X E XR e f :=
  ⟨fun pins s σ H Q I ⟨ρ, l, h, rr, h', sl, sh, ee, pp⟩ => p.run pins s σ H Q I (r σ H ρ l h rr h' Q sl sh ee pp)⟩
theorem EvT.of {t : TT} {f : Loc → M Bool} (p : PT X e t) (r : Rdg (kw X) E XR RB t f) : EvT X E XR e f :=
  ⟨fun pins s σ H Q I ⟨ρ, l, h, rr, h', sl, sh, ee, pp⟩ => p.run pins s σ H Q I (r σ H ρ l h rr h' Q sl sh ee pp)⟩
theorem EvW.of {t : TT} {f : Loc → M Bool} (p : PW X e t) (r : Rdg (kw X) E XR RB t f) : EvW X E XR e f :=
  ⟨fun wh pins s σ H Q I ⟨ρ, l, h, rr, h', sl, sh, ee, pp⟩ => p.run wh pins s σ H Q I (r σ H ρ l h rr h' Q sl sh ee pp)⟩
theorem EvS.of {es : List Expr} {t : TA} {f : Loc → M (List D)} (p : PA X es t) (r : Rdg (kw X) E XR (RDs (kw X)) t f) : EvS X E XR es f :=
  ⟨fun pos pins s σ H Q I ⟨ρ, l, h, rr, h', sl, sh, ee, pp⟩ => p.run pos pins s σ H Q I (r σ H ρ l h rr h' Q sl sh ee pp)⟩
theorem EvP.of {o : Option Expr} {t : TO} {f : Loc → M (Option Int)} (p : PO X o t) (r : Rdg (kw X) E XR RO t f) : EvP X E XR o f :=
  ⟨fun pins s σ H Q I ⟨ρ, l, h, rr, h', sl, sh, ee, pp⟩ => p.run pins s σ H Q I (r σ H ρ l h rr h' Q sl sh ee pp)⟩
theorem EvF.of {ifs : List Expr} {t : TT} {f : Loc → M Bool} (p : PTs X ifs t) (r : Rdg (kw X) E XR RB t f) : EvF X E XR ifs f :=
  ⟨fun pins s σ H Q I ⟨ρ, l, h, rr, h', sl, sh, ee, pp⟩ => p.run pins s σ H Q I (r σ H ρ l h rr h' Q sl sh ee pp)⟩

/-! ### constants, names -/
theorem rdg_c {v : V} {d : D} (h : ∀ H ρ, RD (kw X) H ρ d v) : Rdg (kw X) E XR (RD (kw X)) (tC v) (fun _ => M.ret d) := by
  intro σ H ρ l hh r h' Q sl sh e p
  cases e
  exact p.here sh (h H ρ)
theorem ev_int {i j pos} : EvE X E XR (.Constant (.int i) j pos) (fun _ => M.ret (.int i)) := .of pe_int (rdg_c fun _ _ => .int i)
theorem ev_bl {b j pos} : EvE X E XR (.Constant (.bool b) j pos) (fun _ => M.ret (.bl b)) := .of pe_bl (rdg_c fun _ _ => .bl b)
theorem ev_non {j pos} : EvE X E XR (.Constant .none j pos) (fun _ => M.ret .non) := .of pe_non (rdg_c fun _ _ => .non)
theorem ev_str {x j pos} : EvE X E XR (.Constant (.str x) j pos) (fun _ => M.ret (.str x)) := .of pe_str (rdg_c fun _ _ => .str x)
theorem ev_var {i : Nat} {x : Str} {pos : Pos} (hN : X.N[i]? = some x) (hv : Vis X.env.scope x) (hd : (x == ("__debug__" : Str)) = false) (hcd : (x == ("__classdict__" : Str)) = false) :
    EvE X E XR (.Name x pos) (fun l => match l[i]? with | some (some d) => M.ret d | _ => M.fail) := by
  refine .of (pe_var hN hv hd hcd) fun σ H ρ l h r h' Q sl sh e p => ?_
  cases q : l[i]? with
  | none => rw [q] at e; cases e
  | some o =>
    rw [q] at e
    cases o with
    | none => cases e
    | some d =>
      cases e
      obtain ⟨v, ev, rv⟩ := sl.2 i d q
      exact ⟨v, ev, p.here sh rv⟩
theorem ev_glob {g : Gx} {x : Str} {pos : Pos} (hg : Gl X x) (hG : ∀ d, g.glob x = some d → ∃ u v, X.mg x = some u ∧ RelV v u ∧ ∀ H ρ, RD (kw X) H ρ d v) (hd : (x == ("__debug__" : Str)) = false) :
    EvE X E XR (.Name x pos) (fun _ => M.opt (g.glob x)) := by
  refine ⟨fun pins s σ H Q I ⟨ρ, l, h, r, h', sl, sh, e, p⟩ => ?_⟩
  obtain ⟨d, hd', rfl, rfl⟩ := opt_of e
  obtain ⟨u, v, hm, hr, hv⟩ := hG d hd'
  exact (pe_glob hg hm hr hd).run pins s σ H Q I (p.here sh (hv H ρ))

/-! ### operators -/
variable {a b c : Expr} {fa fb fc : Loc → M D} {pos : Pos}
theorem rdg_bin {fz : Bool} {op : Operator} {r : R2} (q : ∀ x y pr, binP op x y = some pr → ∀ (H : Hp) (ρ : Ro) (h : HS) (v u : V) (Q : VK), SimH (kw X) H ρ h → RN (kw X) H ρ x v → RN (kw X) H ρ y u → FinP (kw X) H ρ h Q pr → r v u H Q)
    {ta tb : TE} (ha : Rdg (kw X) E XR (RD (kw X)) ta fa) (hb : Rdg (kw X) E XR (RD (kw X)) tb fb) :
    Rdg (kw X) E XR (RD (kw X)) (tOp r ta tb) (fun l => (fa l).bnd fun x => (fb l).bnd fun y => (M.rd x).bnd fun x => (M.rd y).bnd fun y => (M.opt (binP op x y)).bnd (PR.fin fz)) := by
  intro σ H ρ l h rr h' Q sl sh e p
  refine ha.step sl sh e p fun x h1 v H1 ρ1 x1 sl1 sh1 r1 e1 p1 => ?_
  refine hb.step sl1 sh1 e1 p1 fun y h2 u H2 ρ2 x2 sl2 sh2 r2 e2 p2 => ?_
  obtain ⟨pr, hp, e3⟩ := bnd_opt (h := h2) e2
  exact q _ _ pr hp H2 ρ2 h2 v u Q sh2 (rd_ok sh2 (r1.ext x2)) (rd_ok sh2 r2) (fin_ok sh2 e3 p2)
theorem ev_bin {fz : Bool} {op : Operator} (ha : EvE X E XR a fa) (hb : EvE X E XR b fb) :
    EvE X E XR (.BinOp a op b pos) (fun l => (fa l).bnd fun x => (fb l).bnd fun y => (M.rd x).bnd fun x => (M.rd y).bnd fun y => (M.opt (binP op x y)).bnd (PR.fin fz)) := by
  obtain ⟨r, o, q⟩ := bin_ok (X := X) op
  exact .of (pe_op o ha hb) (rdg_bin q .can .can)
theorem ev_neg (ha : EvE X E XR a fa) : EvE X E XR (.UnaryOp .USub a pos) (fun l => (fa l).bnd fun x => match x with
    | .int i => M.ret (.int (-i))
    | _ => M.fail) := by
  refine .of (pe_un un_neg ha) fun σ H ρ l h rr h' Q sl sh e p => ?_
  refine Rdg.can.step sl sh e p fun x h1 v H1 ρ1 x1 sl1 sh1 r1 e1 p1 => ?_
  cases x <;> try (cases e1; done)
  cases e1
  cases r1
  exact ⟨_, rfl, p1.here sh1 (.int _)⟩
/-- a value that is a truth, as a test -/
theorem Rdg.test {t : TE} {f : Loc → M D} (r : Rdg (kw X) E XR (RD (kw X)) t f) (hb : ∀ l h d h', f l h = some (.ok d, h') → ∃ k, d = .bl k) : Rdg (kw X) E XR RB (tTest t) (tstOf f) := by
  intro σ H ρ l h rr h' Q sl sh e p
  have e : M.bnd (f l) (fun x => (M.rd x).bnd fun x => M.opt (truth x)) h = some (rr, h') := e
  unfold M.bnd at e
  cases q : f l h with
  | none => rw [q] at e; cases e
  | some z =>
    obtain ⟨z, h1⟩ := z
    rw [q] at e
    cases z with
    | error x =>
      cases e
      exact r σ H ρ l h (.error x) _ _ sl sh q p
    | ok d =>
      obtain ⟨k, rfl⟩ := hb _ _ _ _ q
      cases e
      refine r σ H ρ l h (.ok (.bl k)) _ _ sl sh q fun v H' ρ' x s rr => ?_
      cases rr
      exact ⟨k, rfl, p k H' ρ' x s rfl⟩
theorem bnd_ok {α β : Type} {m : M α} {f : α → M β} {h h' : HS} {b : β} (e : M.bnd m f h = some (.ok b, h')) : ∃ a h1, m h = some (.ok a, h1) ∧ f a h1 = some (.ok b, h') := by
  unfold M.bnd at e
  cases q : m h with
  | none => rw [q] at e; cases e
  | some z =>
    obtain ⟨z, h1⟩ := z
    rw [q] at e
    cases z with
    | error x => cases e
    | ok a => exact ⟨a, h1, rfl, e⟩
abbrev cmpF (op : CmpOp) (fa fb : Loc → M D) : Loc → M D := fun l => (fa l).bnd fun x => (fb l).bnd fun y => (M.rd x).bnd fun x => (M.rd y).bnd fun y => (M.opt (cmpP op x y)).bnd fun k => M.ret (.bl k)
theorem cmpF_bl {op : CmpOp} : ∀ (l : Loc) (h : HS) (d : D) (h' : HS), cmpF op fa fb l h = some (.ok d, h') → ∃ k, d = .bl k := by
  intro l h d h' e
  obtain ⟨x, h1, _, e⟩ := bnd_ok e
  obtain ⟨y, h2, _, e⟩ := bnd_ok e
  obtain ⟨x', h3, _, e⟩ := bnd_ok e
  obtain ⟨y', h4, _, e⟩ := bnd_ok e
  obtain ⟨k, h5, _, e⟩ := bnd_ok e
  cases e
  exact ⟨k, rfl⟩
theorem rdg_cmp {op : CmpOp} {r : R2} (q : ∀ x y k, cmpP op x y = some k → ∀ (H : Hp) (ρ : Ro) (v u : V) (Q : VK), RN (kw X) H ρ x v → RN (kw X) H ρ y u → Q (.bl k) H → r v u H Q)
    {ta tb : TE} (ha : Rdg (kw X) E XR (RD (kw X)) ta fa) (hb : Rdg (kw X) E XR (RD (kw X)) tb fb) : Rdg (kw X) E XR (RD (kw X)) (tOp r ta tb) (cmpF op fa fb) := by
  intro σ H ρ l h rr h' Q sl sh e p
  refine ha.step sl sh e p fun x h1 v H1 ρ1 x1 sl1 sh1 r1 e1 p1 => ?_
  refine hb.step sl1 sh1 e1 p1 fun y h2 u H2 ρ2 x2 sl2 sh2 r2 e2 p2 => ?_
  obtain ⟨k, hk, e3⟩ := bnd_opt (h := h2) e2
  cases e3
  exact q _ _ k hk H2 ρ2 v u Q (rd_ok sh2 (r1.ext x2)) (rd_ok sh2 r2) (p2.here sh2 (.bl k))
theorem ev_cmp {op : CmpOp} (hu : X.A.units + 65 < cLine) (hm : behindInMarks op b = false) (ha : EvE X E XR a fa) (hb : EvE X E XR b fb) : EvE X E XR (.Compare a [op] [b] pos) (cmpF op fa fb) := by
  obtain ⟨r, o, q⟩ := cmp_ok (X := X) hu op
  exact .of (pe_cmpR o ha hb hm) (rdg_cmp q .can .can)
theorem evt_cmp {op : CmpOp} (hu : X.A.units + 65 < cLine) (hm : behindInMarks op b = false) (ha : EvE X E XR a fa) (hb : EvE X E XR b fb) : EvT X E XR (.Compare a [op] [b] pos) (tstOf (cmpF op fa fb)) := by
  obtain ⟨r, o, q⟩ := cmp_ok (X := X) hu op
  exact .of (pt_cmpR o ha hb hm) ((rdg_cmp q .can .can).test cmpF_bl)
theorem rdn_none {K : KW} {H : Hp} {ρ : Ro} {d : D} {v : V} (r : RD K H ρ d v) : decide (v = V.non) = (match d with | .non => true | _ => false) := by
  cases r <;> rfl
abbrev isNF (fa : Loc → M D) : Loc → M D := fun l => (fa l).bnd fun x => match x with
    | .non => M.ret (.bl true)
    | _ => M.ret (.bl false)
abbrev notNF (fa : Loc → M D) : Loc → M D := fun l => (fa l).bnd fun x => match x with
    | .non => M.ret (.bl false)
    | _ => M.ret (.bl true)
theorem rdg_isN {ta : TE} (ha : Rdg (kw X) E XR (RD (kw X)) ta fa) : Rdg (kw X) E XR (RD (kw X)) (tIsN ta) (isNF fa) := by
  intro σ H ρ l h rr h' Q sl sh e p
  refine ha.step sl sh e p fun x h1 v H1 ρ1 x1 sl1 sh1 r1 e1 p1 => ?_
  rw [rdn_none r1]
  cases x <;> (cases e1; exact p1.here sh1 (.bl _))
theorem rdg_notN {ta : TE} (ha : Rdg (kw X) E XR (RD (kw X)) ta fa) : Rdg (kw X) E XR (RD (kw X)) (tNotN ta) (notNF fa) := by
  intro σ H ρ l h rr h' Q sl sh e p
  refine ha.step sl sh e p fun x h1 v H1 ρ1 x1 sl1 sh1 r1 e1 p1 => ?_
  rw [rdn_none r1]
  cases x <;> (cases e1; exact p1.here sh1 (.bl _))
theorem isNF_bl (l : Loc) (h : HS) (d : D) (h' : HS) (e : isNF fa l h = some (.ok d, h')) : ∃ k, d = .bl k := by
  obtain ⟨x, h1, _, e⟩ := bnd_ok e
  cases x <;> (cases e; exact ⟨_, rfl⟩)
theorem notNF_bl (l : Loc) (h : HS) (d : D) (h' : HS) (e : notNF fa l h = some (.ok d, h')) : ∃ k, d = .bl k := by
  obtain ⟨x, h1, _, e⟩ := bnd_ok e
  cases x <;> (cases e; exact ⟨_, rfl⟩)
theorem ev_isN {j pos'} (ha : EvE X E XR a fa) : EvE X E XR (.Compare a [.Is] [.Constant .none j pos'] pos) (isNF fa) := .of (pe_cmp (pc_isN ha)) (rdg_isN .can)
theorem ev_notN {j pos'} (ha : EvE X E XR a fa) : EvE X E XR (.Compare a [.IsNot] [.Constant .none j pos'] pos) (notNF fa) := .of (pe_cmp (pc_notN ha)) (rdg_notN .can)
theorem evt_isN {j pos'} (ha : EvE X E XR a fa) : EvT X E XR (.Compare a [.Is] [.Constant .none j pos'] pos) (tstOf (isNF fa)) := .of (pt_cmp (pc_isN ha)) ((rdg_isN .can).test isNF_bl)
theorem evt_notN {j pos'} (ha : EvE X E XR a fa) : EvT X E XR (.Compare a [.IsNot] [.Constant .none j pos'] pos) (tstOf (notNF fa)) := .of (pt_cmp (pc_notN ha)) ((rdg_notN .can).test notNF_bl)
abbrev chainF (op op' : CmpOp) (fa fb fc : Loc → M D) : Loc → M D := fun l => (fa l).bnd fun x => (fb l).bnd fun y => (M.rd x).bnd fun x' => (M.rd y).bnd fun y' => (M.opt (cmpP op x' y')).bnd fun k =>
      if k = true then (fc l).bnd fun z => (M.rd y).bnd fun y' => (M.rd z).bnd fun z' => (M.opt (cmpP op' y' z')).bnd fun k => M.ret (.bl k) else M.ret (.bl false)
theorem chainF_bl {op op' : CmpOp} (l : Loc) (h : HS) (d : D) (h' : HS) (e : chainF op op' fa fb fc l h = some (.ok d, h')) : ∃ k, d = .bl k := by
  obtain ⟨x, h1, _, e⟩ := bnd_ok e
  obtain ⟨y, h2, _, e⟩ := bnd_ok e
  obtain ⟨x', h3, _, e⟩ := bnd_ok e
  obtain ⟨y', h4, _, e⟩ := bnd_ok e
  obtain ⟨k, h5, _, e⟩ := bnd_ok e
  split at e
  · obtain ⟨z, h6, _, e⟩ := bnd_ok e
    obtain ⟨y', h7, _, e⟩ := bnd_ok e
    obtain ⟨z', h8, _, e⟩ := bnd_ok e
    obtain ⟨k', h9, _, e⟩ := bnd_ok e
    cases e; exact ⟨_, rfl⟩
  · cases e; exact ⟨_, rfl⟩
theorem rdg_chain {op op' : CmpOp} {r r' : R2} (q : ∀ x y k, cmpP op x y = some k → ∀ (H : Hp) (ρ : Ro) (v u : V) (Q : VK), RN (kw X) H ρ x v → RN (kw X) H ρ y u → Q (.bl k) H → r v u H Q)
    (q' : ∀ x y k, cmpP op' x y = some k → ∀ (H : Hp) (ρ : Ro) (v u : V) (Q : VK), RN (kw X) H ρ x v → RN (kw X) H ρ y u → Q (.bl k) H → r' v u H Q)
    {ta tb tc : TE} (ha : Rdg (kw X) E XR (RD (kw X)) ta fa) (hb : Rdg (kw X) E XR (RD (kw X)) tb fb) (hc : Rdg (kw X) E XR (RD (kw X)) tc fc) : Rdg (kw X) E XR (RD (kw X)) (tChain r r' ta tb tc) (chainF op op' fa fb fc) := by
  intro σ H ρ l h rr h' Q sl sh e p
  refine ha.step sl sh e p fun x h1 v H1 ρ1 x1 sl1 sh1 r1 e1 p1 => ?_
  refine hb.step sl1 sh1 e1 p1 fun y h2 u H2 ρ2 x2 sl2 sh2 r2 e2 p2 => ?_
  obtain ⟨k, hk, e3⟩ := bnd_opt (h := h2) e2
  refine q _ _ k hk H2 ρ2 v u _ (rd_ok sh2 (r1.ext x2)) (rd_ok sh2 r2) ⟨k, rfl, ?_⟩
  cases k with
  | false =>
    rw [if_neg (by decide)] at e3 ⊢
    cases e3
    exact p2.here sh2 (.bl _)
  | true =>
    rw [if_pos rfl] at e3 ⊢
    refine hc.step sl2 sh2 e3 p2 fun z h3 w H3 ρ3 x3 sl3 sh3 r3 e4 p3 => ?_
    obtain ⟨k, hk, e5⟩ := bnd_opt (h := h3) e4
    cases e5
    exact q' _ _ k hk H3 ρ3 u w Q (rd_ok sh3 (r2.ext x3)) (rd_ok sh3 r3) (p3.here sh3 (.bl k))
theorem marks2 {op op' : CmpOp} (hb : isSet b = false) (hc : isSet c = false) : lastMarks [op, op'] [b, c] = false := by
  show lastMarks [op'] [c] = false
  exact nomark_of hc
theorem ev_chain {op op' : CmpOp} (hu : X.A.units + 65 < cLine) (hm : lastMarks [op, op'] [b, c] = false) (ha : EvE X E XR a fa) (hb : EvE X E XR b fb) (hc : EvE X E XR c fc) :
    EvE X E XR (.Compare a [op, op'] [b, c] pos) (chainF op op' fa fb fc) := by
  obtain ⟨r, o, q⟩ := cmp_ok (X := X) hu op
  obtain ⟨r', o', q'⟩ := cmp_ok (X := X) hu op'
  exact .of (pe_chain o o' ha hb hc hm) (rdg_chain q q' .can .can .can)
theorem evt_chain {op op' : CmpOp} (hu : X.A.units + 65 < cLine) (hm : lastMarks [op, op'] [b, c] = false) (ha : EvE X E XR a fa) (hb : EvE X E XR b fb) (hc : EvE X E XR c fc) :
    EvT X E XR (.Compare a [op, op'] [b, c] pos) (tstOf (chainF op op' fa fb fc)) := by
  obtain ⟨r, o, q⟩ := cmp_ok (X := X) hu op
  obtain ⟨r', o', q'⟩ := cmp_ok (X := X) hu op'
  exact .of (pt_chain o o' ha hb hc hm) ((rdg_chain q q' .can .can .can).test chainF_bl)

/-! ### and, or, not, if -/
variable {ta tb tc : Loc → M Bool} {rest : List Expr}
theorem evt_plain (ha : EvE X E XR a fa) (hp : plainTest a = true) : EvT X E XR a (tstOf fa) := by
  refine .of (pt_truth ha (truth_plain hp)) fun σ H ρ l h rr h' Q sl sh e p => ?_
  refine Rdg.can.step sl sh e p fun x h1 v H1 ρ1 x1 sl1 sh1 r1 e1 p1 => ?_
  obtain ⟨k, hk, rfl, rfl⟩ := opt_of (h := h1) e1
  exact ⟨k, truth_ok (rd_ok sh1 r1) hk, p1.here sh1 rfl⟩
theorem ev_and (ha : EvE X E XR a fa) (hb : EvE X E XR (.BoolOp .And (b :: rest) pos) fb) :
    EvE X E XR (.BoolOp .And (a :: b :: rest) pos) (fun l => (fa l).bnd fun x => (M.rd x).bnd fun x' => (M.opt (truth x')).bnd fun k => if k = true then fb l else M.ret x) := by
  refine .of (pe_andT ha hb) fun σ H ρ l h rr h' Q sl sh e p => ?_
  refine Rdg.can.step sl sh e p fun x h1 v H1 ρ1 x1 sl1 sh1 r1 e1 p1 => ?_
  obtain ⟨k, hk, e2⟩ := bnd_opt (h := h1) e1
  refine ⟨k, truth_ok (rd_ok sh1 r1) hk, ?_⟩
  cases k with
  | true => exact Rdg.can σ H1 ρ1 l h1 rr h' Q sl1 sh1 e2 p1
  | false => cases e2; exact p1.here sh1 r1
theorem ev_or (ha : EvE X E XR a fa) (hb : EvE X E XR (.BoolOp .Or (b :: rest) pos) fb) :
    EvE X E XR (.BoolOp .Or (a :: b :: rest) pos) (fun l => (fa l).bnd fun x => (M.rd x).bnd fun x' => (M.opt (truth x')).bnd fun k => if k = true then M.ret x else fb l) := by
  refine .of (pe_orT ha hb) fun σ H ρ l h rr h' Q sl sh e p => ?_
  refine Rdg.can.step sl sh e p fun x h1 v H1 ρ1 x1 sl1 sh1 r1 e1 p1 => ?_
  obtain ⟨k, hk, e2⟩ := bnd_opt (h := h1) e1
  refine ⟨k, truth_ok (rd_ok sh1 r1) hk, ?_⟩
  cases k with
  | false => exact Rdg.can σ H1 ρ1 l h1 rr h' Q sl1 sh1 e2 p1
  | true => cases e2; exact p1.here sh1 r1
theorem ev_one {op : PySem.BoolOp} (ha : EvE X E XR a fa) : EvE X E XR (.BoolOp op [a] pos) fa := pe_one ha
theorem ev_not (ha : EvE X E XR a fa) : EvE X E XR (.UnaryOp .Not a pos) (fun l => (fa l).bnd fun x => (M.rd x).bnd fun x => (M.opt (truth x)).bnd fun k => M.ret (.bl (!k))) := by
  refine .of (pe_notT ha) fun σ H ρ l h rr h' Q sl sh e p => ?_
  refine Rdg.can.step sl sh e p fun x h1 v H1 ρ1 x1 sl1 sh1 r1 e1 p1 => ?_
  obtain ⟨k, hk, e2⟩ := bnd_opt (h := h1) e1
  cases e2
  exact ⟨k, truth_ok (rd_ok sh1 r1) hk, p1.here sh1 (.bl _)⟩
theorem evw_and1 (ha : EvT X E XR a ta) : EvW X E XR (.BoolOp .And [a] pos) ta := pw_and1 ha
theorem evw_or1 (ha : EvT X E XR a ta) : EvW X E XR (.BoolOp .Or [a] pos) ta := pw_or1 ha
theorem evw_and (ha : EvT X E XR a ta) (hb : EvW X E XR (.BoolOp .And (b :: rest) pos) tb) : EvW X E XR (.BoolOp .And (a :: b :: rest) pos) (fun l => (ta l).bnd fun k => if k = true then tb l else M.ret false) := by
  refine .of (pw_and ha hb) fun σ H ρ l h rr h' Q sl sh e p => ?_
  refine Rdg.can.step sl sh e p fun k h1 k' H1 ρ1 x1 sl1 sh1 r1 e1 p1 => ?_
  cases (show k = k' from r1)
  cases k with
  | true => exact Rdg.can σ H1 ρ1 l h1 rr h' Q sl1 sh1 e1 p1
  | false => cases e1; exact p1.here sh1 rfl
theorem evw_or (ha : EvT X E XR a ta) (hb : EvW X E XR (.BoolOp .Or (b :: rest) pos) tb) : EvW X E XR (.BoolOp .Or (a :: b :: rest) pos) (fun l => (ta l).bnd fun k => if k = true then M.ret true else tb l) := by
  refine .of (pw_or ha hb) fun σ H ρ l h rr h' Q sl sh e p => ?_
  refine Rdg.can.step sl sh e p fun k h1 k' H1 ρ1 x1 sl1 sh1 r1 e1 p1 => ?_
  cases (show k = k' from r1)
  cases k with
  | false => exact Rdg.can σ H1 ρ1 l h1 rr h' Q sl1 sh1 e1 p1
  | true => cases e1; exact p1.here sh1 rfl
theorem evt_not (ha : EvT X E XR a ta) : EvT X E XR (.UnaryOp .Not a pos) (fun l => (ta l).bnd fun k => M.ret (!k)) := by
  refine .of (pt_not ha) fun σ H ρ l h rr h' Q sl sh e p => ?_
  refine Rdg.can.step sl sh e p fun k h1 k' H1 ρ1 x1 sl1 sh1 r1 e1 p1 => ?_
  cases (show k = k' from r1)
  cases e1
  exact p1.here sh1 rfl
theorem ev_ite (hc : EvT X E XR c tc) (ha : EvE X E XR a fa) (hb : EvE X E XR b fb) : EvE X E XR (.IfExp c a b pos) (fun l => (tc l).bnd fun k => if k = true then fa l else fb l) := by
  refine .of (pe_ifExp hc ha hb) fun σ H ρ l h rr h' Q sl sh e p => ?_
  refine Rdg.can.step sl sh e p fun k h1 k' H1 ρ1 x1 sl1 sh1 r1 e1 p1 => ?_
  cases (show k = k' from r1)
  cases k with
  | true => exact Rdg.can σ H1 ρ1 l h1 rr h' Q sl1 sh1 e1 p1
  | false => exact Rdg.can σ H1 ρ1 l h1 rr h' Q sl1 sh1 e1 p1
def tIfT (t u v : TT) : TT := fun σ H Q => t σ H fun c H1 => if c = true then u σ H1 Q else v σ H1 Q
theorem pt_ifExp {t u v : TT} (hc : PT X c t) (ha : PT X a u) (hb : PT X b v) : PT X (.IfExp c a b pos) (tIfT t u v) := by
  refine ⟨fun pins s σ H Q I h => ?_⟩
  refine isTrue_IfExp (thn (hc.run pins s σ H _ I h) fun d s1 ⟨H1, I1, q1⟩ => ?_)
  cases d with
  | true => exact ha.run pins s1 σ H1 Q I1 q1
  | false => exact hb.run pins s1 σ H1 Q I1 q1
theorem evt_ite (hc : EvT X E XR c tc) (ha : EvT X E XR a ta) (hb : EvT X E XR b tb) : EvT X E XR (.IfExp c a b pos) (fun l => (tc l).bnd fun k => if k = true then ta l else tb l) := by
  refine .of (pt_ifExp hc ha hb) fun σ H ρ l h rr h' Q sl sh e p => ?_
  refine Rdg.can.step sl sh e p fun k h1 k' H1 ρ1 x1 sl1 sh1 r1 e1 p1 => ?_
  cases (show k = k' from r1)
  cases k with
  | true => exact Rdg.can σ H1 ρ1 l h1 rr h' Q sl1 sh1 e1 p1
  | false => exact Rdg.can σ H1 ρ1 l h1 rr h' Q sl1 sh1 e1 p1

/-! ### rows, displays -/
variable {es : List Expr} {fs : Loc → M (List D)}
theorem evs_nil : EvS X E XR [] (fun _ => M.ret []) := .of pa_nil fun σ H ρ l h rr h' Q sl sh e p => by cases e; exact p.here sh .nil
theorem evs_cons (hs : isStar a = false) (ha : EvE X E XR a fa) (hr : EvS X E XR es fs) : EvS X E XR (a :: es) (fun l => (fa l).bnd fun x => (fs l).bnd fun xs => M.ret (x :: xs)) := by
  refine .of (pa_cons ha hr (starEach_one hs)) fun σ H ρ l h rr h' Q sl sh e p => ?_
  refine Rdg.can.step sl sh e p fun x h1 v H1 ρ1 x1 sl1 sh1 r1 e1 p1 => ?_
  refine Rdg.can.step sl1 sh1 e1 p1 fun xs h2 vs H2 ρ2 x2 sl2 sh2 r2 e2 p2 => ?_
  cases e2
  exact p2.here sh2 (.cons (r1.ext x2) r2)
theorem evs_star {p0 : Pos} (ha : EvE X E XR a fa) (hr : EvS X E XR es fs) : EvS X E XR (.Starred a p0 :: es) (fun l => (fa l).bnd fun x => (M.rd x).bnd fun x => match x with
    | .tup ys | .lst ys => (fs l).bnd fun xs => M.ret (ys ++ xs)
    | _ => M.fail) := by
  refine .of (StX.pa_star ha hr) fun σ H ρ l h rr h' Q sl sh e p => ?_
  refine Rdg.can.step sl sh e p fun x h1 v H1 ρ1 x1 sl1 sh1 r1 e1 p1 => ?_
  have rn := rd_ok sh1 r1
  have e1 : (match rd h1 x with
    | .tup ys | .lst ys => (fs l).bnd fun xs => M.ret (ys ++ xs)
    | _ => M.fail) h1 = some (rr, h') := e1
  generalize rd h1 x = y at rn e1
  cases y <;> try (cases e1; done)
  · obtain ⟨a, vs, rfl, hq, r, f⟩ := rn.tup
    refine ⟨a, vs, rfl, .inl hq, ?_⟩
    refine Rdg.can.step sl1 sh1 e1 p1 fun xs h2 us H2 ρ2 x2 sl2 sh2 r2 e2 p2 => ?_
    cases e2
    exact p2.here sh2 ((r.ext x2).append r2)
  · obtain ⟨a, vs, rfl, hq, r⟩ := rn.lst
    refine ⟨a, vs, rfl, .inr (.inl (.inl hq)), ?_⟩
    refine Rdg.can.step sl1 sh1 e1 p1 fun xs h2 us H2 ρ2 x2 sl2 sh2 r2 e2 p2 => ?_
    cases e2
    exact p2.here sh2 ((r.ext x2).append r2)
theorem ev_tup {k : Nat} (hr : EvS X E XR es fs) : EvE X E XR (.Tuple es k pos) (fun l => (fs l).bnd fun xs => (M.opt (tupP xs)).bnd (PR.fin true)) := by
  refine .of (pe_tup hr) fun σ H ρ l h rr h' Q sl sh e p => ?_
  refine Rdg.can.step sl sh e p fun xs h1 vs H1 ρ1 x1 sl1 sh1 r1 e1 p1 => ?_
  obtain ⟨pr, hp, e2⟩ := bnd_opt (h := h1) e1
  obtain ⟨hz, rfl⟩ := small_some hp
  exact ⟨by rw [← r1.length]; exact hz, fin_tup sh1 (fin_ok sh1 e2 p1) r1⟩
theorem ev_lst {fz : Bool} (hr : EvS X E XR es fs) : EvE X E XR (.List es pos) (fun l => (fs l).bnd fun xs => PR.fin fz (.l xs)) := by
  refine .of (pe_lst hr) fun σ H ρ l h rr h' Q sl sh e p => ?_
  refine Rdg.can.step sl sh e p fun xs h1 vs H1 ρ1 x1 sl1 sh1 r1 e1 p1 => ?_
  exact ⟨by rw [← r1.length]; exact fin_len e1, fun q n => fin_ok sh1 e1 p1 q vs n r1⟩

/-! ### subscripts -/
theorem ev_ix (hs : isSlice b = false) (ha : EvE X E XR a fa) (hb : EvE X E XR b fb) : EvE X E XR (.Subscript a b pos) (fun l => (fa l).bnd fun x => (fb l).bnd fun y => (M.rd x).bnd fun x => M.opt (ixP x y)) := by
  obtain ⟨r, o, q⟩ := ix_ok (X := X)
  refine .of (pe_ix o ha hb (plainIx_of hs)) fun σ H ρ l h rr h' Q sl sh e p => ?_
  refine Rdg.can.step sl sh e p fun x h1 v H1 ρ1 x1 sl1 sh1 r1 e1 p1 => ?_
  refine Rdg.can.step sl1 sh1 e1 p1 fun y h2 u H2 ρ2 x2 sl2 sh2 r2 e2 p2 => ?_
  obtain ⟨d, hd, rfl, rfl⟩ := opt_of (h := h2) e2
  exact q _ _ d hd H2 ρ2 v u Q (rd_ok sh2 (r1.ext x2)) r2 fun z rz => p2.here sh2 rz
theorem evp_none : EvP X E XR none (fun _ => M.ret none) := .of po_none fun σ H ρ l h rr h' Q sl sh e p => by cases e; exact p.here sh rfl
theorem evp_some (ha : EvE X E XR a fa) : EvP X E XR (some a) (prtOf fa) := by
  refine .of (po_some ha) fun σ H ρ l h rr h' Q sl sh e p => ?_
  refine Rdg.can.step sl sh e p fun x h1 v H1 ρ1 x1 sl1 sh1 r1 e1 p1 => ?_
  cases x <;> try (cases e1; done)
  cases e1
  cases r1
  exact ⟨_, rfl, p1.here sh1 rfl⟩
theorem ev_sl {fz : Bool} {lo hi : Option Expr} {fl fh : Loc → M (Option Int)} {p2 : Pos} (ha : EvE X E XR a fa) (hl : EvP X E XR lo fl) (hh : EvP X E XR hi fh) :
    EvE X E XR (.Subscript a (.Slice lo hi none p2) pos) (fun l => (fa l).bnd fun x => (fl l).bnd fun u => (fh l).bnd fun v => (M.rd x).bnd fun x => (M.opt (slP x u v)).bnd (PR.fin fz)) := by
  obtain ⟨r, o, q⟩ := sl_ok (X := X)
  refine .of (pe_slice o ha hl hh) fun σ H ρ l h rr h' Q sl sh e p => ?_
  refine Rdg.can.step sl sh e p fun x h1 v H1 ρ1 x1 sl1 sh1 r1 e1 p1 => ?_
  refine Rdg.can.step sl1 sh1 e1 p1 fun y h2 u H2 ρ2 x2 sl2 sh2 r2 e2 p2 => ?_
  refine Rdg.can.step sl2 sh2 e2 p2 fun z h3 w H3 ρ3 x3 sl3 sh3 r3 e3 p3 => ?_
  cases (show y = u from r2)
  cases (show z = w from r3)
  obtain ⟨pr, hp, e4⟩ := bnd_opt (h := h3) e3
  exact q _ _ _ pr hp H3 ρ3 h3 v Q sh3 (rd_ok sh3 (r1.ext (x2.trans x3))) (fin_ok sh3 e4 p3)
theorem ev_rev {fz : Bool} {k : Nat} {p1 p2 p3 : Pos} (ha : EvE X E XR a fa) : EvE X E XR (.Subscript a (.Slice none none (some (.UnaryOp .USub (.Constant (.int 1) k p1) p2)) p3) pos)
    (fun l => (fa l).bnd fun x => (M.rd x).bnd fun x => (M.opt (revP x)).bnd (PR.fin fz)) := by
  refine ⟨fun pins s σ H Q I ⟨ρ, l, h, rr, h', sl, sh, e, p⟩ => ?_⟩
  have e0 := e
  -- which of both, by the value
  have hL : (∀ d h1, fa l h = some (.ok d, h1) → ∃ xs, rd h1 d = .lst xs) → tRevL (kw X) (Can (kw X) E XR (RD (kw X)) fa) σ H Q := fun hd => by
    unfold tRevL
    have e : M.bnd (fa l) _ h = some (rr, h') := e
    unfold M.bnd at e
    cases q : fa l h with
    | none => rw [q] at e; cases e
    | some z =>
      obtain ⟨z, h1⟩ := z
      rw [q] at e
      cases z with
      | error x => cases e; exact Rdg.can σ H ρ l h _ _ _ sl sh q p
      | ok d =>
        obtain ⟨xs, hx⟩ := hd d h1 q
        refine Rdg.can σ H ρ l h _ _ _ sl sh q fun v H1 ρ1 x1 sh1 r1 => ?_
        have rn := rd_ok sh1 r1
        have e : M.bnd (M.opt (revP (rd h1 d))) (PR.fin fz) h1 = some (rr, h') := e
        rw [hx] at rn e
        obtain ⟨a, vs, rfl, hq, r⟩ := rn.lst
        obtain ⟨pr, hp, e4⟩ := bnd_opt (h := h1) e
        cases hp
        exact ⟨a, vs, rfl, .inl (.inl hq), fun q n => fin_ok sh1 e4 (p.ext x1) q _ n r.reverse⟩
  have hT : (∀ d h1, fa l h = some (.ok d, h1) → ∃ xs, rd h1 d = .tup xs) → tRevT (kw X) (Can (kw X) E XR (RD (kw X)) fa) σ H Q := fun hd => by
    unfold tRevT
    have e : M.bnd (fa l) _ h = some (rr, h') := e
    unfold M.bnd at e
    cases q : fa l h with
    | none => rw [q] at e; cases e
    | some z =>
      obtain ⟨z, h1⟩ := z
      rw [q] at e
      cases z with
      | error x => cases e; exact Rdg.can σ H ρ l h _ _ _ sl sh q p
      | ok d =>
        obtain ⟨xs, hx⟩ := hd d h1 q
        refine Rdg.can σ H ρ l h _ _ _ sl sh q fun v H1 ρ1 x1 sh1 r1 => ?_
        have rn := rd_ok sh1 r1
        have e : M.bnd (M.opt (revP (rd h1 d))) (PR.fin fz) h1 = some (rr, h') := e
        rw [hx] at rn e
        obtain ⟨a, vs, rfl, hq, r, _⟩ := rn.tup
        obtain ⟨pr, hp, e4⟩ := bnd_opt (h := h1) e
        cases hp
        exact ⟨a, vs, rfl, hq, fin_tup sh1 (fin_ok sh1 e4 (p.ext x1)) r.reverse⟩
  by_cases hd : ∃ d h1 xs, fa l h = some (.ok d, h1) ∧ rd h1 d = .tup xs
  · obtain ⟨d, h1, xs, q, hx⟩ := hd
    exact (pe_revT ha).run pins s σ H Q I (hT fun d' h2 q' => by rw [q] at q'; cases q'; exact ⟨xs, hx⟩)
  · refine (pe_revL ha).run pins s σ H Q I (hL fun d h1 q => ?_)
    have e : M.bnd (fa l) _ h = some (rr, h') := e
    unfold M.bnd at e
    rw [q] at e
    have e : M.bnd (M.opt (revP (rd h1 d))) (PR.fin fz) h1 = some (rr, h') := e
    obtain ⟨pr, hp, _⟩ := bnd_opt (h := h1) e
    cases hr : rd h1 d with
    | tup xs => exact absurd ⟨d, h1, xs, q, hr⟩ hd
    | lst xs => exact ⟨xs, rfl⟩
    | _ => rw [hr] at hp; cases hp
end
end Onc
set_option Elab.async false
set_option linter.all false
set_option maxRecDepth 100000
set_option maxHeartbeats 1000000
/-! sorted of tuples, and of rows of tuples of which some may be empty. -/
namespace Onc
open PySem PySem.Spec PyProof.Rows PySem.Calls PySem.W SeqAt
section
variable {prog : Program} {w : World} {A : Around} {E : Value → Shared → Prop} {s : Shared}
theorem collect_tup {l : Addr} {vs : List Value} {Q : List Value → Shared → Prop} (hl : s.heap.IsTuple l vs.toArray)
    (h : Q vs { s with heap := (s.heap.push (seqObj "list" #[] 0)).update s.heap.objs.size (Obj.mapSeq (· ++ vs.toArray)) }) (hsz : vs.length ≤ sizeLine) :
    wpAny (model prog w) A (collect (.ref l)) Q E s := by
  obtain ⟨o, ho, hc, n, hd⟩ := id hl
  unfold collect
  refine wpAny_bind (wpAny_runValue (codeAny_builtin entry_proto_collect' ?_))
  show wpAny _ _ (do again (.builtin "list.__iadd__" ⟨[← newList [], .ref l], []⟩)) _ _ s
  refine wpAny_bind (wpAny_newList (wpAny_pure ⟨Code.quiet_builtin _ (by decide +kernel), codeAny_builtin entry_list_iadd' ?_⟩))
  show wpAny _ _ (Builtin.List.listExtendWith (.ref s.heap.objs.size) (.ref l) (.ref s.heap.objs.size)) _ _ { s with heap := s.heap.push (seqObj "list" #[] 0) }
  unfold Builtin.List.listExtendWith
  have ho' : (s.heap.push (seqObj "list" #[] 0)).get? l = some o := Heap.get?_push_of_some _ ho
  refine wpAny_bind (wpAny_typeOf (T := "tuple") ⟨o, ho', hc⟩ ?_)
  have ht : (Value.type "tuple" == Value.type "tuple") = true := by rfl
  rw [if_pos (by rw [ht]; simp)]
  refine wpAny_bind (listItems_at ho' hd ?_)
  refine wpAny_bind (listItems_at (xs := #[]) (n := 0) (Heap.get?_push_size _ rfl) rfl ?_)
  rw [if_neg (by simp)]
  refine wpAny_bind (listUpdate_at (xs := #[]) (n := 0) (Heap.get?_push_size _ rfl) rfl ?_ (Nat.zero_le _) (by show (#[] ++ vs.toArray).size ≤ sizeLine + 1; simp only [Array.size_append, List.size_toArray, List.length_nil]; omega))
  refine wpAny_pure ?_
  show wpAny (model prog w) A (do
      let o ← load s.heap.objs.size
      match o.data with
      | .seq xs _ => pure xs.toList
      | _ => unsupported "internal:collect") Q E { s with heap := (s.heap.push (seqObj "list" #[] 0)).update s.heap.objs.size (Obj.mapSeq (· ++ vs.toArray)) }
  refine wpAny_bind (wpAny_load (get?_update_seq (Heap.get?_push_size _ rfl) _) ?_)
  show wpAny _ _ (pure ((#[] : Array Value) ++ vs.toArray).toList) Q E _
  rw [show ((#[] : Array Value) ++ vs.toArray).toList = vs by simp]
  exact wpAny_pure h
theorem sorted_tup {κ : KeyKind} {l : Addr} {vs : List Value} {Q : Value → Shared → Prop} (hl : s.heap.IsTuple l vs.toArray) (S : SortsAt prog w A.in1.in1 { s with heap := sortingHeap (copyHeap s.heap vs) (s.heap.objs.size + 1) vs } κ vs) (hL : vs.length ≤ sizeLine)
    (h : Q (.ref (s.heap.objs.size + 1)) { s with heap := sortedAll s.heap vs (sortVals κ false vs vs).toArray }) : wpAny (model prog w) A (call (.builtin "sorted") [.ref l]) Q E s := by
  have body : ∀ E' : Value → Shared → Prop, wpAny (model prog w) A.in1.in1 (Builtin.«list.sort» ⟨[.ref (s.heap.objs.size + 1)], []⟩) (fun f s' => f = .done (.ret .none) ∧ Q (.ref (s.heap.objs.size + 1)) s') E' { s with heap := copyHeap s.heap vs } :=
    fun _ => list_sort_vals (s := { s with heap := copyHeap s.heap vs }) (copyHeap_at s.heap vs) S hL ⟨rfl, h⟩
  refine call_function_entry_kw kind_sorted plain_sorted entry_sorted (args_sorted1 _) ?_
  unfold Builtin.«sorted»
  refine wpAny_bind (m := checkCount "sorted" 1 1 _) (wpAny_pure ?_)
  refine wpAny_bind (collect_tup hl ?_ hL)
  refine wpAny_bind (wpAny_newList ?_ hL)
  have hsz : ((s.heap.push (seqObj "list" #[] 0)).update s.heap.objs.size (Obj.mapSeq (· ++ vs.toArray))).objs.size = s.heap.objs.size + 1 := by
    rw [Heap.size_update, size_push']
  show wpAny _ _ _ _ _ { s with heap := copyHeap s.heap vs }
  rw [hsz]
  refine wpAny_bind (wpAny_holding (wpAny_call_entry_kw slot_list_sort ⟨_, copyHeap_at s.heap vs, rfl⟩ entry_list_sort ?body (args_list_sort _)))
  case body =>
    show wpAny (model prog w) A.in1.in1 (Builtin.«list.sort» ⟨[.ref (s.heap.objs.size + 1)], []⟩) _ _ _
    refine wpAny_mono (body _) (fun f s' hf => ?_) fun _ _ e => e
    obtain ⟨rfl, hq⟩ := hf
    exact ⟨_, rfl, wpAny_pure ⟨_, rfl, hq⟩⟩
theorem call_tuple_lt {l b : Addr} {items items2 : Array Value} {e r : Nat → Bool} {Q : Value → Shared → Prop} (hl : s.heap.IsTuple l items) (hb : s.heap.IsTuple b items2)
    (he : ∀ j (h1 : j < items.size) (h2 : j < items2.size), SeqAt.EqAt A.in1 s items[j] items2[j] (e j)) (hr : ∀ j (h1 : j < items.size) (h2 : j < items2.size), e j = false → RcLt A.in1 s items[j] items2[j] (r j))
    (h : Q (.bool (firstLt e r (decide (items.size < items2.size)) (List.range (min items.size items2.size)))) s) : wpAny (model prog w) A (call (.builtin "tuple.__lt__") [.ref l, .ref b]) Q E s := by
  obtain ⟨⟨cls, dd, data, sl⟩, ho, hc, n, hd⟩ := id hl
  obtain ⟨⟨cls2, dd2, data2, sl2⟩, ho2, hc2, n2, hd2⟩ := id hb
  simp only at hc hd hc2 hd2
  subst hc hd hc2 hd2
  exact call_meets F.slot_tuple_lt ⟨_, ho, rfl⟩ F.entry_tuple_lt (F.args_tuple_lt_2 _ _) (tuple_ltAt l b items items2 n n2 dd dd2 sl sl2 e r) ⟨ho, ho2, he, hr, h⟩
theorem oneLt_tup {xs ys : List PyData} {a b : Value} {as bs : List Addr} {Q : Bool → Shared → Prop} (ra : Reads s.heap a (.tuple xs) as) (rb : Reads s.heap b (.tuple ys) bs) (h : alike (.tuple xs) (.tuple ys) = true)
    (hu : A.units + min (PyData.tuple xs).depth (PyData.tuple ys).depth < cLine) (hq : Q (dataLt (.tuple xs) (.tuple ys)) s) : wpAny (model prog w) A (oneLt' true a b) Q E s := by
  have hal : alikeAll xs ys = true := by simpa [alike] using h
  cases ra with
  | @tuple l o vs n _ as₁ h1 h2 h3 h4 =>
    cases rb with
    | @tuple l' o' vs' n' _ bs₁ k1 k2 k3 k4 =>
      have n1 : vs.size = xs.length := by simpa using SeqAt.ReadsAll.length _ _ _ h4
      have n2 : vs'.size = ys.length := by simpa using SeqAt.ReadsAll.length _ _ _ k4
      rw [dataLt_tuple, ← firstLt_toks xs ys hal, ← n1, ← n2] at hq
      rw [oneLt'_eq]
      simp only [if_true]
      refine wpAny_bind (wpAny_cRoomFor (SeqAt.room_here hu) ?_)
      refine wpAny_bind (wpAny_callSpecialIfBound?_slot (T := "tuple") ⟨_, h1, h2⟩ F.slot_tuple_lt (call_tuple_lt (e := pairEq xs ys) (r := fun j => dataLt (xs.getD j .none) (ys.getD j .none)) ⟨_, h1, h2, _, h3⟩ ⟨_, k1, k2, _, k3⟩ (fun j j1 j2 => ?_) (fun j j1 j2 hj => ?_) ?_))
      · have := eqAt_alikeAll xs ys A.in1 s vs.toList vs'.toList _ _ h4 k4 hal (SeqAt.room_in hu) j (by simpa using j1) (by simpa using j2)
        simpa using this
      · have := rcLt_alikeAll xs ys A.in1 s vs.toList vs'.toList _ _ h4 k4 hal (SeqAt.room_in hu) j (by simpa using j1) (by simpa using j2) hj
        simpa using this
      · exact wpAny_truthy_bool hq

/-- the first items of tuples, none for an empty one -/
theorem firsts_tup {M : Model} : ∀ (vs : List Value) (ds : List PyData) {Q : List (Option Value) → Shared → Prop}, EachIs (fun v d => ∃ as, Reads s.heap v d as) vs ds → (∀ d, d ∈ ds → ∃ xs, d = .tuple xs) →
    (∀ fs : List (Option Value), fs.length = vs.length → (∀ i : Nat, ds[i]? = some (.tuple []) → fs[i]? = some none) → (∀ (i : Nat) x r, ds[i]? = some (.tuple (x :: r)) → ∃ f, fs[i]? = some (some f)) → Q fs s) → wpAny M A (vs.mapM firstOfTuple') Q E s
  | _, _, Q, .nil, _, h => by rw [List.mapM_nil]; exact wpAny_pure (h [] rfl (fun i e => by simp at e) (fun i x r e => by simp at e))
  | _, _, Q, .cons (a := v) (b := d) (as := vs) (bs := ds) ⟨as, r⟩ t, ht, h => by
    obtain ⟨xs, rfl⟩ := ht _ List.mem_cons_self
    cases r with
    | @tuple l o items n _ _ ho hc hd hr =>
      rw [List.mapM_cons]
      refine wpAny_bind ?_
      rw [kas_first_eq]
      refine wpAny_bind (Looks.here (show Looks M s.heap (typeOf (.ref l)) o.cls from (Looks.ld ho).andThen .now) ?_)
      rw [hc, if_neg (by first | decide | simp)]
      refine wpAny_bind (listItems_at ho hd (wpAny_pure ?_))
      refine wpAny_bind (firsts_tup vs ds t (fun d hd => ht d (List.mem_cons_of_mem _ hd)) fun fs h1 h2 h3 => wpAny_pure (h _ (by rw [List.length_cons, List.length_cons, h1]) (fun i e => ?_) (fun i x r e => ?_)))
      · cases i with
        | zero =>
          have e : PyData.tuple xs = .tuple [] := by simpa using e
          cases e
          cases hr' : items.toList with
          | nil =>
            have : items.size = 0 := by rw [← Array.length_toList, hr']; rfl
            show some items[0]? = some none
            rw [Array.getElem?_eq_none (by omega)]
          | cons a b => rw [hr'] at hr; cases hr
        | succ i => exact h2 i (by simpa using e)
      · cases i with
        | zero =>
          have e : PyData.tuple xs = .tuple (x :: r) := by simpa using e
          cases e
          cases hr' : items.toList with
          | nil => rw [hr'] at hr; cases hr
          | cons a b =>
            refine ⟨a, ?_⟩
            show some items[0]? = some (some a)
            rw [← Array.getElem?_toList, hr']; rfl
        | succ i => exact h3 i x r (by simpa using e)
theorem keyLt'_general (x y : Value) : keyLt' general' x y = oneLt' false x y := rfl
/-- tuples of which one is empty -/
theorem sortsAt_tup0 {vs : List Value} {ds : List PyData} (e : EachIs (fun v d => ∃ as, Reads s.heap v d as) vs ds) (hal : AllAlike ds) (ht : ∀ d, d ∈ ds → ∃ xs, d = .tuple xs) (h0 : PyData.tuple [] ∈ ds) (hu : ∀ d, d ∈ ds → A.units + d.depth < cLine) : SortsAt prog w A s (dataKind s.heap ds) vs := by
  have room : ∀ {d d' : PyData}, d ∈ ds → A.units + min d.depth d'.depth < cLine := fun {d d'} hd => Nat.lt_of_le_of_lt (Nat.add_le_add_left (Nat.min_le_left _ _) _) (hu d hd)
  have hlen := e.length
  refine ⟨fun v hv => ?_, ?_⟩
  · obtain ⟨d, hd, as, r⟩ := e.left v hv
    exact ⟨_, dataKind_some hal hd r⟩
  · obtain ⟨j, hj, ej⟩ := List.getElem_of_mem h0
    have hnone : ∀ fs : List (Option Value), fs.length = vs.length → (∀ i : Nat, ds[i]? = some (.tuple []) → fs[i]? = some none) → ¬ (fs.toArray.all fun x => x.isSome) = true := fun fs h1 h2 hall => by
      have q := h2 j (by rw [List.getElem?_eq_getElem hj, ej])
      rw [List.all_toArray, List.all_eq_true] at hall
      have := hall none (List.mem_of_getElem? q)
      cases this
    cases ds with
    | nil => exact absurd h0 (by simp)
    | cons d₀ ds₀ =>
      obtain ⟨x0, rfl⟩ := ht d₀ List.mem_cons_self
      cases x0 with
      | cons x xs =>
        refine ⟨general', ?_, fun h2 E Q hq => ?_⟩
        · intro E x y a b Q ha hb hq
          obtain ⟨d, as, hd, ra, rfl⟩ := dataKind_inv ha
          obtain ⟨d', as', hd', rb, rfl⟩ := dataKind_inv hb
          obtain ⟨xs, rfl⟩ := ht d hd
          rw [keyLt'_general]
          exact oneLt_alike (f := false) (fun z => by cases z) ra rb (hal _ hd d' hd') (fun z => by cases z) (room hd) hq
        · rw [keyKind'_eq, List.mapM_toArray, map_eq_pure_bind]
          refine wpAny_bind (wpAny_bind (firsts_tup vs _ e ht fun fs h1 h2' h3 => wpAny_pure ?_))
          rw [if_neg (hnone fs h1 h2')]
          obtain ⟨f, ef⟩ := h3 0 x xs rfl
          have ef' : (fs.toArray[0]?.bind id).isSome = true := by
            rw [List.getElem?_toArray, ef]; rfl
          rw [if_pos ef']
          exact wpAny_pure hq
      | nil =>
        refine ⟨oneType', ?_, fun h2 E Q hq => ?_⟩
        · intro E x y a b Q ha hb hq
          obtain ⟨d, as, hd, ra, rfl⟩ := dataKind_inv ha
          obtain ⟨d', as', hd', rb, rfl⟩ := dataKind_inv hb
          obtain ⟨xs, rfl⟩ := ht d hd
          obtain ⟨ys, rfl⟩ := ht d' hd'
          rw [keyLt'_oneType]
          exact oneLt_tup ra rb (hal _ hd _ hd') (room hd) hq
        · rw [keyKind'_eq, List.mapM_toArray, map_eq_pure_bind]
          refine wpAny_bind (wpAny_bind (firsts_tup vs _ e ht fun fs h1 h2' h3 => wpAny_pure ?_))
          rw [if_neg (hnone fs h1 h2')]
          have ef' : ¬ (fs.toArray[0]?.bind id).isSome = true := by
            rw [List.getElem?_toArray, h2' 0 rfl]; exact fun z => by cases z
          rw [if_neg ef', oneTypeOnly'_eq, List.mapM_toArray, map_eq_pure_bind]
          refine wpAny_bind (wpAny_bind (wpAny_bind (kas_mapM (r := Value.type "tuple") _ (fun v hv Q' hq => ?_) (wpAny_pure ?_))))
          · obtain ⟨d, hd, as, r⟩ := e.left v hv
            obtain ⟨ys, rfl⟩ := ht d hd
            exact (looks_reads r).here hq
          · obtain ⟨v₁, rest, rfl⟩ : ∃ v₁ rest, vs = v₁ :: rest := by
              match vs, h2 with
              | v₁ :: rest, _ => exact ⟨v₁, rest, rfl⟩
            have hall : ((List.map (fun _ => Value.type "tuple") (v₁ :: rest)).toArray.all fun x => x == Value.type "tuple") = true := by
              simp only [List.all_toArray, List.all_map, List.all_eq_true]
              intro _ _
              rfl
            have h0 : (List.map (fun _ => Value.type "tuple") (v₁ :: rest)).toArray[0]? = some (Value.type "tuple") := by simp
            rw [h0]
            simp only [hall, if_true]
            exact wpAny_pure (wpAny_pure hq)
end

open L2
theorem each_zip {R : V → Value → Prop} {S : Value → D → Prop} : ∀ {xs : List V} {us : List Value} {ds : List D}, Vals xs us → EachIs S us ds → EachIs (fun u (p : V × D) => RelV p.1 u ∧ S u p.2) us (xs.zip ds)
  | _, _, _, .nil, .nil => .nil
  | _, _, _, .cons a r, .cons b t => .cons ⟨a, b⟩ (each_zip (R := R) r t)
theorem each_vals : ∀ {out : List Value} {ps : List (V × D)}, EachIs (fun u (p : V × D) => RelV p.1 u) out ps → Vals (ps.map (·.1)) out
  | _, _, .nil => .nil
  | _, _, .cons a r => .cons a (each_vals r)
theorem rds_pairs {K : KW} {H : Hp} {ρ : Ro} : ∀ {ps : List (V × D)}, (∀ p ∈ ps, RD K H ρ p.2 p.1) → RDs K H ρ (ps.map (·.2)) (ps.map (·.1))
  | [], _ => .nil
  | p :: ps, h => .cons (h p List.mem_cons_self) (rds_pairs fun q hq => h q (List.mem_cons_of_mem _ hq))
theorem rds_zip {K : KW} {H : Hp} {ρ : Ro} : ∀ {ds : List D} {vs : List V}, RDs K H ρ ds vs → ∀ p ∈ vs.zip ds, RD K H ρ p.2 p.1
  | _, _, .nil, _, h => by cases h
  | _, _, .cons a r, p, h => by
    rcases List.mem_cons.mp h with rfl | h
    · exact a
    · exact rds_zip r p h
theorem zip_snd {K : KW} {H : Hp} {ρ : Ro} : ∀ {ds : List D} {vs : List V}, RDs K H ρ ds vs → (vs.zip ds).map (·.2) = ds
  | _, _, .nil => rfl
  | _, _, .cons _ r => by rw [List.zip_cons_cons, List.map_cons, zip_snd r]
theorem reads_each {K : KW} {H : Hp} {h : Heap} : ∀ {ds : List D} {us : List Value} {as : List Addr}, ReadsAll h us (ds.map encD) as → EachIs (fun u d => ∃ as, Reads h u (encD d) as) us ds := fun r => readsAll_each encD r
section
variable {X : Cx}
def rSortD (K : KW) : List V → Hp → VK → Prop := fun vs H Q => ∃ (a : Addr) (xs : List V) (ds : List D), vs = [V.ref a] ∧ (SqL K H a xs ∨ SqT K H a xs) ∧ DpAll K H xs (ds.map encD) ∧ sortOk ds = true ∧
  ∀ (p : Addr), H p = none → Q (.ref p) (upd H p (.lst (((xs.zip ds).mergeSort (dataLe false fun p => encD p.2)).map (·.1))))
theorem dpAll_len {K : KW} {H : Hp} : ∀ {xs : List V} {ds : List PyData}, DpAll K H xs ds → xs.length = ds.length
  | _, _, .nil => rfl
  | _, _, .cons _ r => by rw [List.length_cons, List.length_cons, dpAll_len r]
theorem zip_enc : ∀ {xs : List V} {ds : List D}, xs.length = ds.length → (xs.zip ds).map (fun p => encD p.2) = ds.map encD
  | [], [], _ => rfl
  | [], _ :: _, h => nomatch h
  | _ :: _, [], h => nomatch h
  | x :: xs, d :: ds, h => by rw [List.zip_cons_cons, List.map_cons, List.map_cons, zip_enc (by simpa using h)]
theorem sortOk_of {ds : List D} (h : sortOk ds = true) : (∀ d ∈ ds, (encD d).depth ≤ 64) ∧ AllAlike (ds.map encD) ∧ ((∀ d ∈ ds.map encD, ∃ xs, d = PyData.tuple xs) ∨ ∀ d ∈ ds.map encD, d ≠ .none ∧ ∀ xs, d ≠ .tuple xs) ∧ ds.length ≤ sizeLine := by
  unfold sortOk at h
  simp only [Bool.and_eq_true, Bool.or_eq_true, List.all_eq_true, decide_eq_true_eq, Bool.not_eq_true'] at h
  obtain ⟨⟨⟨h1, h2⟩, h3⟩, h4⟩ := h
  refine ⟨fun d hd => ?_, fun x hx y hy => ?_, ?_, h4⟩
  · have q := h1 d hd
    unfold D.sh at q
    unfold encD
    cases e : d.toP with
    | none => rw [e] at q; cases q
    | some p =>
      rw [e] at q
      by_cases hs : SeqAt.shaped p = true
      · exact depth_of_shaped hs
      · simp only [hs] at q; cases q
  · obtain ⟨d, hd, rfl⟩ := List.mem_map.mp hx
    obtain ⟨e, he, rfl⟩ := List.mem_map.mp hy
    exact h2 d hd e he
  · rcases h3 with h3 | h3
    · refine .inl fun x hx => ?_
      obtain ⟨d, hd, rfl⟩ := List.mem_map.mp hx
      have := h3 d hd
      cases q : encD d with
      | tuple xs => exact ⟨xs, rfl⟩
      | _ => rw [q] at this; cases this
    · refine .inr fun x hx => ?_
      obtain ⟨d, hd, rfl⟩ := List.mem_map.mp hx
      obtain ⟨h5, h6⟩ := h3 d hd
      refine ⟨fun z => ?_, fun xs z => ?_⟩
      · rw [z] at h6; cases h6
      · rw [z] at h5; cases h5
theorem call_sortD (hu : X.A.units + 100 < cLine) : CallR X (.builtin "sorted") (rSortD (kw X)) := by
  intro pins s σ H vs us Q I r h
  obtain ⟨a, xs, ds, rfl, hq, hd, hok, q⟩ := h
  rw [Vals.ref1 r]
  obtain ⟨o1, o2, o3, o4⟩ := sortOk_of hok
  have main : ∀ its : List Value, Vals xs its → (∀ (κ : KeyKind) {Q : Value → Shared → Prop}, SortsAt X.prog X.w X.A.in1.in1 { s with heap := sortingHeap (copyHeap s.heap its) (s.heap.objs.size + 1) its } κ its → its.length ≤ sizeLine →
      Q (.ref (s.heap.objs.size + 1)) { s with heap := sortedAll s.heap its (sortVals κ false its its).toArray } → wpAny (model X.prog X.w) X.A (call (.builtin "sorted") [.ref a]) Q X.xe s) → wpAny (model X.prog X.w) X.A (call (.builtin "sorted") [.ref a]) (EP X pins σ Q) X.xe s := by
    intro its rv go
    obtain ⟨as, ra⟩ := Dp.readsAll I (ds.map encD) xs its hd rv
    have e1 := readsAll_each encD ra
    have ez : EachIs (fun u (p : V × D) => RelV p.1 u ∧ ∃ as, Reads s.heap u (encD p.2) as) its (xs.zip ds) := each_zip (R := fun _ _ => True) rv e1
    have eR : EachIs (fun u (p : V × D) => RelV p.1 u) its (xs.zip ds) := ez.mono fun _ _ z => z.1
    have lz : xs.length = ds.length := by have := dpAll_len hd; rwa [List.length_map] at this
    have li : its.length = ds.length := by rw [← lz, rv.length]
    have mz : (xs.zip ds).map (fun p => encD p.2) = ds.map encD := zip_enc lz
    have er' : EachIs (fun u (p : V × D) => ∃ as, Reads (sortingHeap (copyHeap s.heap its) (s.heap.objs.size + 1) its) u (encD p.2) as) its (xs.zip ds) := ez.mono fun _ _ ⟨_, as, r⟩ => ⟨as, PyProof.Rows.Reads.keeps (fun _ _ => sorting_copy_old) r⟩
    have hal : AllAlike ((xs.zip ds).map fun p => encD p.2) := by rw [mz]; exact o2
    have bd : ∀ d, d ∈ (xs.zip ds).map (fun p => encD p.2) → X.A.in1.in1.units + d.depth < cLine := by
      rw [mz]
      intro d hd
      obtain ⟨e, he, rfl⟩ := List.mem_map.mp hd
      have := o1 e he
      show X.A.units + 1 + 1 + _ < _
      omega
    have eD := each_map (R := fun u d => ∃ as, Reads (sortingHeap (copyHeap s.heap its) (s.heap.objs.size + 1) its) u d as) (fun p : V × D => encD p.2) er'
    have S : SortsAt X.prog X.w X.A.in1.in1 { s with heap := sortingHeap (copyHeap s.heap its) (s.heap.objs.size + 1) its } (dataKind (sortingHeap (copyHeap s.heap its) (s.heap.objs.size + 1) its) ((xs.zip ds).map fun p => encD p.2)) its := by
      rcases o3 with o3 | o3
      · by_cases h0 : PyData.tuple [] ∈ ds.map encD
        · exact sortsAt_tup0 (s := { s with heap := sortingHeap (copyHeap s.heap its) (s.heap.objs.size + 1) its }) eD hal (by rw [mz]; exact o3) (by rw [mz]; exact h0) bd
        · refine SortsAt.data (s := { s with heap := sortingHeap (copyHeap s.heap its) (s.heap.objs.size + 1) its }) eD hal (.inl ?_) bd
          rw [mz]
          intro d hd
          obtain ⟨ys, rfl⟩ := o3 d hd
          cases ys with
          | nil => exact absurd hd h0
          | cons y ys => exact ⟨y, ys, rfl⟩
      · exact SortsAt.data (s := { s with heap := sortingHeap (copyHeap s.heap its) (s.heap.objs.size + 1) its }) eD hal (.inr (by rw [mz]; exact o3)) bd
    refine go _ S (by omega) ?_
    have eO := sortVals_data (h' := sortingHeap (copyHeap s.heap its) (s.heap.objs.size + 1) its) (enc := fun p : V × D => encD p.2) false eR er' hal
    have rv' := each_vals eO
    obtain ⟨ep, he'⟩ := PyProof.Rows.sortedAll_at s.heap its (sortVals (dataKind (sortingHeap (copyHeap s.heap its) (s.heap.objs.size + 1) its) ((xs.zip ds).map fun p => encD p.2)) false its its).toArray
    have hlen : (((xs.zip ds).mergeSort (dataLe false fun p => encD p.2)).map (·.1)).length ≤ sizeLine := by
      rw [List.length_map, List.length_mergeSort, List.length_zip]
      omega
    exact ⟨.ref _, upd H (s.heap.objs.size + 1) (.lst (((xs.zip ds).mergeSort (dataLe false fun p => encD p.2)).map (·.1))), I.laid (t' := s.toks) (fun _ _ => PyProof.Rows.sortedAll_old) (Nat.le_succ _) ⟨hlen, _, ep, rv', he'⟩, rfl, q _ (I.hok.fresh (Nat.le_succ _))⟩
  rcases hq with hq | hq
  · obtain ⟨its, rv, hl, hz⟩ := I.list hq
    exact main its rv fun κ Q S hL h => sorted_vals hl.isList S hL h
  · obtain ⟨its, rv, hl, hz⟩ := I.tuple hq
    exact main its rv fun κ Q S hL h => sorted_tup hl S hL h
theorem dps_enc {K : KW} {H : Hp} {ρ : Ro} : ∀ {ds : List D} {vs : List V}, RDs K H ρ ds vs → (∀ d ∈ ds, d.sh.isSome = true) → DpAll K H vs (ds.map encD)
  | _, _, .nil, _ => .nil
  | _, _, .cons (d := d) a r, h => by
    have q := h d List.mem_cons_self
    refine .cons (dp_of a ?_) (dps_enc r fun e he => h e (List.mem_cons_of_mem _ he))
    unfold encD
    cases e : d.toP with
    | none => unfold D.sh at q; rw [e] at q; cases q
    | some p => rfl
theorem prim_sorted (hu : X.A.units + 100 < cLine) : PrimC X (.builtin "sorted") (bltP "sorted") := by
  refine ⟨_, call_sortD hu, fun ds pr e H ρ h vs Q s rs fp => ?_⟩
  have fin : ∀ (a : Addr) (xs : List D) (us : List V), (SqL X.K H a us ∨ SqT X.K H a us) → RDs (kw X) H ρ xs us → sortP xs = some pr → rSortD (kw X) [.ref a] H Q := by
    intro a xs us hq r e
    unfold sortP at e
    split at e
    · rename_i hok
      cases e
      have h1 : ∀ d ∈ xs, d.sh.isSome = true := by
        unfold sortOk at hok
        simp only [Bool.and_eq_true, List.all_eq_true] at hok
        exact hok.1.1.1
      refine ⟨a, us, xs, rfl, hq, dps_enc r h1, hok, fun p n => fp p _ n ?_⟩
      have e2 : xs.mergeSort (dataLe false encD) = ((us.zip xs).mergeSort (dataLe false fun p => encD p.2)).map (·.2) := by
        have := List.map_mergeSort (r := dataLe false fun p : V × D => encD p.2) (s := dataLe false encD) (f := fun p : V × D => p.2) (l := us.zip xs) (fun _ _ _ _ => rfl)
        rw [this, zip_snd r]
      rw [e2]
      refine rds_pairs fun p hp => rds_zip r p ?_
      exact (List.mergeSort_perm _ _).mem_iff.mp hp
    · cases e
  unfold bltP at e
  split at e <;> simp at e
  all_goals
    cases rs with
    | cons r rs =>
      cases rs
      first
        | (obtain ⟨a, vs, rfl, hh, rr, f⟩ := r.tup
           exact fin a _ vs (.inr hh) rr e)
        | (obtain ⟨a, vs, rfl, hh, rr⟩ := r.lst
           exact fin a _ vs (.inl (.inl (.inl hh))) rr e)
end
end Onc
set_option Elab.async false
set_option linter.all false
set_option maxRecDepth 100000
set_option maxHeartbeats 1000000
/-! Judgements of calls. -/
namespace Onc
open PySem PySem.Spec PyProof.Rows L2

/-- an exception that is wished for nowhere -/
def EN : XK := fun _ _ _ => False
section
variable {X : Cx} {E : XK} {XR : XRel} {e a : Expr} {es : List Expr} {fa : Loc → M D} {fs : Loc → M (List D)} {p pos : Pos}

/-! ### built-in functions -/
abbrev bltF (fz : Bool) (f : String) (fs : Loc → M (List D)) : Loc → M D := fun l => (fs l).bnd fun xs => fun h => (M.opt (bltP f (xs.map (rd h)))).bnd (PR.fin fz) h
theorem rdg_blt {fz : Bool} {f : String} {r : List V → Hp → VK → Prop} (q : ∀ ds pr, bltP f ds = some pr → ∀ (H : Hp) (ρ : Ro) (h : HS) (vs : List V) (Q : VK), SimH (kw X) H ρ h → RNs (kw X) H ρ ds vs → FinP (kw X) H ρ h Q pr → r vs H Q)
    {t : TA} (hs : Rdg (kw X) E XR (RDs (kw X)) t fs) : Rdg (kw X) E XR (RD (kw X)) (tCB r t) (bltF fz f fs) := by
  intro σ H ρ l h rr h' Q sl sh e p
  refine hs.step sl sh e p fun xs h1 vs H1 ρ1 x1 sl1 sh1 r1 e1 p1 => ?_
  have e1 : (M.opt (bltP f (xs.map (rd h1)))).bnd (PR.fin fz) h1 = some (rr, h') := e1
  obtain ⟨pr, hp, e2⟩ := bnd_opt e1
  exact q _ pr hp H1 ρ1 h1 vs Q sh1 (rns_of sh1 r1) (fin_ok sh1 e2 p1)
theorem ev_bltB {fz : Bool} {f id : String} (pr : PrimC X (.builtin id) (bltP f)) (hg : Gl X (Str.ofString f)) (hm : X.mg (Str.ofString f) = none) (hv : bootBuiltins (Str.ofString f) = some (.builtin id)) (hn : Str.ofString f ≠ "__name__")
    (hdb : (Str.ofString f == ("__debug__" : Str)) = false) (h0 : isStar e = false) (h1 : es.all (!isStar ·) = true) (ha : EvS X E XR (e :: es) fs) : EvE X E XR (.Call (.Name (Str.ofString f) p) (e :: es) [] pos) (bltF fz f fs) := by
  obtain ⟨r, o, q⟩ := pr
  exact .of (pe_callB o hg hm hv ha hn hdb (starEach_one h0) (nostar_any h1)) (rdg_blt q .can)
theorem ev_bltT {fz : Bool} {f T : String} (pr : PrimC X (.type T) (bltP f)) (hg : Gl X (Str.ofString f)) (hm : X.mg (Str.ofString f) = none) (hv : bootBuiltins (Str.ofString f) = some (.type T)) (hn : Str.ofString f ≠ "__name__")
    (hdb : (Str.ofString f == ("__debug__" : Str)) = false) (h0 : isStar e = false) (h1 : es.all (!isStar ·) = true) (ha : EvS X E XR (e :: es) fs) : EvE X E XR (.Call (.Name (Str.ofString f) p) (e :: es) [] pos) (bltF fz f fs) := by
  obtain ⟨r, o, q⟩ := pr
  exact .of (pe_callTy o hg hm hv ha hn hdb (starEach_one h0) (nostar_any h1)) (rdg_blt q .can)
def bltNames : List String := ["len", "abs", "int", "tuple", "list", "all", "any", "max", "min", "sorted"]
/-- the built-in names that have to be the built-ins' -/
def freeNames : List String := bltNames ++ ["isinstance", "range", "enumerate", "zip", "str", "bool", "sum", "LookupError", "ValueError", "KeyError", "IndexError", "super"]
theorem ev_blt {fz : Bool} {f : String} (hu : X.A.units + 100 < cLine) (hc : X.calm = true) (hf : f ∈ bltNames) (hg : Gl X (Str.ofString f)) (hm : X.mg (Str.ofString f) = none)
    (h0 : isStar e = false) (h1 : es.all (!isStar ·) = true) (ha : EvS X E XR (e :: es) fs) : EvE X E XR (.Call (.Name (Str.ofString f) p) (e :: es) [] pos) (bltF fz f fs) := by
  have hf : f = "len" ∨ f = "abs" ∨ f = "int" ∨ f = "tuple" ∨ f = "list" ∨ f = "all" ∨ f = "any" ∨ f = "max" ∨ f = "min" ∨ f = "sorted" := by simpa [bltNames] using hf
  rcases hf with rfl | rfl | rfl | rfl | rfl | rfl | rfl | rfl | rfl | rfl
  · exact ev_bltB prim_len hg hm (by decide +kernel) (by decide) (by decide) h0 h1 ha
  · exact ev_bltB prim_abs hg hm (by decide +kernel) (by decide) (by decide) h0 h1 ha
  · exact ev_bltT prim_int hg hm (by decide +kernel) (by decide) (by decide) h0 h1 ha
  · exact ev_bltT prim_tuple hg hm (by decide +kernel) (by decide) (by decide) h0 h1 ha
  · exact ev_bltT prim_list hg hm (by decide +kernel) (by decide) (by decide) h0 h1 ha
  · exact ev_bltB (prim_all hc) hg hm (by decide +kernel) (by decide) (by decide) h0 h1 ha
  · exact ev_bltB (prim_any hc) hg hm (by decide +kernel) (by decide) (by decide) h0 h1 ha
  · exact ev_bltB (prim_max hc) hg hm (by decide +kernel) (by decide) (by decide) h0 h1 ha
  · exact ev_bltB (prim_min hc) hg hm (by decide +kernel) (by decide) (by decide) h0 h1 ha
  · exact ev_bltB (prim_sorted hu) hg hm (by decide +kernel) (by decide) (by decide) h0 h1 ha

/-! ### isinstance -/
abbrev isiF (fa : Loc → M D) (tys : List String) : Loc → M D := fun l => (fa l).bnd fun x => (M.rd x).bnd fun x => (M.opt (tys.mapM (isiP x))).bnd fun bs => M.ret (.bl (bs.any id))
theorem boot_ty {u : String} (h : u ∈ tyNames) : bootBuiltins (Str.ofString u) = some (.type u) ∧ Str.ofString u ≠ "__name__" ∧ (Str.ofString u == ("__debug__" : Str)) = false := by
  have hu : u = "int" ∨ u = "bool" ∨ u = "str" ∨ u = "list" ∨ u = "tuple" := by simpa [tyNames] using h
  rcases hu with rfl | rfl | rfl | rfl | rfl <;> exact ⟨by decide +kernel, by decide, by decide⟩
theorem pe_tyName {u : String} {p : Pos} (h : u ∈ tyNames) (hg : Gl X (Str.ofString u)) (hm : X.mg (Str.ofString u) = none) : PE X (.Name (Str.ofString u) p) (tC (.ty u)) :=
  pe_bltn hg hm (boot_ty h).1 rfl (boot_ty h).2.1 (boot_ty h).2.2
theorem ev_isi1 {u : String} {p1 p2 pos : Pos} (hI : Gl X "isinstance") (hm : X.mg "isinstance" = none) (hs : isStar a = false) (ha : EvE X E XR a fa) (hu : u ∈ tyNames) (hg : Gl X (Str.ofString u)) (hn : X.mg (Str.ofString u) = none) :
    EvE X E XR (.Call (.Name "isinstance" p1) [a, .Name (Str.ofString u) p2] [] pos) (isiF fa [u]) := by
  refine .of (pe_callB call_isi hI hm (by decide +kernel) (pa_cons ha (pa_cons (pe_tyName hu hg hn) pa_nil) (starEach_one hs)) (by decide) (by decide) (starEach_one hs) rfl) fun σ H ρ l h rr h' Q sl sh e p => ?_
  refine Rdg.can.step sl sh e p fun x h1 v H1 ρ1 x1 sl1 sh1 r1 e1 p1 => ?_
  obtain ⟨bs, hb, e2⟩ := bnd_opt (h := h1) e1
  cases e2
  have hb : [u].mapM (isiP (rd h' x)) = some bs := hb
  have hb' : ∃ b, isiP (rd h' x) u = some b := by
    rw [List.mapM_cons] at hb
    cases q : isiP (rd h' x) u with
    | none => rw [q] at hb; cases hb
    | some b => exact ⟨b, rfl⟩
  obtain ⟨b, hb1⟩ := hb'
  obtain ⟨t, ht⟩ := isi_ty hb1
  have ek : PySem.W.kitOne X.K (.type t) (.type u) = some (bs.any id) := by
    have := kitAny_ok (K := (kw X)) ht (us := [u]) (fun z hz => by cases List.mem_singleton.mp hz; exact hu) hb
    show PySem.W.kitOne X.K (.type t) (.type u) = some (bs.any id)
    have k1 := kit_ok (K := (kw X)) ht hu hb1
    rw [k1]
    rw [List.mapM_cons, hb1] at hb
    cases hb
    cases b <;> rfl
  exact ⟨v, .ty u, .type t, .type u, bs.any id, rfl, .ty u, tyx_ok (rd_ok sh1 r1) ht, ek, p1.here sh1 (.bl _)⟩
theorem pa_tys : ∀ {us : List String} {ps : List Pos}, us.length = ps.length → (∀ u ∈ us, u ∈ tyNames ∧ Gl X (Str.ofString u) ∧ X.mg (Str.ofString u) = none) →
    PA X ((us.zip ps).map fun z => Expr.Name (Str.ofString z.1) z.2) (fun _ H Q => Q (us.map V.ty) H)
  | [], [], _, _ => pa_nil
  | u :: us, p :: ps, hl, h => by
    have ih := pa_tys (us := us) (ps := ps) (Nat.succ.inj hl) fun z hz => h z (List.mem_cons_of_mem _ hz)
    obtain ⟨h1, h2, h3⟩ := h u List.mem_cons_self
    exact pa_cons (pe_tyName h1 h2 h3) ih
  | [], _ :: _, hl, _ => nomatch hl
  | _ :: _, [], hl, _ => nomatch hl
theorem cls_all : ∀ us : List String, Paired ClsV (us.map V.ty) (us.map Value.type)
  | [] => .nil
  | u :: us => .cons (.ty u) (cls_all us)
theorem ev_isiT {us : List String} {ps : List Pos} {k : Nat} {p1 p2 pos : Pos} (hne : us ≠ []) (hl : us.length = ps.length) (h100 : us.length ≤ 100) (hI : Gl X "isinstance") (hm : X.mg "isinstance" = none) (hs : isStar a = false) (ha : EvE X E XR a fa)
    (hu : ∀ u ∈ us, u ∈ tyNames ∧ Gl X (Str.ofString u) ∧ X.mg (Str.ofString u) = none) :
    EvE X E XR (.Call (.Name "isinstance" p1) [a, .Tuple ((us.zip ps).map fun z => Expr.Name (Str.ofString z.1) z.2) k p2] [] pos) (isiF fa us) := by
  refine .of (pe_callB call_isiT hI hm (by decide +kernel) (pa_cons ha (pa_cons (pe_tup (pa_tys hl hu)) pa_nil) (starEach_one hs)) (by decide) (by decide) (starEach_one hs) rfl) fun σ H ρ l h rr h' Q sl sh e p => ?_
  refine Rdg.can.step sl sh e p fun x h1 v H1 ρ1 x1 sl1 sh1 r1 e1 p1 => ?_
  obtain ⟨bs, hb, e2⟩ := bnd_opt (h := h1) e1
  cases e2
  have hb : us.mapM (isiP (rd h' x)) = some bs := hb
  refine ⟨by rw [List.length_map, sizeLine_eq]; omega, fun q n => ?_⟩
  have x2 := ext_new (o := .tup (us.map V.ty)) sh1 n
  have sh2 := sh1.new (o := .tup (us.map V.ty)) n
  cases us with
  | nil =>
    exact absurd rfl hne
  | cons u us =>
    have hb' : ∃ b, isiP (rd h' x) u = some b := by
      rw [List.mapM_cons] at hb
      cases q : isiP (rd h' x) u with
      | none => rw [q] at hb; cases hb
      | some b => exact ⟨b, rfl⟩
    obtain ⟨b, hb1⟩ := hb'
    obtain ⟨t, ht⟩ := isi_ty hb1
    have ek := kitAny_ok (K := (kw X)) ht (us := u :: us) (fun z hz => (hu z hz).1) hb
    exact ⟨v, q, _, .type t, (u :: us).map Value.type, bs.any id, rfl, upd_same, cls_all _, tyx_ok (rd_ok sh2 (r1.ext x2)) ht, ek, p1 _ _ ρ1 x2 sh2 (.bl _)⟩

/-! ### the text's own defs -/
def CallOk (X : Cx) (E : XK) (XR : XRel) (x : Str) (G : List D → M D) : Prop :=
  ∃ (CX : CXT) (k : Nat) (f : Addr) (fd : FuncData) (ps : List Str) (sp : Sp) (dvs : List V) (ds : List Value), FnOk X.prog X.w X.K X.mg X.base CX k f fd ps sp ∧ Room k X.A ∧ X.mg x = some (.ref f) ∧ PySem.W.keepIn X.K (.ref f) = true ∧
    Binds X.K fd ps ds ∧ Vals dvs ds ∧ Passes CX X E ∧
    ∀ (as : List D) (vs : List V) (H : Hp) (ρ : Ro) (h : HS) (r : Except Exc D) (h' : HS) (Q : VK), RDs (kw X) H ρ as vs → SimH (kw X) H ρ h → G as h = some (r, h') → Post (kw X) E XR (RD (kw X)) H ρ r h' Q → sp (vs ++ dvs) H Q E
theorem ev_call {x : Str} {G : List D → M D} (c : CallOk X E XR x G) (hg : Gl X x) (hdb : (x == ("__debug__" : Str)) = false) (h0 : isStar e = false) (h1 : es.all (!isStar ·) = true) (ha : EvS X E XR (e :: es) fs) :
    EvE X E XR (.Call (.Name x p) (e :: es) [] pos) (fun l => (fs l).bnd fun xs => G xs) := by
  obtain ⟨CX, k, f, fd, ps, sp, dvs, ds, F, hr, hm, hk, hb, hd, hx, hG⟩ := c
  refine .of (pe_call F hr hg hm hk hb hd hx ha hdb (starEach_one h0) (nostar_any h1)) fun σ H ρ l h rr h' Q sl sh e p => ?_
  refine Rdg.can.step sl sh e p fun xs h1 vs H1 ρ1 x1 sl1 sh1 r1 e1 p1 => ?_
  exact hG xs vs H1 ρ1 h1 rr h' Q r1 sh1 e1 p1
theorem ev_call0 {x : Str} {G : List D → M D} (c : CallOk X E XR x G) (hg : Gl X x) (hdb : (x == ("__debug__" : Str)) = false) :
    EvE X E XR (.Call (.Name x p) [] [] pos) (fun l => (M.ret []).bnd fun xs => G xs) := by
  obtain ⟨CX, k, f, fd, ps, sp, dvs, ds, F, hr, hm, hk, hb, hd, hx, hG⟩ := c
  refine .of (pe_call0 F hr hg hm hk hb hd hx hdb) fun σ H ρ l h rr h' Q sl sh e p => ?_
  exact hG [] [] H ρ h rr h' Q .nil sh e p

/-! ### append, extend -/
theorem getL_of {d : D} {α : Type} {k : Nat × List D → M α} {h h' : HS} {r : Except Exc α} (e : M.bnd (M.getL d) k h = some (r, h')) : ∃ n xs, d = .ref n ∧ nth h n = some (.lst xs) ∧ k (n, xs) h = some (r, h') := by
  cases d <;> try (cases e; done)
  rename_i n
  have e : M.bnd (fun h => match nth h n with | some (.lst xs) => some (.ok (n, xs), h) | _ => none) k h = some (r, h') := e
  unfold M.bnd at e
  cases q : nth h n with
  | none => simp only [q] at e; cases e
  | some o =>
    cases o with
    | lst xs => simp only [q] at e; exact ⟨n, xs, rfl, q, e⟩
    | ins x fs => simp only [q] at e; cases e
theorem few1 {cpos : Pos} {env : Env} (h0 : isStar e = false) : ((backTo cpos (starEach [e] env)).all (fun x => !x.1) && (backToKw cpos (keywordEach [] env)).all (fun x => x.1.isSome)
      && decide ([e].length + ([] : List Keyword).length + (if ([] : List Keyword).isEmpty then 0 else 1) < 30)) = true := by
  rw [starEach_one h0]; rfl
abbrev appF (fo fa : Loc → M D) : Loc → M D := fun l => (fo l).bnd fun x => (M.getL x).bnd fun _ => (fa l).bnd fun y => (M.getL x).bnd fun p => if p.2.length < sizeLine then (M.upd p.1 (.lst (p.2 ++ [y]))).bnd fun _ => M.ret .non else M.fail
theorem ev_app {o : Expr} {fo : Loc → M D} {apos cpos : Pos} (hb : isCall0 o = false) (hl : (apos.endLine == cpos.line) = true) (h0 : isStar a = false) (ho : EvE X E XR o fo) (ha : EvE X E XR a fa) :
    EvE X E XR (.Call (.Attribute o "append" apos) [a] [] cpos) (appF fo fa) := by
  refine .of (pe_bm PySem.F.plainAttrs_list PySem.F.slot_list_append PySem.F.type_list_append mt_append ho (pa_cons ha pa_nil (starEach_one h0)) (base_of hb) (few1 h0) hl (starEach_one h0) rfl) fun σ H ρ l h rr h' Q sl sh e p => ?_
  refine Rdg.can.step sl sh e p fun x h1 v H1 ρ1 x1 sl1 sh1 r1 e1 p1 => ?_
  obtain ⟨n, xs, rfl, hn, e1⟩ := getL_of (h := h1) e1
  cases r1 with
  | ref en =>
    rename_i L
    obtain ⟨vs, eL, rvs⟩ := sh1.at en hn
    refine ⟨.inl ⟨rfl, vs, .inl (.inl eL)⟩, ?_⟩
    refine Rdg.can.step sl1 sh1 e1 p1 fun y h2 u H2 ρ2 x2 sl2 sh2 r2 e2 p2 => ?_
    obtain ⟨n', ys, en', hn2, e3⟩ := getL_of (h := h2) e2
    cases en'
    have en2 : nth ρ2.l n = some L := by obtain ⟨new, z, _⟩ := x2.pre; rw [z]; exact nth_app new ρ1.l en
    obtain ⟨us, eL2, rus⟩ := sh2.at en2 hn2
    split at e3
    · cases e3
      exact ⟨L, us, u, rfl, rfl, eL2, by rw [← rus.length]; assumption, p2 _ _ ρ2 (ext_put sh2 (nth_mem en2)) (sh2.put en2 (rus.append (.cons r2 .nil))) .non⟩
    · cases e3
abbrev extF (fo fa : Loc → M D) : Loc → M D := fun l => (fo l).bnd fun x => (M.getL x).bnd fun _ => (fa l).bnd fun y => (M.getL x).bnd fun p => (M.rd y).bnd fun y => match y with
    | .lst ys => if p.2.length + ys.length ≤ sizeLine then (M.upd p.1 (.lst (p.2 ++ ys))).bnd fun _ => M.ret .non else M.fail
    | _ => M.fail
theorem ev_ext {o : Expr} {fo : Loc → M D} {apos cpos : Pos} (hb : isCall0 o = false) (hl : (apos.endLine == cpos.line) = true) (h0 : isStar a = false) (ho : EvE X E XR o fo) (ha : EvE X E XR a fa) :
    EvE X E XR (.Call (.Attribute o "extend" apos) [a] [] cpos) (extF fo fa) := by
  refine .of (pe_bm PySem.F.plainAttrs_list PySem.F.slot_list_extend PySem.F.type_list_extend mt_extend ho (pa_cons ha pa_nil (starEach_one h0)) (base_of hb) (few1 h0) hl (starEach_one h0) rfl) fun σ H ρ l h rr h' Q sl sh e p => ?_
  refine Rdg.can.step sl sh e p fun x h1 v H1 ρ1 x1 sl1 sh1 r1 e1 p1 => ?_
  obtain ⟨n, xs, rfl, hn, e1⟩ := getL_of (h := h1) e1
  cases r1 with
  | ref en =>
    rename_i L
    obtain ⟨vs, eL, rvs⟩ := sh1.at en hn
    refine ⟨.inl ⟨rfl, vs, .inl (.inl eL)⟩, ?_⟩
    refine Rdg.can.step sl1 sh1 e1 p1 fun y h2 u H2 ρ2 x2 sl2 sh2 r2 e2 p2 => ?_
    obtain ⟨n', ys, en', hn2, e3⟩ := getL_of (h := h2) e2
    cases en'
    have en2 : nth ρ2.l n = some L := by obtain ⟨new, z, _⟩ := x2.pre; rw [z]; exact nth_app new ρ1.l en
    obtain ⟨us, eL2, rus⟩ := sh2.at en2 hn2
    have rn := rd_ok sh2 r2
    have e3 : (match rd h2 y with
      | .lst zs => if ys.length + zs.length ≤ sizeLine then (M.upd n (.lst (ys ++ zs))).bnd fun _ => M.ret D.non else M.fail
      | _ => M.fail) h2 = some (rr, h') := e3
    generalize rd h2 y = y' at rn e3
    cases y' <;> try (cases e3; done)
    rename_i zs
    obtain ⟨b, ws, rfl, eb, rws⟩ := rn.lst
    have e3 : (if ys.length + zs.length ≤ sizeLine then (M.upd n (.lst (ys ++ zs))).bnd fun _ => M.ret D.non else M.fail) h2 = some (rr, h') := e3
    split at e3
    · cases e3
      exact ⟨L, b, us, ws, rfl, rfl, eL2, eb, by rw [← rus.length, ← rws.length]; assumption, p2 _ _ ρ2 (ext_put sh2 (nth_mem en2)) (sh2.put en2 (rus.append rws)) .non⟩
    · cases e3
end
end Onc
set_option Elab.async false
set_option linter.all false
set_option maxRecDepth 100000
set_option maxHeartbeats 1000000
/-! Targets, loops' sources, comprehensions. -/
namespace Onc
open PySem PySem.Spec PyProof.Rows L2

/-! ### targets -/
def T.slots : T → List Nat
  | .nm i => [i]
  | .nil => []
  | .cons t r => t.slots ++ r.slots
  | .tp ts => ts.slots
def RT (K : KW) (H : Hp) (ρ : Ro) : T → D → V → Prop
  | .nm _, d, v => RD K H ρ d v
  | _, d, v => RN K H ρ d v
theorem RT.of {K : KW} {H : Hp} {ρ : Ro} {t : T} {d : D} {v : V} (r : RD K H ρ d v) : RT K H ρ t d v := by
  cases t with
  | nm i => exact r
  | _ => exact .inl r
def gCan (K : KW) (t : T) : TG := fun v σ H Q => ∃ d ρ l l', RT K H ρ t d v ∧ SimL K H ρ l σ ∧ t.set d l = some l' ∧ ∀ σ', SimL K H ρ l' σ' → (∀ vs, (∀ i ∈ t.slots, i ∈ vs) → wipe σ' vs = wipe σ vs) → Q σ' H
def gsCan (K : KW) (t : T) : TGs := fun us σ H Q => ∃ ds ρ l l', RDs K H ρ ds us ∧ SimL K H ρ l σ ∧ t.sets ds l = some l' ∧ ∀ σ', SimL K H ρ l' σ' → (∀ vs, (∀ i ∈ t.slots, i ∈ vs) → wipe σ' vs = wipe σ vs) → Q σ' H
mutual
def trT (N : List Str) (lc : Str → Bool) : T → Expr → Bool
  | .nm i, e => match e with
    | .Name x _ => decide (N[i]? = some x) && lc x
    | _ => false
  | .tp ts, e => match e with
    | .Tuple es _ _ => trTs N lc ts es
    | _ => false
  | _, _ => false
def trTs (N : List Str) (lc : Str → Bool) : T → List Expr → Bool
  | .nil, [] => true
  | .cons t r, e :: es => trT N lc t e && trTs N lc r es
  | _, _ => false
end
theorem trT_plain {N : List Str} {lc : Str → Bool} {t : T} {e : Expr} (h : trT N lc t e = true) : isStar e = false := by
  cases t <;> cases e <;> first | rfl | (simp [trT] at h; done)
theorem assignEach_one {e : Expr} {es : List Expr} {env : Env} (h : isStar e = false) : assignEach (e :: es) env = (false, assign e env) :: assignEach es env := by
  cases e <;> first | rfl | cases h
theorem assignEach_len {env : Env} : ∀ es : List Expr, (assignEach es env).length = es.length
  | [] => rfl
  | e :: es => by
    have ih := assignEach_len (env := env) es
    cases e <;> exact congrArg (· + 1) ih
theorem assignEach_star {N : List Str} {lc : Str → Bool} {env : Env} : ∀ {ts : T} {es : List Expr}, trTs N lc ts es = true → (assignEach es env).findIdx? (·.1) = none
  | _, [], _ => rfl
  | .cons t r, e :: es, h => by
    rw [trTs, Bool.and_eq_true] at h
    rw [assignEach_one (trT_plain h.1), List.findIdx?_cons]
    rw [assignEach_star h.2]; rfl
  | .nm _, _ :: _, h => nomatch h
  | .nil, _ :: _, h => nomatch h
  | .tp _, _ :: _, h => nomatch h
theorem wipe_set {σ : L2.St} {i : Nat} {u : Option V} : ∀ {vs : List Nat}, i ∈ vs → wipe (σ.set i u) vs = wipe σ vs
  | [], h => nomatch h
  | v :: vs, h => by
    unfold wipe
    by_cases hv : i ∈ vs
    · rw [wipe_set hv]
    · have e : i = v := by
        rcases List.mem_cons.mp h with e | e
        · exact e
        · exact absurd e hv
      subst e
      have : ∀ (ws : List Nat) (σ : L2.St), i ∉ ws → wipe (σ.set i u) ws = (wipe σ ws).set i u := by
        intro ws
        induction ws with
        | nil => intro σ _; rfl
        | cons w ws ih =>
          intro σ hn
          unfold wipe
          rw [ih σ (fun z => hn (List.mem_cons_of_mem _ z)), List.set_comm _ _ (fun z => hn (by rw [← z]; exact List.mem_cons_self))]
      rw [this vs σ hv, List.set_set]
section
variable {X : Cx}
theorem pgOr {tg : Expr} {g1 g2 : TG} (a : PG X tg g1) (b : PG X tg g2) : PG X tg (fun v σ H Q => g1 v σ H Q ∨ g2 v σ H Q) :=
  ⟨fun pins s σ H v u Q I r h => h.elim (a.run pins s σ H v u Q I r) (b.run pins s σ H v u Q I r)⟩
theorem pgImp {tg : Expr} {g1 g2 : TG} (a : PG X tg g1) (h : ∀ v σ H Q, g2 v σ H Q → g1 v σ H Q) : PG X tg g2 :=
  ⟨fun pins s σ H v u Q I r q => a.run pins s σ H v u Q I r (h v σ H Q q)⟩
theorem pgsImp {tg : List Expr} {g1 g2 : TGs} (a : PGs X tg g1) (h : ∀ v σ H Q, g2 v σ H Q → g1 v σ H Q) : PGs X tg g2 :=
  ⟨fun pins s σ H v u Q I r q => a.run pins s σ H v u Q I r (h v σ H Q q)⟩
def Storable (X : Cx) (lc : Str → Bool) : Prop := ∀ x, lc x = true → L2.Loc X.env.scope x ∧ (X.fn x = true ∨ X.env.scope.names.lookup x = some .local)
mutual
theorem pg_ok {lc : Str → Bool} (hc : X.calm = true) (nd : X.N.Nodup) (st : Storable X lc) : ∀ (t : T) (tg : Expr), trT X.N lc t tg = true → PG X tg (gCan (kw X) t)
  | .nm i, tg, h => by
    cases tg <;> try (simp [trT] at h; done)
    rename_i x pos
    rw [trT, Bool.and_eq_true, decide_eq_true_eq] at h
    obtain ⟨h1, h2⟩ := st x h.2
    refine pgImp (pg_name nd h.1 h1 h2) fun v σ H Q ⟨d, ρ, l, l', r, sl, e, q⟩ => ?_
    cases e
    exact q _ (sl.set r) fun vs hv => wipe_set (hv i (by simp [T.slots]))
  | .tp ts, tg, h => by
    cases tg <;> try (simp [trT] at h; done)
    rename_i es k pos
    rw [trT] at h
    have ih := pgs_ok hc nd st ts es h
    refine pgImp (pgOr (pg_tup (n := es.length) hc ih (assignEach_len es) (assignEach_star h)) (pg_lst (n := es.length) hc ih (assignEach_len es) (assignEach_star h))) fun v σ H Q ⟨d, ρ, l, l', r, sl, e, q⟩ => ?_
    have len : ∀ {ts : T} {es : List Expr} {xs : List D} {l l' : Onc.Loc}, trTs X.N lc ts es = true → ts.sets xs l = some l' → xs.length = es.length := by
      intro ts
      induction ts with
      | nil =>
        intro es xs l l' h e
        cases es with
        | nil => cases xs <;> first | rfl | (simp [T.sets] at e; done)
        | cons _ _ => simp [trTs] at h
      | cons t r iht ihr =>
        intro es xs l l' h e
        cases es with
        | nil => simp [trTs] at h
        | cons y ys =>
          rw [trTs, Bool.and_eq_true] at h
          cases xs with
          | nil => simp [T.sets] at e
          | cons x xs =>
            rw [T.sets] at e
            split at e
            · rw [List.length_cons, List.length_cons, ihr h.2 e]
            · cases e
      | nm i => intro es xs l l' h e; cases es <;> simp [trTs] at h
      | tp ts _ => intro es xs l l' h e; cases es <;> simp [trTs] at h
    cases d <;> try (simp [T.set] at e; done)
    · rename_i xs
      rw [T.set] at e
      obtain ⟨a, vs, rfl, hq, rr, _⟩ := RN.tup r
      exact .inl ⟨a, vs, rfl, hq, by rw [← rr.length]; exact len h e, xs, ρ, l, l', rr, sl, e, q⟩
    · rename_i xs
      rw [T.set] at e
      obtain ⟨a, vs, rfl, hq, rr⟩ := RN.lst r
      exact .inr ⟨a, vs, rfl, .inl (.inl hq), by rw [← rr.length]; exact len h e, xs, ρ, l, l', rr, sl, e, q⟩
  | .nil, tg, h => by simp [trT] at h
  | .cons _ _, tg, h => by simp [trT] at h
theorem pgs_ok {lc : Str → Bool} (hc : X.calm = true) (nd : X.N.Nodup) (st : Storable X lc) : ∀ (t : T) (tgs : List Expr), trTs X.N lc t tgs = true → PGs X tgs (gsCan (kw X) t)
  | .nil, tgs, h => by
    cases tgs with
    | nil =>
      refine pgsImp pgs_nil fun us σ H Q ⟨ds, ρ, l, l', r, sl, e, q⟩ => ?_
      cases ds with
      | nil =>
        cases r
        rw [T.sets] at e
        cases e
        exact ⟨rfl, q σ sl fun _ _ => rfl⟩
      | cons d ds => simp [T.sets] at e
    | cons _ _ => simp [trTs] at h
  | .cons t r, tgs, h => by
    cases tgs with
    | nil => simp [trTs] at h
    | cons tg tgs =>
      rw [trTs, Bool.and_eq_true] at h
      have h1 := pg_ok hc nd st t tg h.1
      have h2 := pgs_ok hc nd st r tgs h.2
      refine pgsImp (pgs_cons h1 h2 (by rw [assignEach_one (trT_plain h.1)]; rfl)) fun us σ H Q ⟨ds, ρ, l, l', rr, sl, e, q⟩ => ?_
      cases ds with
      | nil => simp [T.sets] at e
      | cons d ds =>
        cases rr with
        | cons ra rr =>
          rw [T.sets] at e
          split at e
          · rename_i l1 e1
            refine ⟨_, _, rfl, d, ρ, l, l1, RT.of ra, sl, e1, fun σ1 sl1 w1 => ⟨ds, ρ, l1, l', rr, sl1, e, fun σ2 sl2 w2 => ?_⟩⟩
            refine q σ2 sl2 fun vs hv => ?_
            rw [w2 vs fun i hi => hv i (List.mem_append_right _ hi), w1 vs fun i hi => hv i (List.mem_append_left _ hi)]
          · cases e
  | .nm _, tgs, h => by cases tgs <;> simp [trTs] at h
  | .tp _, tgs, h => by cases tgs <;> simp [trTs] at h
end
end
end Onc
set_option Elab.async false
set_option linter.all false
set_option maxRecDepth 100000
set_option maxHeartbeats 1000000
/-! Sources of loops; comprehensions. -/
namespace Onc
open PySem PySem.Spec PyProof.Rows L2

def gI (K : KW) (E : XK) (XR : XRel) (k : Nat) (f : Loc → M (List D)) : TI := fun σ H R => ∃ (ρ : Ro) (l : Loc) (h : HS) (r : Except Exc (List D)) (h' : HS), SimL K H ρ l σ ∧ SimH K H ρ h ∧ f l h = some (r, h') ∧
    (match r with
      | .ok as => ∃ s, srcP k as = some s ∧ s.ok h' = true ∧ ∀ J H1 ρ1, Ext H ρ H1 ρ1 → SimH K H1 ρ1 h' → Walks1 K J s H1 ρ1 → R J H1
      | .error x => ∀ c d H' ρ', Ext H ρ H' ρ' → SimH K H' ρ' h' → XR H' ρ' x c d → E c d H')
abbrev EvJ (X : Cx) (E : XK) (XR : XRel) (tg it : Expr) (k : Nat) (f : Loc → M (List D)) : Prop := PI X tg it (gI (kw X) E XR k f)
theorem piImp {X : Cx} {tg it : Expr} {w1 w2 : TI} (a : PI X tg it w1) (h : ∀ σ H R, w2 σ H R → w1 σ H R) : PI X tg it w2 := ⟨fun pins s σ H R I q => a.run pins s σ H R I (h σ H R q)⟩
section
variable {X : Cx} {E : XK} {XR : XRel} {tg e e2 : Expr} {fa : Loc → M D} {fs : Loc → M (List D)} {p pos : Pos}
abbrev oneF (fa : Loc → M D) : Loc → M (List D) := fun l => (fa l).bnd fun x => (M.ret []).bnd fun xs => M.ret (x :: xs)
theorem oneF_eq {l : Loc} {h h' : HS} {r : Except Exc (List D)} (e : oneF fa l h = some (r, h')) : (∃ d, fa l h = some (.ok d, h') ∧ r = .ok [d]) ∨ ∃ x, fa l h = some (.error x, h') ∧ r = .error x := by
  have e : M.bnd (fa l) _ h = some (r, h') := e
  unfold M.bnd at e
  cases q : fa l h with
  | none => rw [q] at e; cases e
  | some z =>
    obtain ⟨z, h1⟩ := z
    rw [q] at e
    cases z with
    | error x => cases e; exact .inr ⟨x, rfl, rfl⟩
    | ok d => cases e; exact .inl ⟨d, rfl, rfl⟩
/-- a value that is walked as it stands -/
theorem ej_plain (he : EvE X E XR e fa) : EvJ X E XR tg e 0 (oneF fa) := by
  refine piImp (PI.or (pi_list he) (PI.or (pi_tup he) (pi_str he))) fun σ H R ⟨ρ, l, h, r, h', sl, sh, q, m⟩ => ?_
  rcases oneF_eq q with ⟨d, q2, rfl⟩ | ⟨x, q2, rfl⟩
  · obtain ⟨s, es, ko, m⟩ := m
    have es : (src1P d).map Src.one = some s := es
    cases d with
    | tup xs =>
      cases es
      refine .inr (.inl (Rdg.can σ H ρ l h _ h' _ sl sh q2 fun v H1 ρ1 x1 sh1 r1 => ?_))
      cases r1 with
      | tup f r => exact ⟨_, rfl, ⟨_, f.sq (K := kw X)⟩, m _ H1 ρ1 x1 sh1 (walks_tup f r)⟩
    | lst xs =>
      cases es
      refine .inl (Rdg.can σ H ρ l h _ h' _ sl sh q2 fun v H1 ρ1 x1 sh1 r1 => ?_)
      cases r1 with
      | lst f r => exact ⟨_, rfl, ⟨_, f.sq (K := kw X)⟩, m _ H1 ρ1 x1 sh1 (walks_list (.fix f r))⟩
    | ref n =>
      cases es
      refine .inl (Rdg.can σ H ρ l h _ h' _ sl sh q2 fun v H1 ρ1 x1 sh1 r1 => ?_)
      cases r1 with
      | ref en =>
        obtain ⟨o, eo⟩ := nth_some (l := h') (n := n) (by rw [← sh1.len]; exact nth_lt en)
        cases o with
        | lst xs =>
          obtain ⟨vs, ea, _⟩ := sh1.at en eo
          exact ⟨_, rfl, ⟨_, .inl (.inl ea)⟩, m _ H1 ρ1 x1 sh1 (walks_list (.live en))⟩
        | ins x fs =>
          have ko : (match nth h' n with | some (.lst _) => true | _ => false) = true := ko
          rw [eo] at ko
          cases ko
    | str z =>
      cases es
      refine .inr (.inr (Rdg.can σ H ρ l h _ h' _ sl sh q2 fun v H1 ρ1 x1 sh1 r1 => ?_))
      cases r1
      exact ⟨z, rfl, m _ H1 ρ1 x1 sh1 walks_str⟩
    | non => cases es
    | bl b => cases es
    | int i => cases es
    | arg xs => cases es
    | obj x xs => cases es
    | exc x ns xs => cases es
  · exact .inl (Rdg.can σ H ρ l h _ h' _ sl sh q2 m)
theorem intOk_iff {i : Int} (h : intOk i = true) : -(2 ^ 62) ≤ i ∧ i < 2 ^ 62 := by
  unfold intOk at h
  exact of_decide_eq_true h
theorem ej_rng1 (hg : Gl X "range") (hm : X.mg "range" = none) (h0 : isStar e = false) (hs : EvS X E XR [e] fs) : EvJ X E XR tg (.Call (.Name "range" p) [e] [] pos) 1 fs := by
  refine piImp (pi_range1 hg hm hs (starEach_one h0)) fun σ H R ⟨ρ, l, h, r, h', sl, sh, q, m⟩ => ?_
  refine Rdg.can σ H ρ l h r h' _ sl sh q ?_
  cases r with
  | error x => exact m
  | ok as =>
    obtain ⟨s, es, ko, m⟩ := m
    intro vs H1 ρ1 x1 sh1 r1
    unfold srcP at es
    split at es <;> first | (rename_i e0; cases e0) | skip
    · rename_i n
      split at es
      · rename_i hn
        cases es
        cases r1 with
        | cons a r1 =>
          cases a
          cases r1
          exact ⟨n, rfl, (intOk_iff hn).1, (intOk_iff hn).2, m _ H1 ρ1 x1 sh1 walks_rng⟩
      · cases es
    · cases es
theorem ej_rng2 (hg : Gl X "range") (hm : X.mg "range" = none) (h0 : isStar e = false) (h1 : isStar e2 = false) (hs : EvS X E XR [e, e2] fs) : EvJ X E XR tg (.Call (.Name "range" p) [e, e2] [] pos) 2 fs := by
  refine piImp (pi_range2 hg hm hs (by rw [starEach_one h0, starEach_one h1]; rfl) (by rw [starEach_one h1]; rfl)) fun σ H R ⟨ρ, l, h, r, h', sl, sh, q, m⟩ => ?_
  refine Rdg.can σ H ρ l h r h' _ sl sh q ?_
  cases r with
  | error x => exact m
  | ok as =>
    obtain ⟨s, es, ko, m⟩ := m
    intro vs H1 ρ1 x1 sh1 r1
    unfold srcP at es
    split at es <;> first | (rename_i e0; cases e0) | skip
    · rename_i n n2
      split at es
      · rename_i hn
        rw [Bool.and_eq_true] at hn
        cases es
        cases r1 with
        | cons a r1 =>
          cases a
          cases r1 with
          | cons a r1 =>
            cases a
            cases r1
            exact ⟨n, n2, rfl, ⟨(intOk_iff hn.1).1, (intOk_iff hn.1).2, (intOk_iff hn.2).1, (intOk_iff hn.2).2⟩, m _ H1 ρ1 x1 sh1 walks_rng⟩
      · cases es
    · cases es
theorem srcl_of {d : D} {s : Src1} {H : Hp} {ρ : Ro} {h : HS} {v : V} (sh : SimH (kw X) H ρ h) (r : RD (kw X) H ρ d v) (e : src1L d = some s) (ko : s.ok h = true) : ∃ a, v = .ref a ∧ (∃ xs, SqL X.K H a xs) ∧ SrcL (kw X) H ρ s a := by
  cases d with
  | lst xs => cases e; cases r with | lst f r => exact ⟨_, rfl, ⟨_, f.sq (K := kw X)⟩, .fix f r⟩
  | ref n =>
    cases e
    cases r with
    | ref en =>
      obtain ⟨o, eo⟩ := nth_some (l := h) (n := n) (by rw [← sh.len]; exact nth_lt en)
      cases o with
      | lst xs =>
        obtain ⟨vs, ea, _⟩ := sh.at en eo
        exact ⟨_, rfl, ⟨_, .inl (.inl ea)⟩, .live en⟩
      | ins x fs =>
        have ko : (match nth h n with | some (.lst _) => true | _ => false) = true := ko
        rw [eo] at ko
        cases ko
  | _ => cases e
theorem ej_enum {elts : List Expr} {kk : Nat} {tpos : Pos} (hg : Gl X "enumerate") (hm : X.mg "enumerate" = none) (h0 : isStar e = false) (hs : EvS X E XR [e] fs) : EvJ X E XR (.Tuple elts kk tpos) (.Call (.Name "enumerate" p) [e] [] pos) 3 fs := by
  refine piImp (pi_enum hg hm hs (starEach_one h0)) fun σ H R ⟨ρ, l, h, r, h', sl, sh, q, m⟩ => ?_
  refine Rdg.can σ H ρ l h r h' _ sl sh q ?_
  cases r with
  | error x => exact m
  | ok as =>
    obtain ⟨s, es, ko, m⟩ := m
    intro vs H1 ρ1 x1 sh1 r1
    unfold srcP at es
    split at es <;> first | (rename_i e0; cases e0) | skip
    · rename_i d e0
      obtain ⟨s1, e1, rfl⟩ := Option.map_eq_some_iff.mp es
      cases r1 with
      | cons a r1 =>
        cases r1
        obtain ⟨b, rfl, ⟨xs, hx⟩, w⟩ := srcl_of sh1 a e1 ko
        exact ⟨b, xs, rfl, hx, m _ H1 ρ1 x1 sh1 (walks_enum w)⟩
    · cases es
theorem ej_zip {elts : List Expr} {kk : Nat} {tpos : Pos} (hg : Gl X "zip") (hm : X.mg "zip" = none) (h0 : isStar e = false) (h1 : isStar e2 = false) (hs : EvS X E XR [e, e2] fs) : EvJ X E XR (.Tuple elts kk tpos) (.Call (.Name "zip" p) [e, e2] [] pos) 4 fs := by
  refine piImp (RZ.pi_zipA hg hm hs (starEach_one h0) (by rw [starEach_one h1]; rfl)) fun σ H R ⟨ρ, l, h, r, h', sl, sh, q, m⟩ => ?_
  refine Rdg.can σ H ρ l h r h' _ sl sh q ?_
  cases r with
  | error x => exact m
  | ok as =>
    obtain ⟨s, es, ko, m⟩ := m
    intro vs H1 ρ1 x1 sh1 r1
    unfold srcP at es
    split at es <;> first | (rename_i e0; cases e0) | skip
    · rename_i d d2 e0
      cases r1 with
      | cons a r1 =>
        cases r1 with
        | cons a2 r1 =>
          cases r1
          split at es
          · rename_i xs ys
            cases es
            cases a with
            | tup f r =>
              cases a2 with
              | tup f2 r2 => exact ⟨_, _, _, _, rfl, .inr ⟨f.sq, f2.sq, m _ H1 ρ1 x1 sh1 (walks_zipT f r f2 r2)⟩⟩
          · split at es
            · rename_i s1 s2 e1 e2
              cases es
              obtain ⟨b, rfl, ⟨xs, hx⟩, w⟩ := srcl_of sh1 a e1 (Bool.and_eq_true_iff.mp ko).1
              obtain ⟨b2, rfl, ⟨xs2, hx2⟩, w2⟩ := srcl_of sh1 a2 e2 (Bool.and_eq_true_iff.mp ko).2
              exact ⟨b, b2, xs, xs2, rfl, .inl ⟨hx, hx2, m _ H1 ρ1 x1 sh1 (walks_zip w w2)⟩⟩
            · cases es
    · cases es
end
end Onc
set_option Elab.async false
set_option linter.all false
set_option maxRecDepth 100000
set_option maxHeartbeats 1000000
/-! Comprehensions. -/
namespace Onc
open PySem PySem.Spec PyProof.Rows L2

abbrev bodyF (wp : Loc) (t : T) (ifs : Loc → M Bool) (inner : Loc → List D → M (List D)) : D → List D → M (List D) := fun d acc => match t.set d wp with
      | some l1 => (ifs l1).bnd fun ok => if ok = true then inner l1 acc else M.ret acc
      | none => M.fail
theorem noX_of {α : Type} {m : M α} {h h' : HS} {r : Except Exc α} (e : M.noX m h = some (r, h')) : ∃ a, r = .ok a ∧ m h = some (.ok a, h') := by
  unfold M.noX at e
  split at e
  · cases e; exact ⟨_, rfl, by assumption⟩
  · cases e
theorem compM_step {s : Src} {body : D → List D → M (List D)} {n i : Nat} {acc xs : List D} {h h' : HS} (e : compM s body n i acc h = some (.ok xs, h')) :
    (s.at h i = some none ∧ xs = acc ∧ h' = h) ∨ ∃ d n', n = n' + 1 ∧ s.at h i = some (some d) ∧ M.bnd (body d acc) (fun acc' => compM s body n' (i + 1) acc') h = some (.ok xs, h') := by
  cases n with
  | zero => cases e
  | succ n =>
    unfold compM at e
    split at e
    · cases e
    · cases e; exact .inl ⟨by assumption, rfl, rfl⟩
    · exact .inr ⟨_, n, rfl, by assumption, e⟩
theorem bnd_cases {α β : Type} {m : M α} {f : α → M β} {h h' : HS} {r : Except Exc β} (e : M.bnd m f h = some (r, h')) : (∃ x, m h = some (.error x, h') ∧ r = .error x) ∨ ∃ a h1, m h = some (.ok a, h1) ∧ f a h1 = some (r, h') := by
  unfold M.bnd at e
  cases q : m h with
  | none => rw [q] at e; cases e
  | some z =>
    obtain ⟨z, h1⟩ := z
    rw [q] at e
    cases z with
    | error x => cases e; exact .inl ⟨x, rfl, rfl⟩
    | ok a => exact .inr ⟨a, h1, rfl, e⟩
theorem clause_of {k : Nat} {it : Loc → M (List D)} {l wp : Loc} {t : T} {ifs : Loc → M Bool} {inner : Loc → List D → M (List D)} {acc : List D} {h h' : HS} {r : Except Exc (List D)} (e : clauseM k it l wp t ifs inner acc h = some (r, h')) :
    (∃ x, it l h = some (.error x, h') ∧ r = .error x) ∨ ∃ as h1 s n xs, it l h = some (.ok as, h1) ∧ srcP k as = some s ∧ s.ok h1 = true ∧ r = .ok xs ∧ compM s (bodyF wp t ifs inner) n 0 acc h1 = some (.ok xs, h') := by
  rcases bnd_cases e with ⟨x, q, rfl⟩ | ⟨as, h1, q, e⟩
  · exact .inl ⟨x, q, rfl⟩
  · obtain ⟨s, es, e⟩ := bnd_opt (h := h1) e
    obtain ⟨xs, er, e'⟩ := noX_of e
    have e' : (if s.ok h1 = true then compM s (bodyF wp t ifs inner) (s.len h1 + 1) 0 acc h1 else none) = some (.ok xs, h') := e'
    split at e'
    · exact .inr ⟨as, h1, s, s.len h1 + 1, xs, q, es, by assumption, er, e'⟩
    · cases e'
abbrev lcF (fz : Bool) (k : Nat) (its : Loc → M (List D)) (vs : List Nat) (t : T) (ifs : Loc → M Bool) (elt : Loc → M D) : Loc → M D := fun l =>
  (clauseM k its l (wipeL l vs) t ifs (fun l1 acc => (elt l1).bnd fun x => addTo acc x) []).bnd fun xs => PR.fin fz (.l xs)


section
variable {X : Cx} {E : XK} {XR : XRel} {fz : Bool} {k : Nat} {its : Loc → M (List D)} {vs : List Nat} {t : T} {ifs : Loc → M Bool} {elt : Loc → M D}
/-- the store of a turn -/
theorem goes_body {K : KW} {H : Hp} {ρ : Ro} {h h' : HS} {σ0 : L2.St} {wp : Loc} {d : D} {acc acc' : List D} {v : V} {inner : Loc → List D → M (List D)} {vs : List Nat} {Nx : Hp → Prop} {tk : L2.St → Hp → Prop} {σr : L2.St} (hw : wipe σ0 vs = σr)
    (hv : ∀ i ∈ t.slots, i ∈ vs) (r : RD K H ρ d v) (sl : SimL K H ρ wp σ0) (sh : SimH K H ρ h) (e : bodyF wp t ifs inner d acc h = some (.ok acc', h'))
    (yes : ∀ σ2 H3 ρ3 l1 h3, Ext H ρ H3 ρ3 → SimL K H3 ρ3 l1 σ2 → SimH K H3 ρ3 h3 → inner l1 acc h3 = some (.ok acc', h') → tk σ2 H3)
    (no : ∀ H3 ρ3, Ext H ρ H3 ρ3 → SimH K H3 ρ3 h' → acc' = acc → Nx H3) :
    gCan K t v σ0 H fun σ2 H2 => wipe σ2 vs = σr ∧ Can K EN XR RB ifs σ2 H2 fun b H3 => if b = true then tk σ2 H3 else Nx H3 := by
  unfold bodyF at e
  cases q : t.set d wp with
  | none => rw [q] at e; cases e
  | some l1 =>
    rw [q] at e
    refine ⟨d, ρ, wp, l1, RT.of r, sl, q, fun σ2 sl2 w => ⟨(w vs hv).trans hw, ?_⟩⟩
    have e : M.bnd (ifs l1) (fun ok => if ok = true then inner l1 acc else M.ret acc) h = some (.ok acc', h') := e
    rcases bnd_cases e with ⟨x, q1, q2⟩ | ⟨b, h1, q1, e⟩
    · cases q2
    · refine ⟨ρ, l1, h, _, _, sl2, sh, q1, fun b' H3 ρ3 x3 sh3 rb => ?_⟩
      cases (show b = b' from rb)
      cases b with
      | true =>
        rw [if_pos rfl] at e ⊢
        exact yes σ2 H3 ρ3 l1 h1 x3 (sl2.ext x3) sh3 e
      | false =>
        rw [if_neg (by decide)] at e ⊢
        cases e
        exact no H3 ρ3 x3 sh3 rfl
/-- what an item is added by -/
theorem goes_elt {K : KW} {H0 H : Hp} {ρ0 ρ : Ro} {p : Addr} {h h' : HS} {σ : L2.St} {l1 : Loc} {acc acc' : List D} {Nx : Hp → Prop} (n : H0 p = none) (I : LcI K H0 ρ0 p acc H ρ h) (sl : SimL K H ρ l1 σ)
    (e : M.bnd (elt l1) (fun x => addTo acc x) h = some (.ok acc', h')) (nx : ∀ H' ρ', LcI K H0 ρ0 p acc' H' ρ' h' → Kp H ρ H' ρ' → Nx H') :
    Can K EN XR (RD K) elt σ H fun y H4 => ∃ us, H4 p = some (.lst us) ∧ us.length < sizeLine ∧ Nx (upd H4 p (.lst (us ++ [y]))) := by
  rcases bnd_cases e with ⟨x, q1, q2⟩ | ⟨d, h1, q1, e⟩
  · cases q2
  · refine ⟨ρ, l1, h, _, _, sl, I.sim, q1, fun y H4 ρ4 x4 sh4 ry => ?_⟩
    have I4 := I.move x4 sh4
    have e : (if acc.length < sizeLine then M.ret (acc ++ [d]) else M.fail) h1 = some (.ok acc', h') := e
    split at e
    · rename_i hlt
      cases e
      obtain ⟨us, eu, ru⟩ := I4.cur
      exact ⟨us, eu, by rw [← ru.length]; exact hlt, nx _ _ (I4.grow n eu ry) (x4.kp.trans (kp_grow I4.mem))⟩
    · cases e
theorem lc_fin {K : KW} {H H0 H1 : Hp} {ρ ρ0 ρ1 : Ro} {h h1 h' : HS} {p : Addr} {acc : List D} {rr : Except Exc D} {Q : VK} (n : H0 p = none) (s0 : SimH K H0 ρ0 h1) (x1 : Ext H ρ H0 ρ0) (I : LcI K H0 ρ0 p acc H1 ρ1 h) (e : PR.fin fz (.l acc) h = some (rr, h')) (q : Post K E XR (RD K) H ρ rr h' Q) : Q (.ref p) H1 := by
  have e : (if acc.length ≤ sizeLine then (if fz then some (Except.ok (D.lst acc), h) else some (.ok (.ref h.length), .lst acc :: h)) else none) = some (rr, h') := e
  split at e
  · split at e
    · cases e
      obtain ⟨xe, se, ne, us, eu, ru⟩ := I.done n s0
      exact q _ _ _ (x1.trans xe) se (.lst ⟨eu, ne⟩ ru)
    · cases e
      obtain ⟨xe, se⟩ := I.doneM n s0
      refine q _ _ _ (x1.trans xe) se (.ref ?_)
      rw [← I.sim.len]
      exact nth_len ρ1.l p
  · cases e
theorem rdg_lc (hv : ∀ i ∈ t.slots, i ∈ vs) : Rdg (kw X) E XR (RD (kw X)) (tLc (gI (kw X) E XR k its) (gCan (kw X) t) (Can (kw X) EN XR RB ifs) (Can (kw X) EN XR (RD (kw X)) elt) vs) (lcF fz k its vs t ifs elt) := by
  intro σ H ρ l h rr h' Q sl sh e p
  rcases bnd_cases e with ⟨x, q1, rfl⟩ | ⟨xs, h2, q1, e2⟩
  · rcases clause_of q1 with ⟨y, q2, q3⟩ | ⟨as, h1, s, n, xs, q2, q3, ko, q4, q5⟩
    · cases q3
      exact ⟨ρ, l, h, _, _, sl, sh, q2, p⟩
    · cases q4
  · rcases clause_of q1 with ⟨y, q2, q3⟩ | ⟨as, h1, s, n, xs', q2, q3, ko, q4, q5⟩
    · cases q3
    · cases q4
      refine ⟨ρ, l, h, _, _, sl, sh, q2, s, q3, ko, fun J H1 ρ1 x1 sh1 w => fun D hD => ?_⟩
      refine ⟨fun i m H => ∃ ρi hi acc n, m = n ∧ LcI (kw X) H1 ρ1 D acc H ρi hi ∧ compM s (bodyF (wipeL l vs) t ifs (fun l1 acc => (elt l1).bnd fun x => addTo acc x)) n i acc hi = some (.ok xs, h2), ⟨n, _, _, [], n, rfl, LcI.start sh1 hD, q5⟩, ?_⟩
      rintro i m Hi ⟨ρi, hi, acc, _, rfl, I, q⟩
      obtain ⟨wg, ws⟩ := w Hi ρi hi i (I.kp hD) I.sim
      rcases compM_step q with ⟨qa, rfl, rfl⟩ | ⟨d, n', rfl, qa, q⟩
      · refine .inl ⟨ws qa, ?_⟩
        exact lc_fin hD sh1 x1 I e2 p
      · obtain ⟨jg, jy⟩ := wg d qa
        refine .inr ⟨jg, fun H' => ∃ ρ' h' acc', LcI (kw X) H1 ρ1 D acc' H' ρ' h' ∧ compM s (bodyF (wipeL l vs) t ifs (fun l1 acc => (elt l1).bnd fun x => addTo acc x)) n' (i + 1) acc' h' = some (.ok xs, h2), fun H' ⟨ρ', h', acc', I', q'⟩ => ⟨n', Nat.lt_succ_self _, ρ', h', acc', n', rfl, I', q'⟩, fun x H' hy => ?_⟩
        obtain ⟨xy, sy, ry⟩ := jy x H' hy
        have I1 := I.move xy sy
        rcases bnd_cases q with ⟨y, q6, q7⟩ | ⟨acc', h3, q6, q⟩
        · cases q7
        · have sl' : SimL (kw X) H' ρi (wipeL l vs) (wipe σ vs) := ((sl.ext x1).kp (I1.kp hD)).wipe vs
          exact goes_body (XR := XR) (Nx := fun H' => ∃ ρ' h' acc', LcI (kw X) H1 ρ1 D acc' H' ρ' h' ∧ compM s (bodyF (wipeL l vs) t ifs (fun l1 acc => (elt l1).bnd fun x => addTo acc x)) n' (i + 1) acc' h' = some (.ok xs, h2)) wipe_wipe hv ry sl' sy q6 (fun σ2 H3 ρ3 l1 h4 x3 sl3 sh3 q8 => goes_elt (XR := XR) (Nx := fun H' => ∃ ρ' h' acc', LcI (kw X) H1 ρ1 D acc' H' ρ' h' ∧ compM s (bodyF (wipeL l vs) t ifs (fun l1 acc => (elt l1).bnd fun x => addTo acc x)) n' (i + 1) acc' h' = some (.ok xs, h2)) hD (I1.move x3 sh3) sl3 q8 fun H5 ρ5 I5 _ => ⟨ρ5, h3, acc', I5, q⟩) fun H3 ρ3 x3 sh3 ea => ⟨ρ3, h3, acc', by rw [ea]; exact I1.move x3 sh3, q⟩
abbrev lc2F (fz : Bool) (k : Nat) (its : Loc → M (List D)) (vs : List Nat) (t : T) (ifs : Loc → M Bool) (k2 : Nat) (its2 : Loc → M (List D)) (vs2 : List Nat) (t2 : T) (ifs2 : Loc → M Bool) (elt : Loc → M D) : Loc → M D := fun l =>
  (clauseM k its l (wipeL l vs) t ifs (fun l1 acc => clauseM k2 its2 l1 (wipeL l1 vs2) t2 ifs2 (fun l2 acc => (elt l2).bnd fun x => addTo acc x) acc) []).bnd fun xs => PR.fin fz (.l xs)
variable {k2 : Nat} {its2 : Loc → M (List D)} {vs2 : List Nat} {t2 : T} {ifs2 : Loc → M Bool}
theorem goes_in {K : KW} {H0 H : Hp} {ρ0 ρ : Ro} {p : Addr} {h h' : HS} {σ : L2.St} {l1 : Loc} {acc acc' : List D} {Nx : Hp → Prop} (n : H0 p = none) (I : LcI K H0 ρ0 p acc H ρ h) (sl : SimL K H ρ l1 σ) (hv2 : ∀ i ∈ t2.slots, i ∈ vs2)
    (e : clauseM k2 its2 l1 (wipeL l1 vs2) t2 ifs2 (fun l2 acc => (elt l2).bnd fun x => addTo acc x) acc h = some (.ok acc', h')) (nx : ∀ H' ρ', LcI K H0 ρ0 p acc' H' ρ' h' → Nx H') :
    gI K EN XR k2 its2 σ H fun J1 H4 => ∃ W1 : Nat → Nat → Hp → Prop, (∃ m, W1 0 m H4) ∧ ∀ j k H, W1 j k H →
      (J1.stop j H ∧ Nx H) ∨ (J1.go j H ∧ ∃ Nx1 : Hp → Prop, (∀ H', Nx1 H' → ∃ k', k' < k ∧ W1 (j + 1) k' H') ∧ ∀ x H', J1.yld j H x H' → gCan K t2 x (wipe σ vs2) H' fun σ3 H5 => wipe σ3 vs2 = wipe σ vs2 ∧ Can K EN XR RB ifs2 σ3 H5 fun b H6 =>
        if b = true then Can K EN XR (RD K) elt σ3 H6 fun y H7 => ∃ acc, H7 p = some (.lst acc) ∧ acc.length < sizeLine ∧ Nx1 (upd H7 p (.lst (acc ++ [y]))) else Nx1 H6) := by
  rcases clause_of e with ⟨y, q2, q3⟩ | ⟨as, h1, s, nn, xs, q2, q3, ko, q4, q5⟩
  · cases q3
  · cases q4
    refine ⟨ρ, l1, h, _, _, sl, I.sim, q2, s, q3, ko, fun J H4 ρ4 x4 sh4 w => ?_⟩
    have I4 := I.move x4 sh4
    refine ⟨fun i m H => ∃ ρi hi ac n, m = n ∧ LcI K H0 ρ0 p ac H ρi hi ∧ Kp H4 ρ4 H ρi ∧ compM s (bodyF (wipeL l1 vs2) t2 ifs2 (fun l1 acc => (elt l1).bnd fun x => addTo acc x)) n i ac hi = some (.ok acc', h'), ⟨nn, _, _, acc, nn, rfl, I4, Ext.refl.kp, q5⟩, ?_⟩
    rintro i m Hi ⟨ρi, hi, ac, _, rfl, Ii, ki, q⟩
    obtain ⟨wg, ws⟩ := w Hi ρi hi i ki Ii.sim
    rcases compM_step q with ⟨qa, rfl, rfl⟩ | ⟨d, n', rfl, qa, q⟩
    · exact .inl ⟨ws qa, nx _ _ Ii⟩
    · obtain ⟨jg, jy⟩ := wg d qa
      refine .inr ⟨jg, fun H' => ∃ ρ' h'' ac', LcI K H0 ρ0 p ac' H' ρ' h'' ∧ Kp H4 ρ4 H' ρ' ∧ compM s (bodyF (wipeL l1 vs2) t2 ifs2 (fun l1 acc => (elt l1).bnd fun x => addTo acc x)) n' (i + 1) ac' h'' = some (.ok acc', h'), fun H' ⟨ρ', h'', ac', I', k', q'⟩ => ⟨n', Nat.lt_succ_self _, ρ', h'', ac', n', rfl, I', k', q'⟩, fun x H' hy => ?_⟩
      obtain ⟨xy, sy, ry⟩ := jy x H' hy
      have I1 := Ii.move xy sy
      have k1 := ki.trans xy.kp
      rcases bnd_cases q with ⟨y, q6, q7⟩ | ⟨ac', h3, q6, q⟩
      · cases q7
      · have sl' : SimL K H' ρi (wipeL l1 vs2) (wipe σ vs2) := ((sl.ext x4).kp k1).wipe vs2
        exact goes_body (XR := XR) (Nx := fun H' => ∃ ρ' h'' ac', LcI K H0 ρ0 p ac' H' ρ' h'' ∧ Kp H4 ρ4 H' ρ' ∧ compM s (bodyF (wipeL l1 vs2) t2 ifs2 (fun l1 acc => (elt l1).bnd fun x => addTo acc x)) n' (i + 1) ac' h'' = some (.ok acc', h')) wipe_wipe hv2 ry sl' sy q6
          (fun σ2 H3 ρ3 l1 h4 x3 sl3 sh3 q8 => goes_elt (XR := XR) (Nx := fun H' => ∃ ρ' h'' ac', LcI K H0 ρ0 p ac' H' ρ' h'' ∧ Kp H4 ρ4 H' ρ' ∧ compM s (bodyF _ t2 ifs2 (fun l1 acc => (elt l1).bnd fun x => addTo acc x)) n' (i + 1) ac' h'' = some (.ok acc', h')) n (I1.move x3 sh3) sl3 q8 fun H5 ρ5 I5 k5 => ⟨ρ5, h3, ac', I5, (k1.trans x3.kp).trans k5, q⟩)
          fun H3 ρ3 x3 sh3 ea => ⟨ρ3, h3, ac', by rw [ea]; exact I1.move x3 sh3, k1.trans x3.kp, q⟩
theorem rdg_lc2 (hv : ∀ i ∈ t.slots, i ∈ vs) (hv2 : ∀ i ∈ t2.slots, i ∈ vs2) : Rdg (kw X) E XR (RD (kw X)) (tLc2 (gI (kw X) E XR k its) (gCan (kw X) t) (Can (kw X) EN XR RB ifs) (gI (kw X) EN XR k2 its2) (gCan (kw X) t2) (Can (kw X) EN XR RB ifs2) (Can (kw X) EN XR (RD (kw X)) elt) vs vs2) (lc2F fz k its vs t ifs k2 its2 vs2 t2 ifs2 elt) := by
  intro σ H ρ l h rr h' Q sl sh e p
  rcases bnd_cases e with ⟨x, q1, rfl⟩ | ⟨xs, h2, q1, e2⟩
  · rcases clause_of q1 with ⟨y, q2, q3⟩ | ⟨as, h1, s, n, xs, q2, q3, ko, q4, q5⟩
    · cases q3
      exact ⟨ρ, l, h, _, _, sl, sh, q2, p⟩
    · cases q4
  · rcases clause_of q1 with ⟨y, q2, q3⟩ | ⟨as, h1, s, n, xs', q2, q3, ko, q4, q5⟩
    · cases q3
    · cases q4
      refine ⟨ρ, l, h, _, _, sl, sh, q2, s, q3, ko, fun J H1 ρ1 x1 sh1 w => fun D hD => ?_⟩
      refine ⟨fun i m H => ∃ ρi hi acc n, m = n ∧ LcI (kw X) H1 ρ1 D acc H ρi hi ∧ compM s (bodyF (wipeL l vs) t ifs (fun l1 acc => clauseM k2 its2 l1 (wipeL l1 vs2) t2 ifs2 (fun l2 acc => (elt l2).bnd fun x => addTo acc x) acc)) n i acc hi = some (.ok xs, h2), ⟨n, _, _, [], n, rfl, LcI.start sh1 hD, q5⟩, ?_⟩
      rintro i m Hi ⟨ρi, hi, acc, _, rfl, I, q⟩
      obtain ⟨wg, ws⟩ := w Hi ρi hi i (I.kp hD) I.sim
      rcases compM_step q with ⟨qa, rfl, rfl⟩ | ⟨d, n', rfl, qa, q⟩
      · exact .inl ⟨ws qa, lc_fin hD sh1 x1 I e2 p⟩
      · obtain ⟨jg, jy⟩ := wg d qa
        refine .inr ⟨jg, fun H' => ∃ ρ' h' acc', LcI (kw X) H1 ρ1 D acc' H' ρ' h' ∧ compM s (bodyF (wipeL l vs) t ifs (fun l1 acc => clauseM k2 its2 l1 (wipeL l1 vs2) t2 ifs2 (fun l2 acc => (elt l2).bnd fun x => addTo acc x) acc)) n' (i + 1) acc' h' = some (.ok xs, h2), fun H' ⟨ρ', h', acc', I', q'⟩ => ⟨n', Nat.lt_succ_self _, ρ', h', acc', n', rfl, I', q'⟩, fun x H' hy => ?_⟩
        obtain ⟨xy, sy, ry⟩ := jy x H' hy
        have I1 := I.move xy sy
        rcases bnd_cases q with ⟨y, q6, q7⟩ | ⟨acc', h3, q6, q⟩
        · cases q7
        · have sl' : SimL (kw X) H' ρi (wipeL l vs) (wipe σ vs) := ((sl.ext x1).kp (I1.kp hD)).wipe vs
          exact goes_body (XR := XR) (Nx := fun H' => ∃ ρ' h' acc', LcI (kw X) H1 ρ1 D acc' H' ρ' h' ∧ compM s (bodyF (wipeL l vs) t ifs (fun l1 acc => clauseM k2 its2 l1 (wipeL l1 vs2) t2 ifs2 (fun l2 acc => (elt l2).bnd fun x => addTo acc x) acc)) n' (i + 1) acc' h' = some (.ok xs, h2)) wipe_wipe hv ry sl' sy q6
            (fun σ2 H3 ρ3 l1 h4 x3 sl3 sh3 q8 => goes_in (XR := XR) (Nx := fun H' => ∃ ρ' h' acc', LcI (kw X) H1 ρ1 D acc' H' ρ' h' ∧ compM s (bodyF (wipeL l vs) t ifs (fun l1 acc => clauseM k2 its2 l1 (wipeL l1 vs2) t2 ifs2 (fun l2 acc => (elt l2).bnd fun x => addTo acc x) acc)) n' (i + 1) acc' h' = some (.ok xs, h2)) hD (I1.move x3 sh3) sl3 hv2 q8 fun H5 ρ5 I5 => ⟨ρ5, h3, acc', I5, q⟩)
            fun H3 ρ3 x3 sh3 ea => ⟨ρ3, h3, acc', by rw [ea]; exact I1.move x3 sh3, q⟩
end
end Onc
set_option Elab.async false
set_option linter.all false
set_option maxRecDepth 100000
set_option maxHeartbeats 1000000
/-! Judgements of statements. -/
namespace Onc
open PySem PySem.Spec PyProof.Rows L2

def PostF (K : KW) (E : XK) (XR : XRel) (H : Hp) (ρ : Ro) (r : Except Exc Fl) (h' : HS) (D : Ends) : Prop :=
  match r with
  | .ok (.nx l') => ∀ σ' H' ρ', Ext H ρ H' ρ' → SimH K H' ρ' h' → SimL K H' ρ' l' σ' → D.nx σ' H'
  | .ok (.bk l') => ∀ σ' H' ρ', Ext H ρ H' ρ' → SimH K H' ρ' h' → SimL K H' ρ' l' σ' → D.bk σ' H'
  | .ok (.ct l') => ∀ σ' H' ρ', Ext H ρ H' ρ' → SimH K H' ρ' h' → SimL K H' ρ' l' σ' → D.ct σ' H'
  | .ok (.rt d) => ∀ v H' ρ', Ext H ρ H' ρ' → SimH K H' ρ' h' → RD K H' ρ' d v → D.rt v H'
  | .error x => ∀ c d H' ρ', Ext H ρ H' ρ' → SimH K H' ρ' h' → XR H' ρ' x c d → E c d H'
theorem PostF.ext {K : KW} {E : XK} {XR : XRel} {H H1 : Hp} {ρ ρ1 : Ro} {r : Except Exc Fl} {h' : HS} {D : Ends} (x : Ext H ρ H1 ρ1) (p : PostF K E XR H ρ r h' D) : PostF K E XR H1 ρ1 r h' D := by
  cases r with
  | ok f => cases f <;> exact fun v H' ρ' y => p v H' ρ' (x.trans y)
  | error e => exact fun c d H' ρ' y => p c d H' ρ' (x.trans y)
def sCan (K : KW) (E : XK) (XR : XRel) (f : Loc → M Fl) : TS := fun D σ H => ∃ (ρ : Ro) (l : Loc) (h : HS) (r : Except Exc Fl) (h' : HS), SimL K H ρ l σ ∧ SimH K H ρ h ∧ f l h = some (r, h') ∧ PostF K E XR H ρ r h' D
abbrev EvSt (X : Cx) (E : XK) (XR : XRel) (s : Stmt) (f : Loc → M Fl) : Prop := PS X s (sCan (kw X) E XR f)
abbrev EvB (X : Cx) (E : XK) (XR : XRel) (ss : List Stmt) (f : Loc → M Fl) : Prop := PSs X ss (sCan (kw X) E XR f)
theorem psImp {X : Cx} {s : Stmt} {t u : TS} (a : PS X s t) (h : ∀ D σ H, u D σ H → t D σ H) : PS X s u := ⟨fun pins s σ H D I q => a.run pins s σ H D I (h D σ H q)⟩
theorem pssImp {X : Cx} {s : List Stmt} {t u : TS} (a : PSs X s t) (h : ∀ D σ H, u D σ H → t D σ H) : PSs X s u := ⟨fun pins s σ H D I q => a.run pins s σ H D I (h D σ H q)⟩
section
variable {X : Cx} {E : XK} {XR : XRel} {K : KW}
/-- a value ahead of the rest -/
theorem can_bnd {α β : Type} {R : Hp → Ro → α → β → Prop} {fa : Loc → M α} {k : α → M Fl} {D : Ends} {σ : L2.St} {H : Hp} {ρ : Ro} {l : Loc} {h h' : HS} {r : Except Exc Fl} {Q : β → Hp → Prop} (sl : SimL K H ρ l σ) (sh : SimH K H ρ h) (e : M.bnd (fa l) k h = some (r, h')) (p : PostF K E XR H ρ r h' D)
    (next : ∀ a h1 b H1 ρ1, Ext H ρ H1 ρ1 → SimL K H1 ρ1 l σ → SimH K H1 ρ1 h1 → R H1 ρ1 a b → k a h1 = some (r, h') → PostF K E XR H1 ρ1 r h' D → Q b H1) : Can K E XR R fa σ H Q := by
  rcases bnd_cases e with ⟨x, q, rfl⟩ | ⟨a, h1, q, e⟩
  · exact ⟨ρ, l, h, _, _, sl, sh, q, p⟩
  · exact ⟨ρ, l, h, _, _, sl, sh, q, fun b H1 ρ1 x1 sh1 r1 => next a h1 b H1 ρ1 x1 (sl.ext x1) sh1 r1 e (p.ext x1)⟩
theorem PostF.nx {H : Hp} {ρ : Ro} {l : Loc} {h : HS} {D : Ends} {σ : L2.St} (p : PostF K E XR H ρ (.ok (.nx l)) h D) (sh : SimH K H ρ h) (sl : SimL K H ρ l σ) : D.nx σ H := p σ H ρ Ext.refl sh sl

/-! ### blocks -/
theorem evb_nil : EvB X E XR [] (fun l => M.ret (.nx l)) := by
  refine pssImp pss_nil fun D σ H ⟨ρ, l, h, r, h', sl, sh, e, p⟩ => ?_
  cases e
  exact p.nx sh sl
theorem evb_cons {s : Stmt} {ss : List Stmt} {f g : Loc → M Fl} (hs : EvSt X E XR s f) (hr : EvB X E XR ss g) : EvB X E XR (s :: ss) (fun l => (f l).bnd fun z => match z with
    | .nx l' => g l'
    | f => M.ret f) := by
  refine pssImp (pss_cons hs hr) fun D σ H ⟨ρ, l, h, r, h', sl, sh, e, p⟩ => ?_
  rcases bnd_cases e with ⟨x, q, rfl⟩ | ⟨a, h1, q, e⟩
  · exact ⟨ρ, l, h, _, _, sl, sh, q, p⟩
  · refine ⟨ρ, l, h, _, _, sl, sh, q, ?_⟩
    cases a with
    | nx l' => exact fun σ' H' ρ' x s1 sl1 => ⟨ρ', l', h1, r, h', sl1, s1, e, p.ext x⟩
    | rt d => cases e; exact p
    | bk l' => cases e; exact p
    | ct l' => cases e; exact p
theorem evs_pass {pos : Pos} : EvSt X E XR (.Pass pos) (fun l => M.ret (.nx l)) := psImp ps_pass fun D σ H ⟨ρ, l, h, r, h', sl, sh, e, p⟩ => by cases e; exact p.nx sh sl
theorem evs_doc {x j pos pos'} : EvSt X E XR (.Expr (.Constant (.str x) j pos) pos') (fun l => M.ret (.nx l)) := psImp ps_doc fun D σ H ⟨ρ, l, h, r, h', sl, sh, e, p⟩ => by cases e; exact p.nx sh sl
variable {e : Expr} {fa : Loc → M D} {pos : Pos}
theorem swaps_none {l : Nat} {env : Env} (h : isCompE e = false) : swapsWith e none l env = pure false := by
  cases e <;> first | rfl | cases h
theorem evs_expr (hc : isCompE e = false) (he : EvE X E XR e fa) : EvSt X E XR (.Expr e pos) (fun l => (fa l).bnd fun _ => M.ret (.nx l)) := by
  refine psImp (ps_expr he (swaps_none hc)) fun D σ H ⟨ρ, l, h, r, h', sl, sh, e, p⟩ => ?_
  refine can_bnd sl sh e p fun a h1 b H1 ρ1 x1 sl1 sh1 r1 e1 p1 => ?_
  cases e1
  exact p1.nx sh1 sl1
theorem evs_ret (he : EvE X E XR e fa) : EvSt X E XR (.Return (some e) pos) (fun l => (fa l).bnd fun x => M.ret (.rt x)) := by
  refine psImp (ps_ret he) fun D σ H ⟨ρ, l, h, r, h', sl, sh, e, p⟩ => ?_
  refine can_bnd sl sh e p fun a h1 b H1 ρ1 x1 sl1 sh1 r1 e1 p1 => ?_
  cases e1
  exact p1 b H1 ρ1 Ext.refl sh1 r1
theorem evs_retN : EvSt X E XR (.Return none pos) (fun _ => M.ret (.rt .non)) := psImp ps_retN fun D σ H ⟨ρ, l, h, r, h', sl, sh, e, p⟩ => by cases e; exact p _ H ρ Ext.refl sh .non
theorem evs_if {c : Expr} {a b : List Stmt} {tc : Loc → M Bool} {f g : Loc → M Fl} (hc : EvT X E XR c tc) (ha : EvB X E XR a f) (hb : EvB X E XR b g) : EvSt X E XR (.If c a b pos) (fun l => (tc l).bnd fun k => if k = true then f l else g l) := by
  refine psImp (ps_if hc ha hb) fun D σ H ⟨ρ, l, h, r, h', sl, sh, e, p⟩ => ?_
  refine can_bnd sl sh e p fun k h1 k' H1 ρ1 x1 sl1 sh1 r1 e1 p1 => ?_
  cases (show k = k' from r1)
  cases k with
  | true => exact ⟨ρ1, l, h1, r, h', sl1, sh1, e1, p1⟩
  | false => exact ⟨ρ1, l, h1, r, h', sl1, sh1, e1, p1⟩

/-! ### stores -/
def swapB (sc : Scope) (e : Expr) (x : Str) (px : Pos) : Bool :=
  match (match e with | .ListComp _ _ s _ | .SetComp _ _ s _ | .DictComp _ _ _ s _ => some s | _ => none) with
  | none => false
  | some s => sc.names.lookup x == some .local && px.line == e.pos.line && !(s.names.any fun (n, k) => n == x && (k == .local || k == .cell))
theorem swap_ok {env : Env} {x : Str} {px : Pos} {l : Nat} (hk : env.scope.kind = .function) : swapsWith e (some (.Name x px)) l env = pure (swapB env.scope e x px) := by
  have hb : env.blockKind = .function := by unfold Env.blockKind; rw [hk]; rfl
  cases e <;> first | rfl | skip
  all_goals
    unfold swapsWith swapB
    simp only [hb]
    rfl
def tgName : Expr → Bool
  | .Name .. => true
  | _ => false
theorem swap_other {env : Env} {tg : Expr} {l : Nat} (h : tgName tg = false) : swapsWith e (some tg) l env = pure false := by
  cases tg <;> first | (cases h; done) | skip
  all_goals
    cases e <;> rfl
/-- the stores of a pair that are turned round: which -/
def swC (sc : Scope) (tg e : Expr) : Option (Option (List Str)) :=
  match tg, e with
  | .Tuple ts _ _, .Tuple vs _ _ | .List ts _, .Tuple vs _ _ =>
    if (!(ts.length == 2 || ts.length == 3) || vs.length != ts.length) = true then some none
    else if (vs.any fun | .Starred .. => true | _ => false) = true then some none else
    let line := (ts.head?.map (·.pos.line)).getD 0
    let names := ts.filterMap fun
      | .Name id pos => if sc.names.lookup id == some .local && pos.line == line then some id else none
      | _ => none
    if (names.length != ts.length || names.eraseDups.length != names.length) = true then some none
    else if vs.all (foldedForSure 8) = true then some none
    else if vs.all (constantsAlone 8) = true then none
    else some (some names)
  | _, _ => some none
theorem sw_ok {env : Env} {tg : Expr} {r : Option (List Str)} (hk : env.scope.kind = .function) (h : swC env.scope tg e = some r) : swappedStores [tg] e env = pure r := by
  have hb : env.blockKind = .function := by unfold Env.blockKind; rw [hk]; rfl
  have ht : tg ≠ tg → False := fun z => z rfl
  cases tg <;> first | (cases h; rfl) | skip
  all_goals
    cases e <;> first | (cases h; rfl) | skip
    all_goals
      unfold swappedStores
      unfold swC at h
      simp only [hb] at h ⊢
      split at h
      · rename_i h1
        cases h
        have h1 : (!(_ : Bool) || _) = true := h1
        simp only [Bool.or_eq_true] at h1
        rw [if_pos (by simp only [Bool.or_eq_true]; exact .inl h1)]
      · rename_i h1
        rw [if_neg (by simp only [Bool.or_eq_true] at h1 ⊢; exact fun z => z.elim h1 (fun z => by cases z))]
        split at h
        · rename_i h2
          cases h
          exact if_pos h2
        · rename_i h2
          refine Eq.trans (if_neg h2) ?_
          split at h
          · rename_i h3
            cases h
            exact if_pos h3
          · rename_i h3
            refine Eq.trans (if_neg h3) ?_
            split at h
            · rename_i h4
              cases h
              exact if_pos h4
            · rename_i h4
              refine Eq.trans (if_neg h4) ?_
              split at h
              · cases h
              · rename_i h5
                cases h
                exact if_neg h5

theorem assigns_one {tg : Expr} {env : Env} (h : isStar tg = false) : (assignEach [tg] env).map (·.2) = [assign tg env] := by rw [assignEach_one h]; rfl
abbrev asgF (t : T) (fa : Loc → M D) : Loc → M Fl := fun l => (fa l).bnd fun x => (M.rd x).bnd fun x' => storeF t x x' l
theorem asg_of {t : T} {x : D} {l : Loc} {h h' : HS} {r : Except Exc Fl} (e : M.bnd (M.rd x) (fun x' => storeF t x x' l) h = some (r, h')) :
    ∃ d l', (d = x ∨ (d = rd h x ∧ ∀ i, t ≠ .nm i)) ∧ t.set d l = some l' ∧ r = .ok (.nx l') ∧ h' = h := by
  have e : storeF t x (rd h x) l h = some (r, h') := e
  cases t with
  | nm i => cases e; exact ⟨x, _, .inl rfl, rfl, rfl, rfl⟩
  | tp ts =>
    have e : (match T.set (.tp ts) (rd h x) l with
      | some l' => M.ret (Fl.nx l')
      | none => M.fail) h = some (r, h') := e
    cases q : T.set (.tp ts) (rd h x) l with
    | none => rw [q] at e; cases e
    | some l' => rw [q] at e; cases e; exact ⟨_, _, .inr ⟨rfl, fun _ z => nomatch z⟩, q, rfl, rfl⟩
  | nil => exact nomatch e
  | cons a b => exact nomatch e
theorem rt_of {t : T} {H : Hp} {ρ : Ro} {h : HS} {x d : D} {v : V} (sh : SimH K H ρ h) (r : RD K H ρ x v) (q : d = x ∨ (d = rd h x ∧ ∀ i, t ≠ .nm i)) : RT K H ρ t d v := by
  rcases q with rfl | ⟨rfl, nt⟩
  · exact RT.of r
  · cases t with
    | nm i => exact absurd rfl (nt i)
    | _ => exact rd_ok sh r
/-- what an assignment's store wants -/
theorem asg_go {t : T} {N : Ends} {σ : L2.St} {H : Hp} {ρ : Ro} {l : Loc} {h h' : HS} {r : Except Exc Fl} {x : D} {v : V} (sl : SimL K H ρ l σ) (sh : SimH K H ρ h) (rx : RD K H ρ x v) (e : M.bnd (M.rd x) (fun x' => storeF t x x' l) h = some (r, h')) (p : PostF K E XR H ρ r h' N) : gCan K t v σ H N.nx := by
  obtain ⟨d, l', q, el, rfl, rfl⟩ := asg_of e
  exact ⟨d, ρ, l, l', rt_of sh rx q, sl, el, fun σ' sl' _ => p.nx sh sl'⟩
theorem evs_asg {t : T} {tg : Expr} (he : EvE X E XR e fa) (hg : PG X tg (gCan (kw X) t)) (hs : swapsWithSole [tg] e pos.line X.env = pure false) (hw : swappedStores [tg] e X.env = pure none) (h1 : isStar tg = false) :
    EvSt X E XR (.Assign [tg] e pos) (asgF t fa) := by
  refine psImp (ps_asg he hg hs hw (assigns_one h1)) fun D σ H ⟨ρ, l, h, r, h', sl, sh, e, p⟩ => ?_
  refine can_bnd sl sh e p fun a h1 b H1 ρ1 x1 sl1 sh1 r1 e1 p1 => ?_
  exact asg_go sl1 sh1 r1 e1 p1
/-- name = [..] on one line -/
theorem evs_asgC {i : Nat} {y : Str} {py : Pos} {te : TE} (hp : PS X (.Assign [.Name y py] e pos) (tAsg te (gName i))) (hr : Rdg (kw X) E XR (RD (kw X)) te fa) : EvSt X E XR (.Assign [.Name y py] e pos) (asgF (.nm i) fa) := by
  refine psImp hp fun D σ H ⟨ρ, l, h, r, h', sl, sh, e, p⟩ => ?_
  have q : Can (kw X) E XR (RD (kw X)) fa σ H (fun x H1 => gName i x σ H1 D.nx) := by
    refine can_bnd sl sh e p fun a h1 b H1 ρ1 x1 sl1 sh1 r1 e1 p1 => ?_
    cases e1
    exact p1.nx sh1 (sl1.set r1)
  obtain ⟨ρ, l, h, r, h', sl, sh, e, p⟩ := q
  exact hr σ H ρ l h r h' _ sl sh e p
/-- names that are stored from the right -/
def setL (σ : L2.St) : List Nat → List V → L2.St
  | i :: is, v :: vs => setL (σ.set i (some v)) is vs
  | _, _ => σ
theorem setL_out {i : Nat} {v : V} : ∀ {is : List Nat} {vs : List V} {σ : L2.St}, i ∉ is → setL (σ.set i (some v)) is vs = (setL σ is vs).set i (some v)
  | [], _, _, _ => by unfold setL; rfl
  | j :: is, [], _, _ => by unfold setL; rfl
  | j :: is, w :: vs, σ, h => by
    unfold setL
    rw [List.set_comm _ _ (fun z => h (by rw [z]; exact List.mem_cons_self))]
    exact setL_out fun m => h (List.mem_cons_of_mem _ m)
theorem setL_last {i : Nat} {v : V} : ∀ {is : List Nat} {vs : List V} {σ : L2.St}, is.length = vs.length → setL σ (is ++ [i]) (vs ++ [v]) = (setL σ is vs).set i (some v)
  | [], [], _, _ => rfl
  | [], _ :: _, _, h => nomatch h
  | _ :: _, [], _, h => nomatch h
  | j :: is, w :: vs, σ, h => by
    show setL (σ.set j (some w)) (is ++ [i]) (vs ++ [v]) = _
    rw [setL_last (by simpa using h)]
    rfl
theorem setL_rev : ∀ {is : List Nat} {vs : List V} {σ : L2.St}, is.Nodup → is.length = vs.length → setL σ is.reverse vs.reverse = setL σ is vs
  | [], [], _, _, _ => rfl
  | [], _ :: _, _, _, h => nomatch h
  | _ :: _, [], _, _, h => nomatch h
  | j :: is, w :: vs, σ, nd, h => by
    have nd' := List.nodup_cons.mp nd
    rw [List.reverse_cons, List.reverse_cons, setL_last (by simpa using h), setL_rev nd'.2 (by simpa using h)]
    show _ = setL (σ.set j (some w)) is vs
    rw [setL_out nd'.1]
theorem binds_ok {pins : List (Addr × Obj)} (hN : X.N.Nodup) : ∀ (ns : List Str) (is : List Nat) (vs : List V) (us : List Value) (s : Shared) (σ : L2.St) (H : Hp) (Q : L2.St → Hp → Prop), ns.length = is.length → is.length = vs.length → (∀ p ∈ ns.zip is, X.N[p.2]? = some p.1 ∧ X.env.scope.names.lookup p.1 = some .local) →
    Inv X pins σ H s → Vals vs us → Q (setL σ is vs) H → wpAny (model X.prog X.w) X.A (assignInOrder (ns.map fun n => bindName X.env n) us) (fun _ s' => ∃ σ' H', Inv X pins σ' H' s' ∧ Q σ' H') X.xe s
  | [], [], [], us, s, σ, H, Q, _, _, _, I, r, q => by cases r; exact assignInOrder_nil ⟨σ, H, I, q⟩
  | n :: ns, i :: is, v :: vs, us, s, σ, H, Q, h1, h2, ha, I, r, q => by
    cases r with
    | cons r rr =>
      obtain ⟨hi, hx⟩ := ha (n, i) List.mem_cons_self
      refine assignInOrder_cons (wpAny_bindName (store_ok I hN hi (.inl hx) r (fun s2 I4 => ?_) (.inr hx)))
      exact binds_ok hN ns is vs _ s2 _ H Q (by simpa using h1) (by simpa using h2) (fun p hp => ha p (List.mem_cons_of_mem _ hp)) I4 rr q
  | [], _ :: _, _, _, _, _, _, _, h, _, _, _, _, _ => nomatch h
  | _ :: _, [], _, _, _, _, _, _, h, _, _, _, _, _ => nomatch h
  | _, [], _ :: _, _, _, _, _, _, _, h, _, _, _, _ => nomatch h
  | _, _ :: _, [], _, _, _, _, _, _, h, _, _, _, _ => nomatch h
theorem zip_app1 {α β : Type} {a : α} {b : β} : ∀ {xs : List α} {ys : List β}, xs.length = ys.length → (xs ++ [a]).zip (ys ++ [b]) = xs.zip ys ++ [(a, b)]
  | [], [], _ => rfl
  | [], _ :: _, h => nomatch h
  | _ :: _, [], h => nomatch h
  | x :: xs, y :: ys, h => by
    have := zip_app1 (a := a) (b := b) (xs := xs) (ys := ys) (by simpa using h)
    simp only [List.cons_append, List.zip_cons_cons, this]
theorem zip_rev {α β : Type} : ∀ {xs : List α} {ys : List β}, xs.length = ys.length → xs.reverse.zip ys.reverse = (xs.zip ys).reverse
  | [], [], _ => rfl
  | [], _ :: _, h => nomatch h
  | _ :: _, [], h => nomatch h
  | x :: xs, y :: ys, h => by
    have hl : xs.length = ys.length := by simpa using h
    rw [List.reverse_cons, List.reverse_cons, zip_app1 (by simpa using hl), zip_rev hl, List.zip_cons_cons, List.reverse_cons]
def tSwap (K : KW) (te : TE) (is : List Nat) : TS := fun D σ H => te σ H fun v H1 => ∃ a xs, v = .ref a ∧ SqT K H1 a xs ∧ xs.length = is.length ∧ D.nx (setL σ is xs) H1
theorem ps_swap {tg : Expr} {te : TE} {ns : List Str} {is : List Nat} (hc : X.calm = true) (hN : X.N.Nodup) (he : PE X e te) (hs : swapsWithSole [tg] e pos.line X.env = pure false) (hw : swappedStores [tg] e X.env = pure (some ns)) (nd : is.Nodup) (hl : ns.length = is.length)
    (ha : ∀ p ∈ ns.zip is, X.N[p.2]? = some p.1 ∧ X.env.scope.names.lookup p.1 = some .local) : PS X (.Assign [tg] e pos) (tSwap (kw X) te is) := by
  refine ⟨fun pins s σ H D I h => ?_⟩
  rw [exec_Assign_arm]
  refine wpAny_bind (wpAny_standAt ?_)
  rw [hs]
  refine wpAny_bind (wpAny_pure ?_)
  rw [if_neg (by decide)]
  refine wpAny_bind (thn (he.run pins s σ H _ I h) fun u s1 ⟨v, H1, I1, r1, a, xs, ev, hq, hx, q1⟩ => ?_)
  subst ev
  cases r1
  rw [hw]
  refine wpAny_bind (wpAny_pure ?_)
  obtain ⟨its, rv, ht, hz⟩ := I1.tuple hq
  show wpAny (model X.prog X.w) X.A (do rule "assign.swapped-stores"; let items ← unpackItems (.ref a) ns.length none; assignInOrder (ns.reverse.map fun n => bindName X.env n) items.reverse; pure Flow.next) _ _ _
  rw [show ns.length = its.toArray.size by rw [hl, ← hx, rv.length, List.size_toArray]]
  refine wpAny_bind (wpAny_rule (wpAny_bind (unpackItems_tuple (I1.ok.hd hc) ht fun h' hx' => ?_)))
  have I3 : Inv X pins σ H1 { s1 with heap := h' } := I1.kept (t' := s1.toks) fun b o e => hx' b o (Nat.ne_of_lt (Heap.lt_size e)) e
  refine wpAny_bind (thn (binds_ok hN ns.reverse is.reverse xs.reverse its.reverse _ σ H1 D.nx (by simpa using hl) (by simpa using hx.symm) ?_ I3 ?_ ?_) fun _ s2 q => wpAny_pure q)
  · intro p hp
    have hz : ns.reverse.zip is.reverse = (ns.zip is).reverse := zip_rev hl
    rw [hz] at hp
    exact ha p (List.mem_reverse.mp hp)
  · exact rv.reverse
  · rw [setL_rev nd hx.symm]
    exact q1

/-- a tuple of names, each with its place -/
def T.names : T → Option (List Nat)
  | .nil => some []
  | .cons (.nm i) r => (T.names r).map (i :: ·)
  | _ => none
theorem sets_names : ∀ {ts : T} {is : List Nat} {xs : List D} {vs : List V} {l l' : Loc} {σ : L2.St} {H : Hp} {ρ : Ro}, ts.names = some is → T.sets ts xs l = some l' → RDs K H ρ xs vs → SimL K H ρ l σ → vs.length = is.length ∧ SimL K H ρ l' (setL σ is vs)
  | .nil, is, xs, vs, l, l', σ, H, ρ, hn, e, r, sl => by
    cases hn
    cases xs with
    | nil => cases r; rw [T.sets] at e; cases e; exact ⟨rfl, sl⟩
    | cons x xs => simp [T.sets] at e
  | .cons (.nm i) ts, is, xs, vs, l, l', σ, H, ρ, hn, e, r, sl => by
    rw [T.names] at hn
    obtain ⟨js, hj, rfl⟩ := Option.map_eq_some_iff.mp hn
    cases xs with
    | nil => simp [T.sets] at e
    | cons x xs =>
      cases r with
      | cons a r =>
        rw [T.sets, T.set] at e
        obtain ⟨h1, h2⟩ := sets_names hj e r (sl.set a)
        exact ⟨by rw [List.length_cons, List.length_cons, h1], h2⟩
  | .nm _, _, _, _, _, _, _, _, _, hn, _, _, _ => nomatch hn
  | .tp _, _, _, _, _, _, _, _, _, hn, _, _, _ => nomatch hn
  | .cons .nil _, _, _, _, _, _, _, _, _, hn, _, _, _ => nomatch hn
  | .cons (.cons _ _) _, _, _, _, _, _, _, _, _, hn, _, _, _ => nomatch hn
  | .cons (.tp _) _, _, _, _, _, _, _, _, _, hn, _, _, _ => nomatch hn
theorem evs_swap {ts : T} {tg : Expr} {ns : List Str} {is : List Nat} (hc : X.calm = true) (hN : X.N.Nodup) (he : EvE X E XR e fa) (htup : ∀ l h d h', fa l h = some (.ok d, h') → ∃ xs, d = .tup xs) (hs : swapsWithSole [tg] e pos.line X.env = pure false) (hw : swappedStores [tg] e X.env = pure (some ns)) (hi : ts.names = some is) (nd : is.Nodup) (hl : ns.length = is.length)
    (ha : ∀ p ∈ ns.zip is, X.N[p.2]? = some p.1 ∧ X.env.scope.names.lookup p.1 = some .local) : EvSt X E XR (.Assign [tg] e pos) (asgF (.tp ts) fa) := by
  refine psImp (ps_swap hc hN he hs hw nd hl ha) fun N σ H ⟨ρ, l, h, r, h', sl, sh, e, p⟩ => ?_
  rcases bnd_cases e with ⟨x, q, rfl⟩ | ⟨a, h1, q, e⟩
  · exact ⟨ρ, l, h, _, _, sl, sh, q, p⟩
  · refine ⟨ρ, l, h, _, _, sl, sh, q, fun b H1 ρ1 x1 sh1 r1 => ?_⟩
    obtain ⟨xs, rfl⟩ := htup l h a h1 q
    obtain ⟨d, l', q2, el, rfl, rfl⟩ := asg_of e
    have q2 : d = .tup xs := q2.elim id fun z => z.1
    subst q2
    cases r1 with
    | tup f r1 =>
      obtain ⟨e1, s1⟩ := sets_names hi (show T.sets ts xs l = some l' by rw [T.set] at el; exact el) r1 (sl.ext x1)
      exact ⟨_, _, rfl, f.sq, e1, p _ H1 ρ1 x1 sh1 s1⟩
/-- name += e, ints -/
abbrev augF (i : Nat) (op : Operator) (fa : Loc → M D) : Loc → M Fl := fun l => (M.opt ((l[i]?).getD none)).bnd fun x => (fa l).bnd fun y => (M.opt (augP op x y)).bnd fun z => M.ret (.nx (l.set i (some (.int z))))
theorem evs_aug {i : Nat} {x : Str} {op : Operator} {px : Pos} (hN : X.N.Nodup) (hi : X.N[i]? = some x) (hx : L2.Loc X.env.scope x) (hf : X.fn x = true ∨ X.env.scope.names.lookup x = some .local) (he : EvE X E XR e fa) (ho : op = .Add ∨ op = .Sub) : EvSt X E XR (.AugAssign (.Name x px) op e pos) (augF i op fa) := by
  have go : ∀ {f : Int → Int → Int}, PIp X op (ipI f) → (∀ a b z, augP op a b = some z → ∃ u v, a = .int u ∧ b = .int v ∧ z = f u v) → EvSt X E XR (.AugAssign (.Name x px) op e pos) (augF i op fa) := by
    intro f hp hf2
    refine psImp (ps_aug hN hi hx he hp hf) fun N σ H ⟨ρ, l, h, r, h', sl, sh, e, p⟩ => ?_
    obtain ⟨d, ed, e⟩ := bnd_opt (h := h) e
    have ed : l[i]? = some (some d) := by
      cases q : l[i]? with
      | none => rw [q] at ed; cases ed
      | some o => rw [q] at ed; exact congrArg some ed
    obtain ⟨v, ev, rv⟩ := sl.2 i d ed
    refine ⟨v, ev, can_bnd sl sh e p fun y h1 b H1 ρ1 x1 sl1 sh1 r1 e1 p1 => ?_⟩
    obtain ⟨z, ez, e1⟩ := bnd_opt (h := h1) e1
    obtain ⟨u, w, rfl, rfl, rfl⟩ := hf2 _ _ _ ez
    cases e1
    cases rv
    cases r1
    exact ⟨u, w, rfl, rfl, p1.nx sh1 (sl1.set (.int _))⟩
  rcases ho with rfl | rfl
  · refine go ip_add fun a b z e => ?_
    cases a <;> try (cases e; done)
    cases b <;> try (cases e; done)
    cases e; exact ⟨_, _, rfl, rfl, rfl⟩
  · refine go ip_sub fun a b z e => ?_
    cases a <;> try (cases e; done)
    cases b <;> try (cases e; done)
    cases e; exact ⟨_, _, rfl, rfl, rfl⟩
/-- o[i] = e -/
abbrev setixF (fo fi fa : Loc → M D) : Loc → M Fl := fun l => (fa l).bnd fun x => (fo l).bnd fun y => (fi l).bnd fun z => (M.getL y).bnd fun p => match z with
    | .int k => match ixN p.2.length k with
      | some j => (M.upd p.1 (.lst (p.2.set j x))).bnd fun _ => M.ret (.nx l)
      | none => M.fail
    | _ => M.fail
theorem evs_setix {o i : Expr} {fo fi : Loc → M D} {px : Pos} (hsl : isSlice i = false) (ho : EvE X E XR o fo) (hi : EvE X E XR i fi) (he : EvE X E XR e fa) : EvSt X E XR (.Assign [.Subscript o i px] e pos) (setixF fo fi fa) := by
  have has : ∀ v, assign (.Subscript o i px) X.env v = (do
      let ov ← holding [v] (eval o X.env)
      let iv ← holding [v, ov] (eval i X.env)
      standAt px
      holding [v, ov, iv] (setItem ov iv v)
      release [v, ov, iv] []) := by
    intro v
    cases i <;> first | rfl | cases hsl
  refine psImp (ps_asg he (pg_sub ho hi set_list has) (show swapsWith e (some (.Subscript o i px)) pos.line X.env = pure false from swap_other rfl) (by cases e <;> rfl) rfl) fun N σ H ⟨ρ, l, h, r, h', sl, sh, e, p⟩ => ?_
  refine can_bnd sl sh e p fun x h1 u H1 ρ1 x1 sl1 sh1 r1 e1 p1 => ?_
  refine can_bnd sl1 sh1 e1 p1 fun y h2 w H2 ρ2 x2 sl2 sh2 r2 e2 p2 => ?_
  refine can_bnd sl2 sh2 e2 p2 fun z h3 t H3 ρ3 x3 sl3 sh3 r3 e3 p3 => ?_
  obtain ⟨n, xs, rfl, hn, e4⟩ := getL_of (h := h3) e3
  cases z <;> try (cases e4; done)
  rename_i k
  have e4 : (match ixN xs.length k with
      | some j => (M.upd n (.lst (xs.set j x))).bnd fun _ => M.ret (Fl.nx l)
      | none => M.fail) h3 = some (r, h') := e4
  cases hj : ixN xs.length k with
  | none => rw [hj] at e4; cases e4
  | some j =>
    rw [hj] at e4
    cases e4
    cases r3
    cases r2 with
    | ref en =>
      rename_i L
      have en3 : nth ρ3.l n = some L := by obtain ⟨new, z, _⟩ := x3.pre; rw [z]; exact nth_app new ρ2.l en
      obtain ⟨us, eL, rus⟩ := sh3.at en3 hn
      refine ⟨L, us, k, j, rfl, rfl, eL, by rw [← rus.length]; exact hj, ?_⟩
      have x4 := ext_put (o := .lst (us.set j u)) sh3 (nth_mem en3)
      exact p3 σ _ ρ3 x4 (sh3.put en3 (rus.set (r1.ext (x2.trans x3)) j)) (sl3.ext x4)

/-! ### loops -/
theorem loopM_step {s : Src} {body : D → Loc → M Fl} {n i : Nat} {l : Loc} {h h' : HS} {r : Except Exc Fl} (e : loopM s body n i l h = some (r, h')) :
    (s.at h i = some none ∧ r = .ok (.nx l) ∧ h' = h) ∨ ∃ d n', n = n' + 1 ∧ s.at h i = some (some d) ∧ M.bnd (body d l) (fun f => match f with
      | .nx l' | .ct l' => loopM s body n' (i + 1) l'
      | .bk l' => M.ret (.nx l')
      | .rt d => M.ret (.rt d)) h = some (r, h') := by
  cases n with
  | zero => cases e
  | succ n =>
    unfold loopM at e
    split at e
    · cases e
    · cases e; exact .inl ⟨by assumption, rfl, rfl⟩
    · exact .inr ⟨_, n, rfl, by assumption, e⟩
abbrev forF (t : T) (k : Nat) (its : Loc → M (List D)) (fb : Loc → M Fl) : Loc → M Fl := fun l => (its l).bnd fun as => (M.opt (srcP k as)).bnd fun s => M.src s fun n => loopM s (fun d l => match t.set d l with
      | some l1 => fb l1
      | none => M.fail) n 0 l
theorem evs_for {tg it : Expr} {body : List Stmt} {t : T} {k : Nat} {its : Loc → M (List D)} {fb : Loc → M Fl} (hp : PassesOwn (model X.prog X.w) X.A X.env X.xe) (hc : X.calm = true) (hi : EvJ X E XR tg it k its) (hg : PG X tg (gCan (kw X) t)) (hb : EvB X E XR body fb)
    (hs : ∀ x, foldedSetIterable it X.env x = pure x) : EvSt X E XR (.For tg it body [] pos) (forF t k its fb) := by
  refine psImp (ps_for hp hc hi hg hb hs) fun N σ H ⟨ρ, l, h, r, h', sl, sh, e, p⟩ => ?_
  rcases bnd_cases e with ⟨x, q, rfl⟩ | ⟨as, h1, q, e⟩
  · exact ⟨ρ, l, h, _, _, sl, sh, q, p⟩
  · obtain ⟨s, es, e⟩ := bnd_opt (h := h1) e
    have e : (if s.ok h1 = true then loopM s (fun d l => match t.set d l with
      | some l1 => fb l1
      | none => M.fail) (s.len h1 + 1) 0 l h1 else none) = some (r, h') := e
    by_cases ko : s.ok h1 = true
    case neg => rw [if_neg ko] at e; cases e
    rw [if_pos ko] at e
    refine ⟨ρ, l, h, _, _, sl, sh, q, s, es, ko, fun J H1 ρ1 x1 sh1 w => ?_⟩
    have e : loopM s (fun d l => match t.set d l with
      | some l1 => fb l1
      | none => M.fail) (s.len h1 + 1) 0 l h1 = some (r, h') := e
    generalize hbody : (fun (d : D) (l : Loc) => match t.set d l with
      | some l1 => fb l1
      | none => M.fail) = bd at e
    refine ⟨fun i m σ H => ∃ ρi hi li n, m = n ∧ Ext H1 ρ1 H ρi ∧ SimH (kw X) H ρi hi ∧ SimL (kw X) H ρi li σ ∧ loopM s bd n i li hi = some (r, h'), ⟨_, ρ1, h1, l, _, rfl, Ext.refl, sh1, sl.ext x1, e⟩, ?_⟩
    rintro i m σi Hi ⟨ρi, hi, li, n, rfl, xi, shi, sli, ei⟩
    obtain ⟨wg, ws⟩ := w Hi ρi hi i xi.kp shi
    rcases loopM_step ei with ⟨qa, rfl, rfl⟩ | ⟨d, n', rfl, qa, ei⟩
    · exact .inl ⟨ws qa, p _ _ _ (x1.trans xi) shi sli⟩
    · obtain ⟨jg, jy⟩ := wg d qa
      refine .inr ⟨jg, fun σ' H' => ∃ ρ' h'' l', Ext H1 ρ1 H' ρ' ∧ SimH (kw X) H' ρ' h'' ∧ SimL (kw X) H' ρ' l' σ' ∧ loopM s bd n' (i + 1) l' h'' = some (r, h'), fun σ' H' ⟨ρ', h'', l', a, b, c, d⟩ => ⟨n', Nat.lt_succ_self _, ρ', h'', l', n', rfl, a, b, c, d⟩, fun v H' hy => ?_⟩
      obtain ⟨xy, sy, ry⟩ := jy v H' hy
      subst hbody
      cases qt : t.set d li with
      | none => simp only [qt] at ei; cases ei
      | some l1 =>
        simp only [qt] at ei
        refine ⟨d, ρi, li, l1, RT.of ry, sli.ext xy, qt, fun σ2 sl2 _ => ?_⟩
        have xx := x1.trans (xi.trans xy)
        rcases bnd_cases ei with ⟨x, q, rfl⟩ | ⟨f, h3, q, ei⟩
        · exact ⟨ρi, l1, hi, _, _, sl2, sy, q, fun c d H' ρ' y => p c d H' ρ' (xx.trans y)⟩
        · refine ⟨ρi, l1, hi, _, _, sl2, sy, q, ?_⟩
          cases f with
          | nx l' => exact fun σ' H' ρ' y s1 sl1 => ⟨ρ', h3, l', (xi.trans xy).trans y, s1, sl1, ei⟩
          | ct l' => exact fun σ' H' ρ' y s1 sl1 => ⟨ρ', h3, l', (xi.trans xy).trans y, s1, sl1, ei⟩
          | bk l' => cases ei; exact fun σ' H' ρ' y s1 sl1 => p σ' H' ρ' (xx.trans y) s1 sl1
          | rt d => cases ei; exact fun v H' ρ' y s1 r1 => p v H' ρ' (xx.trans y) s1 r1
theorem whileM_step {c : Loc → M Bool} {body : Loc → M Fl} {n : Nat} {l : Loc} {h h' : HS} {r : Except Exc Fl} (e : whileM c body n l h = some (r, h')) : ∃ n', n = n' + 1 ∧ M.bnd (c l) (fun b => if b = true then (body l).bnd (fun f => match f with
      | .nx l' | .ct l' => whileM c body n' l'
      | .bk l' => M.ret (.nx l')
      | .rt d => M.ret (.rt d)) else M.ret (.nx l)) h = some (r, h') := by
  cases n with
  | zero => cases e
  | succ n => exact ⟨n, rfl, e⟩
theorem evs_while {c : Expr} {body : List Stmt} {fc : Loc → M Bool} {fb : Loc → M Fl} {n : Nat} (hp : PassesOwn (model X.prog X.w) X.A X.env X.xe) (hc : EvT X E XR c fc) (hb : EvB X E XR body fb) : EvSt X E XR (.While c body [] pos) (whileM fc fb n) := by
  refine psImp (ps_while hp hc hb) fun N σ H ⟨ρ, l, h, r, h', sl, sh, e, p⟩ => ?_
  refine ⟨fun m σi Hi => ∃ ρi hi li, Ext H ρ Hi ρi ∧ SimH (kw X) Hi ρi hi ∧ SimL (kw X) Hi ρi li σi ∧ whileM fc fb m li hi = some (r, h'), ⟨n, ρ, h, l, Ext.refl, sh, sl, e⟩, ?_⟩
  rintro m σi Hi ⟨ρi, hi, li, xi, shi, sli, ei⟩
  obtain ⟨n', rfl, ei⟩ := whileM_step ei
  rcases bnd_cases ei with ⟨x, q, rfl⟩ | ⟨b, h1, q, ei⟩
  · exact ⟨ρi, li, hi, _, _, sli, shi, q, fun c d H' ρ' y => p c d H' ρ' (xi.trans y)⟩
  · refine ⟨ρi, li, hi, _, _, sli, shi, q, fun b' H2 ρ2 x2 sh2 rb => ?_⟩
    cases (show b = b' from rb)
    cases b with
    | false =>
      rw [if_neg (by decide)] at ei ⊢
      cases ei
      exact p _ _ _ (xi.trans x2) sh2 (sli.ext x2)
    | true =>
      rw [if_pos rfl] at ei ⊢
      refine ⟨fun σ' H' => ∃ ρ' h'' l', Ext H ρ H' ρ' ∧ SimH (kw X) H' ρ' h'' ∧ SimL (kw X) H' ρ' l' σ' ∧ whileM fc fb n' l' h'' = some (r, h'), fun σ' H' q => ⟨n', Nat.lt_succ_self _, q⟩, ?_⟩
      have xx := xi.trans x2
      rcases bnd_cases ei with ⟨x, q, rfl⟩ | ⟨f, h3, q, ei⟩
      · exact ⟨ρ2, li, h1, _, _, sli.ext x2, sh2, q, fun c d H' ρ' y => p c d H' ρ' (xx.trans y)⟩
      · refine ⟨ρ2, li, h1, _, _, sli.ext x2, sh2, q, ?_⟩
        cases f with
        | nx l' => exact fun σ' H' ρ' y s1 sl1 => ⟨ρ', h3, l', xx.trans y, s1, sl1, ei⟩
        | ct l' => exact fun σ' H' ρ' y s1 sl1 => ⟨ρ', h3, l', xx.trans y, s1, sl1, ei⟩
        | bk l' => cases ei; exact fun σ' H' ρ' y s1 sl1 => p σ' H' ρ' (xx.trans y) s1 sl1
        | rt d => cases ei; exact fun v H' ρ' y s1 r1 => p v H' ρ' (xx.trans y) s1 r1
end
end Onc
set_option Elab.async false
set_option linter.all false
set_option maxRecDepth 100000
set_option maxHeartbeats 1000000
/-! Instances with slots: read, stored, made, asked. -/
namespace Onc
open PySem PySem.Spec PyProof.Rows L2
open SlX (SlO Slt slH putS SCls Slot1)
/-- what the text says of the classes' slots -/
def SlotsOk (X : Cx) (g : Gx) : Prop := ∀ x f j C, g.slot x f = some j → clOf X.mg x = some C → SCls X.K C ∧ ∃ p, Slot1 X.K C f p j
section
variable {K : KW} {H : Hp} {ρ : Ro} {h : HS}
theorem putF_len (j : Nat) (d : D) (fs : List (Option D)) : (putF j d fs).length = max fs.length (j + 1) := by
  unfold putF
  rw [List.length_set, List.length_append, List.length_replicate]
  omega
theorem putS_len (j : Nat) (v : V) (vs : List (Option V)) : (putS j v vs).length = max vs.length (j + 1) := by
  unfold putS
  rw [List.length_set, List.length_append, List.length_replicate]
  omega
theorem putF_at {i j : Nat} {d e : D} {fs : List (Option D)} (q : (putF j d fs)[i]? = some (some e)) : (i = j ∧ e = d) ∨ (i ≠ j ∧ fs[i]? = some (some e)) := by
  unfold putF at q
  by_cases hij : i = j
  · subst hij
    rw [List.getElem?_set_self (by rw [List.length_append, List.length_replicate]; omega)] at q
    exact .inl ⟨rfl, (Option.some.inj (Option.some.inj q)).symm⟩
  · rw [List.getElem?_set_ne (Ne.symm hij)] at q
    by_cases hi : i < fs.length
    · rw [List.getElem?_append_left hi] at q
      exact .inr ⟨hij, q⟩
    · rw [List.getElem?_append_right (by omega), List.getElem?_replicate] at q
      split at q <;> cases q
theorem RSl.put {fs : List (Option D)} {vs : List (Option V)} {d : D} {v : V} (r : RSl K H ρ fs vs) (a : RD K H ρ d v) (j : Nat) : RSl K H ρ (putF j d fs) (putS j v vs) := by
  refine ⟨by rw [putF_len, putS_len, r.1], fun i e q => ?_⟩
  rcases putF_at q with ⟨rfl, rfl⟩ | ⟨hij, q⟩
  · exact ⟨v, SlX.putS_get _ _ _, a⟩
  · obtain ⟨u, eu, ru⟩ := r.2 i e q
    exact ⟨u, (SlX.putS_ne hij).mpr eu, ru⟩
theorem slH_eq {a C dx : Addr} {vs : List (Option V)} (ed : H dx = some (.xd [])) : slH H a C dx vs = upd H a (SlO a C dx vs) := by
  unfold slH
  funext b
  unfold upd
  split
  · rfl
  · split
    · rename_i hb
      rw [hb, ed]
    · rfl
theorem SimH.putI (s : SimH K H ρ h) {n : Nat} {a C dx : Addr} {x : Str} {fs : List (Option D)} {vs : List (Option V)} (e : nth ρ.l n = some a) (ec : K.cl x = some C) (ed : H dx = some (.xd [])) (nd : dx ∉ ρ) (r : RSl K H ρ fs vs) :
    SimH K (upd H a (SlO a C dx vs)) ρ (Onc.put h n (.ins x fs)) := by
  have m := nth_mem e
  have hda : dx ≠ a := fun z => nd (by rw [z]; exact .inl m)
  refine ⟨by rw [put_length]; exact s.len, s.nd, fun a m => upd_some (s.hid a m), fun k u b e1 e2 => ?_⟩
  by_cases hk : k = n
  · subst hk
    rw [e] at e2; cases e2
    rw [nth_put_same (by rw [← s.len]; exact nth_lt e)] at e1
    cases e1
    exact ⟨C, dx, vs, ec, upd_same, by rw [upd_ne hda]; exact ed, nd, r.kp (ext_put s m).kp⟩
  · rw [nth_put_ne hk] at e1
    refine (s.obj k u b e1 e2).ext (ext_put s m) fun u' q => ?_
    rw [upd_ne (fun z => hk (nth_inj (List.nodup_append.mp s.nd).1 e2 (by rw [z]; exact e)))]
    exact q
/-- a new instance, bare -/
theorem ext_made (s : SimH K H ρ h) {a dx : Addr} {o : HO} (n : H a = none) (nd : H dx = none) : Ext H ρ (upd (upd H dx (.xd [])) a o) (Ro.cons a ρ) :=
  ⟨fun b u e na => ⟨by rw [upd_ne (ne_of_none e n), upd_ne (ne_of_none e nd)]; exact e, fun m => by
    rcases List.mem_cons.mp m with rfl | m
    · rw [n] at e; cases e
    · exact na m⟩, [a], rfl, rfl⟩
theorem SimH.made (s : SimH K H ρ h) {a C dx : Addr} {x : Str} (ec : K.cl x = some C) (n : H a = none) (nd : H dx = none) (hda : dx ≠ a) : SimH K (upd (upd H dx (.xd [])) a (SlO a C dx [])) (Ro.cons a ρ) (.ins x [] :: h) := by
  have ha := s.fresh n
  have hd := s.fresh nd
  refine ⟨by show (a :: ρ.l).length = _; rw [List.length_cons, List.length_cons, s.len], List.nodup_cons.mpr ⟨fun m => ha ((List.mem_append.mp m).elim .inl .inr), s.nd⟩, fun b m => upd_some (upd_some (s.hid b m)), fun k u b e1 e2 => ?_⟩
  have e2 : nth (a :: ρ.l) k = some b := e2
  unfold nth at e1 e2
  rw [s.len] at e2
  by_cases hk : k = h.length
  · rw [if_pos hk] at e1 e2
    cases e1; cases e2
    exact ⟨C, dx, [], ec, upd_same, by rw [upd_ne hda, upd_same], fun m => (Ro.mem_cons m).elim hda hd, rfl, fun i d q => by simp at q⟩
  · rw [if_neg hk] at e1 e2
    exact (s.obj k u b e1 e2).ext (ext_made s n nd) fun u' e => by rw [upd_ne (ne_of_none e n), upd_ne (ne_of_none e nd)]; exact e
end
section
variable {X : Cx} {E : XK} {XR : XRel} {g : Gx} {e : Expr} {fa : Loc → M D} {pos : Pos}
/-- what stands in a slot -/
theorem fld_ok {H : Hp} {ρ : Ro} {h h' : HS} {x : D} {f : Str} {v : V} {r : Except Exc D} (ok : SlotsOk X g) (sh : SimH (kw X) H ρ h) (rx : RD (kw X) H ρ x v) (e : M.fld g f x h = some (r, h')) :
    ∃ (d : D) (a C dx p : Addr) (vs : List (Option V)) (i : Nat) (u : V), r = .ok d ∧ h' = h ∧ v = .ref a ∧ Slt H a C dx vs ∧ SCls X.K C ∧ Slot1 X.K C f p i ∧ vs[i]? = some (some u) ∧ RD (kw X) H ρ d u := by
  obtain ⟨d, eo, rfl, rfl⟩ := opt_of (h := h) e
  clear e
  cases x with
  | ref n =>
    cases rx with
    | ref en =>
      rename_i a
      have e : (match nth h' n with
        | some (.ins x fs) => (g.slot x f).bind fun j => (fs[j]?).join
        | _ => none) = some d := eo
      cases q : nth h' n with
      | none => rw [q] at e; cases e
      | some o =>
        rw [q] at e
        cases o with
        | lst xs => cases e
        | ins x fs =>
          obtain ⟨j, qs, qf⟩ := Option.bind_eq_some_iff.mp e
          obtain ⟨C, dx, vs, ec, e1, e2, nd, rr⟩ := sh.obj n _ a q en
          obtain ⟨c, p, sp⟩ := ok x f j C qs ec
          obtain ⟨u, eu, ru⟩ := rr.2 j d (by
            cases z : fs[j]? with
            | none => rw [z] at qf; cases qf
            | some y => rw [z] at qf; exact congrArg some qf)
          exact ⟨d, a, C, dx, p, vs, j, u, rfl, rfl, rfl, .inr ⟨e1, e2⟩, c, sp, eu, ru⟩
  | obj x fs =>
    cases rx with
    | obj q rr =>
      rename_i a vs
      obtain ⟨C, dx, ec, e1, e2, n1, n2⟩ := q
      obtain ⟨j, qs, qf⟩ := Option.bind_eq_some_iff.mp eo
      obtain ⟨c, p, sp⟩ := ok x f j C qs ec
      obtain ⟨u, eu, ru⟩ := rr.get qf
      exact ⟨d, a, C, dx, p, vs.map some, j, u, rfl, rfl, rfl, .inr ⟨e1, e2⟩, c, sp, by rw [List.getElem?_map, eu]; rfl, ru⟩
  | _ => cases eo
theorem ev_attr {f : Str} (ok : SlotsOk X g) (hb : attributeBase e f X.env (eval e X.env) = eval e X.env) (he : EvE X E XR e fa) : EvE X E XR (.Attribute e f pos) (fun l => (fa l).bnd (M.fld g f)) := by
  refine .of (SlX.pe_sl he hb) fun σ H ρ l h rr h' Q sl sh e p => ?_
  refine Rdg.can.step sl sh e p fun x h1 v H1 ρ1 x1 sl1 sh1 r1 e1 p1 => ?_
  obtain ⟨d, a, C, dx, q, vs, i, u, rfl, rfl, rfl, s, c, sp, eu, ru⟩ := fld_ok ok sh1 r1 e1
  exact ⟨a, C, dx, q, vs, i, u, rfl, s, c, sp, eu, p1.here sh1 ru⟩
/-- a slot is stored into -/
theorem sto_ok {H : Hp} {ρ : Ro} {h h' : HS} {o d : D} {f : Str} {v u : V} {r : Except Exc Unit} (ok : SlotsOk X g) (sh : SimH (kw X) H ρ h) (ro : RD (kw X) H ρ o v) (rd : RD (kw X) H ρ d u) (e : M.sto g f o d h = some (r, h')) :
    r = .ok () ∧ ∃ (a C dx p : Addr) (vs : List (Option V)) (i : Nat), v = .ref a ∧ Slt H a C dx vs ∧ SCls X.K C ∧ Slot1 X.K C f p i ∧ Ext H ρ (slH H a C dx (putS i u vs)) ρ ∧ SimH (kw X) (slH H a C dx (putS i u vs)) ρ h' := by
  obtain ⟨h2, e, rfl, rfl⟩ : ∃ h2, stoO g f h d o = some h2 ∧ r = .ok () ∧ h' = h2 := by
    have e : (match stoO g f h d o with
      | some h' => some (Except.ok (), h')
      | none => none) = some (r, h') := e
    cases q : stoO g f h d o with
    | none => rw [q] at e; cases e
    | some h2 => rw [q] at e; cases e; exact ⟨_, rfl, rfl, rfl⟩
  cases o with
  | ref n =>
   cases ro with
   | ref en =>
    rename_i a
    have e : (match nth h n with
      | some (.ins x fs) => (g.slot x f).map fun j => put h n (.ins x (putF j d fs))
      | _ => none) = some h' := e
    cases q : nth h n with
    | none => rw [q] at e; cases e
    | some o =>
      rw [q] at e
      cases o with
      | lst xs => cases e
      | ins x fs =>
        obtain ⟨j, qs, rfl⟩ := Option.map_eq_some_iff.mp e
        obtain ⟨C, dx, vs, ec, e1, e2, nd, rr⟩ := sh.obj n _ a q en
        obtain ⟨c, p, sp⟩ := ok x f j C qs ec
        refine ⟨rfl, a, C, dx, p, vs, j, rfl, .inr ⟨e1, e2⟩, c, sp, ?_, ?_⟩
        · rw [slH_eq e2]; exact ext_put sh (nth_mem en)
        · rw [slH_eq e2]; exact sh.putI en ec e2 nd (rr.put rd j)
  | _ => cases e
theorem opt_get {l : Loc} {i : Nat} {o : D} (e : (l[i]?).getD none = some o) : l[i]? = some (some o) := by
  cases q : l[i]? with
  | none => rw [q] at e; cases e
  | some z => rw [q] at e; exact congrArg some e
theorem evs_sta {i : Nat} {x f : Str} {px p' : Pos} (ok : SlotsOk X g) (hN : X.N[i]? = some x) (hv : Vis X.env.scope x) (hd : (x == ("__debug__" : Str)) = false) (hcd : (x == ("__classdict__" : Str)) = false) (he : EvE X E XR e fa)
    (hs : swapsWith e (some (.Attribute (.Name x px) f p')) pos.line X.env = pure false) :
    EvSt X E XR (.Assign [.Attribute (.Name x px) f p'] e pos) (fun l => (fa l).bnd fun d => (M.opt ((l[i]?).getD none)).bnd fun o => (M.sto g f o d).bnd fun _ => M.ret (.nx l)) := by
  refine psImp (SlX.ps_sl (pe_var hN hv hd hcd) he hs) fun D σ H ⟨ρ, l, h, r, h', sl, sh, e, p⟩ => ?_
  refine can_bnd sl sh e p fun y h1 b H1 ρ1 x1 sl1 sh1 r1 e1 p1 => ?_
  obtain ⟨o, eo, e1⟩ := bnd_opt (h := h1) e1
  obtain ⟨v, ev, rv⟩ := sl1.2 i o (opt_get eo)
  refine ⟨v, ev, ?_⟩
  rcases bnd_cases e1 with ⟨z, q, rfl⟩ | ⟨z, h2, q, e2⟩
  · exact nomatch (sto_ok ok sh1 rv r1 q).1
  · obtain ⟨_, a, C, dx, pp, vs, j, rfl, s, c, sp, x2, sh2⟩ := sto_ok ok sh1 rv r1 q
    cases e2
    exact ⟨a, C, dx, pp, vs, j, rfl, s, c, sp, p1 _ _ ρ1 x2 sh2 (sl1.ext x2)⟩
/-- the target x.f -/
def gSl (X : Cx) (i : Nat) (f : Str) : TG := fun v σ H Q => ∃ w, σ[i]? = some (some w) ∧ ∃ a C dx p vs j, w = .ref a ∧ Slt H a C dx vs ∧ SCls X.K C ∧ Slot1 X.K C f p j ∧ Q σ (slH H a C dx (putS j v vs))
theorem pg_sl {i : Nat} {x f : Str} {px p' : Pos} (hN : X.N[i]? = some x) (hv : Vis X.env.scope x) (hd : (x == ("__debug__" : Str)) = false) (hcd : (x == ("__classdict__" : Str)) = false) : PG X (.Attribute (.Name x px) f p') (gSl X i f) := by
  refine ⟨fun pins s σ H v u Q I r hq => ?_⟩
  obtain ⟨w, ew, a, C, dx, p, vs, j, rfl, hsl, c, sp, q⟩ := hq
  refine PySem.W.kas_attr (thn ((pe_var hN hv hd hcd).run pins s σ H (fun z H1 => z = .ref a ∧ H1 = H) I ⟨_, ew, rfl, rfl⟩) fun ov s1 ⟨z, H1, I1, r1, ez, eH⟩ => ?_)
  subst ez eH
  obtain rfl : ov = Value.ref a := r1
  exact SlX.setslot_ok I1 hsl c sp r fun s2 I2 => ⟨σ, _, I2, q⟩
theorem stos_ok {i : Nat} {f : Str} {l : Loc} {o d : D} {σ : L2.St} {H : Hp} {ρ : Ro} {h h' : HS} {v : V} {r : Except Exc Unit} {Q : L2.St → Hp → Prop} (ok : SlotsOk X g) (sl : SimL (kw X) H ρ l σ) (sh : SimH (kw X) H ρ h) (eo : l[i]? = some (some o)) (rd : RD (kw X) H ρ d v)
    (e : M.sto g f o d h = some (r, h')) (q : ∀ H', Ext H ρ H' ρ → SimH (kw X) H' ρ h' → Q σ H') : gSl X i f v σ H Q := by
  obtain ⟨w, ew, rw⟩ := sl.2 i o eo
  obtain ⟨_, a, C, dx, p, vs, j, rfl, s, c, sp, x2, sh2⟩ := sto_ok ok sh rw rd e
  exact ⟨_, ew, a, C, dx, p, vs, j, rfl, s, c, sp, q _ x2 sh2⟩
/-- the targets x.f, x.g, .. -/
def gSls (X : Cx) (i : Nat) : List Str → TGs
  | [] => gNil
  | f :: fs => gCons (gSl X i f) (gSls X i fs)
theorem pgs_sl {i : Nat} {x : Str} (hN : X.N[i]? = some x) (hv : Vis X.env.scope x) (hd : (x == ("__debug__" : Str)) = false) (hcd : (x == ("__classdict__" : Str)) = false) : ∀ (ts : List (Str × Pos × Pos)), PGs X (ts.map fun t => Expr.Attribute (.Name x t.2.1) t.1 t.2.2) (gSls X i (ts.map (·.1)))
  | [] => pgs_nil
  | t :: ts => pgs_cons (pg_sl hN hv hd hcd) (pgs_sl hN hv hd hcd ts) (by rw [assignEach_one (by rfl)]; rfl)
end
end Onc
set_option Elab.async false
set_option linter.all false
set_option maxRecDepth 100000
set_option maxHeartbeats 1000000
/-! Instances with slots: stored by several names, made, asked. -/
namespace Onc
open PySem PySem.Spec PyProof.Rows L2
open SlX (SlO Slt slH putS SCls Slot1)
section
variable {X : Cx} {E : XK} {XR : XRel} {g : Gx} {e : Expr} {es : List Expr} {fa : Loc → M D} {fs : Loc → M (List D)} {p pos : Pos}
theorem stos_cons {o d : D} {f : Str} {ff : List Str} {ds : List D} {h h' : HS} {r : Except Exc Unit} (e : M.stos g o (f :: ff) (d :: ds) h = some (r, h')) : ∃ h1, M.sto g f o d h = some (.ok (), h1) ∧ M.stos g o ff ds h1 = some (r, h') := by
  have e : M.bnd (M.sto g f o d) (fun _ => M.stos g o ff ds) h = some (r, h') := e
  rcases bnd_cases e with ⟨z, q, rfl⟩ | ⟨z, h2, q, e2⟩
  · have q : (match stoO g f h d o with
      | some h' => some (Except.ok (), h')
      | none => none) = some (Except.error z, h') := q
    split at q <;> cases q
  · exact ⟨h2, q, e2⟩
theorem gsls_ok {i : Nat} {o : D} (ok : SlotsOk X g) : ∀ {ff : List Str} {ds : List D} {vs : List V} {σ : L2.St} {l : Loc} {H : Hp} {ρ : Ro} {h h' : HS} {r : Except Exc Unit} {Q : L2.St → Hp → Prop}, SimL (kw X) H ρ l σ → SimH (kw X) H ρ h → l[i]? = some (some o) → RDs (kw X) H ρ ds vs →
    M.stos g o ff ds h = some (r, h') → (∀ H', Ext H ρ H' ρ → SimH (kw X) H' ρ h' → Q σ H') → r = .ok () ∧ ff.length = ds.length ∧ gSls X i ff vs σ H Q
  | [], ds, vs, σ, l, H, ρ, h, h', r, Q, sl, sh, eo, rs, e, q => by
    cases ds with
    | nil => cases rs; cases e; exact ⟨rfl, rfl, rfl, q H Ext.refl sh⟩
    | cons d ds => cases e
  | f :: ff, ds, vs, σ, l, H, ρ, h, h', r, Q, sl, sh, eo, rs, e, q => by
    cases ds with
    | nil => cases e
    | cons d ds =>
      cases rs with
      | cons a rs =>
        obtain ⟨h1, e1, e2⟩ := stos_cons e
        have hr : r = .ok () ∧ ff.length = ds.length := by
          obtain ⟨w, ew, rw⟩ := sl.2 i o eo
          obtain ⟨_, a', C, dx, p, vs', j, rfl, s, c, sp, x2, sh2⟩ := sto_ok ok sh rw a e1
          obtain ⟨k1, k2, _⟩ := gsls_ok ok (Q := fun _ _ => True) (sl.ext x2) sh2 eo (rs.ext x2) e2 fun _ _ _ => trivial
          exact ⟨k1, k2⟩
        refine ⟨hr.1, congrArg (· + 1) hr.2, _, _, rfl, ?_⟩
        exact stos_ok ok sl sh eo a e1 fun H' x1 sh1 => (gsls_ok ok (sl.ext x1) sh1 eo (rs.ext x1) e2 fun H2 x2 sh2 => q H2 (x1.trans x2) sh2).2.2
theorem evs_stas {i : Nat} {x : Str} {ts : List (Str × Pos × Pos)} {kk : Nat} {tp : Pos} (ok : SlotsOk X g) (hc : X.calm = true) (hN : X.N[i]? = some x) (hv : Vis X.env.scope x) (hd : (x == ("__debug__" : Str)) = false) (hcd : (x == ("__classdict__" : Str)) = false) (he : EvE X E XR e fa)
    (hs : swapsWithSole [.Tuple (ts.map fun t => Expr.Attribute (.Name x t.2.1) t.1 t.2.2) kk tp] e pos.line X.env = pure false) (hw : swappedStores [.Tuple (ts.map fun t => Expr.Attribute (.Name x t.2.1) t.1 t.2.2) kk tp] e X.env = pure none) :
    EvSt X E XR (.Assign [.Tuple (ts.map fun t => Expr.Attribute (.Name x t.2.1) t.1 t.2.2) kk tp] e pos) (fun l => (fa l).bnd fun d => match d with
      | .tup ds => (M.opt ((l[i]?).getD none)).bnd fun o => (M.stos g o (ts.map (·.1)) ds).bnd fun _ => M.ret (.nx l)
      | _ => M.fail) := by
  have hst : ∀ ts : List (Str × Pos × Pos), (assignEach (ts.map fun t => Expr.Attribute (.Name x t.2.1) t.1 t.2.2) X.env).findIdx? (·.1) = none := by
    intro ts
    induction ts with
    | nil => rfl
    | cons t ts ih =>
      rw [List.map_cons, assignEach_one (by rfl), List.findIdx?_cons, ih]
      rfl
  refine psImp (ps_asg he (pg_tup (n := ts.length) hc (pgs_sl hN hv hd hcd ts) (by rw [assignEach_len, List.length_map]) (hst ts)) hs hw (assigns_one rfl)) fun D σ H ⟨ρ, l, h, r, h', sl, sh, e, p⟩ => ?_
  refine can_bnd sl sh e p fun y h1 b H1 ρ1 x1 sl1 sh1 r1 e1 p1 => ?_
  cases y <;> try (cases e1; done)
  rename_i ds
  obtain ⟨o, eo, e1⟩ := bnd_opt (h := h1) e1
  cases r1 with
  | tup f rs =>
    rcases bnd_cases e1 with ⟨z, q, rfl⟩ | ⟨z, h2, q, e2⟩
    · exact nomatch (gsls_ok ok (Q := fun _ _ => True) sl1 sh1 (opt_get eo) rs q fun _ _ _ => trivial).1
    · cases e2
      obtain ⟨_, k1, k2⟩ := gsls_ok ok (Q := D.nx) sl1 sh1 (opt_get eo) rs q fun H' x2 sh2 => p1 _ _ ρ1 x2 sh2 (sl1.ext x2)
      exact ⟨_, _, rfl, f.sq, by rw [← rs.length, ← k1, List.length_map], k2⟩
/-! ### a new instance -/
theorem inv_madeS {pins : List (Addr × Obj)} {σ : L2.St} {H : Hp} {s : Shared} {C : Addr} (I : Inv X pins σ H s) :
    Inv X pins σ (upd (upd H s.heap.objs.size (.xd [])) (s.heap.objs.size + 1) (SlO (s.heap.objs.size + 1) C s.heap.objs.size [])) { s with heap := (s.heap.push PySem.W.emptyDict).push (PySem.W.instObj C s.heap.objs.size) } := by
  have at1 : (s.heap.push PySem.W.emptyDict).get? s.heap.objs.size = some PySem.W.emptyDict := Heap.get?_push_size s.heap rfl
  have ns1 : (s.heap.push PySem.W.emptyDict).Ns s.heap.objs.size fun _ => none := ⟨PySem.W.emptyDict, #[], _, at1, rfl, (fun e he => absurd he (by simp)), fun _ => rfl⟩
  have J := I.laid (t' := s.toks) (h' := s.heap.push PySem.W.emptyDict) (o := .xd []) (fun b u q => Heap.get?_push_of_some _ q) (Nat.le_refl s.heap.objs.size) ⟨fun _ => none, Heap.Ns1.of_empty ns1, fun _ => True.intro⟩
  have at2 : ((s.heap.push PySem.W.emptyDict).push (PySem.W.instObj C s.heap.objs.size)).get? (s.heap.objs.size + 1) = some (PySem.W.instObj C s.heap.objs.size) := by
    rw [← Heap.size_push s.heap PySem.W.emptyDict]
    exact Heap.get?_push_size _ rfl
  exact J.laid (t' := s.toks) (a := s.heap.objs.size + 1) (fun b u q => Heap.get?_push_of_some _ q) (Nat.le_of_eq (Heap.size_push _ _))
    ⟨⟨(PySem.W.instObj C s.heap.objs.size).slots, at2, SlX.SlR.nil _⟩, ⟨_, at2⟩, fun h1 h2 ⟨sl, q, r⟩ k => ⟨sl, k _ q, r⟩⟩
def tMakeS (C : Addr) (sp : Sp) (E : XK) (t : TA) : TE := fun σ H Q => t σ H fun vs H1 => ∀ a dx, H1 a = none → H1 dx = none → dx ≠ a → sp (.ref a :: vs) (upd (upd H1 dx (.xd [])) a (SlO a C dx [])) (fun v H2 => v = .non ∧ Q (.ref a) H2) E
theorem run_makeS {CX : CXT} {k : Nat} {f C : Addr} {sp : Sp} {pins : List (Addr × Obj)} {σ : L2.St} {H : Hp} {s : Shared} {Q : VK} {us : List Value} {vs : List V} (M : Mk X.K C f) (F : FnR X.prog X.w X.K X.mg X.base CX k f sp) (hr : Room (k + 1) X.A) (hx : Passes CX X E) (I : Inv X pins σ H s) (r : Vals vs us)
    (h : ∀ a dx, H a = none → H dx = none → dx ≠ a → sp (.ref a :: vs) (upd (upd H dx (.xd [])) a (SlO a C dx [])) (fun v H2 => v = .non ∧ Q (.ref a) H2) E) : wpAny (model X.prog X.w) X.A (call (.ref C) us) (EP X pins σ Q) X.xe s := by
  have want := h _ _ (I.hok.fresh (Nat.le_succ s.heap.objs.size)) (I.hok.fresh (Nat.le_refl s.heap.objs.size)) (Nat.ne_of_lt (Nat.lt_succ_self _))
  have J := inv_madeS (C := C) I
  have rr : Vals (V.ref (s.heap.objs.size + 1) :: vs) (Value.ref (s.heap.objs.size + 1) :: us) := .cons rfl r
  have run := F _ X.stack _ _ _ _ _ E (hr.make C us []) (J.env0.make C us []) rr want
  refine wpAny_call (make_map (f := f) I.kIn M.makes M.init (beq_iff_eq.mp M.fn) (codeAny_mono run fun q s' hq => ?_))
  match q, hq with
  | .error z, hq => exact hx pins σ _ _ z s' J hq
  | .ok (.ret u), hq =>
    obtain ⟨v, H', I3, rv, rfl, q3⟩ := J.after hq
    exact ⟨rv, V.ref (s.heap.objs.size + 1), H', I3, rfl, q3⟩
  | .ok .next, hq => exact False.elim hq
  | .ok .brk, hq => exact False.elim hq
  | .ok .cont, hq => exact False.elim hq
theorem pe_makeS {CX : CXT} {k : Nat} {f C : Addr} {sp : Sp} {x : Str} {t : TA} (M : Mk X.K C f) (F : FnR X.prog X.w X.K X.mg X.base CX k f sp) (hr : Room (k + 1) X.A) (hg : Gl X x) (hm : X.mg x = some (.ref C)) (hx : Passes CX X E) (ha : PA X (e :: es) t) (hdb : (x == ("__debug__" : Str)) = false)
    (h0 : isStar e = false) (h1 : es.all (!isStar ·) = true) : PE X (.Call (.Name x p) (e :: es) [] pos) (tMakeS C sp E t) := by
  refine ⟨fun pins s σ H Q I h => wpAny_Call_Name_kw (ld_glob I hg hm ?_ hdb)⟩
  refine PySem.W.callWith_K (h₀ := X.base) I.ok.mod.kin M.kp (thn (ha.run pos pins s σ H _ I h) ?_) (starEach_one h0) (nostar_any h1)
  exact fun us s1 ⟨vs, H1, I1, r, q⟩ => ⟨I1.kIn, run_makeS M F hr hx I1 r q⟩
/-- what a call by a positional promise keeps -/
def Keeps (X : Cx) (E : XK) (XR : XRel) (sp : Sp) (G : List D → M D) : Prop := ∀ (as : List D) (vs : List V) (H : Hp) (ρ : Ro) (h : HS) (r : Except Exc D) (h' : HS) (Q : VK), RDs (kw X) H ρ as vs → SimH (kw X) H ρ h → G as h = some (r, h') → Post (kw X) E XR (RD (kw X)) H ρ r h' Q → sp vs H Q E
def MakeOk (X : Cx) (E : XK) (XR : XRel) (x : Str) (G : List D → M D) : Prop := ∃ (CX : CXT) (k : Nat) (f C : Addr) (sp : Sp), X.mg x = some (.ref C) ∧ Mk X.K C f ∧ FnR X.prog X.w X.K X.mg X.base CX k f sp ∧ Room (k + 1) X.A ∧ Passes CX X E ∧ Keeps X E XR sp G
theorem ev_mk {x : Str} (ok : ∀ y, g.meth x "__init__" = some y → MakeOk X E XR x (g.call y)) (hy : (g.meth x "__init__").isSome = true) (hg : Gl X x) (hdb : (x == ("__debug__" : Str)) = false) (h0 : isStar e = false) (h1 : es.all (!isStar ·) = true) (ha : EvS X E XR (e :: es) fs) :
    EvE X E XR (.Call (.Name x p) (e :: es) [] pos) (fun l => (fs l).bnd (M.make g x)) := by
  obtain ⟨y, ey⟩ := Option.isSome_iff_exists.mp hy
  obtain ⟨CX, k, f, C, sp, hm, mk, F, hr, hx, kp⟩ := ok y ey
  have ec : clOf X.mg x = some C := by unfold clOf; rw [hm]
  refine .of (pe_makeS mk F hr hg hm hx ha hdb h0 h1) fun σ H ρ l h rr h' Q sl sh e p => ?_
  refine Rdg.can.step sl sh e p fun as h1 vs H1 ρ1 x1 sl1 sh1 r1 e1 p1 => ?_
  unfold M.make at e1
  rw [ey] at e1
  intro a dx na nd hda
  have x2 := ext_made (o := SlO a C dx []) sh1 na nd
  have sh2 := sh1.made (K := kw X) (x := x) ec na nd hda
  have rn : RD (kw X) (upd (upd H1 dx (.xd [])) a (SlO a C dx [])) (Ro.cons a ρ1) (.ref h1.length) (.ref a) := .ref (by rw [← sh1.len]; exact nth_len ρ1.l a)
  rcases bnd_cases e1 with ⟨z, q, rfl⟩ | ⟨d, h2, q, e2⟩
  · exact kp _ _ _ _ _ _ _ _ (.cons rn (r1.ext x2)) sh2 q fun c d H' ρ' x3 sh3 xr => p1 c d H' ρ' (x2.trans x3) sh3 xr
  · refine kp _ _ _ _ _ _ _ _ (.cons rn (r1.ext x2)) sh2 q fun b H' ρ' x3 sh3 rb => ?_
    cases d <;> try (cases e2; done)
    cases e2
    cases rb
    refine ⟨rfl, p1 _ _ ρ' (x2.trans x3) sh3 ?_⟩
    exact rn.ext x3
/-! ### methods -/
def MethOk (X : Cx) (E : XK) (XR : XRel) (x m : Str) (G : List D → M D) : Prop := ∃ (CX : CXT) (k : Nat) (f C : Addr) (sp : Sp), clOf X.mg x = some C ∧ SCls X.K C ∧ Meth X.K C m f ∧ FnR X.prog X.w X.K X.mg X.base CX k f sp ∧ Room k X.A ∧ Passes CX X E ∧ Keeps X E XR sp G
theorem isC_of {c : Str} {o : D} {α : Type} {k : Unit → M α} {h h' : HS} {r : Except Exc α} (e : M.bnd (M.isC c o) k h = some (r, h')) : clsD h o = some c ∧ k () h = some (r, h') := by
  have e : M.bnd (fun h => if clsD h o = some c then some (Except.ok (), h) else none) k h = some (r, h') := e
  unfold M.bnd at e
  by_cases q : clsD h o = some c
  · simp only [if_pos q] at e; exact ⟨q, e⟩
  · simp only [if_neg q] at e; cases e
theorem cls_slt {H : Hp} {ρ : Ro} {h : HS} {o : D} {v : V} {c : Str} {C : Addr} (sh : SimH (kw X) H ρ h) (ro : RD (kw X) H ρ o v) (q : clsD h o = some c) (ec : clOf X.mg c = some C) : ∃ a dx vs, v = .ref a ∧ Slt H a C dx vs := by
  cases o with
  | ref n =>
    cases ro with
    | ref en =>
      rename_i a
      have q : (match nth h n with
        | some (.ins x _) => some x
        | _ => none) = some c := q
      cases qn : nth h n with
      | none => rw [qn] at q; cases q
      | some o =>
        rw [qn] at q
        cases o with
        | lst xs => cases q
        | ins x fs =>
          cases q
          obtain ⟨C2, dx, vs, ec2, e1, e2, _⟩ := sh.obj n _ a qn en
          have z : clOf X.mg c = some C2 := ec2
          rw [ec] at z
          cases z
          exact ⟨a, dx, vs, rfl, .inr ⟨e1, e2⟩⟩
  | obj x fs =>
    cases q
    cases ro with
    | obj f rr =>
      obtain ⟨C2, dx, ec2, e1, e2, _⟩ := f
      have z : clOf X.mg c = some C2 := ec2
      rw [ec] at z
      cases z
      exact ⟨_, dx, _, rfl, .inr ⟨e1, e2⟩⟩
  | _ => cases q
abbrev mclF (g : Gx) (c m : Str) (fa : Loc → M D) (fs : Loc → M (List D)) : Loc → M D := fun l => (fa l).bnd fun x => (M.isC c x).bnd fun _ => (fs l).bnd fun as => M.meth g c m (x :: as)
theorem eval_m0 {o : Expr} {m : Str} {apos cpos : Pos} {env : Env} (hb : attributeBase o m env (eval o env) = eval o env) (hl : (apos.endLine == cpos.line) = true) : eval (.Call (.Attribute o m apos) [] [] cpos) env = (do
      let ov ← eval o env
      standAt apos.atName
      let (f, first) ← holding [ov] (getMethod ov m (do return (← importBound o env).getD true))
      callWith cpos f first (backTo cpos (starEach [] env)) (backToKw cpos (keywordEach [] env))) := by
  have e1 : methodCallPos true o env apos cpos = pure cpos := by
    unfold methodCallPos
    rw [hl]
    rfl
  show (do
      let ov ← attributeBase o m env (eval o env)
      standAt apos.atName
      let (f, first) ← holding [ov] (getMethod ov m (do return (← importBound o env).getD true))
      let callPos ← methodCallPos true o env apos cpos
      callWith callPos f first (backTo cpos (starEach [] env)) (backToKw cpos (keywordEach [] env))) = _
  rw [hb, e1]
  rfl
theorem ev_mcl0 {x y m : Str} {py apos : Pos} (hl : (apos.endLine == pos.line) = true) (ok : ∀ z, g.meth x m = some z → MethOk X E XR x m (g.call z)) (hy : (g.meth x m).isSome = true) (he : EvE X E XR (.Name y py) fa) :
    EvE X E XR (.Call (.Attribute (.Name y py) m apos) [] [] pos) (mclF g x m fa (fun _ => M.ret [])) := by
  obtain ⟨z, ez⟩ := Option.isSome_iff_exists.mp hy
  obtain ⟨CX, k, f, C, sp, ec, sc, mt, F, hr, hx, kp⟩ := ok z ez
  refine .of (SlX.pe_methSl0 he sc mt F hr hx (eval_m0 rfl hl)) fun σ H ρ l h rr h' Q sl sh e p => ?_
  refine Rdg.can.step sl sh e p fun o h1 v H1 ρ1 x1 sl1 sh1 r1 e1 p1 => ?_
  obtain ⟨ec1, e1⟩ := isC_of e1
  obtain ⟨a, dx, vs, rfl, hs⟩ := cls_slt sh1 r1 ec1 ec
  refine ⟨a, dx, vs, rfl, hs, ?_⟩
  have e2 : M.meth g x m [o] h1 = some (rr, h') := e1
  unfold M.meth at e2
  rw [ez] at e2
  exact kp _ _ _ _ _ _ _ _ (.cons r1 .nil) sh1 e2 p1
end
end Onc
set_option Elab.async false
set_option linter.all false
set_option maxRecDepth 100000
set_option maxHeartbeats 4000000
/-! Own exception classes that are called, by keywords too. -/
namespace Onc
namespace XC
open PySem PySem.HandSPX
section
variable {M : Model} {A : Around} {E : Value → Shared → Prop} {h : Heap} {g : Array GenState} {d : Drawn} {t : Nat} {os : OsState}
variable {nm q : Str} {C N : Addr} {bs bm bmB : List Value} {hdct : Bool} {sn : List Str} {sub : List Value} {ab : Bool} {col : Option Bool} {dd : Option Addr} {k0 k1 k2 k3 k5 : Option Value} {B newId initId : String}
theorem check_new_kw (F : ExcBaseFacts B newId initId bmB) (hT : ∀ X : String, bm.contains (.type X) = bmB.contains (.type X)) {rest : List Value} {kw : List (Str × Value)} {Q : Unit → Shared → Prop}
    (hC : h.get? C = some (excClassObj nm q C N bs bm hdct sn sub ab col dd k0 k1 k2 k3 k5 newId)) (hq : Q () ⟨h, g, d, t, os⟩) : wpAny M A (checkBuiltinCall newId ⟨.ref C :: rest, kw⟩) Q E ⟨h, g, d, t, os⟩ := by
  have hcont : (Value.ref C :: bm).contains (.type B) = true := by rw [List.contains_cons, hT, F.hasB, Bool.or_true]
  have hstar := F.noStar
  simp only [checkBuiltinCall, F.newKind, F.newSplit, F.newRow]
  repeat (first | refine wpAny_loadPart_at hC ?_ | (refine wpAny_isSubtype_exc hC ?_; rw [hcont]) | refine wpAny_staticBase_exc hC ?_ | refine wpAny_madeBy_exc hC ?_ | simp only [bne_self_eq_false, Bool.false_eq_true, if_false] | wp_step)
  exact hq
theorem check_call_kw {rest : List Value} {kw : List (Str × Value)} {Q : Unit → Shared → Prop} (hC : h.get? C = some (excClassObj nm q C N bs bm hdct sn sub ab col dd k0 k1 k2 k3 k5 newId))
    (hq : Q () ⟨h, g, d, t, os⟩) : wpAny M A (checkBuiltinCall "type.__call__" ⟨.ref C :: rest, kw⟩) Q E ⟨h, g, d, t, os⟩ := by
  have f3 := tc_sub
  have hT : (⟨h, g, d, t, os⟩ : Shared).TypeIs (.ref C) "type" := ⟨_, hC, rfl⟩
  simp only [checkBuiltinCall, tc_kind, tc_split]
  repeat (any_goals (first | assumption | with_reducible refine wpAny_loadPart_at hC ?_ | with_reducible refine wpAny_onRaise ?_ | with_reducible refine wpAny_map ?_ | wp_step))
end
section
variable {prog : Program} {w : World} {A : Around} {E : Value → Shared → Prop} {R : Result → Shared → Prop} {h : Heap} {g : Array GenState} {d : Drawn} {t : Nat} {os : OsState}
variable {nm q : Str} {C N : Addr} {bs bm bmB : List Value} {hdct : Bool} {sn : List Str} {sub : List Value} {ab : Bool} {col : Option Bool} {dd : Option Addr} {k0 k1 k2 k3 k5 : Option Value} {B newId initId : String}
theorem new_kw (F : ExcBaseFacts B newId initId bmB) (hT : ∀ X : String, bm.contains (.type X) = bmB.contains (.type X)) {rest : List Value} {kw : List (Str × Value)}
    (hC : h.get? C = some (excClassObj nm q C N bs bm hdct sn sub ab col dd k0 k1 k2 k3 k5 newId))
    (hq : R (.ok (.ret (.ref (h.objs.size + 1)))) ⟨(h.push { cls := .type "tuple", data := .seq rest.toArray }).push
      { cls := .ref C, data := .fields #[.ref h.objs.size, .none, .none, .none, .bool false, .none] }, g, d, t, os⟩) (hrest : rest.length ≤ sizeLine) :
    codeAny (model prog w) A (.builtin newId ⟨.ref C :: rest, kw⟩) R ⟨h, g, d, t, os⟩ := by
  have hends := F.ends
  have hcB : (Value.ref C :: bm).contains (.type B) = true := by rw [List.contains_cons, hT, F.hasB, Bool.or_true]
  have hcA : (Value.ref C :: bm).contains (.type "AttributeError") = false := by rw [List.contains_cons, hT, F.noAttr]; rfl
  have hcN : (Value.ref C :: bm).contains (.type "NameError") = false := by rw [List.contains_cons, hT, F.noName]; rfl
  refine codeAny_builtinAt F.entry ?_
  unfold Builtin.«BaseException.__new__»
  refine wpAt_bind ?_
  show wpAt _ _ _ (stack >>= _) _ _ _
  refine wpAt_bind (wpAt_stack fun p below => wpAt_of_wpAny ?_)
  wp_walk
  refine wpAt_of_wpAny ?_
  rw [F.owner]
  repeat (first | with_reducible refine wpAny_madeHere_exc F.canon hC ?_ | with_reducible refine wpAny_loadPart_at hC ?_ | (with_reducible refine wpAny_isSubtype_exc hC ?_; first | rw [hcB] | rw [hcA] | rw [hcN]) | wp_step)
  show R _ _
  rw [Heap.size_push]
  exact hq
theorem type_call_kw (F : ExcBaseFacts B newId initId bmB) (hT : ∀ X : String, bm.contains (.type X) = bmB.contains (.type X)) {rest : List Value} {kw : List (Str × Value)} {fI : Addr} {Q : Fin → Shared → Prop}
    (hC : h.get? C = some (excClassObj nm q C N bs bm hdct sn sub ab col dd k0 k1 k2 k3 k5 newId))
    (hi : PySem.W.Looks (model prog w) h (typeLookup (.ref C) "__init__") (some (.ref fI))) (hb : ∀ self, PySem.W.Looks (model prog w) h (bindSpecial (.ref fI) self) (.ref fI, [self])) (hrest : rest.length ≤ sizeLine)
    (hq : codeAny (model prog w) A (.call (.ref fI) ⟨.ref (h.objs.size + 1) :: rest, kw⟩)
      (fun r s' => match r with | .ok (.ret v) => v = .none ∧ Q (.done (.ret (.ref (h.objs.size + 1)))) s' | .ok _ => False | .error e => E e s')
      ⟨(h.push (PySem.W.kdv_tup rest)).push (excO C h.objs.size), g, d, t, os⟩) :
    wpAny (model prog w) A (Builtin.«type.__call__» ⟨.ref C :: rest, kw⟩) Q E ⟨h, g, d, t, os⟩ := by
  repeat (first | with_reducible refine wpAny_loadPart_at hC ?_ | with_reducible refine wpAny_madeBy_exc hC ?_ | wp_step)
  refine codeAny_call_builtin_code (Code.quiet_builtin _ F.quiet) (check_new_kw F hT hC ?_)
  refine new_kw F hT hC ?_ hrest
  show wpAny _ _ _ _ _ _
  have k : ∀ b o, h.get? b = some o → ((h.push (PySem.W.kdv_tup rest)).push (excO C h.objs.size)).get? b = some o := fun b o e => Heap.get?_push_of_some _ (Heap.get?_push_of_some _ e)
  have hC₁ := k _ _ hC
  have hget : ((h.push (PySem.W.kdv_tup rest)).push (excO C h.objs.size)).get? (h.objs.size + 1) = some (excO C h.objs.size) := by heap_get
  have hcC : (Value.ref C :: bm).contains (.ref C) = true := by simp
  have i1 := hi.keeps k
  have b1 := (hb (.ref (h.objs.size + 1))).keeps k
  unfold isInstance
  repeat (first | with_reducible refine wpAny_loadPart_at hget ?_ | (with_reducible refine wpAny_isSubtype_exc hC₁ ?_; rw [hcC]) | wp_step)
  show wpAny _ _ (typeLookup (.ref C) _) _ _ _
  refine i1.at ?_
  refine wpAny_holding (wpAny_bind (b1.at ?_))
  refine wpAny_bind (wpAny_call (codeAny_mono hq fun r s' z => ?_))
  rcases r with e | (v | _ | _ | _) <;> first | exact z | exact z.elim | skip
  obtain ⟨rfl, z⟩ := z
  first
    | exact wpAny_pure (wpAny_pure z)
    | (wp_walk; exact z)
theorem call_kw (F : ExcBaseFacts B newId initId bmB) (hT : ∀ X : String, bm.contains (.type X) = bmB.contains (.type X)) {rest : List Value} {kw : List (Str × Value)} {fI : Addr}
    (hC : h.get? C = some (excClassObj nm q C N bs bm hdct sn sub ab col dd k0 k1 k2 k3 k5 newId))
    (hi : PySem.W.Looks (model prog w) h (typeLookup (.ref C) "__init__") (some (.ref fI))) (hb : ∀ self, PySem.W.Looks (model prog w) h (bindSpecial (.ref fI) self) (.ref fI, [self])) (hrest : rest.length ≤ sizeLine)
    (hq : codeAny (model prog w) (A.under (.builtin "type.__call__" ⟨.ref C :: rest, kw⟩)) (.call (.ref fI) ⟨.ref (h.objs.size + 1) :: rest, kw⟩) (PySem.W.InitBack (h.objs.size + 1) R)
      ⟨(h.push (PySem.W.kdv_tup rest)).push (excO C h.objs.size), g, d, t, os⟩) :
    codeAny (model prog w) A (.call (.ref C) ⟨rest, kw⟩) R ⟨h, g, d, t, os⟩ := by
  have f1 := tc_lookup
  have f2 := tc_bind (.ref C)
  have hTy : (⟨h, g, d, t, os⟩ : Shared).TypeIs (.ref C) "type" := ⟨_, hC, rfl⟩
  refine codeAny_of_tree ?_
  show wpAny _ _ (callAny (.ref C) _) _ _ _
  repeat (any_goals (first | assumption | with_reducible refine wpAny_loadPart_at hC ?_ | wp_step))
  refine ⟨rfl, ?_⟩
  refine codeAny_call_builtin_at (Code.quiet_builtin _ (by decide +kernel)) entry_typeCall (check_call_kw hC (type_call_kw F hT hC hi hb hrest ?_))
  refine codeAny_mono hq fun r s' z => ?_
  rcases r with e | (v | _ | _ | _) <;> exact z
end
end XC
end Onc
set_option Elab.async false
set_option linter.all false
set_option maxRecDepth 100000
set_option maxHeartbeats 4000000
/-! Within an own exception's __init__: super().__init__('..'), self.f = f. -/
namespace Onc
namespace XC
open PySem PySem.HandSPX
/-- what the written part and the text say of an own exception class, its __init__ -/
structure XSup (K : PySem.W.Frag) (prog : Program) (mg : Str → Option Value) (C fI cda cc : Addr) (scope : Scope) (fd : FuncData) (B newId i : String) (bmB : List Value) : Prop where
  fn : ∃ oc od osl, K.lookup fI = some ⟨oc, od, .func fd, osl⟩
  par : (fd.params.posonlyargs ++ fd.params.args).head?.map (·.arg) = some "self"
  code : ∃ ccl cdd vs ccs file tf, K.lookup cda = some ⟨ccl, cdd, .fields vs, ccs⟩ ∧ vs[2]? = some (.str file tf) ∧ ((prog.main.file : Str) == file) = true
  cell : ∃ cl cld csl, K.lookup cc = some ⟨cl, cld, .cell (some (.ref C)), csl⟩
  sub : PySem.W.mroIn K C (.ref C) = some true
  nosup : mg "super" = none
  lsuper : scope.names.lookup ("super" : Str) = some .globalImplicit
  lcls : scope.names.lookup ("__class__" : Str) = some .free
  lself : scope.names.lookup ("self" : Str) = some .local
  kind : scope.kind = .function
  top : (prog.main.scope.names.lookup ("super" : Str)).isSome = false
  opq : PySem.W.nsIn K cStatics "thirdparty.any" = some none
  hm : PySem.W.ks_superIn K C C "__init__" = some (some (.builtin i))
  isB : PySem.W.subIn K (.ref C) (.type B) = some true
  KF : PySem.W.KxsFacts B i
  FB : ExcBaseFacts B newId i bmB
  q : PySem.W.excInitIn K C bmB newId = true
section
variable {prog : Program} {w : World} {A : Around} {E : Value → Shared → Prop} {hp : Heap} {g : Array GenState} {d : Drawn} {t : Nat} {os : OsState} {K : PySem.W.Frag} {mg : Str → Option Value} {C fI cda cc L e t0 : Addr} {scope : Scope} {fd : FuncData} {B newId i : String} {bmB : List Value}
theorem boot_super : bootBuiltins "super" = some (.type "super") := by first | rfl | kernel_rfl
theorem eval_m1 {o : Expr} {m msg : Str} {k : Nat} {p3 apos cpos : Pos} {env : Env} (hl : (apos.endLine == cpos.line) = true) : eval (.Call (.Attribute o m apos) [.Constant (.str msg) k p3] [] cpos) env = (do
      let ov ← attributeBase o m env (eval o env)
      standAt apos.atName
      let (f, first) ← holding [ov] (getMethod ov m (do return (← importBound o env).getD true))
      callWith cpos f first (backTo cpos (starEach [.Constant (.str msg) k p3] env)) []) := by
  have e1 : methodCallPos true o env apos cpos = pure cpos := by
    unfold methodCallPos
    rw [hl]
    rfl
  show (do
      let ov ← attributeBase o m env (eval o env)
      standAt apos.atName
      let (f, first) ← holding [ov] (getMethod ov m (do return (← importBound o env).getD true))
      let callPos ← methodCallPos true o env apos cpos
      callWith callPos f first (backTo cpos (starEach [.Constant (.str msg) k p3] env)) []) = _
  rw [e1]
  rfl
theorem super_stmt {qual : Str} {body : List Stmt} {p0 p1 p2 p3 p4 p5 : Pos} {msg : Str} {k : Nat} {m : Str → Option Value} {Q : Flow → Shared → Prop} (hl : (p2.endLine == p4.line) = true) (S : XSup K prog mg C fI cda cc scope fd B newId i bmB) (X : K.In hp) (hns : hp.Ns L m) (hv : m "self" = some (.ref e))
    (hg : hp.Ns mainGlobals mg) (hb : ∃ mb, hp.Ns builtinsNs mb ∧ ∀ x : Str, x ≠ "__name__" → mb x = bootBuiltins x) (he : hp.get? e = some (excO C t0))
    (h : ∀ h' t' tk', (∀ b o, b ≠ e → hp.get? b = some o → h'.get? b = some o) → h'.get? e = some (excO C t') → Q .next ⟨h', g, d, tk', os⟩) :
    _root_.PySem.wpAt (model prog w) A (.func body (PySem.W.ksEnv qual scope L fI (.ref cda) cc)) (exec (.Expr (.Call (.Attribute (.Call (.Name "super" p0) [] [] p1) "__init__" p2) [.Constant (.str msg) k p3] [] p4) p5) (PySem.W.ksEnv qual scope L fI (.ref cda) cc)) Q E ⟨hp, g, d, t, os⟩ := by
  obtain ⟨oc, od, osl, hf⟩ := S.fn
  obtain ⟨ar, hpar, har⟩ := Option.map_eq_some_iff.mp S.par
  obtain ⟨ccl, cdd, vs, ccs, file, tf, hcode, hvs, hfile⟩ := S.code
  obtain ⟨cl, cld, csl, hcell⟩ := S.cell
  obtain ⟨mb, hb1, hb2⟩ := hb
  obtain ⟨cnm, cN, cqn, cbs, cbm, chd, csn, csub, cab, ccol, cdd2, k0, k1, k2, k3, k5, hC, hT⟩ := PySem.W.excInit_of X S.q
  have hm := S.hm
  cases hc : PySem.W.clsIn K C with
  | none => unfold PySem.W.ks_superIn at hm; rw [hc] at hm; cases hm
  | some cd =>
  unfold PySem.W.ks_superIn at hm
  rw [hc] at hm
  have I : PySem.W.InstAt hp e (excO C t0) C none := ⟨he, rfl, rfl, trivial⟩
  have hIs : PySem.W.Looks (model prog w) hp (isInstance (.ref e) (.type B)) true := I.type.andThen (PySem.W.looks_subIn X S.isB)
  refine ks_wpAt_Expr_any (ks_wpAt_MethodCall (pl := do return (← importBound _ _).getD true) ?_ (eval_m1 hl)) (by unfold interactive; rw [show (PySem.W.ksEnv qual scope L fI (.ref cda) cc).scope.kind = .function from S.kind]; rfl)
  refine ks_wpAt_super_base (env := PySem.W.ksEnv qual scope L fI (.ref cda) cc) S.lsuper S.lcls (by decide) rfl (X _ _ hf) rfl hpar rfl (X _ _ hcode) rfl hvs hfile S.top ?_
  refine PySem.W.ks_loadName_global S.kind S.lsuper (Calls.loadGlobal_builtin (env := PySem.W.ksEnv qual scope L fI (.ref cda) cc) hg S.nosup hb1 ((hb2 _ (by decide +kernel)).trans boot_super) ⟨rfl, ?_⟩)
  refine wpAny_loadName_free S.kind S.lcls rfl ⟨_, X _ _ hcell, rfl⟩ ?_
  rw [har]
  refine wpAny_loadName_local S.kind S.lself hns hv ?_
  refine ks_wpAny_isType_cls hC rfl ⟨rfl, ?_⟩
  refine ks_wpAny_call_super hC rfl he rfl (fun c z => nomatch z) (PySem.W.looks_mroIn X S.sub) (fun h2 e2 k2 => ?_)
  have X2 : K.In h2 := X.keeps k2
  refine PySem.W.kxs_getMethod S.KF e2 (PySem.W.looks_opaque X2 S.opq) (l₀ := cd.mro) (fun A Q E s k q => wpAny_bind ((PySem.W.looks_clsIn X2 hc) A _ E s k (wpAny_pure q))) rfl X2 hm (hIs.keeps k2) (PySem.W.ks_ne X I hc) (by decide) ?_
  have k3' : ∀ b o, hp.get? b = some o → (h2.push (PySem.W.kxs_mw i e)).get? b = some o := fun b o z => Heap.get?_push_of_some _ (k2 b o z)
  have hu : (h2.push (PySem.W.kxs_mw i e)).get? h2.objs.size = some (PySem.W.kxs_mw i e) := Heap.get?_push_at rfl rfl
  have he3 := k3' _ _ he
  have hC3 := k3' _ _ hC
  refine PySem.W.kxs_callWith (i := i) (x := e) rfl (PySem.Calls.evalArgs_plain (PySem.Calls.spliced_cons (PySem.Calls.Constant_str (pos := p3) (k := k) (PySem.Calls.spliced_nil ⟨hu, ?_⟩))))
  refine wpAny_call (codeAny_of_tree ?_)
  show wpAny _ A.in1 (callAny (.ref h2.objs.size) ⟨_, []⟩) _ _ _
  simp only [callAny]
  refine wpAny_bind (wpAny_load hu ?_)
  simp only [PySem.W.kxs_mw, show (Value.type "method-wrapper" == Value.type "method" || Value.type "method-wrapper" == Value.type "builtin_function_or_method" || Value.type "method-wrapper" == Value.type "method-wrapper") = true by decide, if_true]
  refine PySem.W.KFB.if_so (by decide) ?_
  refine wpAny_bind (PySem.W.check_bound_init S.FB.toExcCallFacts hC3 he3 rfl ?_)
  refine wpAny_bind (wpAny_pure (wpAny_pure ?_))
  refine ⟨plainId_quiet S.FB.init.plain _, codeAny_builtin S.FB.initEntry ?_⟩
  refine PySem.W.exc_init_tree (cls := .ref C) (t0 := t0) (dv := none) (c2 := .none) (c3 := .none) (b4 := .bool false) he3 (by show 1 ≤ sizeLine; rw [sizeLine_eq]; omega) fun h' kk e' t' => ?_
  exact h h' _ _ (fun b o nb z => kk b o nb (k3' b o z)) e'
end
end XC
end Onc
set_option Elab.async false
set_option linter.all false
set_option maxRecDepth 100000
set_option maxHeartbeats 4000000
/-! self.f = f within an own exception's __init__; the whole __init__. -/
namespace Onc
namespace XC
open PySem PySem.HandSPX
/-- what the class says of stores -/
structure XSto (K : PySem.W.Frag) (C : Addr) (B : String) (bmB : List Value) (f : Str) : Prop where
  SF : StoreFacts B bmB "object.__setattr__" "object"
  sa : PySem.W.findIn K (.ref C) "__setattr__" = some (some (.builtin "object.__setattr__"))
  ov : PySem.W.excOver K C bmB = true
  tk : PySem.W.takerIn K C f = some none
  hd : PySem.W.hasDictIn K C = true
section
open Builtin Builtin.ObjectAttr
variable {prog : Program} {w : World} {A : Around} {E : Value → Shared → Prop} {hp : Heap} {g : Array GenState} {d : Drawn} {t : Nat} {os : OsState} {K : PySem.W.Frag} {mg : Str → Option Value} {C fI cda cc L e t0 : Addr} {scope : Scope} {fd : FuncData} {B newId i : String} {bmB : List Value} {f : Str} {u : Value}
theorem osa_gen {tk : Tok} {R : Result → Shared → Prop} (T : XSto K C B bmB f) (X : K.In hp) (hx : hp.get? e = some (excO C t0))
    (hq : ∀ h' tk' dx, (∀ b o, b ≠ e → hp.get? b = some o → h'.get? b = some o) → hp.objs.size ≤ dx → dx ≠ e → h'.get? e = some { cls := .ref C, dict := some dx, data := .fields #[.ref t0, .none, .none, .none, .bool false, .none] } →
      h'.Ns1 dx (fun y => if y = f then some u else none) → R (.ok (.ret .none)) ⟨h', g, d, tk', os⟩) :
    codeAny (model prog w) A (.call (.builtin "object.__setattr__") ⟨[.ref e, .str f tk, u], []⟩) R ⟨hp, g, d, t, os⟩ := by
  have hxs : e ≠ hp.objs.size := Nat.ne_of_lt (Heap.lt_size hx)
  refine PySem.W.osa_openX (s := ⟨hp, g, d, t, os⟩) (od := none) T.SF X ⟨hx, rfl, rfl, trivial⟩ T.ov T.tk fun b => ?_
  obtain ⟨cd, hc, hd'⟩ := PySem.W.any_some T.hd
  have hcls : PySem.W.Looks (model prog w) hp (classData C) cd := PySem.W.looks_clsIn X hc
  obtain ⟨nm, bs, mro, ns, qn, hd, sn, sb, ab, col, del⟩ := cd
  dsimp only at hd'
  subst hd'
  show wpAny _ _ (storeInOwnDict (.ref e) (.ref C) (.str f tk) f u b) _ _ _
  unfold storeInOwnDict ownDictForStores
  repeat (first | with_reducible refine HandSPX.store_in_new ?_ ?_ | with_reducible refine wpAny_loadPart_at hx ?_ | with_reducible refine hcls.at ?_ | wp_step)
  · exact ⟨_, #[], _, (Heap.get?_update_ne _ _ _ _ hxs.symm).trans (Heap.get?_push_at rfl rfl), rfl, fun e he => absurd he (by simp), fun _ => rfl⟩
  · intro h' tk' hn' hs
    have hx₁ : (hp.push { cls := .type "dict", data := .dict #[] }).get? e = some (excO C t0) := Heap.get?_push_of_some _ hx
    refine hq h' tk' hp.objs.size (fun b o hb ho => ?_) (Nat.le_refl _) hxs.symm ?_ hn'
    · exact (hs.2 b (Nat.ne_of_lt (Heap.lt_size ho))).trans ((Heap.get?_update_ne _ _ _ _ hb).trans (Heap.get?_push_of_some _ ho))
    · exact (hs.2 e hxs).trans (Heap.get?_update_self _ hx₁ rfl)
theorem store_stmt {qual : Str} {body : List Stmt} {p5 p6 p7 p8 : Pos} {m : Str → Option Value} {Q : Flow → Shared → Prop} (S : XSup K prog mg C fI cda cc scope fd B newId i bmB) (T : XSto K C B bmB f) (X : K.In hp) (hns : hp.Ns L m) (hv : m "self" = some (.ref e)) (hu : m f = some u)
    (hk : scope.names.lookup f = some .local) (hdb : (f == ("__debug__" : Str)) = false) (he : hp.get? e = some (excO C t0))
    (h : ∀ h' tk' dx, (∀ b o, b ≠ e → hp.get? b = some o → h'.get? b = some o) → hp.objs.size ≤ dx → dx ≠ e → h'.get? e = some { cls := .ref C, dict := some dx, data := .fields #[.ref t0, .none, .none, .none, .bool false, .none] } →
      h'.Ns1 dx (fun y => if y = f then some u else none) → Q .next ⟨h', g, d, tk', os⟩) :
    _root_.PySem.wpAt (model prog w) A (.func body (PySem.W.ksEnv qual scope L fI (.ref cda) cc)) (exec (.Assign [.Attribute (.Name "self" p5) f p6] (.Name f p7) p8) (PySem.W.ksEnv qual scope L fI (.ref cda) cc)) Q E ⟨hp, g, d, t, os⟩ := by
  refine ks_wpAt_Assign_Attr ?_ (by rfl)
  refine wpAt_of_wpAny (wpAny_Name (wpAny_loadName_local S.kind hk hns hu ?_) hdb)
  refine wpAny_Name (wpAny_loadName_local S.kind S.lself hns hv ?_) (by decide)
  refine PySem.W.set_plain (s := ⟨hp, g, d, t, os⟩) X (ox := excO C t0) (od := none) ⟨he, rfl, rfl, trivial⟩ T.sa (osa_gen T X he fun h' tk' dx k1 k2 k3 k4 k5 => ?_)
  exact h h' _ dx k1 k2 k3 k4 k5
end
end XC
end Onc
set_option Elab.async false
set_option linter.all false
set_option maxRecDepth 100000
set_option maxHeartbeats 4000000
/-! An own exception's whole __init__; the class called. -/
namespace Onc
namespace XC
open PySem PySem.HandSPX
/-- an own exception's __init__, raw: no field, one field -/
def supS (p0 p1 p2 p3 p4 p5 : Pos) (msg : Str) (k : Nat) : Stmt := .Expr (.Call (.Attribute (.Call (.Name "super" p0) [] [] p1) "__init__" p2) [.Constant (.str msg) k p3] [] p4) p5
def stoS (f : Str) (p5 p6 p7 p8 : Pos) : Stmt := .Assign [.Attribute (.Name "self" p5) f p6] (.Name f p7) p8
section
variable {prog : Program} {w : World} {A : Around} {E : Value → Shared → Prop} {R : Result → Shared → Prop} {hp : Heap} {g : Array GenState} {d : Drawn} {t : Nat} {os : OsState} {K : PySem.W.Frag} {mg : Str → Option Value} {C fI cda cc e t0 : Addr} {scope : Scope} {B newId i : String} {bmB : List Value} {f : Str} {u : Value} {args : Args}
  {name qual : Str} {params : Arguments} {dV kV doc pm ct : Value} {an : Option Addr} {p0 p1 p2 p3 p4 p5 q5 q6 q7 q8 : Pos} {msg : Str} {k : Nat}
theorem init0 (hl : (p2.endLine == p4.line) = true) (S : XSup K prog mg C fI cda cc scope (PySem.W.ksFn name qual params [supS p0 p1 p2 p3 p4 p5 msg k] scope dV kV doc pm an (.ref cda) ct cc) B newId i bmB) (X : K.In hp) (hlim : hp.NoLimit) (hcd : PySem.W.codeIn K (.ref cda) qual = true)
    (hg : hp.Ns mainGlobals mg) (hb : ∃ mb, hp.Ns builtinsNs mb ∧ ∀ x : Str, x ≠ "__name__" → mb x = bootBuiltins x) (hcell : ∀ x ∈ scope.names, x.2 ≠ .cell) (hco : scope.isCoroutine = false) (hgen : scope.isGenerator = false) (hroom : A.depth < recursionLimit)
    (hbind : BindsTo ⟨hp, g, d, t, os⟩ (PySem.W.ksFn name qual params [supS p0 p1 p2 p3 p4 p5 msg k] scope dV kV doc pm an (.ref cda) ct cc) args [("self", .ref e)]) (he : hp.get? e = some (excO C t0))
    (h : ∀ h' t' tk', (∀ b o, b ≠ e → hp.get? b = some o → h'.get? b = some o) → h'.get? e = some (excO C t') → R (.ok (.ret .none)) ⟨h', g, d, tk', os⟩) :
    codeAny (model prog w) A (.call (.ref fI) args) R ⟨hp, g, d, t, os⟩ := by
  obtain ⟨oc, od, osl, hf⟩ := S.fn
  refine ks_codeAny_call_defAt hroom (X _ _ hf) rfl hlim (PySem.W.codeRec_of X hcd) rfl hbind hcell (fun x hx => ?_) (fun h₁ hns k₁ => ?_) hco hgen S.kind
  · rw [List.mem_singleton.mp hx]
    exact S.lself
  show _root_.PySem.wpAt (model prog w) (A.deeper (PySem.W.ksEnv qual scope hp.objs.size fI (.ref cda) cc)) (.func _ (PySem.W.ksEnv qual scope hp.objs.size fI (.ref cda) cc)) (execs [supS p0 p1 p2 p3 p4 p5 msg k] (PySem.W.ksEnv qual scope hp.objs.size fI (.ref cda) cc)) _ _ _
  refine ks_wpAt_execs_cons (super_stmt hl S (X.keeps k₁) hns rfl (hg.keeps k₁) (let ⟨mb, h1, h2⟩ := hb; ⟨mb, h1.keeps k₁, h2⟩) (k₁ _ _ he) fun h' t' tk' kk e' => ?_)
  exact wpAt_of_wpAny (wpAny_pure (h h' t' tk' (fun b o nb z => kk b o nb (k₁ b o z)) e'))
theorem init1 (hl : (p2.endLine == p4.line) = true) (S : XSup K prog mg C fI cda cc scope (PySem.W.ksFn name qual params [supS p0 p1 p2 p3 p4 p5 msg k, stoS f q5 q6 q7 q8] scope dV kV doc pm an (.ref cda) ct cc) B newId i bmB) (T : XSto K C B bmB f) (X : K.In hp) (hlim : hp.NoLimit) (hcd : PySem.W.codeIn K (.ref cda) qual = true)
    (hg : hp.Ns mainGlobals mg) (hb : ∃ mb, hp.Ns builtinsNs mb ∧ ∀ x : Str, x ≠ "__name__" → mb x = bootBuiltins x) (hcell : ∀ x ∈ scope.names, x.2 ≠ .cell) (hco : scope.isCoroutine = false) (hgen : scope.isGenerator = false) (hroom : A.depth < recursionLimit) (hk : scope.names.lookup f = some .local) (hdb : (f == ("__debug__" : Str)) = false) (hns : f ≠ ("self" : Str)) (hKe : K.lookup e = none)
    (hbind : BindsTo ⟨hp, g, d, t, os⟩ (PySem.W.ksFn name qual params [supS p0 p1 p2 p3 p4 p5 msg k, stoS f q5 q6 q7 q8] scope dV kV doc pm an (.ref cda) ct cc) args [("self", .ref e), (f, u)]) (he : hp.get? e = some (excO C t0))
    (h : ∀ h' t' tk' dx, (∀ b o, b ≠ e → hp.get? b = some o → h'.get? b = some o) → hp.objs.size ≤ dx → dx ≠ e → h'.get? e = some { cls := .ref C, dict := some dx, data := .fields #[.ref t', .none, .none, .none, .bool false, .none] } →
      h'.Ns1 dx (fun y => if y = f then some u else none) → R (.ok (.ret .none)) ⟨h', g, d, tk', os⟩) :
    codeAny (model prog w) A (.call (.ref fI) args) R ⟨hp, g, d, t, os⟩ := by
  obtain ⟨oc, od, osl, hf⟩ := S.fn
  refine ks_codeAny_call_defAt hroom (X _ _ hf) rfl hlim (PySem.W.codeRec_of X hcd) rfl hbind hcell (fun x hx => ?_) (fun h₁ hns1 k₁ => ?_) hco hgen S.kind
  · simp only [List.mem_cons, List.not_mem_nil, or_false] at hx
    rcases hx with rfl | rfl
    · exact S.lself
    · exact hk
  have hL : ∃ o, h₁.get? hp.objs.size = some o := let ⟨o, _, _, z, _⟩ := hns1; ⟨o, z⟩
  show _root_.PySem.wpAt (model prog w) (A.deeper (PySem.W.ksEnv qual scope hp.objs.size fI (.ref cda) cc)) (.func _ (PySem.W.ksEnv qual scope hp.objs.size fI (.ref cda) cc)) (execs [supS p0 p1 p2 p3 p4 p5 msg k, stoS f q5 q6 q7 q8] (PySem.W.ksEnv qual scope hp.objs.size fI (.ref cda) cc)) _ _ _
  have l1 : ([("self", Value.ref e), (f, u)] : List (Str × Value)).reverse.lookup ("self" : Str) = some (.ref e) := by
    show ([(f, u), ("self", Value.ref e)] : List (Str × Value)).lookup ("self" : Str) = _
    have : (("self" : Str) == f) = false := by simpa using fun z => hns z.symm
    simp [List.lookup, this]
  have l2 : ([("self", Value.ref e), (f, u)] : List (Str × Value)).reverse.lookup f = some u := by
    show ([(f, u), ("self", Value.ref e)] : List (Str × Value)).lookup f = _
    simp [List.lookup]
  have heL : hp.objs.size ≠ e := Nat.ne_of_gt (Heap.lt_size he)
  refine ks_wpAt_execs_cons (super_stmt hl S (X.keeps k₁) hns1 l1 (hg.keeps k₁) (let ⟨mb, h1, h2⟩ := hb; ⟨mb, h1.keeps k₁, h2⟩) (k₁ _ _ he) fun h2 t' tk' kk e' => ?_)
  have X2 : K.In h2 := fun b o z => by
    refine kk b o (fun y => ?_) (k₁ _ _ (X _ _ z))
    rw [y, hKe] at z
    cases z
  have hns2 : h2.Ns hp.objs.size fun y => ([("self", Value.ref e), (f, u)] : List (Str × Value)).reverse.lookup y := by
    obtain ⟨o, es, ep, z, r⟩ := hns1
    exact ⟨o, es, ep, kk _ _ heL z, r⟩
  refine ks_wpAt_execs_cons (store_stmt S T X2 hns2 l1 l2 hk hdb e' fun h3 tk3 dx k3 dx1 dx2 e3 n3 => ?_)
  refine wpAt_of_wpAny (wpAny_pure (h h3 t' tk3 dx (fun b o nb z => k3 b o nb (kk b o nb (k₁ b o z))) ?_ dx2 e3 n3))
  exact Nat.le_trans (Nat.le_of_lt (by obtain ⟨o, z⟩ := hL; exact Heap.lt_size (kk _ _ heL z))) dx1
end
end XC
end Onc
set_option Elab.async false
set_option linter.all false
set_option maxRecDepth 100000
set_option maxHeartbeats 4000000
/-! Own exceptions made, told by the hand layer's heap. -/
namespace Onc
namespace XC
open PySem PySem.Spec PyProof.Rows L2
/-- the pieces of such a class's __init__ -/
structure XRec where
  fI : Addr
  cda : Addr
  cc : Addr
  B : String
  newId : String
  i : String
  bmB : List Value
  scope : Scope
  name : Str
  qual : Str
  params : Arguments
  dV : Value
  kV : Value
  doc : Value
  pm : Value
  ct : Value
  an : Option Addr
abbrev XRec.fd (r : XRec) (body : List Stmt) : FuncData := PySem.W.ksFn r.name r.qual r.params body r.scope r.dV r.kV r.doc r.pm r.an (.ref r.cda) r.ct r.cc
structure XIni (P : Program) (K : PySem.W.Frag) (mg : Str → Option Value) (C : Addr) (r : XRec) (body : List Stmt) : Prop where
  S : XSup K P mg C r.fI r.cda r.cc r.scope (r.fd body) r.B r.newId r.i r.bmB
  code : PySem.W.codeIn K (.ref r.cda) r.qual = true
  cell : ∀ x ∈ r.scope.names, x.2 ≠ .cell
  co : r.scope.isCoroutine = false
  gen : r.scope.isGenerator = false
  init : PySem.W.findIn K (.ref C) "__init__" = some (some (.ref r.fI))
  ity : PySem.W.typeIn K (.ref r.fI) = some (.type "function")
/-- a class without a field; with one -/
def X0 (P : Program) (K : PySem.W.Frag) (mg : Str → Option Value) (C : Addr) : Prop := ∃ (r : XRec) (p0 p1 p2 p3 p4 p5 : Pos) (msg : Str) (k : Nat), (p2.endLine == p4.line) = true ∧ XIni P K mg C r [supS p0 p1 p2 p3 p4 p5 msg k] ∧
  ∀ e : Value, bindArgs (r.fd [supS p0 p1 p2 p3 p4 p5 msg k]) ⟨[e], []⟩ = pure [(("self" : Str), e)]
def X1 (P : Program) (K : PySem.W.Frag) (mg : Str → Option Value) (C : Addr) (f : Str) : Prop := ∃ (r : XRec) (p0 p1 p2 p3 p4 p5 q5 q6 q7 q8 : Pos) (msg : Str) (k : Nat), (p2.endLine == p4.line) = true ∧ XIni P K mg C r [supS p0 p1 p2 p3 p4 p5 msg k, stoS f q5 q6 q7 q8] ∧ XSto K C r.B r.bmB f ∧
  r.scope.names.lookup f = some .local ∧ (f == ("__debug__" : Str)) = false ∧ f ≠ ("self" : Str) ∧
  (∀ e u : Value, bindArgs (r.fd [supS p0 p1 p2 p3 p4 p5 msg k, stoS f q5 q6 q7 q8]) ⟨[e, u], []⟩ = pure [(("self" : Str), e), (f, u)]) ∧
  ∀ e u : Value, bindArgs (r.fd [supS p0 p1 p2 p3 p4 p5 msg k, stoS f q5 q6 q7 q8]) ⟨[e], [(f, u)]⟩ = pure [(("self" : Str), e), (f, u)]
section
variable {X : Cx} {pins : List (Addr × Obj)} {σ : L2.St} {H : Hp} {s : Shared} {C : Addr} {f : Str} {Q : VK}
theorem un_laid2 {fs ex : List Addr} {H : Hp} {h h' : Heap} {a d : Addr} {o1 o2 : HO} (k : ∀ b u, h.get? b = some u → h'.get? b = some u) (pa : h.get? a = none) (pd : h.get? d = none) (na : H a = none) (nd : H d = none) : Un fs ex H (upd (upd H d o2) a o1) h h' where
  keep := fun b u q _ _ _ => k b u q
  slot := fun b u q _ _ _ => ⟨u.slots, k b u q⟩
  free := fun b u q n _ => by rw [upd_ne (fun z => by rw [z, pa] at q; cases q), upd_ne (fun z => by rw [z, pd] at q; cases q)]; exact n
  there := fun b u q _ => ⟨u, k b u q⟩
  tups := fun b xs q => by rw [upd_ne (ne_of_none q na), upd_ne (ne_of_none q nd)]; exact q
  frzs := fun b u xs q => by rw [upd_ne (ne_of_none q na), upd_ne (ne_of_none q nd)]; exact q
  tbls := fun b ps q => ⟨#[], by rw [upd_ne (ne_of_none q na), upd_ne (ne_of_none q nd), q]; simp⟩
theorem laid2 {h' : Heap} {t' : Nat} {a d : Addr} {o1 o2 : HO} (I : Inv X pins σ H s) (k : ∀ b u, s.heap.get? b = some u → h'.get? b = some u) (pa : s.heap.get? a = none) (pd : s.heap.get? d = none) (na : H a = none) (nd : H d = none) (hda : d ≠ a)
    (n1 : ObjOk X.prog X.w (upd (upd H d o2) a o1) h' a o1) (n2 : ObjOk X.prog X.w (upd (upd H d o2) a o1) h' d o2) : Inv X pins σ (upd (upd H d o2) a o1) { s with heap := h', toks := t' } := by
  refine I.un (un_laid2 k pa pd na nd) fun b o q => ?_
  by_cases hb : b = a
  · subst hb
    rw [upd_same] at q
    cases q
    exact n1
  · rw [upd_ne hb] at q
    by_cases hd : b = d
    · subst hd
      rw [upd_same] at q
      cases q
      exact n2
    · rw [upd_ne hd] at q
      exact (I.hok b o q).stay (fun c v _ z => k c v z) (fun c q => by rw [upd_ne (ne_of_none q na), upd_ne (ne_of_none q nd)]; exact q) fun c xs q => by rw [upd_ne (ne_of_none q na), upd_ne (ne_of_none q nd)]; exact q
theorem x1_call {k : Nat} {pos : List Value} {kw : List (Str × Value)} {v : V} {u : Value} (T : X1 X.prog X.K X.mg C f) (hr : Room (k + 1) X.A) (I : Inv X pins σ H s) (rv : RelV v u) (ha : (pos = [u] ∧ kw = []) ∨ (pos = [] ∧ kw = [(f, u)]))
    (h : ∀ a dx, H a = none → H dx = none → dx ≠ a → Q (.ref a) (upd (upd H dx (.xd [(f, v)])) a (exo a C (some dx)))) :
    wpAny (model X.prog X.w) X.A (call (.ref C) pos kw) (EP X pins σ Q) X.xe s := by
  obtain ⟨r, p0, p1, p2, p3, p4, p5, q5, q6, q7, q8, msg, k0, hl, Y, Z, hk, hdb, hns, b1, b2⟩ := T
  obtain ⟨cnm, cN, cqn, cbs, cbm, chd, csn, csub, cab, ccol, cdd2, ck0, ck1, ck2, ck3, ck5, hC, hT⟩ := PySem.W.excInit_of I.kIn Y.S.q
  have hz : pos.length ≤ sizeLine := by
    rcases ha with ⟨rfl, _⟩ | ⟨rfl, _⟩
    · show 1 ≤ sizeLine
      rw [sizeLine_eq]; omega
    · exact Nat.zero_le _
  have glob := I.mod.glob.keeps I.bk
  obtain ⟨mb, hb1, hb2⟩ := I.mod.blt
  have blt : ∃ mb, s.heap.Ns builtinsNs mb ∧ ∀ x : Str, x ≠ "__name__" → mb x = bootBuiltins x := ⟨mb, hb1.keeps I.bk, hb2⟩
  have lim : s.heap.NoLimit := I.mod.nolimit.keeps I.bk
  have kin := I.kIn
  obtain ⟨hp, g, d, t, os⟩ := s
  have kk : ∀ b o, hp.get? b = some o → ((hp.push (PySem.W.kdv_tup pos)).push (PySem.HandSPX.excO C hp.objs.size)).get? b = some o := fun b o z => Heap.get?_push_of_some _ (Heap.get?_push_of_some _ z)
  have hget : ((hp.push (PySem.W.kdv_tup pos)).push (PySem.HandSPX.excO C hp.objs.size)).get? (hp.objs.size + 1) = some (PySem.HandSPX.excO C hp.objs.size) := by heap_get
  have hKe : X.K.lookup (hp.objs.size + 1) = none := by
    cases z : X.K.lookup (hp.objs.size + 1) with
    | none => rfl
    | some o => exact absurd (Heap.lt_size (kin _ _ z)) (Nat.not_lt.mpr (Nat.le_succ _))
  refine wpAny_call (call_kw Y.S.FB hT hC (PySem.W.looks_findIn kin Y.init) (fun self => PySem.W.bind_fn kin self Y.ity) hz ?_)
  refine init1 hl Y.S Z (kin.keeps kk) (lim.keeps kk) Y.code (glob.keeps kk) (let ⟨mb, h1, h2⟩ := blt; ⟨mb, h1.keeps kk, h2⟩) Y.cell Y.co Y.gen (hr.make C pos kw).depth hk hdb hns hKe (u := u) ?_ hget fun h' t' tk' dx k1 d1 d2 e1 n1 => ?_
  · rcases ha with ⟨rfl, rfl⟩ | ⟨rfl, rfl⟩
    · exact BindsTo.of_eq (b1 _ _)
    · exact BindsTo.of_eq (b2 _ _)
  have k2 : ∀ b o, hp.get? b = some o → h'.get? b = some o := fun b o z => k1 b o (Nat.ne_of_lt (Nat.lt_of_lt_of_le (Heap.lt_size z) (Nat.le_succ _))) (kk b o z)
  have sz : hp.objs.size ≤ dx := by
    rw [Heap.size_push, Heap.size_push] at d1
    omega
  have na : H (hp.objs.size + 1) = none := I.hok.fresh (Nat.le_succ _)
  have nd : H dx = none := I.hok.fresh sz
  refine ⟨rfl, V.ref (hp.objs.size + 1), _, laid2 (t' := tk') (d := dx) (o2 := .xd [(f, v)]) (o1 := exo (hp.objs.size + 1) C (some dx)) I k2 (Heap.get?_none_of_le (Nat.le_succ _)) (Heap.get?_none_of_le sz) na nd d2 (exo_ok e1) ?_, rfl, h _ dx na nd d2⟩
  refine ⟨_, n1, fun y => ?_⟩
  by_cases hy : y = f
  · subst hy
    rw [if_pos rfl]
    have : ([(y, v)] : List (Str × V)).lookup y = some v := by simp [List.lookup]
    rw [this]
    exact rv
  · rw [if_neg hy]
    have : ([(f, v)] : List (Str × V)).lookup y = none := by
      have : (y == f) = false := by simpa using hy
      simp [List.lookup, this]
    rw [this]
    exact True.intro
theorem x0_call {k : Nat} (T : X0 X.prog X.K X.mg C) (hr : Room (k + 1) X.A) (I : Inv X pins σ H s) (h : ∀ a, H a = none → Q (.ref a) (upd H a (exo a C none))) :
    wpAny (model X.prog X.w) X.A (call (.ref C) []) (EP X pins σ Q) X.xe s := by
  obtain ⟨r, p0, p1, p2, p3, p4, p5, msg, k0, hl, Y, b1⟩ := T
  obtain ⟨cnm, cN, cqn, cbs, cbm, chd, csn, csub, cab, ccol, cdd2, ck0, ck1, ck2, ck3, ck5, hC, hT⟩ := PySem.W.excInit_of I.kIn Y.S.q
  have glob := I.mod.glob.keeps I.bk
  obtain ⟨mb, hb1, hb2⟩ := I.mod.blt
  have blt : ∃ mb, s.heap.Ns builtinsNs mb ∧ ∀ x : Str, x ≠ "__name__" → mb x = bootBuiltins x := ⟨mb, hb1.keeps I.bk, hb2⟩
  have lim : s.heap.NoLimit := I.mod.nolimit.keeps I.bk
  have kin := I.kIn
  obtain ⟨hp, g, d, t, os⟩ := s
  have kk : ∀ b o, hp.get? b = some o → ((hp.push (PySem.W.kdv_tup [])).push (PySem.HandSPX.excO C hp.objs.size)).get? b = some o := fun b o z => Heap.get?_push_of_some _ (Heap.get?_push_of_some _ z)
  have hget : ((hp.push (PySem.W.kdv_tup [])).push (PySem.HandSPX.excO C hp.objs.size)).get? (hp.objs.size + 1) = some (PySem.HandSPX.excO C hp.objs.size) := by heap_get
  refine wpAny_call (call_kw Y.S.FB hT hC (PySem.W.looks_findIn kin Y.init) (fun self => PySem.W.bind_fn kin self Y.ity) (Nat.zero_le _) ?_)
  refine init0 hl Y.S (kin.keeps kk) (lim.keeps kk) Y.code (glob.keeps kk) (let ⟨mb, h1, h2⟩ := blt; ⟨mb, h1.keeps kk, h2⟩) Y.cell Y.co Y.gen (hr.make C [] []).depth (BindsTo.of_eq (b1 _)) hget fun h' t' tk' k1 e1 => ?_
  have k2 : ∀ b o, hp.get? b = some o → h'.get? b = some o := fun b o z => k1 b o (Nat.ne_of_lt (Nat.lt_of_lt_of_le (Heap.lt_size z) (Nat.le_succ _))) (kk b o z)
  have na : H (hp.objs.size + 1) = none := I.hok.fresh (Nat.le_succ _)
  exact ⟨rfl, V.ref (hp.objs.size + 1), _, I.laid (t' := tk') k2 (Nat.le_succ _) (exo_ok e1), rfl, h _ na⟩
end
end XC
end Onc
set_option Elab.async false
set_option linter.all false
set_option maxRecDepth 100000
set_option maxHeartbeats 1000000
/-! Exceptions as values: made, read, asked for their class. -/
namespace Onc
open PySem PySem.Spec PyProof.Rows L2
/-- what isinstance asks of such a class -/
structure XcI (K : PySem.W.Frag) (C : Addr) : Prop where
  cl : (PySem.W.clsIn K C).isSome = true
  ha : PySem.W.findIn K (.ref C) "__class__" = some (some (.builtin "object.__class__"))
  hn : PySem.W.specialIn K (.builtin "object.__class__") "__get__" = some (some (.builtin "getset_descriptor.__get__"))
  ht : PySem.W.takesIn K (.builtin "object.__class__") = some true
  hm : PySem.W.mroIn K C (.type "object") = some true
/-- an own exception class, as the text has it -/
structure XcAt (P : Program) (K : PySem.W.Frag) (mg : Str → Option Value) (x : Str) (b : String) (f : Option Str) (C : Addr) : Prop where
  m : mg x = some (.ref C)
  kp : PySem.W.keepIn K (.ref C) = true
  xf : XfC K C
  xi : XcI K C
  ini : match f with
    | none => XC.X0 P K mg C
    | some f => XC.X1 P K mg C f ∧ PySem.W.findIn K (.ref C) f = some none
def exNames : List String := ["LookupError", "ValueError", "KeyError", "IndexError"]
structure XcsOk (P : Program) (K : PySem.W.Frag) (mg : Str → Option Value) (ex : Str → Option (String × Option Str)) : Prop where
  at_ : ∀ x b f, ex x = some (b, f) → ∃ C, XcAt P K mg x b f C
  two : ∀ x y C D, (ex x).isSome = true → (ex y).isSome = true → mg x = some (.ref C) → mg y = some (.ref D) → PySem.W.kitOne K (.ref C) (.ref D) = some (decide (x = y))
  blt : ∀ x b f C, ex x = some (b, f) → mg x = some (.ref C) → ∀ t ∈ exNames, PySem.W.kitOne K (.ref C) (.type t) = some (decide (t = b))
section
variable {X : Cx} {E : XK} {XR : XRel} {g : Gx} {e : Expr} {fa : Loc → M D} {fs : Loc → M (List D)} {p pos py : Pos} {x f : Str} {b : String} {C : Addr}
def tMk1 (C : Addr) (f : Str) (t : TA) : TE := fun σ H Q => t σ H fun vs H1 => ∃ v, vs = [v] ∧ ∀ a dx, H1 a = none → H1 dx = none → dx ≠ a → Q (.ref a) (upd (upd H1 dx (.xd [(f, v)])) a (exo a C (some dx)))
theorem pe_mkx1 {k : Nat} {t : TA} (A : XcAt X.prog X.K X.mg x b (some f) C) (hr : Room (k + 1) X.A) (hg : Gl X x) (ha : PA X [e] t) (hdb : (x == ("__debug__" : Str)) = false) (h0 : isStar e = false) : PE X (.Call (.Name x p) [e] [] pos) (tMk1 C f t) := by
  refine ⟨fun pins s σ H Q I h => wpAny_Call_Name_kw (ld_glob I hg A.m ?_ hdb)⟩
  refine PySem.W.callWith_K (h₀ := X.base) I.ok.mod.kin A.kp (thn (ha.run pos pins s σ H _ I h) ?_) (starEach_one h0) rfl
  intro us s1 ⟨vs, H1, I1, r, v, ev, q⟩
  subst ev
  cases r with
  | cons rv rr =>
    cases rr
    exact ⟨I1.kIn, XC.x1_call A.ini.1 hr I1 rv (.inl ⟨rfl, rfl⟩) q⟩
theorem pe_mkxk {k : Nat} {t : TE} {kp : Pos} (A : XcAt X.prog X.K X.mg x b (some f) C) (hr : Room (k + 1) X.A) (hg : Gl X x) (ha : PE X e t) (hdb : (x == ("__debug__" : Str)) = false) : PE X (.Call (.Name x p) [] [⟨some f, e, kp⟩] pos) (tMk1 C f (tCons t tNil)) := by
  refine ⟨fun pins s σ H Q I h => wpAny_Call_Name_kw (ld_glob I hg A.m ?_ hdb)⟩
  refine PySem.W.callWith_KW0 (h₀ := X.base) I.ok.mod.kin A.kp (by rfl) ?_ (by rfl)
  refine thn ((pk_cons ha pk_nil).run pos pins s σ H _ I h) fun us s1 ⟨vs, H1, I1, r, v, ev, q⟩ => ⟨I1.kIn, ?_⟩
  subst ev
  cases r with
  | cons rv rr =>
    cases rr
    exact XC.x1_call A.ini.1 hr I1 rv (.inr ⟨rfl, rfl⟩) q
theorem pe_mkx0 {k : Nat} (A : XcAt X.prog X.K X.mg x b none C) (hr : Room (k + 1) X.A) (hg : Gl X x) (hdb : (x == ("__debug__" : Str)) = false) : PE X (.Call (.Name x p) [] [] pos) (fun _ H Q => ∀ a, H a = none → Q (.ref a) (upd H a (exo a C none))) := by
  refine ⟨fun pins s σ H Q I h => wpAny_Call_Name_kw (ld_glob I hg A.m ?_ hdb)⟩
  exact PySem.W.callWith_K0 I.kIn A.kp (XC.x0_call A.ini hr I h)
theorem mk1_ok {H1 : Hp} {ρ1 : Ro} {h1 h' : HS} {d : D} {v : V} {rr : Except Exc D} {Q : VK} (A : XcAt X.prog X.K X.mg x b (some f) C) (hx : g.exc x = some (b, some f)) (sh1 : SimH (kw X) H1 ρ1 h1) (rv : RD (kw X) H1 ρ1 d v) (e1 : M.opt (mkxO g x [d]) h1 = some (rr, h')) (p1 : Post (kw X) E XR (RD (kw X)) H1 ρ1 rr h' Q) :
    ∀ a dx, H1 a = none → H1 dx = none → dx ≠ a → Q (.ref a) (upd (upd H1 dx (.xd [(f, v)])) a (exo a C (some dx))) := by
  intro a dx na nd hda
  obtain ⟨y, ey, rfl, rfl⟩ := opt_of e1
  unfold mkxO at ey
  rw [hx] at ey
  cases ey
  have ec : (kw X).cl x = some C := by
    show clOf X.mg x = some C
    unfold clOf
    rw [A.m]
  have na' : upd H1 dx (.xd [(f, v)]) a = none := by rw [upd_ne (fun z => hda z.symm)]; exact na
  have x2 := (ext_new (o := .xd [(f, v)]) sh1 nd).trans (ext_new (o := exo a C (some dx)) (sh1.new nd) na')
  refine p1 _ _ ρ1 x2 ((sh1.new nd).new na') (.exc ⟨C, some dx, ec, upd_same, sh1.fresh na, .inr ⟨dx, f, v, rfl, rfl, rfl, by rw [upd_ne hda, upd_same], sh1.fresh nd⟩⟩ (.cons (rv.ext x2) .nil))
theorem ev_mkx1 {k : Nat} (A : XcAt X.prog X.K X.mg x b (some f) C) (hx : g.exc x = some (b, some f)) (hr : Room (k + 1) X.A) (hg : Gl X x) (hdb : (x == ("__debug__" : Str)) = false) (h0 : isStar e = false) (ha : EvS X E XR [e] fs) : EvE X E XR (.Call (.Name x p) [e] [] pos) (fun l => (fs l).bnd fun as => M.opt (mkxO g x as)) := by
  refine .of (pe_mkx1 A hr hg ha hdb h0) fun σ H ρ l h rr h' Q sl sh e p => ?_
  refine Rdg.can.step sl sh e p fun as h1 vs H1 ρ1 x1 sl1 sh1 r1 e1 p1 => ?_
  obtain ⟨y, ey, _⟩ := opt_of e1
  have hl : ∃ d, as = [d] := by
    unfold mkxO at ey
    rw [hx] at ey
    match as, ey with
    | [d], _ => exact ⟨d, rfl⟩
  obtain ⟨d, rfl⟩ := hl
  cases r1 with
  | cons rv rr2 =>
    cases rr2
    exact ⟨_, rfl, mk1_ok A hx sh1 rv e1 p1⟩
theorem ev_mkxk {k : Nat} {kp : Pos} (A : XcAt X.prog X.K X.mg x b (some f) C) (hx : g.exc x = some (b, some f)) (hr : Room (k + 1) X.A) (hg : Gl X x) (hdb : (x == ("__debug__" : Str)) = false) (ha : EvE X E XR e fa) : EvE X E XR (.Call (.Name x p) [] [⟨some f, e, kp⟩] pos) (fun l => (fa l).bnd fun d => M.opt (mkxO g x [d])) := by
  refine .of (pe_mkxk A hr hg ha hdb) fun σ H ρ l h rr h' Q sl sh e p => ?_
  refine Rdg.can.step sl sh e p fun d h1 v H1 ρ1 x1 sl1 sh1 r1 e1 p1 => ?_
  exact ⟨v, rfl, mk1_ok A hx sh1 r1 e1 p1⟩
theorem ev_mkx0 {k : Nat} (A : XcAt X.prog X.K X.mg x b none C) (hx : g.exc x = some (b, none)) (hr : Room (k + 1) X.A) (hg : Gl X x) (hdb : (x == ("__debug__" : Str)) = false) : EvE X E XR (.Call (.Name x p) [] [] pos) (fun _ => M.opt (mkxO g x [])) := by
  refine .of (pe_mkx0 A hr hg hdb) fun σ H ρ l h rr h' Q sl sh e p => ?_
  intro a na
  obtain ⟨y, ey, rfl, rfl⟩ := opt_of e
  unfold mkxO at ey
  rw [hx] at ey
  cases ey
  have ec : (kw X).cl x = some C := by
    show clOf X.mg x = some C
    unfold clOf
    rw [A.m]
  exact p _ _ ρ (ext_new sh na) (sh.new na) (.exc ⟨C, none, ec, upd_same, sh.fresh na, .inl ⟨rfl, rfl, rfl⟩⟩ .nil)
/-! ### read -/
def tXat (K : PySem.W.Frag) (f : Str) (te : TE) : TE := fun σ H Q => te σ H fun x H1 => ∃ (a C dx : Addr) (v : V), x = .ref a ∧ H1 a = some (exo a C (some dx)) ∧ H1 dx = some (.xd [(f, v)]) ∧ XfC K C ∧ PySem.W.findIn K (.ref C) f = some none ∧ Q v H1
theorem pe_xat {te : TE} (he : PE X e te) (hb : attributeBase e f X.env (eval e X.env) = eval e X.env) : PE X (.Attribute e f pos) (tXat X.K f te) := by
  refine ⟨fun pins s σ H Q I h => ?_⟩
  refine attr_of hb (thn (he.run pins s σ H _ I h) fun u s1 hh => ?_)
  obtain ⟨x, H1, I1, rx, a, C, dx, v, ex, ea, ed, T, hno, q⟩ := hh
  subst ex
  obtain rfl : u = Value.ref a := rx
  obtain ⟨t1, ho1⟩ := exo_at I1.hok ea
  have hx : ObjOk X.prog X.w H1 s1.heap dx (.xd [(f, v)]) := I1.hok dx _ ed
  obtain ⟨mA, hns, hr⟩ := hx
  obtain ⟨od, ho, hl⟩ := lookIn_ns hns
  obtain ⟨u, hu, ru⟩ := RelO.some_of (v := v) (o := mA f) (by
    have := hr f
    have z : ([(f, v)] : List (Str × V)).lookup f = some v := by simp [List.lookup]
    rw [z] at this
    exact this)
  have J : PySem.W.InstAt s1.heap a _ C (some od) := ⟨ho1, rfl, rfl, ho⟩
  exact PySem.HandSPX.exc_get I1.kIn J T.ga T.gg T.exC (PySem.W.findObj_own T.hdC hno rfl (by rw [hl, hu])) (handed_of ru) ⟨v, H1, I1.tok _, ru, q⟩
theorem cl_of {y : Str} (h : (kw X).cl y = some C) : X.mg y = some (.ref C) := by
  have h : clOf X.mg y = some C := h
  unfold clOf at h
  split at h
  · rename_i a e
    cases h
    exact e
  · cases h
theorem cls_eq {y : Str} {C D : Addr} (h : (kw X).cl y = some C) (m : X.mg y = some (.ref D)) : D = C := by
  have := cl_of h
  rw [m] at this
  cases this
  rfl
theorem ev_attrx (W : XcsOk X.prog X.K X.mg g.exc) (hb : attributeBase e f X.env (eval e X.env) = eval e X.env) (he : EvE X E XR e fa) : EvE X E XR (.Attribute e f pos) (fun l => (fa l).bnd fun x => M.opt (fldX g f x)) := by
  refine .of (pe_xat (f := f) he hb) fun σ H ρ l h rr h' Q sl sh e p => ?_
  refine Rdg.can.step sl sh e p fun x h1 v H1 ρ1 x1 sl1 sh1 r1 e1 p1 => ?_
  obtain ⟨y, ey, rfl, rfl⟩ := opt_of e1
  cases x <;> try (cases ey; done)
  rename_i x ns fs
  unfold fldX at ey
  split at ey
  · rename_i y' ns' d' heq
    cases heq
    cases q : g.exc x with
    | none => rw [q] at ey; cases ey
    | some bf =>
      rw [q] at ey
      obtain ⟨b, f'⟩ := bf
      cases f' with
      | none => cases ey
      | some f' =>
        have ey : (if f' = f ∧ ns = [f] then some d' else none) = some y := ey
        by_cases c : f' = f ∧ ns = [f]
        · rw [if_pos c] at ey
          cases ey
          obtain ⟨rfl, rfl⟩ := c
          cases r1 with
          | exc F rs =>
            obtain ⟨C, d0, ec, ea, na, q2⟩ := F
            rcases q2 with ⟨_, z, _⟩ | ⟨dx, f2, v2, rfl, e2, rfl, ed, nd⟩
            · cases z
            · cases e2
              cases rs with
              | cons rv rr =>
                obtain ⟨D, A⟩ := W.at_ x b (some f') q
                have := cls_eq ec A.m
                subst this
                exact ⟨_, D, dx, v2, rfl, ea, ed, A.xf, A.ini.2, p1.here sh1 rv⟩
        · rw [if_neg c] at ey; cases ey
  · cases ey
/-! ### isinstance -/
def rIsX (K : PySem.W.Frag) : List V → Hp → VK → Prop := fun xs H Q => ∃ (a C : Addr) (d : Option Addr) (c : V) (u : Value) (b : Bool), xs = [.ref a, c] ∧ ClsV c u ∧ H a = some (exo a C d) ∧ (∀ dx, d = some dx → ∃ f v, H dx = some (.xd [(f, v)])) ∧ XfC K C ∧ XcI K C ∧ PySem.W.kitOne K (.ref C) u = some b ∧ Q (.bl b) H
def rIsXT (K : PySem.W.Frag) : List V → Hp → VK → Prop := fun xs H Q => ∃ (a C tp : Addr) (d : Option Addr) (cs : List V) (us : List Value) (b : Bool), xs = [.ref a, .ref tp] ∧ H tp = some (.tup cs) ∧ Paired ClsV cs us ∧ H a = some (exo a C d) ∧ (∀ dx, d = some dx → ∃ f v, H dx = some (.xd [(f, v)])) ∧ XfC K C ∧ XcI K C ∧ PySem.W.kitAny K (.ref C) us = some b ∧ Q (.bl b) H
theorem inst_x {pins : List (Addr × Obj)} {σ : L2.St} {H : Hp} {s : Shared} {a : Addr} {d : Option Addr} (I : Inv X pins σ H s) (ea : H a = some (exo a C d)) (ed : ∀ dx, d = some dx → ∃ f v, H dx = some (.xd [(f, v)])) : ∃ ox od, PySem.W.InstAt s.heap a ox C od := by
  obtain ⟨t1, ho1⟩ := exo_at I.hok ea
  cases d with
  | none => exact ⟨_, none, ho1, rfl, rfl, trivial⟩
  | some dx =>
    obtain ⟨f, v, ed⟩ := ed dx rfl
    have hx : ObjOk X.prog X.w H s.heap dx (.xd [(f, v)]) := I.hok dx _ ed
    obtain ⟨mA, hns, hr⟩ := hx
    obtain ⟨od, ho, hl⟩ := lookIn_ns hns
    exact ⟨_, some od, ho1, rfl, rfl, ho⟩
theorem call_isX : CallR X (.builtin "isinstance") (rIsX X.K) := by
  intro pins s σ H xs us Q I r h
  obtain ⟨a, C, d, c, u, b, rfl, k, ea, ed, T, J, e, q⟩ := h
  obtain ⟨u1, u2, rfl, r1, r2⟩ := vals2 r
  have e2 := k.eq r2
  subst e2
  cases (show u1 = Value.ref a from r1)
  obtain ⟨ox, od, Y⟩ := inst_x I ea ed
  exact PySem.W.kia_one (PySem.W.kitx_exc J.cl T.ga T.gg T.exC J.ha J.hn J.ht J.hm) I.kIn Y e (fun z => nomatch z) fun tk => ⟨.bl b, H, I.tok tk, rfl, q⟩
theorem call_isXT : CallR X (.builtin "isinstance") (rIsXT X.K) := by
  intro pins s σ H xs us Q I r h
  obtain ⟨a, C, tp, d, cs, ws, b, rfl, hT, k, ea, ed, T, J, e, q⟩ := h
  obtain ⟨u1, u2, rfl, r1, r2⟩ := vals2 r
  cases (show u1 = Value.ref a from r1)
  cases (show u2 = Value.ref tp from r2)
  obtain ⟨ox, od, Y⟩ := inst_x I ea ed
  obtain ⟨_, its, rv, o, h1, h2, n, h3⟩ := (show ObjOk X.prog X.w H s.heap tp (.tup cs) from I.hok tp _ hT)
  have e3 := ClsV.all k rv
  subst e3
  obtain ⟨oc, od2, dt, sl⟩ := o
  simp only at h2 h3
  subst h2 h3
  exact PySem.W.kia_tup (PySem.W.kitx_exc J.cl T.ga T.gg T.exC J.ha J.hn J.ht J.hm) I.kIn Y h1 e (fun z => nomatch z) fun tk => ⟨.bl b, H, I.tok tk, rfl, q⟩
theorem exc_get {H1 : Hp} {ρ1 : Ro} {ns : List Str} {ds : List D} {v : V} (W : XcsOk X.prog X.K X.mg g.exc) (hx : (g.exc x).isSome = true) (r : RD (kw X) H1 ρ1 (.exc x ns ds) v) :
    ∃ (a C : Addr) (d : Option Addr), v = .ref a ∧ X.mg x = some (.ref C) ∧ H1 a = some (exo a C d) ∧ (∀ dx, d = some dx → ∃ f v, H1 dx = some (.xd [(f, v)])) ∧ XfC X.K C ∧ XcI X.K C := by
  cases r with
  | exc F rs =>
    obtain ⟨C, d0, ec, ea, na, q2⟩ := F
    obtain ⟨bf, hb⟩ := Option.isSome_iff_exists.mp hx
    obtain ⟨D, A⟩ := W.at_ x bf.1 bf.2 hb
    have := cls_eq ec A.m
    subst this
    refine ⟨_, D, d0, rfl, A.m, ea, fun dx hd => ?_, A.xf, A.xi⟩
    rcases q2 with ⟨z, _⟩ | ⟨dx', f2, v2, z, _, _, ed, _⟩
    · rw [z] at hd; cases hd
    · rw [z] at hd
      cases hd
      exact ⟨f2, v2, ed⟩
theorem ev_isx {c : Str} {p1 p2 : Pos} (W : XcsOk X.prog X.K X.mg g.exc) (hI : Gl X "isinstance") (hm : X.mg "isinstance" = none) (hs : isStar e = false) (hg : Gl X c) (hdb : (c == ("__debug__" : Str)) = false) (hc : (g.exc c).isSome = true) (he : EvE X E XR e fa) :
    EvE X E XR (.Call (.Name "isinstance" p1) [e, .Name c p2] [] pos) (fun l => (fa l).bnd fun x => (M.opt (isxP g c x)).bnd fun b => M.ret (.bl b)) := by
  obtain ⟨bf, hb⟩ := Option.isSome_iff_exists.mp hc
  obtain ⟨D, A⟩ := W.at_ c bf.1 bf.2 hb
  refine .of (pe_callB call_isX hI hm (by decide +kernel) (pa_cons he (pa_cons (pe_glob (v := .ref D) hg A.m rfl hdb) pa_nil) (starEach_one hs)) (by decide) (by decide) (starEach_one hs) rfl) fun σ H ρ l h rr h' Q sl sh e p => ?_
  refine Rdg.can.step sl sh e p fun x h1 v H1 ρ1 x1 sl1 sh1 r1 e1 p1 => ?_
  obtain ⟨b, hb, e2⟩ := bnd_opt (h := h1) e1
  cases e2
  cases x <;> try (cases hb; done)
  rename_i x ns fs
  have hb : (if ((g.exc x).isSome && (g.exc c).isSome) = true then some (decide (x = c)) else none) = some b := hb
  by_cases q : ((g.exc x).isSome && (g.exc c).isSome) = true
  · rw [if_pos q] at hb
    cases hb
    have hx := (Bool.and_eq_true_iff.mp q).1
    obtain ⟨a, C, d, rfl, mC, ea, ed, T, J⟩ := exc_get W hx r1
    exact ⟨a, C, d, .ref D, .ref D, decide (x = c), rfl, .own D, ea, ed, T, J, W.two x c C D hx hc mC A.m, p1.here sh1 (.bl _)⟩
  · rw [if_neg q] at hb
    cases hb
theorem boot_ex {u : String} (h : u ∈ exNames) : bootBuiltins (Str.ofString u) = some (.type u) ∧ Str.ofString u ≠ "__name__" ∧ (Str.ofString u == ("__debug__" : Str)) = false := by
  have hu : u = "LookupError" ∨ u = "ValueError" ∨ u = "KeyError" ∨ u = "IndexError" := by simpa [exNames] using h
  rcases hu with rfl | rfl | rfl | rfl <;> exact ⟨by decide +kernel, by decide, by decide⟩
theorem pe_exName {u : String} {p : Pos} (h : u ∈ exNames) (hg : Gl X (Str.ofString u)) (hm : X.mg (Str.ofString u) = none) : PE X (.Name (Str.ofString u) p) (tC (.ty u)) :=
  pe_bltn hg hm (boot_ex h).1 rfl (boot_ex h).2.1 (boot_ex h).2.2
theorem pa_exs : ∀ {us : List String} {ps : List Pos}, us.length = ps.length → (∀ u ∈ us, u ∈ exNames ∧ Gl X (Str.ofString u) ∧ X.mg (Str.ofString u) = none) →
    PA X ((us.zip ps).map fun z => Expr.Name (Str.ofString z.1) z.2) (fun _ H Q => Q (us.map V.ty) H)
  | [], [], _, _ => pa_nil
  | u :: us, p :: ps, hl, h => by
    have ih := pa_exs (us := us) (ps := ps) (Nat.succ.inj hl) fun z hz => h z (List.mem_cons_of_mem _ hz)
    obtain ⟨h1, h2, h3⟩ := h u List.mem_cons_self
    exact pa_cons (pe_exName h1 h2 h3) ih
  | [], _ :: _, hl, _ => nomatch hl
  | _ :: _, [], hl, _ => nomatch hl
theorem kitAny_x {b : String} : ∀ {us : List String}, (∀ u ∈ us, PySem.W.kitOne X.K (.ref C) (.type u) = some (decide (u = b))) → PySem.W.kitAny X.K (.ref C) (us.map Value.type) = some (us.any fun t => decide (t = b))
  | [], _ => rfl
  | u :: us, h => by
    have ih := kitAny_x (us := us) fun z hz => h z (List.mem_cons_of_mem _ hz)
    show PySem.W.kitAny X.K (.ref C) (Value.type u :: us.map Value.type) = _
    rw [PySem.W.kitAny, h u List.mem_cons_self, List.any_cons]
    cases decide (u = b) with
    | true => rfl
    | false => exact ih
theorem isb_get {us : List String} {x0 : D} {b : Bool} {H1 : Hp} {ρ1 : Ro} {v : V} (W : XcsOk X.prog X.K X.mg g.exc) (hu : ∀ u ∈ us, u ∈ exNames) (hb : isbP g us x0 = some b) (r1 : RD (kw X) H1 ρ1 x0 v) :
    ∃ (a C : Addr) (d : Option Addr), v = .ref a ∧ H1 a = some (exo a C d) ∧ (∀ dx, d = some dx → ∃ f v, H1 dx = some (.xd [(f, v)])) ∧ XfC X.K C ∧ XcI X.K C ∧ PySem.W.kitAny X.K (.ref C) (us.map Value.type) = some b ∧ ∀ u, us = [u] → PySem.W.kitOne X.K (.ref C) (.type u) = some b := by
  cases x0 <;> try (cases hb; done)
  rename_i x ns fs
  obtain ⟨bf, hbf, rfl⟩ := Option.map_eq_some_iff.mp (show (g.exc x).map (fun p => us.any fun t => decide (t = p.1)) = some b from hb)
  obtain ⟨a, C, d, rfl, mC, ea, ed, T, J⟩ := exc_get W (by rw [hbf]; rfl) r1
  have k : ∀ u ∈ us, PySem.W.kitOne X.K (.ref C) (.type u) = some (decide (u = bf.1)) := fun u hm => W.blt x bf.1 bf.2 C hbf mC u (hu u hm)
  refine ⟨a, C, d, rfl, ea, ed, T, J, kitAny_x k, fun u hu1 => ?_⟩
  subst hu1
  rw [k u List.mem_cons_self, List.any_cons, List.any_nil, Bool.or_false]
theorem ev_isb1 {u : String} {p1 p2 : Pos} (W : XcsOk X.prog X.K X.mg g.exc) (hI : Gl X "isinstance") (hm : X.mg "isinstance" = none) (hs : isStar e = false) (he : EvE X E XR e fa) (hu : u ∈ exNames) (hg : Gl X (Str.ofString u)) (hn : X.mg (Str.ofString u) = none) :
    EvE X E XR (.Call (.Name "isinstance" p1) [e, .Name (Str.ofString u) p2] [] pos) (fun l => (fa l).bnd fun x => (M.opt (isbP g [u] x)).bnd fun b => M.ret (.bl b)) := by
  refine .of (pe_callB call_isX hI hm (by decide +kernel) (pa_cons he (pa_cons (pe_exName hu hg hn) pa_nil) (starEach_one hs)) (by decide) (by decide) (starEach_one hs) rfl) fun σ H ρ l h rr h' Q sl sh e p => ?_
  refine Rdg.can.step sl sh e p fun x h1 v H1 ρ1 x1 sl1 sh1 r1 e1 p1 => ?_
  obtain ⟨b, hb, e2⟩ := bnd_opt (h := h1) e1
  cases e2
  obtain ⟨a, C, d, rfl, ea, ed, T, J, _, k⟩ := isb_get W (fun z hz => by rw [List.mem_singleton.mp hz]; exact hu) hb r1
  exact ⟨a, C, d, .ty u, .type u, b, rfl, .ty u, ea, ed, T, J, k u rfl, p1.here sh1 (.bl _)⟩
theorem ev_isbT {us : List String} {ps : List Pos} {k : Nat} {p1 p2 : Pos} (W : XcsOk X.prog X.K X.mg g.exc) (hl : us.length = ps.length) (h100 : us.length ≤ 100) (hI : Gl X "isinstance") (hm : X.mg "isinstance" = none) (hs : isStar e = false) (he : EvE X E XR e fa)
    (hu : ∀ u ∈ us, u ∈ exNames ∧ Gl X (Str.ofString u) ∧ X.mg (Str.ofString u) = none) :
    EvE X E XR (.Call (.Name "isinstance" p1) [e, .Tuple ((us.zip ps).map fun z => Expr.Name (Str.ofString z.1) z.2) k p2] [] pos) (fun l => (fa l).bnd fun x => (M.opt (isbP g us x)).bnd fun b => M.ret (.bl b)) := by
  refine .of (pe_callB call_isXT hI hm (by decide +kernel) (pa_cons he (pa_cons (pe_tup (pa_exs hl hu)) pa_nil) (starEach_one hs)) (by decide) (by decide) (starEach_one hs) rfl) fun σ H ρ l h rr h' Q sl sh e p => ?_
  refine Rdg.can.step sl sh e p fun x h1 v H1 ρ1 x1 sl1 sh1 r1 e1 p1 => ?_
  obtain ⟨b, hb, e2⟩ := bnd_opt (h := h1) e1
  cases e2
  refine ⟨by rw [List.length_map, sizeLine_eq]; omega, fun q n => ?_⟩
  have x2 := ext_new (o := .tup (us.map V.ty)) sh1 n
  have sh2 := sh1.new (o := .tup (us.map V.ty)) n
  obtain ⟨a, C, d, rfl, ea, ed, T, J, k, _⟩ := isb_get W (fun z hz => (hu z hz).1) hb (r1.ext x2)
  exact ⟨a, C, q, d, _, us.map Value.type, b, rfl, upd_same, cls_all us, ea, ed, T, J, k, p1 _ _ ρ1 x2 sh2 (.bl _)⟩
end
end Onc
set_option Elab.async false
set_option linter.all false
set_option maxRecDepth 100000
set_option maxHeartbeats 1000000
/-! The check that a term is of a piece of syntax; it is sound. -/
namespace Onc
open PySem PySem.Spec PyProof.Rows L2

structure Ctx where
  N : List Str
  w : Scope
  sc : Scope
  fns : List Str
  /-- the classes that are made, the methods that are called -/
  mks : List Str
  mts : List (Str × Str)
  /-- own exception classes, the field of each -/
  xcs : List (Str × Option Str)
def Ctx.stb (c : Ctx) (x : Str) : Bool := match c.w.names.lookup x with
  | some .local | some .cell => true
  | _ => false
def Ctx.vis (c : Ctx) (x : Str) : Bool := match c.sc.names.lookup x with
  | some .local | some .cell | some .free => true
  | _ => false
def Ctx.gl (c : Ctx) (x : Str) : Bool := decide (c.sc.names.lookup x = some .globalImplicit)
def Ctx.blk (c : Ctx) (scope : Scope) : Ctx := { c with w := scope, sc := relS scope c.sc }
inductive Sx where
  | v (e : Expr) | t (e : Expr) | w (e : Expr) | s (es : List Expr) | p (o : Option Expr) | i (es : List Expr) | j (k : Nat) (tg it : Expr)
def nodbg (x : Str) : Bool := !(x == ("__debug__" : Str)) && !(x == ("__classdict__" : Str))
def noStars (es : List Expr) : Bool := es.all (!isStar ·)
/-- a node that is read as a value -/
def mkV (V : Expr → Bool) : Sx → Bool
  | .v e => V e
  | .t e => plainTest e && V e
  | .i [e] => plainTest e && V e
  | .p (some e) => V e
  | _ => false
def mkT (V T : Expr → Bool) : Sx → Bool
  | .v e => V e
  | .t e => T e
  | .i [e] => T e
  | .p (some e) => V e
  | _ => false
def mkC (V : Expr → Bool) : Sx → Bool
  | .v e => V e
  | .t e => V e
  | .i [e] => V e
  | .p (some e) => V e
  | _ => false
def tyRow : List String → List Expr → Bool
  | [], [] => true
  | u :: us, .Name y _ :: es => decide (y = Str.ofString u) && decide (u ∈ tyNames) && tyRow us es
  | _, _ => false
def exRowN : List String → List Expr → Bool
  | [], [] => true
  | u :: us, .Name y _ :: es => decide (y = Str.ofString u) && decide (u ∈ exNames) && exRowN us es
  | _, _ => false
def E.isNil : E → Bool
  | .nil => true
  | _ => false
def isTuple : Expr → Bool
  | .Tuple .. => true
  | _ => false
def itName (k : Nat) (f : Str) (as : List Expr) (tg : Expr) : Bool :=
  match k, as with
  | 1, [] => decide (f = "range")
  | 2, [_] => decide (f = "range")
  | 3, [] => decide (f = "enumerate") && isTuple tg
  | 4, [_] => decide (f = "zip") && isTuple tg
  | _, _ => false

def tr (c : Ctx) : E → Sx → Bool
  | .var i => mkV fun
    | .Name x _ => decide (c.N[i]? = some x) && c.vis x && nodbg x
    | _ => false
  | .glob y => mkV fun
    | .Name x _ => decide (y = x) && c.gl x && nodbg x
    | _ => false
  | .int i => mkV fun
    | .Constant (.int j) _ _ => decide (j = i)
    | _ => false
  | .bl b => mkV fun
    | .Constant (.bool j) _ _ => decide (j = b)
    | _ => false
  | .non => mkV fun
    | .Constant .none _ _ => true
    | _ => false
  | .str x => mkV fun
    | .Constant (.str y) _ _ => decide (y = x)
    | _ => false
  | .bin _ op a b => mkV fun
    | .BinOp l o r _ => decide (o = op) && tr c a (.v l) && tr c b (.v r)
    | _ => false
  | .neg a => mkV fun
    | .UnaryOp .USub l _ => tr c a (.v l)
    | _ => false
  | .cmp op a b => mkC fun
    | .Compare l [o] [r] _ => decide (o = op) && !isSet r && tr c a (.v l) && tr c b (.v r)
    | _ => false
  | .isN a => mkC fun
    | .Compare l [.Is] [.Constant .none _ _] _ => tr c a (.v l)
    | _ => false
  | .notN a => mkC fun
    | .Compare l [.IsNot] [.Constant .none _ _] _ => tr c a (.v l)
    | _ => false
  | .chain op op' a b d => mkC fun
    | .Compare l [o, o'] [m, r] _ => decide (o = op) && decide (o' = op') && !isSet m && !isSet r && tr c a (.v l) && tr c b (.v m) && tr c d (.v r)
    | _ => false
  | .and a r => fun
    | .v (.BoolOp .And (l :: m :: rest) pos) => tr c a (.v l) && tr c r (.v (.BoolOp .And (m :: rest) pos))
    | .t (.BoolOp .And (l :: m :: rest) pos) => tr c a (.t l) && tr c r (.w (.BoolOp .And (m :: rest) pos))
    | .w (.BoolOp .And (l :: m :: rest) pos) => tr c a (.t l) && tr c r (.w (.BoolOp .And (m :: rest) pos))
    | .i [.BoolOp .And (l :: m :: rest) pos] => tr c a (.t l) && tr c r (.w (.BoolOp .And (m :: rest) pos))
    | _ => false
  | .and1 a => fun
    | .v (.BoolOp .And [l] _) => tr c a (.v l)
    | .w (.BoolOp .And [l] _) => tr c a (.t l)
    | _ => false
  | .or a r => fun
    | .v (.BoolOp .Or (l :: m :: rest) pos) => tr c a (.v l) && tr c r (.v (.BoolOp .Or (m :: rest) pos))
    | .t (.BoolOp .Or (l :: m :: rest) pos) => tr c a (.t l) && tr c r (.w (.BoolOp .Or (m :: rest) pos))
    | .w (.BoolOp .Or (l :: m :: rest) pos) => tr c a (.t l) && tr c r (.w (.BoolOp .Or (m :: rest) pos))
    | .i [.BoolOp .Or (l :: m :: rest) pos] => tr c a (.t l) && tr c r (.w (.BoolOp .Or (m :: rest) pos))
    | _ => false
  | .or1 a => fun
    | .v (.BoolOp .Or [l] _) => tr c a (.v l)
    | .w (.BoolOp .Or [l] _) => tr c a (.t l)
    | _ => false
  | .not a => mkT (fun
      | .UnaryOp .Not l _ => tr c a (.v l)
      | _ => false) fun
      | .UnaryOp .Not l _ => tr c a (.t l)
      | _ => false
  | .ite q a b => mkT (fun
      | .IfExp t l r _ => tr c q (.t t) && tr c a (.v l) && tr c b (.v r)
      | _ => false) fun
      | .IfExp t l r _ => tr c q (.t t) && tr c a (.t l) && tr c b (.t r)
      | _ => false
  | .tup es => mkV fun
    | .Tuple l _ _ => tr c es (.s l)
    | _ => false
  | .lst _ es => mkV fun
    | .List l _ => tr c es (.s l)
    | _ => false
  | .ix a b => mkV fun
    | .Subscript l r _ => !isSlice r && tr c a (.v l) && tr c b (.v r)
    | _ => false
  | .sl _ a lo hi => mkV fun
    | .Subscript l (.Slice u v none _) _ => tr c a (.v l) && tr c lo (.p u) && tr c hi (.p v)
    | _ => false
  | .rev _ a => mkV fun
    | .Subscript l (.Slice none none (some (.UnaryOp .USub (.Constant (.int 1) _ _) _)) _) _ => tr c a (.v l)
    | _ => false
  | .call f es => mkV fun
    | .Call (.Name x _) as [] _ => decide (f = x) && c.gl x && nodbg x && c.fns.contains x && noStars as && tr c es (.s as)
    | _ => false
  | .blt _ f es => mkV fun
    | .Call (.Name x _) (a :: as) [] _ => decide (x = Str.ofString f) && decide (f ∈ bltNames) && c.gl x && noStars (a :: as) && tr c es (.s (a :: as))
    | _ => false
  | .isi a tys => mkV fun
    | .Call (.Name x _) [l, .Name y _] [] _ => decide (x = "isinstance") && c.gl x && !isStar l && tr c a (.v l) && (match tys with
      | [u] => decide (y = Str.ofString u) && decide (u ∈ tyNames) && c.gl y
      | _ => false)
    | .Call (.Name x _) [l, .Tuple es _ _] [] _ => decide (x = "isinstance") && c.gl x && !isStar l && tr c a (.v l) && tyRow tys es && decide (tys ≠ []) && decide (tys.length ≤ 100) && tys.all fun u => c.gl (Str.ofString u)
    | _ => false
  | .app o e => mkV fun
    | .Call (.Attribute l x p) [a] [] q => decide (x = "append") && !isCall0 l && (p.endLine == q.line) && !isStar a && tr c o (.v l) && tr c e (.v a)
    | _ => false
  | .ext o e => mkV fun
    | .Call (.Attribute l x p) [a] [] q => decide (x = "extend") && !isCall0 l && (p.endLine == q.line) && !isStar a && tr c o (.v l) && tr c e (.v a)
    | _ => false
  | .attr a f => mkV fun
    | .Attribute l x _ => decide (x = f) && !isCall0 l && tr c a (.v l)
    | _ => false
  | .mk x es => mkV fun
    | .Call (.Name y _) (a :: as) [] _ => decide (y = x) && c.gl y && nodbg y && c.mks.contains x && noStars (a :: as) && tr c es (.s (a :: as))
    | _ => false
  | .mcl x a m es => mkV fun
    | .Call (.Attribute (.Name y py) n p) [] [] q => decide (n = m) && (p.endLine == q.line) && es.isNil && c.mts.contains (x, m) && tr c a (.v (.Name y py))
    | _ => false
  | .dget _ _ => fun _ => false
  | .mkx x kw es => mkV fun
    | .Call (.Name y _) [] [] _ => decide (y = x) && c.gl y && nodbg y && !kw && es.isNil && decide ((x, none) ∈ c.xcs)
    | .Call (.Name y _) [a] [] _ => decide (y = x) && c.gl y && nodbg y && !kw && !isStar a && c.xcs.any (fun p => decide (p.1 = x) && p.2.isSome) && tr c es (.s [a])
    | .Call (.Name y _) [] [⟨some f, a, _⟩] _ => decide (y = x) && c.gl y && nodbg y && kw && decide ((x, some f) ∈ c.xcs) && tr c es (.v a)
    | _ => false
  | .attrx a f => mkV fun
    | .Attribute l x _ => decide (x = f) && !isCall0 l && tr c a (.v l)
    | _ => false
  | .isx a cl => mkV fun
    | .Call (.Name x _) [l, .Name y _] [] _ => decide (x = "isinstance") && c.gl x && !isStar l && decide (y = cl) && c.gl y && nodbg y && c.xcs.any (fun p => decide (p.1 = cl)) && tr c a (.v l)
    | _ => false
  | .isb a tys => mkV fun
    | .Call (.Name x _) [l, .Name y _] [] _ => decide (x = "isinstance") && c.gl x && !isStar l && tr c a (.v l) && (match tys with
      | [u] => decide (y = Str.ofString u) && decide (u ∈ exNames) && c.gl y
      | _ => false)
    | .Call (.Name x _) [l, .Tuple es _ _] [] _ => decide (x = "isinstance") && c.gl x && !isStar l && tr c a (.v l) && exRowN tys es && decide (tys.length ≤ 100) && tys.all fun u => c.gl (Str.ofString u)
    | _ => false
  | .maxSum a => mkV fun
    | .Call (.Name x _) [l] [⟨some kx, .Name y _, _⟩, ⟨some kz, .Constant .none _ _, _⟩] _ => decide (x = "max") && decide (y = "sum") && decide (kx = "key") && decide (kz = "default") && c.gl x && c.gl y && !isStar l && tr c a (.v l)
    | _ => false
  | .lc _ elt t own k it ifs => mkV fun
    | .ListComp l [⟨tg, iter, fs, 0⟩] scope _ => trT c.N (c.blk scope).stb t tg && blkC c.N c.sc scope own && t.slots.all (fun i => decide (i ∈ own.map (·.2))) && !isSet iter && tr c it (.j k tg iter) && tr (c.blk scope) ifs (.i fs) && tr (c.blk scope) elt (.v l)
    | _ => false
  | .lc2 _ elt t own k it ifs t2 vs2 k2 it2 ifs2 => mkV fun
    | .ListComp l [⟨tg, iter, fs, 0⟩, ⟨tg2, iter2, fs2, 0⟩] scope _ => trT c.N (c.blk scope).stb t tg && blkC c.N c.sc scope own && t.slots.all (fun i => decide (i ∈ own.map (·.2))) && !isSet iter && tr c it (.j k tg iter) && tr (c.blk scope) ifs (.i fs) && tr (c.blk scope) elt (.v l)
        && trT c.N (c.blk scope).stb t2 tg2 && t2.slots.all (fun i => decide (i ∈ vs2)) && vs2.all (fun i => decide (i ∈ own.map (·.2))) && !isSet iter2 && tr (c.blk scope) it2 (.j k2 tg2 iter2) && tr (c.blk scope) ifs2 (.i fs2)
    | _ => false
  | .nil => fun
    | .s [] => true
    | .p none => true
    | .i [] => true
    | _ => false
  | .cons e r => fun
    | .s (a :: as) => !isStar a && tr c e (.v a) && tr c r (.s as)
    | .j 0 _ it => r.isNil && tr c e (.v it)
    | .j k tg (.Call (.Name f _) (a :: as) [] _) => itName k f as tg && c.gl f && !isStar a && noStars as && tr c e (.v a) && tr c r (.s as)
    | _ => false
  | .star e r => fun
    | .s (.Starred a _ :: as) => tr c e (.v a) && tr c r (.s as)
    | _ => false

/-! ### it is sound -/
def Snd (X : Cx) (E : XK) (XR : XRel) (m : Mn) : Sx → Prop
  | .v e => EvE X E XR e m.v
  | .t e => EvT X E XR e m.t
  | .w e => EvW X E XR e m.t
  | .s es => EvS X E XR es m.s
  | .p o => EvP X E XR o m.p
  | .i es => EvF X E XR es m.i
  | .j k tg it => EvJ X E XR tg it k m.s
structure Ag (c : Ctx) (g : Gx) (X : Cx) (E : XK) (XR : XRel) : Prop where
  N : X.N = c.N
  nd : c.N.Nodup
  sc : X.env.scope = c.sc
  kind : c.sc.kind = .function
  calm : X.calm = true
  un : X.A.units + 100 < cLine
  st : Storable X c.stb
  free : ∀ f ∈ freeNames, X.mg (Str.ofString f) = none
  glob : ∀ x d, g.glob x = some d → ∃ u v, X.mg x = some u ∧ RelV v u ∧ ∀ H ρ, RD (kw X) H ρ d v
  call : ∀ x, c.fns.contains x = true → CallOk X E XR x (g.call x)
  callB : ∀ x, c.fns.contains x = true → ∀ s H scope env fp, CallOk (X.blk s H scope env fp) EN XR x (g.call x)
  slots : SlotsOk X g
  mkA : ∀ x, c.mks.contains x = true → (g.meth x "__init__").isSome = true ∧ ∀ y, g.meth x "__init__" = some y → MakeOk X E XR x (g.call y)
  mkB : ∀ x, c.mks.contains x = true → ∀ s H scope env fp y, g.meth x "__init__" = some y → MakeOk (X.blk s H scope env fp) EN XR x (g.call y)
  mt : ∀ x m, c.mts.contains (x, m) = true → (g.meth x m).isSome = true ∧ ∀ y, g.meth x m = some y → MethOk X E XR x m (g.call y)
  xw : XcsOk X.prog X.K X.mg g.exc
  xcs : ∀ x f, (x, f) ∈ c.xcs → ∃ b, g.exc x = some (b, f)
  room : ∃ k, Room (k + 1) X.A
  roomB : ∀ s H scope env fp, ∃ k, Room (k + 1) (X.blk s H scope env fp).A
  mtB : ∀ x m, c.mts.contains (x, m) = true → ∀ s H scope env fp y, g.meth x m = some y → MethOk (X.blk s H scope env fp) EN XR x m (g.call y)
section
variable {c : Ctx} {g : Gx} {X : Cx} {E : XK} {XR : XRel}
theorem evf_nil : EvF X E XR [] (fun _ => M.ret true) := .of pts_nil fun σ H ρ l h rr h' Q sl sh e p => by cases e; exact p.here sh rfl
theorem evf_one {e : Expr} {f : Loc → M Bool} (h : EvT X E XR e f) : EvF X E XR [e] f := pts_one h
theorem snd_mkV {V : Expr → Bool} {f : Loc → M D} (h : ∀ e, V e = true → EvE X E XR e f) : ∀ x, mkV V x = true → Snd X E XR (Mn.of f) x
  | .v e, q => h e q
  | .t e, q => by
    rw [mkV, Bool.and_eq_true] at q
    exact evt_plain (h e q.2) q.1
  | .i [e], q => by
    rw [mkV, Bool.and_eq_true] at q
    exact evf_one (evt_plain (h e q.2) q.1)
  | .p (some e), q => evp_some (h e q)
  | .w _, q => nomatch q
  | .s _, q => nomatch q
  | .p none, q => nomatch q
  | .i [], q => nomatch q
  | .i (_ :: _ :: _), q => nomatch q
  | .j _ _ _, q => nomatch q
theorem snd_mkT {V T : Expr → Bool} {f : Loc → M D} {t : Loc → M Bool} (h : ∀ e, V e = true → EvE X E XR e f) (ht : ∀ e, T e = true → EvT X E XR e t) : ∀ x, mkT V T x = true → Snd X E XR (Mn.of2 f t) x
  | .v e, q => h e q
  | .t e, q => ht e q
  | .i [e], q => evf_one (ht e q)
  | .p (some e), q => evp_some (h e q)
  | .w _, q => nomatch q
  | .s _, q => nomatch q
  | .p none, q => nomatch q
  | .i [], q => nomatch q
  | .i (_ :: _ :: _), q => nomatch q
  | .j _ _ _, q => nomatch q
theorem snd_mkC {V : Expr → Bool} {f : Loc → M D} (h : ∀ e, V e = true → EvE X E XR e f ∧ EvT X E XR e (tstOf f)) : ∀ x, mkC V x = true → Snd X E XR (Mn.of f) x
  | .v e, q => (h e q).1
  | .t e, q => (h e q).2
  | .i [e], q => evf_one (h e q).2
  | .p (some e), q => evp_some (h e q).1
  | .w _, q => nomatch q
  | .s _, q => nomatch q
  | .p none, q => nomatch q
  | .i [], q => nomatch q
  | .i (_ :: _ :: _), q => nomatch q
  | .j _ _ _, q => nomatch q
theorem Ag.vis (ag : Ag c g X E XR) {x : Str} (h : c.vis x = true) : Vis X.env.scope x := by
  unfold Ctx.vis at h
  unfold Vis
  rw [ag.sc]
  split at h
  · exact .inl (by assumption)
  · exact .inr (.inl (by assumption))
  · exact .inr (.inr (by assumption))
  · cases h
theorem Ag.gl (ag : Ag c g X E XR) {x : Str} (h : c.gl x = true) : Gl X x := by
  show X.env.scope.names.lookup x = _
  rw [ag.sc]
  exact of_decide_eq_true h
theorem nodbg_of {x : Str} (h : nodbg x = true) : (x == ("__debug__" : Str)) = false ∧ (x == ("__classdict__" : Str)) = false := by
  unfold nodbg at h
  rw [Bool.and_eq_true, Bool.not_eq_true', Bool.not_eq_true'] at h
  exact h
theorem tyRow_of : ∀ {us : List String} {es : List Expr}, tyRow us es = true → ∃ ps : List Pos, us.length = ps.length ∧ es = ((us.zip ps).map fun z => Expr.Name (Str.ofString z.1) z.2) ∧ ∀ u ∈ us, u ∈ tyNames
  | [], [], _ => ⟨[], rfl, rfl, fun _ z => nomatch z⟩
  | [], _ :: _, h => nomatch h
  | u :: us, [], h => nomatch h
  | u :: us, e :: es, h => by
    cases e <;> try (cases h; done)
    rw [tyRow, Bool.and_eq_true, Bool.and_eq_true, decide_eq_true_eq, decide_eq_true_eq] at h
    obtain ⟨⟨rfl, h2⟩, h3⟩ := h
    obtain ⟨ps, e1, e2, e3⟩ := tyRow_of h3
    rename_i p
    refine ⟨p :: ps, by rw [List.length_cons, List.length_cons, e1], by rw [e2]; rfl, fun v hv => ?_⟩
    rcases List.mem_cons.mp hv with rfl | hv
    · exact h2
    · exact e3 v hv
theorem exRow_of : ∀ {us : List String} {es : List Expr}, exRowN us es = true → ∃ ps : List Pos, us.length = ps.length ∧ es = ((us.zip ps).map fun z => Expr.Name (Str.ofString z.1) z.2) ∧ ∀ u ∈ us, u ∈ exNames
  | [], [], _ => ⟨[], rfl, rfl, fun _ z => nomatch z⟩
  | [], _ :: _, h => nomatch h
  | u :: us, [], h => nomatch h
  | u :: us, e :: es, h => by
    cases e <;> try (cases h; done)
    rw [exRowN, Bool.and_eq_true, Bool.and_eq_true, decide_eq_true_eq, decide_eq_true_eq] at h
    obtain ⟨⟨rfl, h2⟩, h3⟩ := h
    obtain ⟨ps, e1, e2, e3⟩ := exRow_of h3
    rename_i p
    refine ⟨p :: ps, by rw [List.length_cons, List.length_cons, e1], by rw [e2]; rfl, fun v hv => ?_⟩
    rcases List.mem_cons.mp hv with rfl | hv
    · exact h2
    · exact e3 v hv
theorem mem_all {xs ys : List Nat} (h : (xs.all fun i => decide (i ∈ ys)) = true) : ∀ i ∈ xs, i ∈ ys := fun i hi => of_decide_eq_true (List.all_eq_true.mp h i hi)
theorem stb_blk {scope : Scope} {s : Shared} {H : Hp} {C : Addr} {cl : List (Str × Addr)} {fp : List Addr} : Storable (X.blk s H scope (compEnvC scope cl C X.env) fp) (c.blk scope).stb := by
  intro x h
  have h : (match scope.names.lookup x with | some .local | some .cell => true | _ => false) = true := h
  split at h
  · rename_i hl
    have q := lookup_relS_keep (sc := X.env.scope) (k := .local) (by decide) hl
    exact ⟨.inl q, .inr q⟩
  · rename_i hl
    have q := lookup_relS_keep (sc := X.env.scope) (k := .cell) (by decide) hl
    refine ⟨.inr q, .inl ?_⟩
    show (scope.names.lookup x == some .cell) = true
    rw [hl]; rfl
  · cases h
theorem Ag.blk (ag : Ag c g X E XR) {scope : Scope} {own : List (Str × Nat)} (hk : blkC c.N c.sc scope own = true) (s : Shared) (H : Hp) (C : Addr) (cl : List (Str × Addr)) (fp : List Addr) :
    Ag (c.blk scope) g (X.blk s H scope (compEnvC scope cl C X.env) fp) EN XR :=
  ⟨ag.N, ag.nd, by show relS scope X.env.scope = relS scope c.sc; rw [ag.sc], (blkOk_by hk).kind, ag.calm, ag.un, stb_blk, ag.free, ag.glob, fun x h => ag.callB x h s H scope _ fp, fun x h s' H' sc' env' fp' => ag.callB x h s' H' sc' env' fp', ag.slots, fun x h => ⟨(ag.mkA x h).1, fun y q => ag.mkB x h s H scope _ fp y q⟩, fun x h s' H' sc' env' fp' y q => ag.mkB x h s' H' sc' env' fp' y q, fun x m h => ⟨(ag.mt x m h).1, fun y q => ag.mtB x m h s H scope _ fp y q⟩, ag.xw, ag.xcs, ag.roomB s H scope _ fp, fun s' H' sc' env' fp' => ag.roomB s' H' sc' env' fp', fun x m h s' H' sc' env' fp' y q => ag.mtB x m h s' H' sc' env' fp' y q⟩
theorem Ag.pg (ag : Ag c g X E XR) {t : T} {tg : Expr} (h : trT c.N c.stb t tg = true) : PG X tg (gCan (kw X) t) := pg_ok ag.calm (by rw [ag.N]; exact ag.nd) ag.st t tg (by rw [ag.N]; exact h)
theorem Ag.own (ag : Ag c g X E XR) {scope : Scope} {own : List (Str × Nat)} (hk : blkC c.N c.sc scope own = true) : BlkOk X.N X.env.scope scope own := by
  rw [ag.N, ag.sc]; exact blkOk_by hk
end
end Onc
set_option Elab.async false
set_option linter.all false
set_option maxRecDepth 100000
set_option maxHeartbeats 1000000
/-! sum over truths. -/
namespace Onc
open PySem PySem.Calls PyProof.Rows
open Sem (wp)
section
variable {prog : Program} {w : World} {A : Around} {R : Result → Shared → Prop} {I : Addr} {fp wr : List Addr} {G : Array GenState → Array GenState → Prop} {n : Nat} {P : Nat → Value → Prop} {St : Nat → Shared → Prop}
def b2 (b : Bool) : Int := if b = true then 1 else 0
def cnt (val : Nat → Bool) : Nat → Int
  | 0 => 0
  | i + 1 => cnt val i + b2 (val i)
theorem cnt_bd (val : Nat → Bool) : ∀ i, 0 ≤ cnt val i ∧ cnt val i ≤ i
  | 0 => ⟨Int.le_refl _, Int.le_refl _⟩
  | i + 1 => by
    have := cnt_bd val i
    unfold cnt b2
    split <;> omega
theorem sum_turns (W : WalksS prog w A.in1 I fp wr G n P St) (hn : n < 2 ^ 63) (val : Nat → Bool) (hval : ∀ i v, P i v → v = .bool (val i)) (S : Addr) (hSf : S ∉ fp) :
    ∀ (k i : Nat) (s : Shared) (tA : Tok) (c : Nat), n - i = k → i ≤ n → St i s → s.heap.get? S = some { cls := .type "list", dict := none, data := .seq #[.int (cnt val i) tA] c, slots := #[] } →
    (∀ s' t', Moved (S :: wr) G s s' → R (.ok (.ret (.int (cnt val n) t'))) s') → codeAny (model prog w) A (.builtin "sum.loop" ⟨[.ref I, .ref S, rawInt 0, rawInt 0], []⟩) R s := by
  have out : S ∉ wr := fun h => hSf (W.sub _ h)
  have more : ∀ b ∈ wr, b ∈ S :: wr := fun b hb => List.mem_cons_of_mem _ hb
  intro k
  induction k with
  | zero =>
    intro i s tA c hk hi hst hS hR
    obtain rfl : i = n := by omega
    refine codeAny_builtin F.entry_sum_loop ?_
    rw [Around.under_plainId F.plain_sum_loop _]
    refine wpAny_bind (wpAny_seqItems hS rfl (wpAny_bind (wpAny_tryCatch (W.done s _ _ hst fun s' hm => ?_))))
    exact wpAny_pure (hR s' tA (hm.mono more))
  | succ k ih =>
    intro i s tA c hk hi hst hS hR
    have hlt : i < n := by omega
    refine codeAny_builtin F.entry_sum_loop ?_
    rw [Around.under_plainId F.plain_sum_loop _]
    refine wpAny_bind (wpAny_seqItems hS rfl (wpAny_bind (wpAny_tryCatch (W.item i s _ _ hlt hst fun v s' hP hst' hm => ?_))))
    have ev := hval i v hP
    subst ev
    have hS' := hm.heap S _ out hS
    have bd := cnt_bd val i
    cases hv : val i with
    | true =>
      have ec : cnt val (i + 1) = cnt val i + 1 := by show cnt val i + b2 (val i) = _; rw [hv]; rfl
      show wpAny _ A.in1 (if (_ : Bool) = true then (mkInt (cnt val i + 1) >>= _) else _) _ _ _
      simp only [if_true, Bool.false_eq_true, if_false]
      split
      · refine wpAny_bind (wpAny_mkInt ?_)
        show wpAny _ A.in1 (updateSeq S (fun _ => #[.int (cnt val i + 1) s'.toks]) >>= _) _ _ _
        refine wpAny_bind ?_
        refine wpAny_updateSeq hS' rfl (wpAny_pure ⟨plainId_quiet F.plain_sum_loop _, ih (i + 1) _ s'.toks _ (by omega) hlt (W.frame _ s' _ _ hst' (Nat.le_succ _) fun b hb o e => ?_) (by rw [ec]; exact Heap.get?_update_self _ hS' rfl) fun s'' t'' hm'' => ?_⟩)
        · exact (Heap.get?_update_other _ _ (fun h : S = b => hSf (by rw [h]; exact hb))).trans e
        · refine hR s'' t'' (Moved.trans W.gtrans ((hm.mono more).then_heap (Nat.le_succ _) fun b o hb e => ?_) hm'')
          exact (Heap.get?_update_other _ _ (fun h : S = b => hb (by rw [h]; exact List.mem_cons_self))).trans e
      · rename_i hno
        refine absurd ?_ hno
        show ((decide (-(2 ^ 63) ≤ (1 : Int)) && decide ((1 : Int) < 2 ^ 63)) && (decide (-(2 ^ 63) ≤ cnt val i + 1) && decide (cnt val i + 1 < 2 ^ 63))) = true
        simp only [Bool.and_eq_true, decide_eq_true_eq]
        omega
    | false =>
      have ec : cnt val (i + 1) = cnt val i + 0 := by show cnt val i + b2 (val i) = _; rw [hv]; rfl
      show wpAny _ A.in1 (if (_ : Bool) = true then (mkInt (cnt val i + 0) >>= _) else _) _ _ _
      simp only [if_true, Bool.false_eq_true, if_false]
      split
      · refine wpAny_bind (wpAny_mkInt ?_)
        show wpAny _ A.in1 (updateSeq S (fun _ => #[.int (cnt val i + 0) s'.toks]) >>= _) _ _ _
        refine wpAny_bind ?_
        refine wpAny_updateSeq hS' rfl (wpAny_pure ⟨plainId_quiet F.plain_sum_loop _, ih (i + 1) _ s'.toks _ (by omega) hlt (W.frame _ s' _ _ hst' (Nat.le_succ _) fun b hb o e => ?_) (by rw [ec]; exact Heap.get?_update_self _ hS' rfl) fun s'' t'' hm'' => ?_⟩)
        · exact (Heap.get?_update_other _ _ (fun h : S = b => hSf (by rw [h]; exact hb))).trans e
        · refine hR s'' t'' (Moved.trans W.gtrans ((hm.mono more).then_heap (Nat.le_succ _) fun b o hb e => ?_) hm'')
          exact (Heap.get?_update_other _ _ (fun h : S = b => hb (by rw [h]; exact List.mem_cons_self))).trans e
      · rename_i hno
        refine absurd ?_ hno
        show ((decide (-(2 ^ 63) ≤ (0 : Int)) && decide ((0 : Int) < 2 ^ 63)) && (decide (-(2 ^ 63) ≤ cnt val i + 0) && decide (cnt val i + 0 < 2 ^ 63))) = true
        simp only [Bool.and_eq_true, decide_eq_true_eq]
        omega
end
section
variable {prog : Program} {w : World} {A : Around} {E : Value → Shared → Prop} {s : Shared}
theorem call_sum_truths {x : Value} {Q : Value → Shared → Prop}
    (h : wpAny (model prog w) A.in1 (pyIter x) (fun it s2 => ∃ I fp wr G n P St val, it = .ref I ∧ WalksS prog w A.in1 I fp wr G n P St ∧ St 0 s2 ∧ (∀ b ∈ fp, b < s2.heap.objs.size) ∧ n < 2 ^ 63 ∧ (∀ i v, P i v → v = .bool (val i)) ∧
      ∀ s' t', Moved wr G s2 s' → Q (.int (cnt val n) t') s') E s) : wpAny (model prog w) A (call (.builtin "sum") [x]) Q E s := by
  refine call_function_tree F.kind_sum F.plain_sum F.entry_sum (F.args_sum1 _) ?_
  unfold Builtin.«sum»
  simp only [List.length_cons, List.length_nil]
  rw [if_neg (by decide)]
  refine wpAny_bind (wpAny_of_eq (show Builtin.Builtins.bindParams "sum" ["start"] 0 { } = pure [none] from rfl) (wpAny_bind (wpAny_mono h (fun it s2 hx => ?_) fun _ _ e => e)))
  obtain ⟨I, fp, wr, G, n, P, St, val, rfl, W, hst, hfp, hn, hval, hQ⟩ := hx
  refine wpAny_bind (wpAny_mkInt (wpAny_bind (wpAny_pure ?_)))
  simp only [List.forIn_cons, List.forIn_nil]
  refine wpAny_bind (wpAny_bind (wpAny_bind (wpAny_isInstance (T := "int") (b := false) (typeIs_int _ _ _) PySem.sub_int_str ?_)))
  simp only [Bool.false_eq_true, if_false]
  refine wpAny_pure (wpAny_bind (wpAny_bind (wpAny_isInstance (T := "int") (b := false) (typeIs_int _ _ _) PySem.sub_int_bytes ?_)))
  simp only [Bool.false_eq_true, if_false]
  refine wpAny_pure (wpAny_bind (wpAny_bind (wpAny_isInstance (T := "int") (b := false) (typeIs_int _ _ _) PySem.sub_int_bytearray ?_)))
  simp only [Bool.false_eq_true, if_false]
  refine wpAny_pure (wpAny_pure (wpAny_bind (wpAny_newObj_type ?_)))
  have hS : s2.heap.objs.size ∉ fp := fun hm => Nat.lt_irrefl _ (hfp _ hm)
  exact wpAny_pure ⟨plainId_quiet F.plain_sum_loop _, sum_turns W hn val hval s2.heap.objs.size hS n 0 _ s2.toks 0 rfl (Nat.zero_le _)
    (W.frame 0 s2 _ _ hst (Nat.le_succ _) fun b _ o e => Heap.get?_push_of_some _ e) (Heap.get?_push_size _ rfl) fun s' t' hm => hQ s' t' (hm.drop_new (Nat.le_succ _))⟩
end
end Onc
set_option Elab.async false
set_option linter.all false
set_option maxRecDepth 100000
set_option maxHeartbeats 1000000
/-! max(xs, key=sum, default=d) over a list of tuples of truths. -/
namespace Onc
open PySem PySem.Calls PyProof.Rows PySem.W
open Sem (wp)
section
variable {prog : Program} {w : World} {A : Around} {E : Value → Shared → Prop} {s : Shared}

theorem isTuple_moved {wr : List Addr} {G : Array GenState → Array GenState → Prop} {s s' : Shared} {a : Addr} {vs : Array Value} (m : Moved wr G s s') (ha : a ∉ wr) (h : s.heap.IsTuple a vs) : s'.heap.IsTuple a vs := by
  obtain ⟨c, e, r⟩ := h
  exact ⟨c, m.heap _ _ ha e, r⟩

theorem call_max_sum {l : Addr} {vs : Array Value} {d : Value} {Q : Value → Shared → Prop} (h1 : A.in1.handled = none) (h2 : A.in1.in1.in1.handled = none)
    (hl : s.heap.IsList l vs) (rw' : Nat → List Bool) (hr : ∀ i v, vs[i]? = some v → ∃ a, v = .ref a ∧ s.heap.IsTuple a ((rw' i).map Value.bool).toArray ∧ (rw' i).length < 2 ^ 63)
    (h : ∀ h' tk v, (∀ b o, s.heap.get? b = some o → h'.get? b = some o) → (vs.size = 0 → v = d) → (0 < vs.size → vs[argBest (fun i j => decide (cnt (fun k => (rw' i).getD k false) (rw' i).length > cnt (fun k => (rw' j).getD k false) (rw' j).length)) (vs.size - 1)]? = some v) →
      Q v { s with heap := h', toks := tk }) :
    wpAny (model prog w) A (call (.builtin "max") [.ref l] [(Str.ofString "key", .builtin "sum"), (Str.ofString "default", d)]) Q E s := by
  refine call_max_walkKBD (iter_listW h1 hl fun s2 e2 W st hfp hnew hold => ?_)
  have l1 : s.heap.objs.size < s2.heap.objs.size := hfp _ List.mem_cons_self
  refine ⟨s.heap.objs.size, _, _, _, vs.size, _, _, fun s' => Moved [s2.heap.objs.size, s.heap.objs.size] (fun a b => b = a) s2 s', fun i k _ => ∃ t, k = .int (cnt (fun k => (rw' i).getD k false) (rw' i).length) t,
    fun i j => decide (cnt (fun k => (rw' i).getD k false) (rw' i).length > cnt (fun k => (rw' j).getD k false) (rw' j).length), rfl, W, st, hfp, ?_, Moved.refl W.grefl, ?_, ?_⟩
  · refine ⟨fun s s' hJ m => Moved.trans W.gtrans hJ m, fun i k s s' hV _ => hV, ?_, ?_⟩
    · intro i v s' o Q E hi hP hJ hSt hS hQ
      obtain ⟨a, rfl, ht, hlen⟩ := hr i v hP
      have hae : ∃ o, s.heap.get? a = some o := by obtain ⟨c, e, _⟩ := ht; exact ⟨_, e⟩
      obtain ⟨ao, hae⟩ := hae
      have hlt : a < s.heap.objs.size := Heap.lt_size hae
      have ht2 : s2.heap.IsTuple a ((rw' i).map Value.bool).toArray := by
        obtain ⟨c, e, r⟩ := ht
        exact ⟨c, hold _ _ e, r⟩
      have ht' : s'.heap.IsTuple a ((rw' i).map Value.bool).toArray := isTuple_moved hJ (by
        intro hm
        rcases List.mem_cons.mp hm with e | hm
        · rw [e] at hlt; exact Nat.lt_irrefl _ (Nat.lt_trans l1 hlt)
        · have e := List.mem_singleton.mp hm
          rw [e] at hlt; exact Nat.lt_irrefl _ hlt) ht2
      refine call_sum_truths (iter_tupleW h2 ht' fun s3 e3 W3 st3 hfp3 _ hold3 => ?_)
      refine ⟨s'.heap.objs.size, _, _, _, _, _, _, fun k => (rw' i).getD k false, rfl, W3, st3, hfp3, by simpa using hlen, ?_, ?_⟩
      · intro j v hv
        simp only [List.getElem?_toArray, List.getElem?_map] at hv
        cases hg : (rw' i)[j]? with
        | none => rw [hg] at hv; cases hv
        | some b =>
          rw [hg] at hv
          simp only [Option.map_some, Option.some.injEq] at hv
          rw [← hv]
          show Value.bool b = Value.bool ((rw' i).getD j false)
          rw [List.getD_eq_getElem?_getD, hg]
          rfl
      · intro s4 t4 m4
        obtain ⟨h', tk, e4, ho⟩ := moved_old (s := s') e3 rfl m4
        have tle : s'.toks ≤ s4.toks := by have := m4.toks; rw [e3] at this; exact this
        subst e4
        have ms : Moved [] (fun a b => b = a) s' { s' with heap := h', toks := tk } := ⟨fun b o _ e => ho b o e, rfl, rfl, rfl, tle⟩
        refine hQ _ _ (Moved.trans W.gtrans hJ (ms.mono fun b hb => nomatch hb)) (W.frame _ s' h' tk hSt tle fun b _ o e => ho b o e) (ho _ _ hS) ⟨t4, ?_⟩ fun j k' hk => hk
        simp
    · intro i j ki kj s' Q E hJ hV1 hV2 hQ
      obtain ⟨t1, rfl⟩ := hV1
      obtain ⟨t2, rfl⟩ := hV2
      exact richCompare_gives (op := .Gt) (typeIs_int s' _ t1) (typeIs_int s' _ t2) F.slot_int_gt F.entry_int_gt (F.args_int_gt_2 _ _) (gives_int_gt _ _ t1 t2) (fun x => nomatch x) hQ
  · intro h0 s' hJ
    obtain ⟨h', tk, e, ho⟩ : ∃ h' tk, s' = { s with heap := h', toks := tk } ∧ ∀ b o, s.heap.get? b = some o → h'.get? b = some o := by
      have e := hJ.eq_with
      have e0 := e2
      refine ⟨s'.heap, s'.toks, ?_, fun b o eb => hJ.heap b o (fun hm => ?_) (hold b o eb)⟩
      · rw [e0] at e
        exact e
      · have hb := Heap.lt_size eb
        rcases List.mem_cons.mp hm with e | hm
        · rw [e] at hb; exact Nat.lt_irrefl _ (Nat.lt_trans l1 hb)
        · rw [List.mem_singleton.mp hm] at hb; exact Nat.lt_irrefl _ hb
    rw [e] at hJ ⊢
    exact h h' tk _ ho (fun _ => rfl) fun hp => absurd hp (by omega)
  · intro hp v s' hP hJ
    obtain ⟨h', tk, e, ho⟩ : ∃ h' tk, s' = { s with heap := h', toks := tk } ∧ ∀ b o, s.heap.get? b = some o → h'.get? b = some o := by
      have e := hJ.eq_with
      have e0 := e2
      refine ⟨s'.heap, s'.toks, ?_, fun b o eb => hJ.heap b o (fun hm => ?_) (hold b o eb)⟩
      · rw [e0] at e
        exact e
      · have hb := Heap.lt_size eb
        rcases List.mem_cons.mp hm with e | hm
        · rw [e] at hb; exact Nat.lt_irrefl _ (Nat.lt_trans l1 hb)
        · rw [List.mem_singleton.mp hm] at hb; exact Nat.lt_irrefl _ hb
    rw [e] at hJ ⊢
    exact h h' tk _ ho (fun h0 => absurd hp (by omega)) fun _ => hP
end
end Onc
set_option Elab.async false
set_option linter.all false
set_option maxRecDepth 100000
set_option maxHeartbeats 1000000
/-! max(xs, key=sum, default=None) in the hand's style. -/
namespace Onc
open PySem PySem.Spec PyProof.Rows L2
abbrev cntL (bs : List Bool) : Int := cnt (fun k => bs.getD k false) bs.length
abbrev btL (rows : List (List Bool)) : Nat → Nat → Bool := fun i j => decide (cntL (rows.getD i []) > cntL (rows.getD j []))
def tMaxSum (K : KW) (ta : TA) : TE := fun σ H Q => ta σ H fun vs H1 => ∃ (L : Addr) (xs : List V) (rows : List (List Bool)), vs = [.ref L] ∧ SqL K H1 L xs ∧ xs.length = rows.length ∧
  (∀ i x, xs[i]? = some x → ∃ a, x = .ref a ∧ SqT K H1 a ((rows.getD i []).map V.bl)) ∧ (xs.length = 0 → Q .non H1) ∧ (0 < xs.length → ∀ x, xs[argBest (btL rows) (xs.length - 1)]? = some x → Q x H1)
theorem bools_vals : ∀ {bs : List Bool} {vs : List Value}, Vals (bs.map V.bl) vs → vs = bs.map Value.bool
  | [], _, h => by cases h; rfl
  | b :: bs, _, h => by
    cases h with
    | cons r rr => rw [bools_vals rr]; cases r; rfl
section
variable {X : Cx} {a : Expr} {ta : TA}
theorem pe_maxSum {p p2 pos k1 k2 : Pos} {j : Nat} {pn : Pos} (hc : X.calm = true) (hg : Gl X "max") (hm : X.mg "max" = none) (hgs : Gl X "sum") (hms : X.mg "sum" = none) (ha : PA X [a] ta)
    (he : backTo pos (starEach [a] X.env) = (false, eval a X.env) :: backTo pos (starEach [] X.env)) :
    PE X (.Call (.Name "max" p) [a] [⟨some "key", .Name "sum" p2, k1⟩, ⟨some "default", .Constant .none j pn, k2⟩] pos) (tMaxSum (kw X) ta) := by
  refine ⟨fun pins s σ H Q I h => ?_⟩
  refine wpAny_Call_Name_kw (ld_blt I hg hm (show bootBuiltins (Str.ofString "max") = some (.builtin "max") by decide +kernel) ?_)
  refine PyProof.Rows.callWith_kw (thn (ha.run pos pins s σ H _ I h) fun us s1 ⟨vs, H1, I1, r1, q1⟩ => ?_) he (by rw [he]; rfl)
  obtain ⟨L, xs, rows, rfl, hL, hlen, hrows, q0, q⟩ := q1
  cases r1 with
  | cons r rr =>
    cases rr
    cases r
    show wpAny _ _ (evalAll ((do let v ← eval (.Name "sum" p2) X.env; standAt pos; pure v) :: (do let v ← eval (.Constant .none j pn) X.env; standAt pos; pure v) :: [])) _ _ s1
    refine wpAny_evalAll_cons (wpAny_bind (ld_blt I1 hgs hms boot_sum (wpAny_bind (wpAny_standAt (wpAny_pure ?_)))))
    refine wpAny_evalAll_cons (wpAny_bind (Constant_none (wpAny_bind (wpAny_standAt (wpAny_pure (wpAny_evalAll_nil ?_))))))
    show wpAny _ _ (call (.builtin "max") [.ref L] [(Str.ofString "key", .builtin "sum"), (Str.ofString "default", .none)]) _ _ s1
    obtain ⟨its, rv, pl, hsz⟩ := I1.list hL
    have hl1 : its.length = xs.length := rv.length.symm
    have hs1 : its.toArray.size = xs.length := by rw [List.size_toArray]; exact hl1
    refine call_max_sum (I1.ok.hd hc) (I1.ok.hd hc) pl.isList (fun i => rows.getD i []) (fun i v hv => ?_) fun h' tk v hk e0 e1 => ?_
    · have hv' : its[i]? = some v := by simpa using hv
      have hi : i < xs.length := by
        have := (List.getElem?_eq_some_iff.mp hv').1
        omega
      obtain ⟨u2, hu2, rx2⟩ := rv.get (i := i) (x := xs[i]) (List.getElem?_eq_getElem hi)
      have eu : u2 = v := Option.some.inj (hu2.symm.trans hv')
      subst eu
      obtain ⟨b, eb, hT⟩ := hrows i _ (List.getElem?_eq_getElem hi)
      rw [eb] at rx2
      cases rx2
      obtain ⟨ts, rt, it, hz⟩ := I1.tuple hT
      rw [bools_vals rt] at it
      refine ⟨b, rfl, it, ?_⟩
      rw [List.length_map] at hz
      exact Nat.lt_of_le_of_lt hz line63
    · have I2 := I1.kept (t' := tk) hk
      rcases Nat.eq_zero_or_pos xs.length with hn | hn
      · rw [e0 (by rw [hs1]; exact hn)]
        exact ⟨.non, H1, I2, rfl, q0 hn⟩
      · have e1 := e1 (by rw [hs1]; exact hn)
        rw [hs1] at e1
        have hv' : its[argBest (btL rows) (xs.length - 1)]? = some v := by
          have e2 := e1
          rw [List.getElem?_toArray] at e2
          exact e2
        have hi : argBest (btL rows) (xs.length - 1) < xs.length := by
          have := (List.getElem?_eq_some_iff.mp hv').1
          omega
        obtain ⟨u2, hu2, rx2⟩ := rv.get (i := argBest (btL rows) (xs.length - 1)) (x := xs[argBest (btL rows) (xs.length - 1)]) (List.getElem?_eq_getElem hi)
        have eu : u2 = v := Option.some.inj (hu2.symm.trans hv')
        subst eu
        exact ⟨_, H1, I2, rx2, q hn _ (List.getElem?_eq_getElem hi)⟩
end
end Onc
set_option Elab.async false
set_option linter.all false
set_option maxRecDepth 100000
set_option maxHeartbeats 1000000
/-! max(xs, key=sum, default=None): the judgement. -/
namespace Onc
open PySem PySem.Spec PyProof.Rows L2
theorem cntL_eq (bs : List Bool) : cntL bs = ((bs.filter id).length : Int) := by
  have : ∀ n, n ≤ bs.length → cnt (fun k => bs.getD k false) n = (((bs.take n).filter id).length : Int) := by
    intro n
    induction n with
    | zero => intro _; rfl
    | succ n ih =>
      intro hn
      have hlt : n < bs.length := hn
      show cnt (fun k => bs.getD k false) n + b2 (bs.getD n false) = _
      rw [ih (Nat.le_of_lt hlt), List.take_succ, List.getElem?_eq_getElem hlt, List.getD_eq_getElem?_getD, List.getElem?_eq_getElem hlt]
      simp only [Option.getD_some, Option.toList_some, List.filter_append, List.length_append]
      cases bs[n] <;> simp [b2]
  rw [show cntL bs = cnt (fun k => bs.getD k false) bs.length from rfl, this _ (Nat.le_refl _), List.take_length]
theorem rows_of : ∀ {ds : List D}, (ds.all fun d => (sumB d).isSome) = true → ∃ rows : List (List Bool), rows.length = ds.length ∧ ∀ i d, ds[i]? = some d → ∃ xs, d = .tup xs ∧ boolsP xs = some (rows.getD i [])
  | [], _ => ⟨[], rfl, fun i d h => by simp at h⟩
  | d :: ds, h => by
    simp only [List.all_cons, Bool.and_eq_true] at h
    obtain ⟨rows, e, q⟩ := rows_of h.2
    obtain ⟨xs, bs, rfl, hb⟩ : ∃ xs bs, d = .tup xs ∧ boolsP xs = some bs := by
      have h1 := h.1
      cases d <;> simp only [sumB] at h1 <;> try (cases h1; done)
      rename_i xs
      cases q : boolsP xs with
      | none => rw [q] at h1; cases h1
      | some bs => exact ⟨xs, bs, rfl, q⟩
    refine ⟨bs :: rows, by simp [e], fun i d' h' => ?_⟩
    cases i with
    | zero => simp only [List.getElem?_cons_zero, Option.some.injEq] at h'; exact ⟨xs, h'.symm, hb⟩
    | succ i => simp only [List.getElem?_cons_succ] at h'; obtain ⟨ys, e1, e2⟩ := q i d' h'; exact ⟨ys, e1, by simpa using e2⟩
theorem bestS_run {x : D} {xs : List D} {rows : List (List Bool)} (hr : ∀ i d, (x :: xs)[i]? = some d → (sumB d).getD 0 = ((rows.getD i []).filter id).length) :
    ∀ k, k ≤ xs.length → ∃ b, (x :: xs)[argBest (btL rows) k]? = some b ∧ bestS x xs = bestS b (xs.drop k) := by
  intro k
  induction k with
  | zero => intro _; exact ⟨x, rfl, rfl⟩
  | succ k ih =>
    intro hk
    obtain ⟨b, e1, e2⟩ := ih (Nat.le_of_lt hk)
    have hlt : k < xs.length := hk
    have ey : (x :: xs)[k + 1]? = some xs[k] := by rw [List.getElem?_cons_succ]; exact List.getElem?_eq_getElem hlt
    have ed : xs.drop k = xs[k] :: xs.drop (k + 1) := List.drop_eq_getElem_cons hlt
    have s1 := hr _ _ e1
    have s2 := hr _ _ ey
    rw [e2, ed]
    have hb : btL rows (k + 1) (argBest (btL rows) k) = decide ((sumB b).getD 0 < (sumB xs[k]).getD 0) := by
      show decide (cntL (rows.getD (k + 1) []) > cntL (rows.getD (argBest (btL rows) k) [])) = _
      rw [cntL_eq, cntL_eq, s1, s2]
      by_cases hh : (((rows.getD (argBest (btL rows) k) []).filter id).length < ((rows.getD (k + 1) []).filter id).length)
      · rw [decide_eq_true hh, decide_eq_true (by omega)]
      · rw [decide_eq_false hh, decide_eq_false (by omega)]
    show ∃ c, (x :: xs)[if btL rows (k + 1) (argBest (btL rows) k) then k + 1 else argBest (btL rows) k]? = some c ∧ (if (sumB b).getD 0 < (sumB xs[k]).getD 0 then bestS xs[k] (xs.drop (k + 1)) else bestS b (xs.drop (k + 1))) = _
    rw [hb]
    by_cases hh : (sumB b).getD 0 < (sumB xs[k]).getD 0
    · rw [decide_eq_true hh, if_pos rfl, if_pos hh]
      exact ⟨_, ey, rfl⟩
    · rw [decide_eq_false hh, if_neg (by decide), if_neg hh]
      exact ⟨_, e1, rfl⟩
section
variable {X : Cx} {E : XK} {XR : XRel} {a : Expr} {fa : Loc → M D}
abbrev maxF (fa : Loc → M D) : Loc → M D := fun l => (fa l).bnd fun x => (M.rd x).bnd fun x => M.opt (maxSumP x)
theorem bools_argT {xs : List D} {bs : List Bool} {H : Hp} {ρ : Ro} {v : V} (h : boolsP xs = some bs) (r : RD (kw X) H ρ (.tup xs) v) : ∃ b, v = .ref b ∧ SqT X.K H b (bs.map V.bl) := by
  obtain ⟨b, vs, e, s, rs, _⟩ := RN.tup (.inl r)
  exact ⟨b, e, bools_ok rs h ▸ s⟩
theorem ev_maxSum {p p2 pos k1 k2 : Pos} {j : Nat} {pn : Pos} (hc : X.calm = true) (hg : Gl X "max") (hm : X.mg "max" = none) (hgs : Gl X "sum") (hms : X.mg "sum" = none) (h0 : isStar a = false) (ha : EvE X E XR a fa) :
    EvE X E XR (.Call (.Name "max" p) [a] [⟨some "key", .Name "sum" p2, k1⟩, ⟨some "default", .Constant .none j pn, k2⟩] pos) (maxF fa) := by
  refine .of (pe_maxSum hc hg hm hgs hms (pa_cons ha pa_nil (starEach_one h0)) (by rw [starEach_one h0]; rfl)) fun σ H ρ l h rr h' Q sl sh e p => ?_
  refine Rdg.can.step sl sh e p fun x h1 v H1 ρ1 x1 sl1 sh1 r1 e1 p1 => ?_
  have e1 : M.opt (maxSumP (rd h1 x)) h1 = some (rr, h') := e1
  have rn := rd_ok sh1 r1
  obtain ⟨y, hy, rfl, rfl⟩ := opt_of e1
  cases q : rd h' x with
  | lst ds =>
    rw [q] at hy rn
    obtain ⟨L, vs, rfl, eL, rs⟩ := rn.lst
    have hlen := rs.length
    cases ds with
    | nil =>
      cases hy
      cases rs
      exact ⟨L, [], [], rfl, .inl (.inl eL), rfl, fun i x hx => by simp at hx, fun _ => p1.here sh1 .non, fun h0 => absurd h0 (Nat.lt_irrefl _)⟩
    | cons d ds =>
      have hy : (if ((d :: ds).all fun d => (sumB d).isSome) = true then some (bestS d ds) else none) = some y := hy
      by_cases hall : ((d :: ds).all fun d => (sumB d).isSome) = true
      · rw [if_pos hall] at hy
        cases hy
        obtain ⟨rows, hl, hrows⟩ := rows_of hall
        refine ⟨L, vs, rows, rfl, .inl (.inl eL), by rw [hl]; exact hlen.symm, fun i v hv => ?_, fun h0 => ?_, fun _ v hv => ?_⟩
        · have hi : i < (d :: ds).length := by rw [hlen]; exact (List.getElem?_eq_some_iff.mp hv).1
          obtain ⟨xs, e2, e3⟩ := hrows i _ (List.getElem?_eq_getElem hi)
          obtain ⟨v', hv', r'⟩ := rs.get (List.getElem?_eq_getElem hi)
          rw [hv] at hv'
          cases hv'
          rw [e2] at r'
          exact bools_argT e3 r'
        · rw [← hlen] at h0; cases h0
        · obtain ⟨b, e2, e3⟩ := bestS_run (x := d) (xs := ds) (rows := rows) (fun i d' hd => by
            obtain ⟨xs, e4, e5⟩ := hrows i d' hd
            rw [e4]
            show ((boolsP xs).map fun bs => (bs.filter id).length).getD 0 = _
            rw [e5]; rfl) ds.length (Nat.le_refl _)
          have en : vs.length - 1 = ds.length := by rw [← hlen]; rfl
          rw [en] at hv
          obtain ⟨v', hv', r'⟩ := rs.get e2
          rw [hv] at hv'
          cases hv'
          have e4 : bestS d ds = b := by rw [e3, List.drop_length]; rfl
          rw [e4] at p1
          exact p1.here sh1 r'
      · rw [if_neg hall] at hy
        cases hy
  | _ => rw [q] at hy; cases hy
end
end Onc
set_option Elab.async false
set_option linter.all false
set_option maxRecDepth 100000
set_option maxHeartbeats 4000000
/-! The check is sound. -/
namespace Onc
open PySem PySem.Spec PyProof.Rows L2
theorem Ag.un65 {c : Ctx} {g : Gx} {X : Cx} {E : XK} {XR : XRel} (ag : Ag c g X E XR) : X.A.units + 65 < cLine := by have := ag.un; omega
theorem isNil_of {r : E} (h : r.isNil = true) : r = .nil := by
  cases r <;> first | rfl | cases h
theorem isTuple_of {e : Expr} (h : isTuple e = true) : ∃ es k p, e = .Tuple es k p := by
  cases e <;> first | exact ⟨_, _, _, rfl⟩ | cases h
theorem tr_ok {g : Gx} {XR : XRel} : ∀ (e : E) (c : Ctx) (X : Cx) (E : XK), Ag c g X E XR → ∀ x, tr c e x = true → Snd X E XR (den g e) x := by
  intro e
  induction e with
  | var i =>
    intro c X E ag
    refine snd_mkV fun e q => ?_
    cases e <;> try (cases q; done)
    rw [Bool.and_eq_true, Bool.and_eq_true, decide_eq_true_eq] at q
    have d := nodbg_of q.2
    exact ev_var (by rw [ag.N]; exact q.1.1) (ag.vis q.1.2) d.1 d.2
  | glob y =>
    intro c X E ag
    refine snd_mkV fun e q => ?_
    cases e <;> try (cases q; done)
    rw [Bool.and_eq_true, Bool.and_eq_true, decide_eq_true_eq] at q
    obtain ⟨⟨rfl, q2⟩, q3⟩ := q
    exact ev_glob (ag.gl q2) (ag.glob _) (nodbg_of q3).1
  | int i =>
    intro c X E ag
    refine snd_mkV fun e q => ?_
    cases e <;> try (cases q; done)
    rename_i k _ _
    cases k <;> try (cases q; done)
    cases of_decide_eq_true q
    exact ev_int
  | bl b =>
    intro c X E ag
    refine snd_mkV fun e q => ?_
    cases e <;> try (cases q; done)
    rename_i k _ _
    cases k <;> try (cases q; done)
    cases of_decide_eq_true q
    exact ev_bl
  | non =>
    intro c X E ag
    refine snd_mkV fun e q => ?_
    cases e <;> try (cases q; done)
    rename_i k _ _
    cases k <;> try (cases q; done)
    exact ev_non
  | str x =>
    intro c X E ag
    refine snd_mkV fun e q => ?_
    cases e <;> try (cases q; done)
    rename_i k _ _
    cases k <;> try (cases q; done)
    cases of_decide_eq_true q
    exact ev_str
  | bin fz op a b iha ihb =>
    intro c X E ag
    refine snd_mkV fun e q => ?_
    cases e <;> try (cases q; done)
    simp only [Bool.and_eq_true, decide_eq_true_eq] at q
    obtain ⟨⟨rfl, q2⟩, q3⟩ := q
    exact ev_bin (iha c X E ag _ q2) (ihb c X E ag _ q3)
  | neg a iha =>
    intro c X E ag
    refine snd_mkV fun e q => ?_
    cases e <;> try (cases q; done)
    rename_i o _ _
    cases o <;> try (cases q; done)
    exact ev_neg (iha c X E ag _ q)
  | cmp op a b iha ihb =>
    intro c X E ag
    refine snd_mkC fun e q => ?_
    split at q <;> try (cases q; done)
    simp only [Bool.and_eq_true, decide_eq_true_eq, Bool.not_eq_true'] at q
    obtain ⟨⟨⟨rfl, q1⟩, q2⟩, q3⟩ := q
    exact ⟨ev_cmp ag.un65 (nomark_of q1) (iha c X E ag _ q2) (ihb c X E ag _ q3), evt_cmp ag.un65 (nomark_of q1) (iha c X E ag _ q2) (ihb c X E ag _ q3)⟩
  | isN a iha =>
    intro c X E ag
    refine snd_mkC fun e q => ?_
    split at q <;> try (cases q; done)
    exact ⟨ev_isN (iha c X E ag _ q), evt_isN (iha c X E ag _ q)⟩
  | notN a iha =>
    intro c X E ag
    refine snd_mkC fun e q => ?_
    split at q <;> try (cases q; done)
    exact ⟨ev_notN (iha c X E ag _ q), evt_notN (iha c X E ag _ q)⟩
  | chain op op' a b d iha ihb ihd =>
    intro c X E ag
    refine snd_mkC fun e q => ?_
    split at q <;> try (cases q; done)
    simp only [Bool.and_eq_true, decide_eq_true_eq, Bool.not_eq_true'] at q
    obtain ⟨⟨⟨⟨⟨⟨rfl, rfl⟩, q1⟩, q2⟩, q3⟩, q4⟩, q5⟩ := q
    exact ⟨ev_chain ag.un65 (marks2 q1 q2) (iha c X E ag _ q3) (ihb c X E ag _ q4) (ihd c X E ag _ q5), evt_chain ag.un65 (marks2 q1 q2) (iha c X E ag _ q3) (ihb c X E ag _ q4) (ihd c X E ag _ q5)⟩
  | and a r iha ihr =>
    intro c X E ag x q
    unfold tr at q
    split at q <;> first | (cases q; done) | rw [Bool.and_eq_true] at q
    · exact ev_and (iha c X E ag _ q.1) (ihr c X E ag _ q.2)
    · exact (evw_and (iha c X E ag _ q.1) (ihr c X E ag _ q.2)).pt
    · exact evw_and (iha c X E ag _ q.1) (ihr c X E ag _ q.2)
    · exact evf_one (evw_and (iha c X E ag _ q.1) (ihr c X E ag _ q.2)).pt
  | and1 a iha =>
    intro c X E ag x q
    unfold tr at q
    split at q <;> first | (cases q; done) | skip
    · exact ev_one (iha c X E ag _ q)
    · exact evw_and1 (iha c X E ag _ q)
  | or a r iha ihr =>
    intro c X E ag x q
    unfold tr at q
    split at q <;> first | (cases q; done) | rw [Bool.and_eq_true] at q
    · exact ev_or (iha c X E ag _ q.1) (ihr c X E ag _ q.2)
    · exact (evw_or (iha c X E ag _ q.1) (ihr c X E ag _ q.2)).pt
    · exact evw_or (iha c X E ag _ q.1) (ihr c X E ag _ q.2)
    · exact evf_one (evw_or (iha c X E ag _ q.1) (ihr c X E ag _ q.2)).pt
  | or1 a iha =>
    intro c X E ag x q
    unfold tr at q
    split at q <;> first | (cases q; done) | skip
    · exact ev_one (iha c X E ag _ q)
    · exact evw_or1 (iha c X E ag _ q)
  | not a iha =>
    intro c X E ag
    refine snd_mkT (fun e q => ?_) fun e q => ?_
    · split at q <;> try (cases q; done)
      exact ev_not (iha c X E ag _ q)
    · split at q <;> try (cases q; done)
      exact evt_not (iha c X E ag _ q)
  | ite k a b ihk iha ihb =>
    intro c X E ag
    refine snd_mkT (fun e q => ?_) fun e q => ?_
    · split at q <;> try (cases q; done)
      simp only [Bool.and_eq_true] at q
      exact ev_ite (ihk c X E ag _ q.1.1) (iha c X E ag _ q.1.2) (ihb c X E ag _ q.2)
    · split at q <;> try (cases q; done)
      simp only [Bool.and_eq_true] at q
      exact evt_ite (ihk c X E ag _ q.1.1) (iha c X E ag _ q.1.2) (ihb c X E ag _ q.2)
  | tup es ih =>
    intro c X E ag
    refine snd_mkV fun e q => ?_
    split at q <;> try (cases q; done)
    exact ev_tup (ih c X E ag _ q)
  | lst fz es ih =>
    intro c X E ag
    refine snd_mkV fun e q => ?_
    split at q <;> try (cases q; done)
    exact ev_lst (ih c X E ag _ q)
  | ix a b iha ihb =>
    intro c X E ag
    refine snd_mkV fun e q => ?_
    split at q <;> try (cases q; done)
    simp only [Bool.and_eq_true, Bool.not_eq_true'] at q
    exact ev_ix q.1.1 (iha c X E ag _ q.1.2) (ihb c X E ag _ q.2)
  | sl fz a lo hi iha ihl ihh =>
    intro c X E ag
    refine snd_mkV fun e q => ?_
    split at q <;> try (cases q; done)
    simp only [Bool.and_eq_true] at q
    exact ev_sl (iha c X E ag _ q.1.1) (ihl c X E ag _ q.1.2) (ihh c X E ag _ q.2)
  | rev fz a iha =>
    intro c X E ag
    refine snd_mkV fun e q => ?_
    split at q <;> try (cases q; done)
    exact ev_rev (iha c X E ag _ q)
  | call f es ih =>
    intro c X E ag
    refine snd_mkV fun e q => ?_
    split at q <;> try (cases q; done)
    simp only [Bool.and_eq_true, decide_eq_true_eq] at q
    obtain ⟨⟨⟨⟨⟨rfl, q1⟩, q2⟩, q3⟩, q4⟩, q5⟩ := q
    rename_i as _
    cases as with
    | nil =>
      have hs := ih c X E ag _ q5
      cases es <;> try (cases q5; done)
      exact ev_call0 (ag.call _ q3) (ag.gl q1) (nodbg_of q2).1
    | cons a as =>
      have q4 : (!isStar a && as.all (!isStar ·)) = true := q4
      rw [Bool.and_eq_true, Bool.not_eq_true'] at q4
      exact ev_call (ag.call _ q3) (ag.gl q1) (nodbg_of q2).1 q4.1 q4.2 (ih c X E ag _ q5)
  | blt fz f es ih =>
    intro c X E ag
    refine snd_mkV fun e q => ?_
    split at q <;> try (cases q; done)
    simp only [Bool.and_eq_true, decide_eq_true_eq] at q
    obtain ⟨⟨⟨⟨rfl, q1⟩, q2⟩, q4⟩, q5⟩ := q
    rename_i a as _
    have q4 : (!isStar a && as.all (!isStar ·)) = true := q4
    rw [Bool.and_eq_true, Bool.not_eq_true'] at q4
    exact ev_blt ag.un ag.calm q1 (ag.gl q2) (ag.free f (List.mem_append_left _ q1)) q4.1 q4.2 (ih c X E ag _ q5)
  | isi a tys iha =>
    intro c X E ag
    have mt : ∀ u ∈ tyNames, u ∈ freeNames := by decide
    refine snd_mkV fun e q => ?_
    split at q <;> try (cases q; done)
    · simp only [Bool.and_eq_true, decide_eq_true_eq, Bool.not_eq_true'] at q
      obtain ⟨⟨⟨⟨rfl, q1⟩, q2⟩, q3⟩, q4⟩ := q
      split at q4 <;> try (cases q4; done)
      simp only [Bool.and_eq_true, decide_eq_true_eq] at q4
      obtain ⟨⟨rfl, q5⟩, q6⟩ := q4
      exact ev_isi1 (ag.gl q1) (ag.free "isinstance" (by decide)) q2 (iha c X E ag _ q3) q5 (ag.gl q6) (ag.free _ (mt _ q5))
    · simp only [Bool.and_eq_true, decide_eq_true_eq, Bool.not_eq_true'] at q
      obtain ⟨⟨⟨⟨⟨⟨⟨rfl, q1⟩, q2⟩, q3⟩, q4⟩, q5⟩, q6⟩, q7⟩ := q
      obtain ⟨ps, e1, rfl, e3⟩ := tyRow_of q4
      exact ev_isiT q5 e1 q6 (ag.gl q1) (ag.free "isinstance" (by decide)) q2 (iha c X E ag _ q3) fun u hu => ⟨e3 u hu, ag.gl (List.all_eq_true.mp q7 u hu), ag.free u (mt u (e3 u hu))⟩
  | app o e iho ihe =>
    intro c X E ag
    refine snd_mkV fun e q => ?_
    split at q <;> try (cases q; done)
    simp only [Bool.and_eq_true, decide_eq_true_eq, Bool.not_eq_true'] at q
    obtain ⟨⟨⟨⟨⟨rfl, q1⟩, q2⟩, q3⟩, q4⟩, q5⟩ := q
    exact ev_app q1 q2 q3 (iho c X E ag _ q4) (ihe c X E ag _ q5)
  | ext o e iho ihe =>
    intro c X E ag
    refine snd_mkV fun e q => ?_
    split at q <;> try (cases q; done)
    simp only [Bool.and_eq_true, decide_eq_true_eq, Bool.not_eq_true'] at q
    obtain ⟨⟨⟨⟨⟨rfl, q1⟩, q2⟩, q3⟩, q4⟩, q5⟩ := q
    exact ev_ext q1 q2 q3 (iho c X E ag _ q4) (ihe c X E ag _ q5)
  | attr a f iha =>
    intro c X E ag
    refine snd_mkV fun e q => ?_
    split at q <;> try (cases q; done)
    simp only [Bool.and_eq_true, decide_eq_true_eq, Bool.not_eq_true'] at q
    obtain ⟨⟨rfl, q1⟩, q2⟩ := q
    exact ev_attr ag.slots (base_of q1) (iha c X E ag _ q2)
  | mk x es ihs =>
    intro c X E ag
    refine snd_mkV fun e q => ?_
    split at q <;> try (cases q; done)
    simp only [Bool.and_eq_true, decide_eq_true_eq] at q
    obtain ⟨⟨⟨⟨⟨rfl, q1⟩, q2⟩, q3⟩, q4⟩, q5⟩ := q
    have q6 : (!isStar _ && List.all _ (!isStar ·)) = true := q4
    rw [Bool.and_eq_true, Bool.not_eq_true'] at q6
    exact ev_mk (ag.mkA _ q3).2 (ag.mkA _ q3).1 (ag.gl q1) (nodbg_of q2).1 q6.1 q6.2 (ihs c X E ag _ q5)
  | mcl x a m es iha ihs =>
    intro c X E ag
    refine snd_mkV fun e q => ?_
    split at q <;> try (cases q; done)
    simp only [Bool.and_eq_true, decide_eq_true_eq] at q
    obtain ⟨⟨⟨⟨rfl, q1⟩, q2⟩, q3⟩, q4⟩ := q
    cases es <;> try (cases q2; done)
    exact ev_mcl0 q1 (ag.mt _ _ q3).2 (ag.mt _ _ q3).1 (iha c X E ag _ q4)
  | mkx x kw es ihs =>
    intro c X E ag
    obtain ⟨k, hr⟩ := ag.room
    refine snd_mkV fun e q => ?_
    split at q <;> try (cases q; done)
    · simp only [Bool.and_eq_true, decide_eq_true_eq, Bool.not_eq_true'] at q
      obtain ⟨⟨⟨⟨⟨rfl, q1⟩, q2⟩, rfl⟩, q3⟩, q4⟩ := q
      obtain rfl := isNil_of q3
      obtain ⟨b, hb⟩ := ag.xcs _ _ q4
      obtain ⟨C, A⟩ := ag.xw.at_ _ _ _ hb
      exact ev_mkx0 A hb hr (ag.gl q1) (nodbg_of q2).1
    · simp only [Bool.and_eq_true, decide_eq_true_eq, Bool.not_eq_true', List.any_eq_true] at q
      obtain ⟨⟨⟨⟨⟨⟨rfl, q1⟩, q2⟩, rfl⟩, q3⟩, ⟨p, q4, q5, q6⟩⟩, q7⟩ := q
      obtain ⟨y, f⟩ := p
      dsimp only at q5 q6
      subst q5
      obtain ⟨f, rfl⟩ := Option.isSome_iff_exists.mp q6
      obtain ⟨b, hb⟩ := ag.xcs _ _ q4
      obtain ⟨C, A⟩ := ag.xw.at_ _ _ _ hb
      exact ev_mkx1 A hb hr (ag.gl q1) (nodbg_of q2).1 q3 (ihs c X E ag _ q7)
    · simp only [Bool.and_eq_true, decide_eq_true_eq] at q
      obtain ⟨⟨⟨⟨⟨rfl, q1⟩, q2⟩, rfl⟩, q4⟩, q7⟩ := q
      obtain ⟨b, hb⟩ := ag.xcs _ _ q4
      obtain ⟨C, A⟩ := ag.xw.at_ _ _ _ hb
      exact ev_mkxk A hb hr (ag.gl q1) (nodbg_of q2).1 (ihs c X E ag _ q7)
  | attrx a f iha =>
    intro c X E ag
    refine snd_mkV fun e q => ?_
    split at q <;> try (cases q; done)
    simp only [Bool.and_eq_true, decide_eq_true_eq, Bool.not_eq_true'] at q
    obtain ⟨⟨rfl, q1⟩, q2⟩ := q
    exact ev_attrx ag.xw (base_of q1) (iha c X E ag _ q2)
  | isx a cl iha =>
    intro c X E ag
    refine snd_mkV fun e q => ?_
    split at q <;> try (cases q; done)
    simp only [Bool.and_eq_true, decide_eq_true_eq, Bool.not_eq_true', List.any_eq_true] at q
    obtain ⟨⟨⟨⟨⟨⟨⟨rfl, q1⟩, q2⟩, rfl⟩, q4⟩, q5⟩, ⟨p, q6, q7⟩⟩, q8⟩ := q
    obtain ⟨y, f⟩ := p
    dsimp only at q7
    subst q7
    obtain ⟨b, hb⟩ := ag.xcs _ _ q6
    exact ev_isx ag.xw (ag.gl q1) (ag.free "isinstance" (by decide)) q2 (ag.gl q4) (nodbg_of q5).1 (by rw [hb]; rfl) (iha c X E ag _ q8)
  | isb a tys iha =>
    intro c X E ag
    have mt : ∀ u, u ∈ exNames → u ∈ freeNames := by decide
    refine snd_mkV fun e q => ?_
    split at q <;> try (cases q; done)
    · split at q
      · simp only [Bool.and_eq_true, decide_eq_true_eq, Bool.not_eq_true'] at q
        obtain ⟨⟨⟨⟨rfl, q1⟩, q2⟩, q3⟩, ⟨⟨rfl, q5⟩, q6⟩⟩ := q
        exact ev_isb1 ag.xw (ag.gl q1) (ag.free "isinstance" (by decide)) q2 (iha c X E ag _ q3) q5 (ag.gl q6) (ag.free _ (mt _ q5))
      · simp at q
    · simp only [Bool.and_eq_true, decide_eq_true_eq, Bool.not_eq_true'] at q
      obtain ⟨⟨⟨⟨⟨⟨rfl, q1⟩, q2⟩, q3⟩, q4⟩, q6⟩, q7⟩ := q
      obtain ⟨ps, e1, rfl, e3⟩ := exRow_of q4
      exact ev_isbT ag.xw e1 q6 (ag.gl q1) (ag.free "isinstance" (by decide)) q2 (iha c X E ag _ q3) fun u hu => ⟨e3 u hu, ag.gl (List.all_eq_true.mp q7 u hu), ag.free u (mt u (e3 u hu))⟩
  | dget d k _ _ =>
    intro c X E ag x q
    cases q
  | maxSum a iha =>
    intro c X E ag
    refine snd_mkV fun e q => ?_
    split at q <;> try (cases q; done)
    simp only [Bool.and_eq_true, decide_eq_true_eq, Bool.not_eq_true'] at q
    obtain ⟨⟨⟨⟨⟨⟨⟨rfl, rfl⟩, rfl⟩, rfl⟩, q1⟩, q2⟩, q3⟩, q4⟩ := q
    exact ev_maxSum ag.calm (ag.gl q1) (ag.free "max" (by decide)) (ag.gl q2) (ag.free "sum" (by decide)) q3 (iha c X E ag _ q4)
  | lc fz elt t own k it ifs ihe iht ihi =>
    intro c X E ag
    refine snd_mkV fun e q => ?_
    split at q <;> try (cases q; done)
    simp only [Bool.and_eq_true, Bool.not_eq_true'] at q
    obtain ⟨⟨⟨⟨⟨⟨q1, q2⟩, q3⟩, q4⟩, q5⟩, q6⟩, q7⟩ := q
    rename_i l tg iter fs scope pos
    have hI : ∀ (s : Shared) (H : Hp) (C : Addr) (cl : List (Str × Addr)) (fp : List Addr), EvF (X.blk s H scope (compEnvC scope cl C X.env) fp) EN XR fs (den g ifs).i := fun s H C cl fp => ihi _ _ _ (ag.blk q2 s H C cl fp) _ q6
    have hE : ∀ (s : Shared) (H : Hp) (C : Addr) (cl : List (Str × Addr)) (fp : List Addr), EvE (X.blk s H scope (compEnvC scope cl C X.env) fp) EN XR l (den g elt).v := fun s H C cl fp => ihe _ _ _ (ag.blk q2 s H C cl fp) _ q7
    have hT : EvJ X E XR tg iter k (den g it).s := iht c X E ag _ q5
    exact .of (pe_lc ag.calm (by rw [ag.N]; exact ag.nd) hT (ag.own q2) (fun s H C cl fp => (ag.blk q2 s H C cl fp).pg q1) hI hE (folded_of q4)) (rdg_lc (mem_all q3))
  | lc2 fz elt t own k it ifs t2 vs2 k2 it2 ifs2 ihe iht ihi iht2 ihi2 =>
    intro c X E ag
    refine snd_mkV fun e q => ?_
    split at q <;> try (cases q; done)
    simp only [Bool.and_eq_true, Bool.not_eq_true'] at q
    obtain ⟨⟨⟨⟨⟨⟨⟨⟨⟨⟨⟨⟨q1, q2⟩, q3⟩, q4⟩, q5⟩, q6⟩, q7⟩, q8⟩, q9⟩, q10⟩, q11⟩, q12⟩, q13⟩ := q
    rename_i l tg iter fs tg2 iter2 fs2 scope pos
    have hI : ∀ (s : Shared) (H : Hp) (C : Addr) (cl : List (Str × Addr)) (fp : List Addr), EvF (X.blk s H scope (compEnvC scope cl C X.env) fp) EN XR fs (den g ifs).i := fun s H C cl fp => ihi _ _ _ (ag.blk q2 s H C cl fp) _ q6
    have hE : ∀ (s : Shared) (H : Hp) (C : Addr) (cl : List (Str × Addr)) (fp : List Addr), EvE (X.blk s H scope (compEnvC scope cl C X.env) fp) EN XR l (den g elt).v := fun s H C cl fp => ihe _ _ _ (ag.blk q2 s H C cl fp) _ q7
    have hI2 : ∀ (s : Shared) (H : Hp) (C : Addr) (cl : List (Str × Addr)) (fp : List Addr), EvF (X.blk s H scope (compEnvC scope cl C X.env) fp) EN XR fs2 (den g ifs2).i := fun s H C cl fp => ihi2 _ _ _ (ag.blk q2 s H C cl fp) _ q13
    have hT2 : ∀ (s : Shared) (H : Hp) (C : Addr) (cl : List (Str × Addr)) (fp : List Addr), EvJ (X.blk s H scope (compEnvC scope cl C X.env) fp) EN XR tg2 iter2 k2 (den g it2).s := fun s H C cl fp => iht2 _ _ _ (ag.blk q2 s H C cl fp) _ q12
    have hT : EvJ X E XR tg iter k (den g it).s := iht c X E ag _ q5
    exact .of (pe_lc2 ag.calm (by rw [ag.N]; exact ag.nd) hT (ag.own q2) (mem_all q10) (fun s H C cl fp => (ag.blk q2 s H C cl fp).pg q1) hI hT2 (fun s H C cl fp => (ag.blk q2 s H C cl fp).pg q8) hI2 hE (folded_of q4) (fun env => folded_of q11)) (rdg_lc2 (mem_all q3) (mem_all q9))
  | nil =>
    intro c X E ag x q
    unfold tr at q
    split at q <;> first | (cases q; done) | skip
    · exact evs_nil
    · exact evp_none
    · exact evf_nil
  | cons e r ihe ihr =>
    intro c X E ag x q
    unfold tr at q
    split at q <;> first | (cases q; done) | skip
    · simp only [Bool.and_eq_true, Bool.not_eq_true'] at q
      exact evs_cons q.1.1 (ihe c X E ag _ q.1.2) (ihr c X E ag _ q.2)
    · rw [Bool.and_eq_true] at q
      cases isNil_of q.1
      exact ej_plain (ihe c X E ag _ q.2)
    · rename_i k tg f p a as pos hk
      simp only [Bool.and_eq_true, Bool.not_eq_true'] at q
      obtain ⟨⟨⟨⟨⟨q1, q2⟩, q3⟩, q4⟩, q5⟩, q6⟩ := q
      have hs : EvS X E XR (a :: as) (den g (.cons e r)).s := evs_cons q3 (ihe c X E ag _ q5) (ihr c X E ag _ q6)
      have n1 : ∀ b, as = [b] → isStar b = false := fun b hb => by
        subst hb
        have q4 : (!isStar b && true) = true := q4
        simpa using q4
      unfold itName at q1
      split at q1
      · cases of_decide_eq_true q1
        exact ej_rng1 (ag.gl q2) (ag.free "range" (by decide)) q3 hs
      · cases of_decide_eq_true q1
        exact ej_rng2 (ag.gl q2) (ag.free "range" (by decide)) q3 (n1 _ rfl) hs
      · simp only [Bool.and_eq_true, decide_eq_true_eq] at q1
        obtain ⟨rfl, q7⟩ := q1
        obtain ⟨es, kk, tp, rfl⟩ := isTuple_of q7
        exact ej_enum (ag.gl q2) (ag.free "enumerate" (by decide)) q3 hs
      · simp only [Bool.and_eq_true, decide_eq_true_eq] at q1
        obtain ⟨rfl, q7⟩ := q1
        obtain ⟨es, kk, tp, rfl⟩ := isTuple_of q7
        exact ej_zip (ag.gl q2) (ag.free "zip" (by decide)) q3 (n1 _ rfl) hs
      · cases q1
  | star e r ihe ihr =>
    intro c X E ag x q
    unfold tr at q
    split at q <;> first | (cases q; done) | skip
    rw [Bool.and_eq_true] at q
    exact evs_star (ihe c X E ag _ q.1) (ihr c X E ag _ q.2)
end Onc
set_option Elab.async false
set_option linter.all false
set_option maxRecDepth 100000
set_option maxHeartbeats 4000000
/-! The check of statements; it is sound. -/
namespace Onc
open PySem PySem.Spec PyProof.Rows L2
inductive Ss where
  | o (s : Stmt) | b (ss : List Stmt)
def E.isLc : E → Bool
  | .lc .. | .lc2 .. => true
  | _ => false
def E.isTup : E → Bool
  | .tup .. => true
  | _ => false
def swapNames (c : Ctx) (t : T) (ns : List Str) : Bool := match t with
  | .tp ts => match ts.names with
    | some is => decide is.Nodup && decide (ns.length = is.length) && (ns.zip is).all fun p => decide (c.N[p.2]? = some p.1) && decide (c.sc.names.lookup p.1 = some .local)
    | none => false
  | _ => false
def trAsg (c : Ctx) (t : T) (e : E) (tg v : Expr) : Bool := match tg with
  | .Name y py => (match t with
    | .nm i => decide (c.N[i]? = some y) && c.stb y && (!swapB c.sc v y py || (e.isLc && decide (c.sc.names.lookup y = some .local)))
    | _ => false) && tr c e (.v v)
  | .Tuple .. => trT c.N c.stb t tg && tr c e (.v v) && (match swC c.sc tg v with
    | some none => true
    | some (some ns) => e.isTup && swapNames c t ns
    | none => false)
  | _ => false
/-- x.f, x.g, .. -/
def attRow (x : Str) : List Str → List Expr → Bool
  | [], [] => true
  | f :: fs, .Attribute (.Name y _) n _ :: es => decide (y = x) && decide (n = f) && attRow x fs es
  | _, _ => false
theorem attRow_of {x : Str} : ∀ {fs : List Str} {es : List Expr}, attRow x fs es = true → ∃ ts : List (Str × Pos × Pos), es = (ts.map fun t => Expr.Attribute (.Name x t.2.1) t.1 t.2.2) ∧ ts.map (·.1) = fs
  | [], [], _ => ⟨[], rfl, rfl⟩
  | [], _ :: _, h => nomatch h
  | f :: fs, [], h => nomatch h
  | f :: fs, e :: es, h => by
    unfold attRow at h
    split at h <;> first | (cases h; done) | (rename_i e1 _; cases e1; done) | skip
    · rename_i f' fs' y py n p es' e1 e2
      cases e1
      cases e2
      simp only [Bool.and_eq_true, decide_eq_true_eq] at h
      obtain ⟨⟨rfl, rfl⟩, h3⟩ := h
      obtain ⟨ts, rfl, rfl⟩ := attRow_of h3
      exact ⟨(n, py, p) :: ts, rfl, rfl⟩
def trS (c : Ctx) : S → Ss → Bool
  | .nil => fun
    | .b [] => true
    | _ => false
  | .cons s r => fun
    | .b (x :: xs) => trS c s (.o x) && trS c r (.b xs)
    | _ => false
  | .asg t e => fun
    | .o (.Assign [tg] v _) => trAsg c t e tg v
    | _ => false
  | .aug i op e => fun
    | .o (.AugAssign (.Name x _) o v _) => decide (c.N[i]? = some x) && c.stb x && decide (o = op) && (decide (op = .Add) || decide (op = .Sub)) && tr c e (.v v)
    | _ => false
  | .setix o i e => fun
    | .o (.Assign [.Subscript a b _] v _) => !isSlice b && tr c o (.v a) && tr c i (.v b) && tr c e (.v v)
    | _ => false
  | .sta i f e => fun
    | .o (.Assign [.Attribute (.Name x _) y _] v _) => decide (c.N[i]? = some x) && c.vis x && nodbg x && decide (y = f) && tr c e (.v v)
    | _ => false
  | .stas i fs e => fun
    | .o (.Assign [.Tuple es kk tp] v _) => (match c.N[i]? with
      | some x => c.vis x && nodbg x && attRow x fs es
      | none => false) && tr c e (.v v) && (match swC c.sc (.Tuple es kk tp) v with
      | some none => true
      | _ => false)
    | _ => false
  | .expr e => fun
    | .o (.Expr v _) => !isCompE v && tr c e (.v v)
    | _ => false
  | .pass => fun
    | .o (.Pass _) => true
    | _ => false
  | .ret e => fun
    | .o (.Return (some v) _) => tr c e (.v v)
    | _ => false
  | .retN => fun
    | .o (.Return none _) => true
    | _ => false
  | .iff q a b => fun
    | .o (.If t x y _) => tr c q (.t t) && trS c a (.b x) && trS c b (.b y)
    | _ => false
  | .for t k it b => fun
    | .o (.For tg iter body [] _) => trT c.N c.stb t tg && !isSet iter && tr c it (.j k tg iter) && trS c b (.b body)
    | _ => false
  | .while q b => fun
    | .o (.While t body [] _) => tr c q (.t t) && trS c b (.b body)
    | _ => false
  | .skip => fun
    | .o (.Expr (.Constant (.str _) _ _) _) => true
    | _ => false
  | .never => fun
    | .o _ => true
    | _ => false
def SndS (X : Cx) (E : XK) (XR : XRel) (f : Loc → M Fl) : Ss → Prop
  | .o s => EvSt X E XR s f
  | .b ss => EvB X E XR ss f
section
variable {g : Gx} {XR : XRel} {X : Cx} {E : XK} {c : Ctx}
theorem Ag.stor (ag : Ag c g X E XR) {y : Str} (h : c.stb y = true) : L2.Loc X.env.scope y ∧ (X.fn y = true ∨ X.env.scope.names.lookup y = some .local) := ag.st y h
theorem tup_gives {es : Onc.E} {l : Loc} {h : HS} {d : D} {h' : HS} (e : (den g (.tup es)).v l h = some (.ok d, h')) : ∃ xs, d = .tup xs := by
  have e : M.bnd ((den g es).s l) (fun xs => (M.opt (tupP xs)).bnd (PR.fin true)) h = some (.ok d, h') := e
  rcases bnd_cases e with ⟨x, _, q⟩ | ⟨xs, h1, _, e⟩
  · cases q
  · obtain ⟨pr, hp, e⟩ := bnd_opt (h := h1) e
    unfold tupP at hp
    obtain ⟨_, rfl⟩ := small_some hp
    cases e
    exact ⟨xs, rfl⟩
theorem asg_lc (ag : Ag c g X E XR) {v : Expr} {i : Nat} {y : Str} {py pos : Pos} {fz : Bool} {elt : Onc.E} {t : T} {own : List (Str × Nat)} {k : Nat} {it ifs : Onc.E} (hN : X.N[i]? = some y) (hyl : X.env.scope.names.lookup y = some .local) (hsw : swapsWith v (some (.Name y py)) pos.line X.env = pure true)
    (qe : tr c (.lc fz elt t own k it ifs) (.v v) = true) : EvSt X E XR (.Assign [.Name y py] v pos) (asgF (.nm i) (den g (.lc fz elt t own k it ifs)).v) := by
  have nd : X.N.Nodup := by rw [ag.N]; exact ag.nd
  revert hsw
  have qe : (match (generalizing := false) v with
    | .ListComp l [⟨tg, iter, fs, 0⟩] scope _ => trT c.N (c.blk scope).stb t tg && blkC c.N c.sc scope own && t.slots.all (fun i => decide (i ∈ own.map (·.2))) && !isSet iter && tr c it (.j k tg iter) && tr (c.blk scope) ifs (.i fs) && tr (c.blk scope) elt (.v l)
    | _ => false) = true := qe
  split at qe <;> try (cases qe; done)
  rename_i l tg iter fs scope lpos _
  intro hsw
  simp only [Bool.and_eq_true, Bool.not_eq_true'] at qe
  obtain ⟨⟨⟨⟨⟨⟨q1, q2⟩, q3⟩, q4⟩, q5⟩, q6⟩, q7⟩ := qe
  have hI : ∀ (s : Shared) (H : Hp) (C : Addr) (cl : List (Str × Addr)) (fp : List Addr), EvF (X.blk s H scope (compEnvC scope cl C X.env) fp) EN XR fs (den g ifs).i := fun s H C cl fp => tr_ok _ _ _ _ (ag.blk q2 s H C cl fp) _ q6
  have hE : ∀ (s : Shared) (H : Hp) (C : Addr) (cl : List (Str × Addr)) (fp : List Addr), EvE (X.blk s H scope (compEnvC scope cl C X.env) fp) EN XR l (den g elt).v := fun s H C cl fp => tr_ok _ _ _ _ (ag.blk q2 s H C cl fp) _ q7
  have hT : EvJ X E XR tg iter k (den g it).s := tr_ok _ c X E ag _ q5
  exact evs_asgC (ps_setLc ag.calm nd hN hyl hsw hT (ag.own q2) (fun s H C cl fp => (ag.blk q2 s H C cl fp).pg q1) hI hE (folded_of q4)) (rdg_lc (mem_all q3))
theorem asg_lc2 (ag : Ag c g X E XR) {v : Expr} {i : Nat} {y : Str} {py pos : Pos} {fz : Bool} {elt : Onc.E} {t : T} {own : List (Str × Nat)} {k : Nat} {it ifs : Onc.E} {t2 : T} {vs2 : List Nat} {k2 : Nat} {it2 ifs2 : Onc.E} (hN : X.N[i]? = some y) (hyl : X.env.scope.names.lookup y = some .local) (hsw : swapsWith v (some (.Name y py)) pos.line X.env = pure true)
    (qe : tr c (.lc2 fz elt t own k it ifs t2 vs2 k2 it2 ifs2) (.v v) = true) : EvSt X E XR (.Assign [.Name y py] v pos) (asgF (.nm i) (den g (.lc2 fz elt t own k it ifs t2 vs2 k2 it2 ifs2)).v) := by
  have nd : X.N.Nodup := by rw [ag.N]; exact ag.nd
  revert hsw
  have qe : (match (generalizing := false) v with
    | .ListComp l [⟨tg, iter, fs, 0⟩, ⟨tg2, iter2, fs2, 0⟩] scope _ => trT c.N (c.blk scope).stb t tg && blkC c.N c.sc scope own && t.slots.all (fun i => decide (i ∈ own.map (·.2))) && !isSet iter && tr c it (.j k tg iter) && tr (c.blk scope) ifs (.i fs) && tr (c.blk scope) elt (.v l)
      && trT c.N (c.blk scope).stb t2 tg2 && t2.slots.all (fun i => decide (i ∈ vs2)) && vs2.all (fun i => decide (i ∈ own.map (·.2))) && !isSet iter2 && tr (c.blk scope) it2 (.j k2 tg2 iter2) && tr (c.blk scope) ifs2 (.i fs2)
    | _ => false) = true := qe
  split at qe <;> try (cases qe; done)
  rename_i l tg iter fs tg2 iter2 fs2 scope lpos _
  intro hsw
  simp only [Bool.and_eq_true, Bool.not_eq_true'] at qe
  obtain ⟨⟨⟨⟨⟨⟨⟨⟨⟨⟨⟨⟨q1, q2⟩, q3⟩, q4⟩, q5⟩, q6⟩, q7⟩, q8⟩, q9⟩, q10⟩, q11⟩, q12⟩, q13⟩ := qe
  have hI : ∀ (s : Shared) (H : Hp) (C : Addr) (cl : List (Str × Addr)) (fp : List Addr), EvF (X.blk s H scope (compEnvC scope cl C X.env) fp) EN XR fs (den g ifs).i := fun s H C cl fp => tr_ok _ _ _ _ (ag.blk q2 s H C cl fp) _ q6
  have hE : ∀ (s : Shared) (H : Hp) (C : Addr) (cl : List (Str × Addr)) (fp : List Addr), EvE (X.blk s H scope (compEnvC scope cl C X.env) fp) EN XR l (den g elt).v := fun s H C cl fp => tr_ok _ _ _ _ (ag.blk q2 s H C cl fp) _ q7
  have hI2 : ∀ (s : Shared) (H : Hp) (C : Addr) (cl : List (Str × Addr)) (fp : List Addr), EvF (X.blk s H scope (compEnvC scope cl C X.env) fp) EN XR fs2 (den g ifs2).i := fun s H C cl fp => tr_ok _ _ _ _ (ag.blk q2 s H C cl fp) _ q13
  have hT2 : ∀ (s : Shared) (H : Hp) (C : Addr) (cl : List (Str × Addr)) (fp : List Addr), EvJ (X.blk s H scope (compEnvC scope cl C X.env) fp) EN XR tg2 iter2 k2 (den g it2).s := fun s H C cl fp => tr_ok _ _ _ _ (ag.blk q2 s H C cl fp) _ q12
  have hT : EvJ X E XR tg iter k (den g it).s := tr_ok _ c X E ag _ q5
  exact evs_asgC (ps_setLc2 ag.calm nd hN hyl hsw hT (ag.own q2) (mem_all q10) (fun s H C cl fp => (ag.blk q2 s H C cl fp).pg q1) hI hT2 (fun s H C cl fp => (ag.blk q2 s H C cl fp).pg q8) hI2 hE (folded_of q4) (fun env => folded_of q11)) (rdg_lc2 (mem_all q3) (mem_all q9))
theorem asg_ok (ag : Ag c g X E XR) {t : T} {e : Onc.E} {tg v : Expr} {pos : Pos} (q : trAsg c t e tg v = true) : EvSt X E XR (.Assign [tg] v pos) (asgF t (den g e).v) := by
  have hk : X.env.scope.kind = .function := by rw [ag.sc]; exact ag.kind
  have nd : X.N.Nodup := by rw [ag.N]; exact ag.nd
  unfold trAsg at q
  split at q
  · rename_i y py
    rw [Bool.and_eq_true] at q
    obtain ⟨q, qe⟩ := q
    have he : EvE X E XR v (den g e).v := tr_ok e c X E ag _ qe
    split at q
    · rename_i i
      simp only [Bool.and_eq_true, decide_eq_true_eq, Bool.or_eq_true, Bool.not_eq_true'] at q
      obtain ⟨⟨q1, q2⟩, q3⟩ := q
      have hN : X.N[i]? = some y := by rw [ag.N]; exact q1
      by_cases hs : swapB c.sc v y py = true
      · have q3 := q3.elim (fun z => absurd hs (by rw [z]; decide)) id
        have hyl : X.env.scope.names.lookup y = some .local := by rw [ag.sc]; exact q3.2
        have hsw : swapsWith v (some (.Name y py)) pos.line X.env = pure true := by rw [swap_ok hk, ag.sc, hs]
        cases e with
        | lc fz elt t own k it ifs => exact asg_lc ag hN hyl hsw qe
        | lc2 fz elt t own k it ifs t2 vs2 k2 it2 ifs2 => exact asg_lc2 ag hN hyl hsw qe
        | _ => cases q3.1
      · have hs' : swapB c.sc v y py = false := by simpa using hs
        have hg : PG X (.Name y py) (gCan (kw X) (.nm i)) := ag.pg (by rw [trT, Bool.and_eq_true, decide_eq_true_eq]; exact ⟨q1, q2⟩)
        exact evs_asg he hg (show swapsWith v (some (.Name y py)) pos.line X.env = pure false by rw [swap_ok hk, ag.sc, hs']) (by cases v <;> rfl) rfl
    · cases q
  · simp only [Bool.and_eq_true] at q
    obtain ⟨⟨q1, q2⟩, q3⟩ := q
    rename_i ts kk tp
    have he : EvE X E XR v (den g e).v := tr_ok e c X E ag _ q2
    have hs : swapsWithSole [.Tuple ts kk tp] v pos.line X.env = pure false := show swapsWith v (some (.Tuple ts kk tp)) pos.line X.env = pure false from swap_other rfl
    split at q3
    · rename_i hw
      exact evs_asg he (ag.pg q1) hs (sw_ok hk (by rw [ag.sc]; exact hw)) rfl
    · rename_i ns hw
      rw [Bool.and_eq_true] at q3
      obtain ⟨q3, q4⟩ := q3
      cases e <;> try (cases q3; done)
      rename_i es
      unfold swapNames at q4
      split at q4 <;> try (cases q4; done)
      split at q4 <;> try (cases q4; done)
      rename_i is hi
      simp only [Bool.and_eq_true, decide_eq_true_eq, List.all_eq_true] at q4
      obtain ⟨⟨q4, q5⟩, q6⟩ := q4
      exact evs_swap ag.calm nd he (fun l h d h' e => tup_gives e) hs (sw_ok hk (by rw [ag.sc]; exact hw)) hi q4 q5 fun p hp => ⟨by rw [ag.N]; exact (q6 p hp).1, by rw [ag.sc]; exact (q6 p hp).2⟩
    · cases q3
  · cases q
theorem trS_ok (ag : Ag c g X E XR) (ow : PassesOwn (model X.prog X.w) X.A X.env X.xe) : ∀ (s : S) (x : Ss), trS c s x = true → SndS X E XR (exe g s) x := by
  have nd : X.N.Nodup := by rw [ag.N]; exact ag.nd
  intro s
  induction s with
  | nil =>
    intro x q
    unfold trS at q
    split at q <;> try (cases q; done)
    exact evb_nil
  | cons s r ihs ihr =>
    intro x q
    unfold trS at q
    split at q <;> try (cases q; done)
    rw [Bool.and_eq_true] at q
    exact evb_cons (ihs _ q.1) (ihr _ q.2)
  | asg t e =>
    intro x q
    unfold trS at q
    split at q <;> try (cases q; done)
    exact asg_ok ag q
  | aug i op e =>
    intro x q
    unfold trS at q
    split at q <;> try (cases q; done)
    simp only [Bool.and_eq_true, decide_eq_true_eq, Bool.or_eq_true] at q
    obtain ⟨⟨⟨⟨q1, q2⟩, rfl⟩, q3⟩, q4⟩ := q
    exact evs_aug nd (by rw [ag.N]; exact q1) (ag.stor q2).1 (ag.stor q2).2 (tr_ok _ c X E ag _ q4) q3
  | setix o i e =>
    intro x q
    unfold trS at q
    split at q <;> try (cases q; done)
    simp only [Bool.and_eq_true, Bool.not_eq_true'] at q
    exact evs_setix q.1.1.1 (tr_ok _ c X E ag _ q.1.1.2) (tr_ok _ c X E ag _ q.1.2) (tr_ok _ c X E ag _ q.2)
  | sta i f e =>
    intro x q
    unfold trS at q
    split at q <;> try (cases q; done)
    simp only [Bool.and_eq_true, decide_eq_true_eq] at q
    obtain ⟨⟨⟨⟨q1, q2⟩, q3⟩, rfl⟩, q5⟩ := q
    exact evs_sta ag.slots (by rw [ag.N]; exact q1) (ag.vis q2) (nodbg_of q3).1 (nodbg_of q3).2 (tr_ok _ c X E ag _ q5) (swap_other rfl)
  | stas i fs e =>
    intro x q
    unfold trS at q
    split at q <;> try (cases q; done)
    rename_i es kk tp v pos
    simp only [Bool.and_eq_true] at q
    obtain ⟨⟨q1, q2⟩, q3⟩ := q
    split at q1 <;> try (cases q1; done)
    rename_i y hy
    simp only [Bool.and_eq_true] at q1
    obtain ⟨⟨q4, q5⟩, q6⟩ := q1
    obtain ⟨ts, rfl, rfl⟩ := attRow_of q6
    have hk : X.env.scope.kind = .function := by rw [ag.sc]; exact ag.kind
    have hs : swapsWithSole [.Tuple (ts.map fun t => Expr.Attribute (.Name y t.2.1) t.1 t.2.2) kk tp] v pos.line X.env = pure false := show swapsWith v (some (.Tuple (ts.map fun t => Expr.Attribute (.Name y t.2.1) t.1 t.2.2) kk tp)) pos.line X.env = pure false from swap_other rfl
    split at q3 <;> try (cases q3; done)
    rename_i hw
    exact evs_stas ag.slots ag.calm (by rw [ag.N]; exact hy) (ag.vis q4) (nodbg_of q5).1 (nodbg_of q5).2 (tr_ok _ c X E ag _ q2) hs (sw_ok hk (by rw [ag.sc]; exact hw))
  | expr e =>
    intro x q
    unfold trS at q
    split at q <;> try (cases q; done)
    simp only [Bool.and_eq_true, Bool.not_eq_true'] at q
    exact evs_expr q.1 (tr_ok _ c X E ag _ q.2)
  | pass =>
    intro x q
    unfold trS at q
    split at q <;> try (cases q; done)
    exact evs_pass
  | ret e =>
    intro x q
    unfold trS at q
    split at q <;> try (cases q; done)
    exact evs_ret (tr_ok _ c X E ag _ q)
  | retN =>
    intro x q
    unfold trS at q
    split at q <;> try (cases q; done)
    exact evs_retN
  | iff k a b iha ihb =>
    intro x q
    unfold trS at q
    split at q <;> try (cases q; done)
    simp only [Bool.and_eq_true] at q
    exact evs_if (tr_ok _ c X E ag _ q.1.1) (iha _ q.1.2) (ihb _ q.2)
  | «for» t k it b ihb =>
    intro x q
    unfold trS at q
    split at q <;> try (cases q; done)
    simp only [Bool.and_eq_true, Bool.not_eq_true'] at q
    obtain ⟨⟨⟨q1, q2⟩, q3⟩, q4⟩ := q
    exact evs_for ow ag.calm (tr_ok _ c X E ag _ q3) (ag.pg q1) (ihb _ q4) (folded_of q2)
  | «while» k b ihb =>
    intro x q
    unfold trS at q
    split at q <;> try (cases q; done)
    simp only [Bool.and_eq_true] at q
    exact evs_while ow (tr_ok _ c X E ag _ q.1) (ihb _ q.2)
  | skip =>
    intro x q
    unfold trS at q
    split at q <;> try (cases q; done)
    exact evs_doc
  | never =>
    intro x q
    unfold trS at q
    split at q <;> try (cases q; done)
    exact psImp ps_never fun N σ H ⟨ρ, l, h, r, h', _, _, e, _⟩ => nomatch e
end
end Onc
set_option Elab.async false
set_option linter.all false
set_option maxRecDepth 100000
set_option maxHeartbeats 4000000
/-! The text's defs: each keeps what the evaluator tells. -/
namespace Onc
open PySem PySem.Spec PyProof.Rows L2

/-! ### what leaves a call -/
mutual
def D.fz (rc : Nat → Option D) (len : Nat) : D → Option D
  | .ref n => if n < len then some (.ref n) else rc n
  | .tup xs => (D.fzs rc len xs).map .tup
  | .lst xs => (D.fzs rc len xs).map .lst
  | .arg xs => (D.fzs rc len xs).map .arg
  | .obj x xs => (D.fzs rc len xs).map (.obj x)
  | .exc x ns xs => (D.fzs rc len xs).map (.exc x ns)
  | .non => some .non
  | .bl b => some (.bl b)
  | .int i => some (.int i)
  | .str x => some (.str x)
def D.fzs (rc : Nat → Option D) (len : Nat) : List D → Option (List D)
  | [] => some []
  | x :: xs => match D.fz rc len x, D.fzs rc len xs with
    | some y, some ys => some (y :: ys)
    | _, _ => none
end
/-- every slot holds something -/
def allSome : List (Option D) → Option (List D)
  | [] => some []
  | some d :: r => (allSome r).map (d :: ·)
  | none :: _ => none
/-- slots by slots -/
def D.fzo (rc : Nat → Option D) (len : Nat) : List (Option D) → Option (List (Option D))
  | [] => some []
  | none :: r => (D.fzo rc len r).map (none :: ·)
  | some d :: r => match D.fz rc len d, D.fzo rc len r with
    | some y, some ys => some (some y :: ys)
    | _, _ => none
def rc0 : Nat → Option D := fun _ => none
def rcN (h : HS) (len : Nat) : Nat → Nat → Option D
  | 0, _ => none
  | k + 1, n => match nth h n with
    | some (.lst xs) => (D.fzs (rcN h len k) len xs).map .lst
    | some (.ins x fs) => match allSome fs with
      | some ds => (D.fzs (rcN h len k) len ds).map (.obj x)
      | none => none
    | none => none
def truncO (len : Nat) : O → Option O
  | .lst xs => (D.fzs rc0 len xs).map .lst
  | .ins x fs => (D.fzo rc0 len fs).map (.ins x)
def truncL (len : Nat) : HS → Option HS
  | [] => some []
  | o :: h => match truncO len o, truncL len h with
    | some u, some h' => some (u :: h')
    | _, _ => none
def trunc (len : Nat) (h : HS) : Option HS := truncL len (h.drop (h.length - len))
/-- what a call gives: the value stands still, or is a new list that can be changed -/
def endV (len : Nat) (d : D) (h h0 : HS) : Res D := match D.fz (rcN h len 4) len d with
  | some y => some (.ok y, h0)
  | none => none
def endM (len n : Nat) (h h0 : HS) : Res D := if n < len then some (.ok (.ref n), h0) else match nth h n with
  | some (.lst xs) => (match D.fzs rc0 len xs with
    | some ys => some (.ok (.ref len), .lst ys :: h0)
    | none => none)
  | _ => none
def endR (len : Nat) (d : D) (h h0 : HS) : Res D := match d with
  | .ref n => endM len n h h0
  | d => endV len d h h0
def endF (mt : Bool) (len : Nat) (d : D) (h : HS) : Res D :=
  match trunc len h with
  | none => none
  | some h0 => if mt = true then endR len d h h0 else endV len d h h0
theorem endV_err {len : Nat} {d : D} {h h0 h' : HS} {x : Exc} (e : endV len d h h0 = some (.error x, h')) : False := by
  unfold endV at e
  split at e <;> cases e
theorem endF_err {mt : Bool} {len : Nat} {d : D} {h h' : HS} {x : Exc} (e : endF mt len d h = some (.error x, h')) : False := by
  unfold endF at e
  split at e
  · cases e
  · split at e
    · unfold endR at e
      split at e
      · unfold endM at e
        split at e
        · cases e
        · split at e
          · split at e <;> cases e
          · cases e
      · exact endV_err e
    · exact endV_err e
theorem nth_drop {α : Type} {l : List α} {k n : Nat} {a : α} (e : nth (l.drop k) n = some a) : nth l n = some a := by
  have := nth_app (l.take k) (l.drop k) e
  rwa [List.take_append_drop] at this
theorem truncL_len {len : Nat} : ∀ {h h0 : HS}, truncL len h = some h0 → h0.length = h.length
  | [], _, e => by cases e; rfl
  | o :: h, h0, e => by
    unfold truncL at e
    split at e
    · rename_i h' e1 e2
      cases e
      rw [List.length_cons, List.length_cons, truncL_len e2]
    · cases e
theorem truncL_nth {len : Nat} : ∀ {h h0 : HS} {n : Nat} {u : O}, truncL len h = some h0 → nth h0 n = some u → ∃ o, nth h n = some o ∧ truncO len o = some u
  | [], _, _, _, e, q => by cases e; cases q
  | o :: h, h0, n, u, e, q => by
    unfold truncL at e
    split at e
    · rename_i u1 h' e1 e2
      cases e
      unfold nth at q ⊢
      rw [truncL_len e2] at q
      split at q
      · rename_i hn
        cases q
        exact ⟨o, if_pos hn, e1⟩
      · rename_i hn
        obtain ⟨o', q1, q2⟩ := truncL_nth e2 q
        exact ⟨o', by rw [if_neg hn]; exact q1, q2⟩
    · cases e
theorem nth_low {α : Type} {new l : List α} {n : Nat} {a : α} (hn : n < l.length) (e : nth (new ++ l) n = some a) : nth l n = some a := by
  obtain ⟨b, eb⟩ := nth_some hn
  rw [nth_app new l eb] at e
  cases e
  exact eb

section
variable {K : KW} {H : Hp} {ρ ρ2 : Ro} {h : HS} {rc : Nat → Option D} {len : Nat}
/-- fewer addresses can be changed -/
structure Sub (ρ ρ2 : Ro) (len : Nat) : Prop where
  sub : ∀ a, a ∈ ρ2 → a ∈ ρ
  low : ∀ n a, n < len → nth ρ.l n = some a → nth ρ2.l n = some a
theorem FzT.sub {a : Addr} {vs : List V} (s : Sub ρ ρ2 len) (f : FzT K H ρ a vs) : FzT K H ρ2 a vs := f.imp (fun f => ⟨f.1, fun m => f.2 (s.sub a m)⟩) id
theorem ArgL.sub {a : Addr} {vs : List V} (s : Sub ρ ρ2 len) (f : ArgL K H ρ a vs) : ArgL K H ρ2 a vs := f.imp (fun f => ⟨f.1, fun m => f.2 (s.sub a m)⟩) id
theorem FzO.sub {x : Str} {a : Addr} {vs : List V} (s : Sub ρ ρ2 len) (f : FzO K H ρ x a vs) : FzO K H ρ2 x a vs := by
  obtain ⟨C, dx, e, e1, e2, n1, n2⟩ := f
  exact ⟨C, dx, e, e1, e2, fun m => n1 (s.sub _ m), fun m => n2 (s.sub _ m)⟩
theorem FzX.sub {x : Str} {ns : List Str} {a : Addr} {vs : List V} (s : Sub ρ ρ2 len) (f : FzX K H ρ x ns a vs) : FzX K H ρ2 x ns a vs := by
  obtain ⟨C, d, e, e1, n1, q⟩ := f
  refine ⟨C, d, e, e1, fun m => n1 (s.sub _ m), q.imp id ?_⟩
  rintro ⟨dx, f, v, h1, h2, h3, h4, h5⟩
  exact ⟨dx, f, v, h1, h2, h3, h4, fun m => h5 (s.sub _ m)⟩
mutual
theorem RD.fz (s : Sub ρ ρ2 len) (hrc : ∀ n d a, rc n = some d → nth ρ.l n = some a → ¬ n < len → RD K H ρ2 d (.ref a)) : ∀ {d d' : D} {v : V}, RD K H ρ d v → D.fz rc len d = some d' → RD K H ρ2 d' v
  | _, _, _, .non, e => by cases e; exact .non
  | _, _, _, .bl b, e => by cases e; exact .bl b
  | _, _, _, .int i, e => by cases e; exact .int i
  | _, _, _, .str z, e => by cases e; exact .str z
  | _, _, _, .tup f r, e => by
    obtain ⟨ys, ey, rfl⟩ := Option.map_eq_some_iff.mp e
    exact .tup (f.sub s) (RDs.fz s hrc r ey)
  | _, _, _, .lst f r, e => by
    obtain ⟨ys, ey, rfl⟩ := Option.map_eq_some_iff.mp e
    exact .lst ⟨f.1, fun m => f.2 (s.sub _ m)⟩ (RDs.fz s hrc r ey)
  | _, _, _, .arg f r, e => by
    obtain ⟨ys, ey, rfl⟩ := Option.map_eq_some_iff.mp e
    exact .arg (f.sub s) (RDs.fz s hrc r ey)
  | _, _, _, .obj f r, e => by
    obtain ⟨ys, ey, rfl⟩ := Option.map_eq_some_iff.mp e
    exact .obj (f.sub s) (RDs.fz s hrc r ey)
  | _, _, _, .exc f r, e => by
    obtain ⟨ys, ey, rfl⟩ := Option.map_eq_some_iff.mp e
    exact .exc (f.sub s) (RDs.fz s hrc r ey)
  | _, _, _, .ref (n := n) q, e => by
    rw [D.fz] at e
    split at e
    · rename_i hn
      cases e
      exact .ref (s.low n _ hn q)
    · rename_i hn
      exact hrc n _ _ e q hn
theorem RDs.fz (s : Sub ρ ρ2 len) (hrc : ∀ n d a, rc n = some d → nth ρ.l n = some a → ¬ n < len → RD K H ρ2 d (.ref a)) : ∀ {ds ds' : List D} {vs : List V}, RDs K H ρ ds vs → D.fzs rc len ds = some ds' → RDs K H ρ2 ds' vs
  | _, _, _, .nil, e => by cases e; exact .nil
  | _, _, _, .cons a r, e => by
    rw [D.fzs] at e
    split at e
    · rename_i e1 e2
      cases e
      exact .cons (RD.fz s hrc a e1) (RDs.fz s hrc r e2)
    · cases e
end
theorem rc0_ok : ∀ n d a, rc0 n = some d → nth ρ.l n = some a → ¬ n < len → RD K H ρ2 d (.ref a) := fun _ _ _ e => nomatch e
theorem allSome_ok {ρ : Ro} : ∀ {fs : List (Option D)} {ds : List D} {vs : List (Option V)}, allSome fs = some ds → RSl K H ρ fs vs → ∃ us : List V, vs = us.map some ∧ RDs K H ρ ds us
  | [], ds, vs, e, r => by
    cases e
    have hl : vs = [] := List.length_eq_zero_iff.mp r.1.symm
    exact ⟨[], hl, .nil⟩
  | some d :: fs, ds, vs, e, r => by
    obtain ⟨ds, e1, rfl⟩ := Option.map_eq_some_iff.mp e
    cases vs with
    | nil => exact nomatch r.1
    | cons v0 vs =>
      obtain ⟨us, rfl, rr⟩ := allSome_ok (fs := fs) (vs := vs) e1 ⟨Nat.succ.inj r.1, fun i d e => by
        obtain ⟨v, ev, rv⟩ := r.2 (i + 1) d (by simpa using e)
        exact ⟨v, by simpa using ev, rv⟩⟩
      obtain ⟨v, ev, rv⟩ := r.2 0 d rfl
      have ev : v0 = some v := by simpa using ev
      subst ev
      exact ⟨v :: us, rfl, .cons rv rr⟩
  | none :: _, _, _, e, _ => nomatch e
theorem RSl.fz (s : Sub ρ ρ2 len) (hrc : ∀ n d a, rc n = some d → nth ρ.l n = some a → ¬ n < len → RD K H ρ2 d (.ref a)) : ∀ {fs fs' : List (Option D)} {vs : List (Option V)}, RSl K H ρ fs vs → D.fzo rc len fs = some fs' → RSl K H ρ2 fs' vs
  | [], _, _, r, e => by cases e; exact ⟨r.1, fun i d h => by simp at h⟩
  | none :: fs, fs', vs, r, e => by
    obtain ⟨ys, e1, rfl⟩ := Option.map_eq_some_iff.mp e
    cases vs with
    | nil => exact nomatch r.1
    | cons v0 vs =>
      have ih := RSl.fz s hrc (fs := fs) (vs := vs) ⟨Nat.succ.inj r.1, fun i d e => by
        obtain ⟨v, ev, rv⟩ := r.2 (i + 1) d (by simpa using e)
        exact ⟨v, by simpa using ev, rv⟩⟩ e1
      refine ⟨congrArg (· + 1) ih.1, fun i d e => ?_⟩
      cases i with
      | zero => simp at e
      | succ i =>
        obtain ⟨v, ev, rv⟩ := ih.2 i d (by simpa using e)
        exact ⟨v, by simpa using ev, rv⟩
  | some d0 :: fs, fs', vs, r, e => by
    rw [D.fzo] at e
    split at e
    · rename_i y ys e1 e2
      cases e
      cases vs with
      | nil => exact nomatch r.1
      | cons v0 vs =>
        have ih := RSl.fz s hrc (fs := fs) (vs := vs) ⟨Nat.succ.inj r.1, fun i d e => by
          obtain ⟨v, ev, rv⟩ := r.2 (i + 1) d (by simpa using e)
          exact ⟨v, by simpa using ev, rv⟩⟩ e2
        refine ⟨congrArg (· + 1) ih.1, fun i d e => ?_⟩
        cases i with
        | zero =>
          have e : y = d := by simpa using e
          subst e
          obtain ⟨v, ev, rv⟩ := r.2 0 d0 rfl
          exact ⟨v, by simpa using ev, RD.fz s hrc rv e1⟩
        | succ i =>
          obtain ⟨v, ev, rv⟩ := ih.2 i d (by simpa using e)
          exact ⟨v, by simpa using ev, rv⟩
    · cases e
theorem rcN_ok (s : Sub ρ ρ2 len) (sh : SimH K H ρ h) (hout : ∀ n a, nth ρ.l n = some a → ¬ n < len → a ∉ ρ2) : ∀ (k n : Nat) (d : D) (a : Addr), rcN h len k n = some d → nth ρ.l n = some a → ¬ n < len → RD K H ρ2 d (.ref a)
  | 0, _, _, _, e, _, _ => nomatch e
  | k + 1, n, d, a, e, q, hn => by
    rw [rcN] at e
    cases eo : nth h n with
    | none => rw [eo] at e; cases e
    | some o =>
      rw [eo] at e
      cases o with
      | lst xs =>
        obtain ⟨ys, ey, rfl⟩ := Option.map_eq_some_iff.mp e
        obtain ⟨vs, ev, r⟩ := sh.at q eo
        exact .lst ⟨ev, hout n a q hn⟩ (RDs.fz s (rcN_ok s sh hout k) r ey)
      | ins x fs =>
        have e : (match allSome fs with
          | some ds => (D.fzs (rcN h len k) len ds).map (.obj x)
          | none => none) = some d := e
        cases ea : allSome fs with
        | none => rw [ea] at e; cases e
        | some ds =>
          rw [ea] at e
          obtain ⟨ys, ey, rfl⟩ := Option.map_eq_some_iff.mp e
          obtain ⟨C, dx, vs, ec, e1, e2, nd, r⟩ := sh.obj n _ a eo q
          obtain ⟨us, rfl, rr⟩ := allSome_ok ea r
          exact .obj ⟨C, dx, ec, e1, e2, hout n a q hn, fun m => nd (s.sub _ m)⟩ (RDs.fz s (rcN_ok s sh hout k) rr ey)
variable {H0 : Hp} {ρ0 : Ro} {h0 : HS}
theorem trunc_obj (s : Sub ρ ρ2 h0.length) (sh : SimH K H ρ h) {ht : HS} (e : trunc h0.length h = some ht) {n : Nat} {u : O} {a : Addr} (q : nth ht n = some u) (qa : nth ρ.l n = some a) : OH K H ρ2 a u := by
  obtain ⟨o, eo, et⟩ := truncL_nth e q
  have eo := nth_drop eo
  cases o with
  | lst xs =>
    obtain ⟨ys, ey, rfl⟩ := Option.map_eq_some_iff.mp et
    obtain ⟨vs, ev, r⟩ := sh.at qa eo
    exact ⟨vs, ev, RDs.fz s rc0_ok r ey⟩
  | ins x fs =>
    obtain ⟨ys, ey, rfl⟩ := Option.map_eq_some_iff.mp et
    obtain ⟨C, dx, vs, ec, e1, e2, nd, r⟩ := sh.obj n _ a eo qa
    exact ⟨C, dx, vs, ec, e1, e2, fun m => nd (s.sub _ m), r.fz s rc0_ok ey⟩
theorem trunc_len (hl : h0.length ≤ h.length) {ht : HS} (e : trunc h0.length h = some ht) : ht.length = h0.length := by
  rw [truncL_len e, List.length_drop]; omega
theorem endF_ok {mt : Bool} {d d' : D} {h'' : HS} {v : V} (s0 : SimH K H0 ρ0 h0) (x : Ext H0 ρ0 H ρ) (sh : SimH K H ρ h) (r : RD K H ρ d v) (e : endF mt h0.length d h = some (.ok d', h'')) : ∃ ρ3, Ext H0 ρ0 H ρ3 ∧ SimH K H ρ3 h'' ∧ RD K H ρ3 d' v := by
  obtain ⟨new, en, ez⟩ := x.pre
  have hl : h0.length ≤ h.length := by rw [← sh.len, ← s0.len, en, List.length_append]; omega
  have nd := List.nodup_append.mp sh.nd
  have sub0 : Sub ρ ρ0 h0.length := ⟨fun a m => m.elim (fun m => .inl (by rw [en]; exact List.mem_append_right _ m)) fun m => .inr (by rw [ez]; exact m), fun n a hn q => by rw [en] at q; exact nth_low (by rw [s0.len]; exact hn) q⟩
  have up : ∀ {n a}, nth ρ0.l n = some a → nth ρ.l n = some a := fun q => by rw [en]; exact nth_app new _ q
  have out0 : ∀ n a, nth ρ.l n = some a → ¬ n < h0.length → a ∉ ρ0 := fun n a q hn m => by
    rcases m with m | m
    · obtain ⟨k, ek⟩ := mem_nth m
      have := nth_inj nd.1 q (up ek)
      have := nth_lt ek
      rw [s0.len] at this
      omega
    · exact nd.2.2 _ (nth_mem q) _ (by rw [ez]; exact m) rfl
  unfold endF at e
  cases et : trunc h0.length h with
  | none => rw [et] at e; cases e
  | some ht =>
    rw [et] at e
    have lt := trunc_len hl et
    have x0 : Ext H0 ρ0 H ρ0 := ⟨fun a o ea na => ⟨(x.keep a o ea na).1, na⟩, [], rfl, rfl⟩
    have st : SimH K H ρ0 ht := ⟨by rw [lt, s0.len], s0.nd, fun a m => sh.hid a (by rw [ez]; exact m), fun n u a q qa => trunc_obj sub0 sh et q (up qa)⟩
    have plain : endV h0.length d h ht = some (.ok d', h'') → ∃ ρ3, Ext H0 ρ0 H ρ3 ∧ SimH K H ρ3 h'' ∧ RD K H ρ3 d' v := fun e => by
      unfold endV at e
      split at e
      · rename_i y ey
        cases e
        exact ⟨ρ0, x0, st, RD.fz sub0 (rcN_ok sub0 sh out0 4) r ey⟩
      · cases e
    have e : (if mt = true then endR h0.length d h ht else endV h0.length d h ht) = some (.ok d', h'') := e
    by_cases hm : mt = true
    · rw [if_pos hm] at e
      unfold endR at e
      split at e
      · rename_i n
        unfold endM at e
        split at e
        · rename_i hn
          cases e
          cases r with
          | ref q => exact ⟨ρ0, x0, st, .ref (sub0.low _ _ hn q)⟩
        · rename_i hn
          cases r with
          | ref q =>
            rename_i a
            split at e
            · rename_i xs eo
              split at e
              · rename_i ys ey
                cases e
                have ha := out0 _ a q hn
                obtain ⟨vs, ev, rv⟩ := sh.at q eo
                have sub1 : Sub ρ ⟨a :: ρ0.l, ρ0.z⟩ h0.length := ⟨fun b m => m.elim (fun m => (List.mem_cons.mp m).elim (fun z => .inl (by rw [z]; exact nth_mem q)) fun m => sub0.sub b (.inl m)) fun m => sub0.sub b (.inr m), fun n b hn q => nth_app [a] _ (sub0.low n b hn q)⟩
                refine ⟨⟨a :: ρ0.l, ρ0.z⟩, ⟨fun b o eb nb => ⟨(x.keep b o eb nb).1, fun m => (List.mem_cons.mp m).elim (fun z => (x.keep b o eb nb).2 (by rw [z]; exact nth_mem q)) nb⟩, [a], rfl, rfl⟩, ⟨?_, ?_, fun b m => sh.hid b (by rw [ez]; exact m), fun m u b qu qb => ?_⟩, ?_⟩
                · show (a :: ρ0.l).length = _
                  rw [List.length_cons, List.length_cons, lt, s0.len]
                · exact List.nodup_cons.mpr ⟨fun m => ha ((List.mem_append.mp m).elim .inl .inr), s0.nd⟩
                · have qb : nth (a :: ρ0.l) m = some b := qb
                  unfold nth at qu qb
                  rw [lt] at qu
                  rw [s0.len] at qb
                  by_cases hm : m = h0.length
                  · rw [if_pos hm] at qu qb
                    cases qu; cases qb
                    exact ⟨vs, ev, RDs.fz sub1 rc0_ok rv ey⟩
                  · rw [if_neg hm] at qu qb
                    exact trunc_obj sub1 sh et qu (up qb)
                · refine .ref ?_
                  rw [← s0.len]
                  exact nth_len ρ0.l a
              · cases e
            · cases e
      · exact plain e
    · rw [if_neg hm] at e
      exact plain e
end

end Onc
set_option Elab.async false
set_option linter.all false
set_option maxRecDepth 100000
set_option maxHeartbeats 400000
/-! The text's defs: each keeps what the evaluator tells. -/
namespace Onc
open PySem PySem.Spec PyProof.Rows L2
/-! ### defs -/
structure Fn where
  np : Nat
  n : Nat
  mt : Bool
  body : S
def callF (g : Gx) (F : Fn) (as : List D) : M D := fun h => if as.length = F.np then match exe g F.body (as.map some ++ List.replicate (F.n - F.np) none) h with
  | some (.ok (.rt d), h') => endF F.mt h.length d h'
  | some (.ok (.nx _), h') => endF F.mt h.length .non h'
  | _ => none
  else none
/-- a def of the text: its name, its syntax, its names (the parameters first), what it is told by -/
structure Row where
  x : Str
  /-- its own name; the class that it is of, that class's slots (of __init__) -/
  nm : Str
  kl : Option Str
  sl : List Str
  qual : Str
  params : Arguments
  body : List Stmt
  scope : Scope
  N : List Str
  ps : List Str
  F : Fn
def lookF (rows : List Row) (y : Str) : Option Fn := (rows.find? fun r => decide (r.x = y)).map (·.F)
def gSlot (rows : List Row) (x f : Str) : Option Nat := match rows.find? fun r => decide (r.kl = some x) && decide (r.nm = ("__init__" : Str)) with
  | some r => r.sl.idxOf? f
  | none => none
def gMeth (rows : List Row) (x m : Str) : Option Str := (rows.find? fun r => decide (r.kl = some x) && decide (r.nm = m)).map (·.x)
def gN (rows : List Row) (gl : Glo) (wh : Nat) : Nat → Gx
  | 0 => ⟨fun _ _ => M.fail, gl.d, wh, gSlot rows, gMeth rows, gl.x⟩
  | k + 1 => ⟨fun y as => match lookF rows y with
    | some F => callF (gN rows gl wh k) F as
    | none => M.fail, gl.d, wh, gSlot rows, gMeth rows, gl.x⟩
def fnsOf (rows : List Row) : List Str := (rows.filter fun r => r.kl.isNone).map (·.x)
def mksOf (rows : List Row) : List Str := (rows.filter fun r => decide (r.nm = ("__init__" : Str))).filterMap (·.kl)
def mtsOf (rows : List Row) : List (Str × Str) := (rows.filter fun r => decide (r.nm ≠ ("__init__" : Str))).filterMap fun r => r.kl.map fun x => (x, r.nm)
abbrev XL := List (Str × String × Option Str)
def Row.ctx (r : Row) (rows : List Row) (xl : XL) : Ctx := ⟨r.N, r.scope, r.scope, fnsOf rows, mksOf rows, mtsOf rows, xl.map fun p => (p.1, p.2.2)⟩
def scopeOk (N ps : List Str) (sc : Scope) : Bool :=
  (match sc.kind with | .function => true | _ => false) && !sc.isCoroutine && !sc.isGenerator && decide N.Nodup && decide (N.take ps.length = ps) && (ps.all fun x => decide (sc.names.lookup x = some .local) || decide (sc.names.lookup x = some .cell)) && (sc.names.all fun y => match y.2 with | .free => false | _ => true)
theorem fnScope_of {N ps : List Str} {sc : Scope} (h : scopeOk N ps sc = true) : FnScope N ps sc := by
  unfold scopeOk at h
  simp only [Bool.and_eq_true, decide_eq_true_eq, Bool.not_eq_true', List.all_eq_true, Bool.or_eq_true] at h
  obtain ⟨⟨⟨⟨⟨⟨h1, h2⟩, h3⟩, h4⟩, h5⟩, h6⟩, h7⟩ := h
  refine ⟨?_, h2, h3, h4, h5, h6, fun y hy e => ?_⟩
  · split at h1
    · assumption
    · cases h1
  · have := h7 y hy
    rw [e] at this
    cases this
def Row.ok (r : Row) (rows : List Row) (xl : XL) : Bool := scopeOk r.N r.ps r.scope && trS (r.ctx rows xl) r.F.body (.b r.body) && decide (r.F.np = r.ps.length) && decide (r.F.n = r.N.length)
/-- no exception is told of -/
def XN : XRel := fun _ _ _ _ _ => False
def spF (K : KW) (g : Gx) (y : Str) : Sp := fun vs H Q _ => ∃ (as : List D) (ρ : Ro) (h : HS) (r : Except Exc D) (h' : HS), RDs K H ρ as vs ∧ SimH K H ρ h ∧ g.call y as h = some (r, h') ∧ Post K EN XN (RD K) H ρ r h' Q
/-- where a def stands: in the module, in a class -/
def PlaceOk (K : KW) (mg : Str → Option Value) (r : Row) (f : Addr) : Prop := match r.kl with
  | none => mg r.x = some (.ref f)
  | some x => ∃ C, mg x = some (.ref C) ∧ SlX.SCls K C ∧ (r.nm = ("__init__" : Str) → Mk K C f) ∧ (r.nm ≠ ("__init__" : Str) → Meth K C r.nm f)
structure RowAt (K : KW) (mg : Str → Option Value) (r : Row) (f : Addr) (fd : FuncData) : Prop where
  d : FunD K r.nm r.qual r.params r.body r.scope [] [] f fd
  m : PlaceOk K mg r f
  b : Binds K fd r.ps []
theorem callF_len {g : Gx} {F : Fn} {as : List D} {h h' : HS} {r : Except Exc D} (e : callF g F as h = some (r, h')) : as.length = F.np := by
  unfold callF at e
  split at e
  · assumption
  · cases e
theorem start_sim {K : KW} {H : Hp} {ρ : Ro} {as : List D} {vs : List V} {N : List Str} (r : RDs K H ρ as vs) (n : Nat) (hn : n = N.length - vs.length) : SimL K H ρ (as.map some ++ List.replicate n none) (start N vs) := by
  subst hn
  unfold L2.start
  refine ⟨by simp [r.length], fun i d e => ?_⟩
  have hl := r.length
  by_cases hi : i < as.length
  · rw [List.getElem?_append_left (by simpa using hi), List.getElem?_map] at e
    rw [List.getElem?_append_left (by simpa [← hl] using hi), List.getElem?_map]
    cases q : as[i]? with
    | none => rw [q] at e; cases e
    | some a =>
      rw [q] at e
      cases e
      obtain ⟨v, ev, rv⟩ := r.get q
      exact ⟨v, by rw [ev]; rfl, rv⟩
  · rw [List.getElem?_append_right (by simpa using hi), List.getElem?_replicate] at e
    split at e <;> cases e
theorem lookF_some {rows : List Row} {y : Str} {F : Fn} (h : lookF rows y = some F) : ∃ r ∈ rows, r.x = y ∧ r.F = F ∧ rows.find? (fun r => decide (r.x = y)) = some r := by
  obtain ⟨r, hr, rfl⟩ := Option.map_eq_some_iff.mp h
  exact ⟨r, List.mem_of_find?_eq_some hr, by simpa using List.find?_some hr, rfl, hr⟩
section
variable {P : Program} {w : World} {K : KW} {mg : Str → Option Value} {base : Heap} {rows : List Row} {gl : Glo} {wh : Nat}
structure World1 (K : KW) (mg : Str → Option Value) (rows : List Row) (gl : Glo) : Prop where
  at_ : ∀ r ∈ rows, ∃ f fd, RowAt K mg r f fd
  ok : ∀ r ∈ rows, r.ok rows gl.xl = true
  uniq : (rows.map (·.x)).Nodup
  free : ∀ f ∈ freeNames, mg (Str.ofString f) = none
  glob : ∀ x d, gl x = some d → ∃ u v, mg x = some u ∧ RelV v u ∧ ∀ H ρ, RD K H ρ d v
  xcs : XcsOk K.P K.f mg gl.x
  xuniq : (gl.xl.map (·.1)).Nodup
  slots : ∀ x f j C, gSlot rows x f = some j → clOf mg x = some C → SlX.SCls K C ∧ ∃ p, SlX.Slot1 K C f p j
theorem find_self {r : Row} (hu : (rows.map (·.x)).Nodup) (hr : r ∈ rows) : rows.find? (fun s => decide (s.x = r.x)) = some r := by
  induction rows with
  | nil => cases hr
  | cons s l ih =>
    rw [List.map_cons, List.nodup_cons] at hu
    rw [List.find?_cons]
    rcases List.mem_cons.mp hr with rfl | hm
    · simp
    · have : ¬ s.x = r.x := fun e => hu.1 (by rw [e]; exact List.mem_map_of_mem hm)
      rw [decide_eq_false this]
      exact ih hu.2 hm
theorem fnsOf_mem {y : Str} (h : (fnsOf rows).contains y = true) : ∃ r ∈ rows, r.kl = none ∧ r.x = y := by
  have h : y ∈ fnsOf rows := by simpa using h
  obtain ⟨r, hr, rfl⟩ := List.mem_map.mp h
  obtain ⟨h1, h2⟩ := List.mem_filter.mp hr
  exact ⟨r, h1, by simpa using h2, rfl⟩
theorem gMeth_of {x m y : Str} (h : gMeth rows x m = some y) : ∃ r ∈ rows, r.kl = some x ∧ r.nm = m ∧ r.x = y := by
  obtain ⟨r, hr, rfl⟩ := Option.map_eq_some_iff.mp h
  have q := List.find?_some hr
  simp only [Bool.and_eq_true, decide_eq_true_eq] at q
  exact ⟨r, List.mem_of_find?_eq_some hr, q.1, q.2, rfl⟩
theorem gMeth_some {r : Row} {x : Str} (hr : r ∈ rows) (hk : r.kl = some x) : (gMeth rows x r.nm).isSome = true := by
  unfold gMeth
  rw [Option.isSome_map, List.find?_isSome]
  exact ⟨r, hr, by simp [hk]⟩
theorem mksOf_mem {x : Str} (h : (mksOf rows).contains x = true) : (gMeth rows x "__init__").isSome = true := by
  have h : x ∈ mksOf rows := by simpa using h
  obtain ⟨r, hr, e⟩ := List.mem_filterMap.mp h
  obtain ⟨h1, h2⟩ := List.mem_filter.mp hr
  have h2 : r.nm = ("__init__" : Str) := by simpa using h2
  rw [← h2]
  exact gMeth_some h1 e
theorem mtsOf_mem {x m : Str} (h : (mtsOf rows).contains (x, m) = true) : (gMeth rows x m).isSome = true ∧ m ≠ ("__init__" : Str) := by
  have h : (x, m) ∈ mtsOf rows := by simpa using h
  obtain ⟨r, hr, e⟩ := List.mem_filterMap.mp h
  obtain ⟨h1, h2⟩ := List.mem_filter.mp hr
  have h2 : r.nm ≠ ("__init__" : Str) := by simpa using h2
  obtain ⟨y, hy, e⟩ := Option.map_eq_some_iff.mp e
  cases e
  exact ⟨gMeth_some h1 hy, h2⟩
theorem gN_exc (k : Nat) : (gN rows gl wh k).exc = gl.x := by cases k <;> rfl
theorem xl_get {xl : XL} (hu : (xl.map (·.1)).Nodup) {x : Str} {f : Option Str} (h : (x, f) ∈ xl.map fun p => (p.1, p.2.2)) : ∃ b, xl.lookup x = some (b, f) := by
  induction xl with
  | nil => cases h
  | cons p xl ih =>
    rw [List.map_cons, List.nodup_cons] at hu
    obtain ⟨y, b, f'⟩ := p
    rcases List.mem_cons.mp h with e | h
    · cases e
      exact ⟨b, by simp [List.lookup]⟩
    · obtain ⟨b', e⟩ := ih hu.2 h
      have hne : (x == y) = false := by
        have : x ≠ y := fun z => hu.1 (by
          obtain ⟨q, hq, e2⟩ := List.mem_map.mp h
          have e3 : q.1 = x := congrArg (·.1) e2
          rw [← z, ← e3]
          exact List.mem_map.mpr ⟨q, hq, rfl⟩)
        simpa using this
      exact ⟨b', by simp [List.lookup, hne, e]⟩
theorem gN_slot (k : Nat) : (gN rows gl wh k).slot = gSlot rows := by cases k <;> rfl
theorem gN_meth (k : Nat) : (gN rows gl wh k).meth = gMeth rows := by cases k <;> rfl
theorem fns_ok (hK : K = ⟨K.f, P, w, clOf mg⟩) (W : World1 K mg rows gl) : ∀ (k : Nat) (r : Row), r ∈ rows → ∀ f fd, RowAt K mg r f fd → FnOk P w K mg base L2.CX0 (2 * k) f fd r.ps (spF K (gN rows gl wh k) r.x) := by
  intro k
  induction k with
  | zero => exact fun r hr f fd A => ⟨fun vs H Q E ⟨as, ρ, h, rr, h', _, _, e, _⟩ => (nomatch e), fun A outer s H args us vs Q E _ _ _ _ ⟨as, ρ, h, rr, h', _, _, e, _⟩ => (nomatch e)⟩
  | succ k ih =>
    intro r hr f fd A
    have hok := W.ok r hr
    unfold Row.ok at hok
    simp only [Bool.and_eq_true, decide_eq_true_eq] at hok
    obtain ⟨⟨⟨o1, o2⟩, o3⟩, o4⟩ := hok
    have S := fnScope_of o1
    have hcall : ∀ as h, (gN rows gl wh (k + 1)).call r.x as h = callF (gN rows gl wh k) r.F as h := fun as h => by
      have : lookF rows r.x = some r.F := by unfold lookF; rw [find_self W.uniq hr]; rfl
      show (match lookF rows r.x with | some F => callF (gN rows gl wh k) F as | none => M.fail) h = _
      rw [this]
    have hK1 : ∀ X : Cx, X.K = K.f → X.prog = P → X.w = w → X.mg = mg → kw X = K := fun X e1 e2 e3 e4 => by
      rw [hK]
      show (⟨X.K, X.prog, X.w, clOf X.mg⟩ : KW) = _
      rw [e1, e2, e3, e4]
    refine A.d.ok S (fun vs H Q E ⟨as, ρ, h, rr, h', ra, _, e, _⟩ => ?_) (fun cdv AA outer s H vs Q E hroom ⟨as, ρ, h, rr, h', ra, sh, e, p⟩ => ⟨sCan K EN XN (exe (gN rows gl wh k) r.F.body), PSs.nox ?_, ?_⟩)
    · rw [hcall] at e
      rw [← ra.length, callF_len e, o3]
    · have ag : Ag (r.ctx rows gl.xl) (gN rows gl wh k) (cxOf L2.CX0 P w K mg base r.N r.qual r.scope f cdv AA outer s H E).nox EN XN := by
        have hroom2 : Room (2 * k + 1) (cxOf L2.CX0 P w K mg base r.N r.qual r.scope f cdv AA outer s H E).nox.A := hroom
        have hc : ∀ X : Cx, X.prog = P → X.w = w → (kw X) = K → X.mg = mg → X.base = base → X.A = (cxOf L2.CX0 P w K mg base r.N r.qual r.scope f cdv AA outer s H E).nox.A → ∀ y, (r.ctx rows gl.xl).fns.contains y = true → CallOk X EN XN y ((gN rows gl wh k).call y) := by
          intro X e1 e2 e3 e4 e5 e6 y hy
          obtain ⟨r2, hr2, hk2, rfl⟩ := fnsOf_mem hy
          obtain ⟨f2, fd2, A2⟩ := W.at_ r2 hr2
          have m2 := A2.m
          unfold PlaceOk at m2
          rw [hk2] at m2
          subst e1 e2 e3 e4 e5
          refine ⟨L2.CX0, 2 * k, f2, fd2, r2.ps, spF (kw X) (gN rows gl wh k) r2.x, [], [], ih r2 hr2 f2 fd2 A2, by rw [e6]; exact hroom2.mono (by omega), m2, A2.d.kp, A2.b,   .nil, (fun _ _ _ _ _ _ _ z => False.elim z), fun as vs H ρ h rr h' Q ra sh e p => ?_⟩
          rw [List.append_nil]
          exact ⟨as, ρ, h, rr, h', ra, sh, e, p⟩
        have kps : ∀ X : Cx, (kw X) = K → ∀ y, Keeps X EN XN (spF K (gN rows gl wh k) y) ((gN rows gl wh k).call y) := by
          intro X e3 y as vs H1 ρ1 h1 r1 h2 Q1 ra1 sh1 ee1 pp1
          subst e3
          exact ⟨as, ρ1, h1, r1, h2, ra1, sh1, ee1, pp1⟩
        have hmk : ∀ X : Cx, X.prog = P → X.w = w → (kw X) = K → X.mg = mg → X.base = base → X.A = (cxOf L2.CX0 P w K mg base r.N r.qual r.scope f cdv AA outer s H E).nox.A → ∀ x y, gMeth rows x "__init__" = some y → MakeOk X EN XN x ((gN rows gl wh k).call y) := by
          intro X e1 e2 e3 e4 e5 e6 x y hy
          obtain ⟨r2, hr2, hk2, hn2, rfl⟩ := gMeth_of hy
          obtain ⟨f2, fd2, A2⟩ := W.at_ r2 hr2
          have m2 := A2.m
          unfold PlaceOk at m2
          rw [hk2] at m2
          obtain ⟨C, hm, _, hmk, _⟩ := m2
          have kp := kps X e3 r2.x
          subst e1 e2 e3 e4 e5
          refine ⟨L2.CX0, 2 * k, f2, C, _, hm, hmk hn2, (ih r2 hr2 f2 fd2 A2).raw A2.b .nil, by rw [e6]; exact hroom2, (fun _ _ _ _ _ _ _ z => False.elim z), ?_⟩
          intro as vs H ρ h r h' Q ra sh e p
          show spF _ _ _ (vs ++ []) H Q EN
          rw [List.append_nil]
          exact kp as vs H ρ h r h' Q ra sh e p
        have hmt : ∀ X : Cx, X.prog = P → X.w = w → (kw X) = K → X.mg = mg → X.base = base → X.A = (cxOf L2.CX0 P w K mg base r.N r.qual r.scope f cdv AA outer s H E).nox.A → ∀ x m y, m ≠ ("__init__" : Str) → gMeth rows x m = some y → MethOk X EN XN x m ((gN rows gl wh k).call y) := by
          intro X e1 e2 e3 e4 e5 e6 x m y hne hy
          obtain ⟨r2, hr2, hk2, rfl, rfl⟩ := gMeth_of hy
          obtain ⟨f2, fd2, A2⟩ := W.at_ r2 hr2
          have m2 := A2.m
          unfold PlaceOk at m2
          rw [hk2] at m2
          obtain ⟨C, hm, hsc, _, hmt⟩ := m2
          have kp := kps X e3 r2.x
          subst e1 e2 e3 e4 e5
          refine ⟨L2.CX0, 2 * k, f2, C, _, by unfold clOf; rw [hm], hsc, hmt hne, (ih r2 hr2 f2 fd2 A2).raw A2.b .nil, by rw [e6]; exact hroom2.mono (by omega), (fun _ _ _ _ _ _ _ z => False.elim z), ?_⟩
          intro as vs H ρ h r h' Q ra sh e p
          show spF _ _ _ (vs ++ []) H Q EN
          rw [List.append_nil]
          exact kp as vs H ρ h r h' Q ra sh e p
        refine ⟨rfl, S.nd, rfl, S.kind, rfl, ?_, ?_, W.free, fun x d e => ?_, fun y hy => hc (cxOf L2.CX0 P w K mg base r.N r.qual r.scope f cdv AA outer s H E).nox rfl rfl (hK1 (cxOf L2.CX0 P w K mg base r.N r.qual r.scope f cdv AA outer s H E).nox rfl rfl rfl rfl) rfl rfl rfl y hy, fun y hy s' H' sc' env' fp' => hc ((cxOf L2.CX0 P w K mg base r.N r.qual r.scope f cdv AA outer s H E).nox.blk s' H' sc' env' fp') rfl rfl (hK1 ((cxOf L2.CX0 P w K mg base r.N r.qual r.scope f cdv AA outer s H E).nox.blk s' H' sc' env' fp') rfl rfl rfl rfl) rfl rfl rfl y hy,
          fun x f j C q1 q2 => W.slots x f j C (by rw [← gN_slot (gl := gl) (wh := wh) k]; exact q1) q2,
          fun x hx => ⟨by rw [gN_meth]; exact mksOf_mem hx, fun y hy => hmk (cxOf L2.CX0 P w K mg base r.N r.qual r.scope f cdv AA outer s H E).nox rfl rfl (hK1 (cxOf L2.CX0 P w K mg base r.N r.qual r.scope f cdv AA outer s H E).nox rfl rfl rfl rfl) rfl rfl rfl x y (by rw [gN_meth] at hy; exact hy)⟩,
          fun x hx s' H' sc' env' fp' y hy => hmk ((cxOf L2.CX0 P w K mg base r.N r.qual r.scope f cdv AA outer s H E).nox.blk s' H' sc' env' fp') rfl rfl (hK1 ((cxOf L2.CX0 P w K mg base r.N r.qual r.scope f cdv AA outer s H E).nox.blk s' H' sc' env' fp') rfl rfl rfl rfl) rfl rfl rfl x y (by rw [gN_meth] at hy; exact hy),
          fun x m hx => ⟨by rw [gN_meth]; exact (mtsOf_mem hx).1, fun y hy => hmt (cxOf L2.CX0 P w K mg base r.N r.qual r.scope f cdv AA outer s H E).nox rfl rfl (hK1 (cxOf L2.CX0 P w K mg base r.N r.qual r.scope f cdv AA outer s H E).nox rfl rfl rfl rfl) rfl rfl rfl x m y (mtsOf_mem hx).2 (by rw [gN_meth] at hy; exact hy)⟩,
          by show XcsOk P K.f mg (gN rows gl wh k).exc; rw [gN_exc]; have := W.xcs; rw [hK] at this; exact this, fun x f hx => by rw [gN_exc]; exact xl_get W.xuniq hx, ⟨2 * k, hroom2⟩, fun _ _ _ _ _ => ⟨2 * k, hroom2⟩,
          fun x m hx s' H' sc' env' fp' y hy => hmt ((cxOf L2.CX0 P w K mg base r.N r.qual r.scope f cdv AA outer s H E).nox.blk s' H' sc' env' fp') rfl rfl (hK1 ((cxOf L2.CX0 P w K mg base r.N r.qual r.scope f cdv AA outer s H E).nox.blk s' H' sc' env' fp') rfl rfl rfl rfl) rfl rfl rfl x m y (mtsOf_mem hx).2 (by rw [gN_meth] at hy; exact hy)⟩
        rotate_left 2
        · rw [hK1 (cxOf L2.CX0 P w K mg base r.N r.qual r.scope f cdv AA outer s H E).nox rfl rfl rfl rfl]
          exact W.glob x d (by cases k <;> exact e)
        · have := hroom2.un
          show (cxOf L2.CX0 P w K mg base r.N r.qual r.scope f cdv AA outer s H E).nox.A.units + 100 < cLine
          omega
        · intro x hx
          have hx : (match r.scope.names.lookup x with | some .local | some .cell => true | _ => false) = true := hx
          split at hx
          · exact ⟨.inl (by assumption), .inl rfl⟩
          · exact ⟨.inr (by assumption), .inl rfl⟩
          · cases hx
      have z := trS_ok ag (fun _ _ z => z.elim) r.F.body (.b r.body) o2
      have z : PSs (cxOf L2.CX0 P w K mg base r.N r.qual r.scope f cdv AA outer s H E).nox r.body (sCan (kw (cxOf L2.CX0 P w K mg base r.N r.qual r.scope f cdv AA outer s H E).nox) EN XN (exe (gN rows gl wh k) r.F.body)) := z
      rw [hK1 (cxOf L2.CX0 P w K mg base r.N r.qual r.scope f cdv AA outer s H E).nox rfl rfl rfl rfl] at z
      exact z
    · rw [hcall] at e
      have hl := callF_len e
      unfold callF at e
      rw [if_pos hl] at e
      cases q : exe (gN rows gl wh k) r.F.body (as.map some ++ List.replicate (r.F.n - r.F.np) none) h with
      | none => rw [q] at e; cases e
      | some z =>
        obtain ⟨z, h1⟩ := z
        rw [q] at e
        refine ⟨ρ, _, h, z, h1, start_sim ra (r.F.n - r.F.np) (by rw [o4, ← hl, ra.length]), sh, q, ?_⟩
        cases z with
        | error x => cases e
        | ok fl =>
          have fin : ∀ d v H' ρ', Ext H ρ H' ρ' → SimH K H' ρ' h1 → RD K H' ρ' d v → endF r.F.mt h.length d h1 = some (rr, h') → Q v H' := fun d v H' ρ' x s1 rd e => by
            cases rr with
            | ok y =>
              obtain ⟨ρ3, x3, s3, r3⟩ := endF_ok sh x s1 rd e
              exact p v H' ρ3 x3 s3 r3
            | error y => exact (endF_err e).elim
          cases fl with
          | rt d => exact fun v H' ρ' x s1 rd => fin d v H' ρ' x s1 rd e
          | nx l => exact fun σ' H' ρ' x s1 sl => fin .non .non H' ρ' x s1 .non e
          | bk l => cases e
          | ct l => cases e
end
end Onc
set_option Elab.async false
set_option linter.all false
set_option maxRecDepth 100000
set_option maxHeartbeats 1000000
/-! The facts of own exception classes, read off the written part. -/
namespace Onc
open PySem PySem.Spec PyProof.Rows L2
structure XDef where
  x : Str
  b : String
  f : Option Str
  name : Str
  qual : Str
  params : Arguments
  body : List Stmt
  scope : Scope
def XDef.e (d : XDef) : Str × String × Option Str := (d.x, d.b, d.f)
abbrev XW : Type := Option (Str × Str × Arguments × FuncBody × Scope × Addr × Addr)
def xfI (K : PySem.W.Frag) (x : Str) : Addr := He.ma K (He.ga K x) "__init__"
def xW (K : PySem.W.Frag) (x : Str) : XW := match K.lookup (xfI K x) with
  | some ⟨_, _, .func fd, _⟩ => some (fd.name, fd.qualname, fd.params, fd.body, fd.scope, fd.globals, fd.builtins)
  | _ => none
def XDef.val (d : XDef) : XW := some (d.name, d.qual, d.params, .stmts d.body, d.scope, mainGlobals, builtinsNs)
def newOf (b : String) : String := if b = "LookupError" then "LookupError.__new__" else "ValueError.__new__"
def iniOf (b : String) : String := if b = "LookupError" then "LookupError.__init__" else "ValueError.__init__"
def bmOf (b : String) : List Value := [.type b, .type "Exception", .type "BaseException", .type "object"]
theorem base_ok {b : String} (h : b = "LookupError" ∨ b = "ValueError") : PySem.W.KxsFacts b (iniOf b) ∧ ExcBaseFacts b (newOf b) (iniOf b) (bmOf b) ∧ StoreFacts b (bmOf b) "object.__setattr__" "object" := by
  rcases h with rfl | rfl
  · exact ⟨PySem.W.kxs_LookupError, PySem.F.excBase_LookupError, PySem.F.store_LookupError⟩
  · exact ⟨PySem.W.kxs_ValueError, PySem.F.excBase_ValueError, PySem.F.store_ValueError⟩
/-- its __init__: a def over the class's cell, its code -/
def xfB (K : PySem.W.Frag) (file : Str) (d : XDef) : Bool := match K.lookup (xfI K d.x) with
  | some ⟨_, _, .func fd, _⟩ => (match fd.closure, fd.code, fd.defaults with
    | [(nm, cc)], .ref cda, .none => decide (nm = ("__class__" : Str)) && (match K.lookup cc with
        | some ⟨_, _, .cell (some (.ref D)), _⟩ => decide (D = He.ga K d.x)
        | _ => false) && (match K.lookup cda with
        | some ⟨_, _, .fields vs, _⟩ => (match (vs[2]? : Option Value) with
          | some (.str fl _) => fl == file || file == fl
          | _ => false)
        | _ => false) && PySem.W.codeIn K (.ref cda) d.qual
    | _, _, _ => false)
  | _ => false
def xcB (K : PySem.W.Frag) (d : XDef) : Bool :=
  PySem.W.keepIn K (.ref (He.ga K d.x)) && He.eqO (PySem.W.findIn K (.ref (He.ga K d.x)) "__init__") (some (some (.ref (xfI K d.x)))) && decide (PySem.W.typeIn K (.ref (xfI K d.x)) = some (.type "function")) &&
  decide (PySem.W.mroIn K (He.ga K d.x) (.ref (He.ga K d.x)) = some true) && decide (PySem.W.nsIn K cStatics "thirdparty.any" = some none) && He.eqO (PySem.W.ks_superIn K (He.ga K d.x) (He.ga K d.x) "__init__") (some (some (.builtin (iniOf d.b)))) &&
  decide (PySem.W.subIn K (.ref (He.ga K d.x)) (.type d.b) = some true) && PySem.W.excInitIn K (He.ga K d.x) (bmOf d.b) (newOf d.b) && L2.xfB K (He.ga K d.x) &&
  (PySem.W.clsIn K (He.ga K d.x)).isSome && He.eqO (PySem.W.findIn K (.ref (He.ga K d.x)) "__class__") (some (some (.builtin "object.__class__"))) && He.eqO (PySem.W.specialIn K (.builtin "object.__class__") "__get__") (some (some (.builtin "getset_descriptor.__get__"))) &&
  decide (PySem.W.takesIn K (.builtin "object.__class__") = some true) && decide (PySem.W.mroIn K (He.ga K d.x) (.type "object") = some true) &&
  (match d.f with
    | none => true
    | some f => He.eqO (PySem.W.findIn K (.ref (He.ga K d.x)) f) (some none) && He.eqO (PySem.W.findIn K (.ref (He.ga K d.x)) "__setattr__") (some (some (.builtin "object.__setattr__"))) && PySem.W.excOver K (He.ga K d.x) (bmOf d.b) &&
      He.eqO (PySem.W.takerIn K (He.ga K d.x) f) (some none) && PySem.W.hasDictIn K (He.ga K d.x))
/-- what isinstance tells of two such classes, of a built-in one -/
def xkB (K : PySem.W.Frag) (ds : List XDef) : Bool := ds.all fun d => (ds.all fun e => decide (PySem.W.kitOne K (.ref (He.ga K d.x)) (.ref (He.ga K e.x)) = some (decide (d.x = e.x)))) && exNames.all fun t => decide (PySem.W.kitOne K (.ref (He.ga K d.x)) (.type t) = some (decide (t = d.b)))
def xOk (K : PySem.W.Frag) (file : Str) (ds : List XDef) : Bool := (ds.all fun d => xfB K file d && xcB K d) && xkB K ds
/-- its text -/
def xbB (f : Option Str) : List Stmt → Bool
  | [.Expr (.Call (.Attribute (.Call (.Name su _) [] [] _) ini p2) [.Constant (.str _) _ _] [] p4) _] => decide (su = "super") && decide (ini = "__init__") && (p2.endLine == p4.line) && decide (f = none)
  | [.Expr (.Call (.Attribute (.Call (.Name su _) [] [] _) ini p2) [.Constant (.str _) _ _] [] p4) _, .Assign [.Attribute (.Name se _) g _] (.Name g' _) _] => decide (su = "super") && decide (ini = "__init__") && (p2.endLine == p4.line) && decide (se = "self") && decide (f = some g) && decide (g' = g)
  | _ => false
def xsB (d : XDef) : Bool := (decide (d.b = "LookupError") || decide (d.b = "ValueError")) && xbB d.f d.body && decide ((d.params.posonlyargs ++ d.params.args).head?.map (·.arg) = some ("self" : Str)) &&
  decide (d.scope.names.lookup ("super" : Str) = some .globalImplicit) && decide (d.scope.names.lookup ("__class__" : Str) = some .free) && decide (d.scope.names.lookup ("self" : Str) = some .local) && decide (d.scope.kind = .function) &&
  d.scope.names.all (fun y => !decide (y.2 = .cell)) && !d.scope.isCoroutine && !d.scope.isGenerator && (match d.f with
    | none => true
    | some f => decide (d.scope.names.lookup f = some .local) && !(f == ("__debug__" : Str)) && decide (f ≠ ("self" : Str)))
def BindX (d : XDef) : Prop := ∀ (kV doc pm ct : Value) (an : Option Addr) (cdv : Value) (cc : Addr) (e u : Value), match d.f with
  | none => bindArgs (PySem.W.ksFn d.name d.qual d.params d.body d.scope .none kV doc pm an cdv ct cc) ⟨[e], []⟩ = pure [(("self" : Str), e)]
  | some f => bindArgs (PySem.W.ksFn d.name d.qual d.params d.body d.scope .none kV doc pm an cdv ct cc) ⟨[e, u], []⟩ = pure [(("self" : Str), e), (f, u)] ∧
    bindArgs (PySem.W.ksFn d.name d.qual d.params d.body d.scope .none kV doc pm an cdv ct cc) ⟨[e], [(f, u)]⟩ = pure [(("self" : Str), e), (f, u)]
theorem xbB_ok {f : Option Str} {body : List Stmt} (h : xbB f body = true) : ∃ p0 p1 p2 p3 p4 p5 msg k, (Pos.endLine p2 == Pos.line p4) = true ∧ ((f = none ∧ body = [XC.supS p0 p1 p2 p3 p4 p5 msg k]) ∨ ∃ g q5 q6 q7 q8, f = some g ∧ body = [XC.supS p0 p1 p2 p3 p4 p5 msg k, XC.stoS g q5 q6 q7 q8]) := by
  unfold xbB at h
  split at h
  · simp only [Bool.and_eq_true, decide_eq_true_eq] at h
    obtain ⟨⟨⟨rfl, rfl⟩, h3⟩, rfl⟩ := h
    exact ⟨_, _, _, _, _, _, _, _, h3, .inl ⟨rfl, rfl⟩⟩
  · simp only [Bool.and_eq_true, decide_eq_true_eq] at h
    obtain ⟨⟨⟨⟨⟨rfl, rfl⟩, h3⟩, rfl⟩, rfl⟩, rfl⟩ := h
    exact ⟨_, _, _, _, _, _, _, _, h3, .inr ⟨_, _, _, _, _, rfl, rfl⟩⟩
  · cases h
theorem x_at {K : PySem.W.Frag} {P : Program} {mg : Str → Option Value} {d : XDef} (hm : mg d.x = some (.ref (He.ga K d.x))) (hs : mg "super" = none) (ht : (P.main.scope.names.lookup ("super" : Str)).isSome = false) (e : xW K d.x = d.val) (h1 : xfB K P.main.file d = true) (h2 : xcB K d = true) (h3 : xsB d = true) (hb : BindX d) :
    XcAt P K mg d.x d.b d.f (He.ga K d.x) := by
  unfold xfB at h1
  unfold xW at e
  cases q : K.lookup (xfI K d.x) with
  | none => rw [q] at h1; cases h1
  | some o =>
    obtain ⟨oc, od, dt, osl⟩ := o
    rw [q] at h1 e
    cases dt with
    | func fd =>
      obtain ⟨n1, n2, n3, n4, n5, n6, n7, n8, n9, n10, n11, n12, n13, n14, n15⟩ := fd
      have e2 : (some (n1, n2, n3, n4, n5, n6, n15) : XW) = some (d.name, d.qual, d.params, .stmts d.body, d.scope, mainGlobals, builtinsNs) := e
      simp only [Option.some.injEq, Prod.mk.injEq] at e2
      obtain ⟨k1, k2, k3, k4, k5, k6, k8⟩ := e2
      subst k1 k2 k3 k4 k5 k6 k8
      dsimp only at h1
      split at h1
      · rename_i nm cc cda
        simp only [Bool.and_eq_true, decide_eq_true_eq] at h1
        obtain ⟨⟨⟨rfl, c1⟩, c2⟩, c3⟩ := h1
        unfold xcB at h2
        simp only [Bool.and_eq_true, decide_eq_true_eq] at h2
        obtain ⟨⟨⟨⟨⟨⟨⟨⟨⟨⟨⟨⟨⟨⟨d1, d2⟩, d3⟩, d4⟩, d5⟩, d6⟩, d7⟩, d8⟩, d9⟩, d10⟩, d11⟩, d12⟩, d13⟩, d14⟩, d15⟩ := h2
        unfold xsB at h3
        simp only [Bool.and_eq_true, Bool.or_eq_true, decide_eq_true_eq, List.all_eq_true, Bool.not_eq_true', decide_eq_false_iff_not] at h3
        obtain ⟨⟨⟨⟨⟨⟨⟨⟨⟨⟨s1, s2⟩, s3⟩, s4⟩, s5⟩, s6⟩, s7⟩, s8⟩, s9⟩, s10⟩, s11⟩ := h3
        obtain ⟨B1, B2, B3⟩ := base_ok s1
        have cell : ∃ cl cld csl, K.lookup cc = some ⟨cl, cld, .cell (some (.ref (He.ga K d.x))), csl⟩ := by
          split at c1
          · rename_i a b D c z
            have : D = He.ga K d.x := of_decide_eq_true c1
            subst this
            exact ⟨a, b, c, z⟩
          · cases c1
        have code : ∃ ccl cdd vs ccs file tf, K.lookup cda = some ⟨ccl, cdd, .fields vs, ccs⟩ ∧ vs[2]? = some (.str file tf) ∧ ((P.main.file : Str) == file) = true := by
          split at c2
          · rename_i a b vs c z
            split at c2
            · rename_i fl tf z2
              refine ⟨a, b, vs, c, fl, tf, z, z2, ?_⟩
              simp only [Bool.or_eq_true, beq_iff_eq] at c2
              rcases c2 with c2 | c2
              · rw [c2]; exact beq_self_eq_true _
              · rw [c2]; exact beq_self_eq_true _
            · cases c2
          · cases c2
        have S : XC.XSup K P mg (He.ga K d.x) (xfI K d.x) cda cc d.scope (PySem.W.ksFn d.name d.qual d.params d.body d.scope .none n9 n10 n11 n12 (.ref cda) n14 cc) d.b (newOf d.b) (iniOf d.b) (bmOf d.b) :=
          ⟨⟨oc, od, osl, q⟩, s3, code, cell, d4, hs, s4, s5, s6, s7, ht, d5, He.eqO_ok d6, d7, B1, B2, d8⟩
        let r : XC.XRec := ⟨xfI K d.x, cda, cc, d.b, newOf d.b, iniOf d.b, bmOf d.b, d.scope, d.name, d.qual, d.params, .none, n9, n10, n11, n14, n12⟩
        refine ⟨hm, d1, L2.xfB_ok d9, ⟨d10, He.eqO_ok d11, He.eqO_ok d12, d13, d14⟩, ?_⟩
        obtain ⟨p0, p1, p2, p3, p4, p5, msg, kk, hl, hbody⟩ := xbB_ok s2
        have ini : XC.XIni P K mg (He.ga K d.x) r d.body := ⟨S, c3, s8, s9, s10, He.eqO_ok d2, d3⟩
        have hb' := hb n9 n10 n11 n14 n12 (.ref cda) cc
        rcases hbody with ⟨hf, hbd⟩ | ⟨f, q5, q6, q7, q8, hf, hbd⟩
        · rw [hf] at hb' ⊢
          rw [hbd] at ini hb'
          exact ⟨r, p0, p1, p2, p3, p4, p5, msg, kk, hl, ini, fun e => hb' e .none⟩
        · rw [hf] at hb' d15 s11 ⊢
          rw [hbd] at ini hb'
          simp only [Bool.and_eq_true, decide_eq_true_eq, Bool.not_eq_true'] at d15 s11
          obtain ⟨⟨⟨⟨t1, t2⟩, t3⟩, t4⟩, t5⟩ := d15
          exact ⟨⟨r, p0, p1, p2, p3, p4, p5, q5, q6, q7, q8, msg, kk, hl, ini, ⟨B3, He.eqO_ok t2, t3, He.eqO_ok t4, t5⟩, s11.1.1, s11.1.2, s11.2, fun e u => (hb' e u).1, fun e u => (hb' e u).2⟩, He.eqO_ok t1⟩
      · cases h1
    | _ => cases h1
end Onc
set_option Elab.async false
set_option linter.all false
set_option maxRecDepth 100000
set_option maxHeartbeats 400000
/-! From the head's facts to the defs; the end of a law. -/
namespace Onc
open PySem PySem.Spec PyProof.Rows L2
/-- a def of a class's body -/
def clsAt (s : Stmt) (j : Nat) : Stmt := match s with
  | .ClassDef _ _ _ b _ _ _ _ _ _ _ => b.getD j (.Pass ⟨0, 0, 0, 0⟩)
  | _ => .Pass ⟨0, 0, 0, 0⟩
def Row.place (r : Onc.Row) : Str × Option Str := match r.kl with
  | none => (r.x, none)
  | some x => (x, some r.nm)
def Row.defD (r : Onc.Row) : He.DefD := ⟨r.place, r.nm, r.qual, r.params, r.body, r.scope, [], []⟩
/-- a constant of a module: a number, a text -/
inductive Gk where
  | int (i : Int) | str (z : Str)
def Gk.d : Gk → D
  | .int i => .int i
  | .str z => .str z
def glD (cs : List (Str × Gk)) (xs : List XDef) : Glo := ⟨fun x => (cs.lookup x).map Gk.d, xs.map XDef.e⟩
def faRow (r : Onc.Row) : List He.Fa := match r.kl with
  | none => [.glo r.x]
  | some x => [.glo x, if r.nm = ("__init__" : Str) then .mkr x else .meth x r.nm]
def faOf (rows : List Onc.Row) (cs : List (Str × Gk)) (xs : List XDef) : List He.Fa := (rows.flatMap faRow ++ xs.map fun d => .glo d.x) ++ (cs.map fun p => match p.2 with | .int i => .int p.1 i | .str z => .str p.1 z) ++ freeNames.map fun f => .free (Str.ofString f)
def BindRow (r : Onc.Row) : Prop := ∀ (kV doc pm : Value) (an : Option Addr) (cdv ct : Value) (us : List Value), us.length = r.ps.length → bindArgs (PySem.W.fnOf r.nm r.qual r.params r.body r.scope .none kV doc pm an cdv ct) ⟨us, []⟩ = pure (r.ps.zip us)
/-! ### classes with slots, by the written part -/
def sclsB (K : PySem.W.Frag) (x : Str) : Bool := PySem.W.plainGet K (He.ga K x) Str.empty && (PySem.W.isClsIn K (He.ga K x) && (PySem.W.plainOver K (He.ga K x) && He.eqO (PySem.W.findIn K (.ref (He.ga K x)) "__setattr__") (some (some (.builtin "object.__setattr__")))))
theorem scls_ok {K : PySem.W.Frag} {x : Str} (h : sclsB K x = true) : SlX.SCls K (He.ga K x) := by
  unfold sclsB at h
  simp only [Bool.and_eq_true] at h
  exact ⟨h.1, h.2.1, h.2.2.1, He.eqO_ok h.2.2.2⟩
def slotB (K : PySem.W.Frag) (x f : Str) (j : Nat) : Bool := match PySem.W.findIn K (.ref (He.ga K x)) f with
  | some (some (.ref p)) => decide (PySem.W.specialIn K (.ref p) "__get__" = some (some (.builtin "member_descriptor.__get__"))) && (decide (PySem.W.takesIn K (.ref p) = some true) && (decide (PySem.W.typeIn K (.ref p) = some (.type "member_descriptor")) && (decide (PySem.W.slotIn K p (He.ga K x) = some j) && decide (j < 1000))))
  | _ => false
theorem slot_ok {K : PySem.W.Frag} {x f : Str} {j : Nat} (h : slotB K x f j = true) : ∃ p, SlX.Slot1 K (He.ga K x) f p j := by
  unfold slotB at h
  split at h
  · rename_i p e
    simp only [Bool.and_eq_true, decide_eq_true_eq] at h
    exact ⟨p, e, h.1, h.2.1, h.2.2.1, h.2.2.2.1, h.2.2.2.2⟩
  · cases h
def slotsB (K : PySem.W.Frag) (x : Str) : Nat → List Str → Bool
  | _, [] => true
  | j, f :: fs => slotB K x f j && slotsB K x (j + 1) fs
theorem slots_at {K : PySem.W.Frag} {x f : Str} : ∀ {fs : List Str} {j i : Nat}, slotsB K x j fs = true → fs.idxOf? f = some i → slotB K x f (j + i) = true
  | [], _, _, _, h => by simp [List.idxOf?] at h
  | g :: fs, j, i, h, e => by
    unfold slotsB at h
    rw [Bool.and_eq_true] at h
    rw [List.idxOf?_cons] at e
    split at e
    · rename_i hg
      cases e
      rw [beq_iff_eq] at hg
      rw [← hg]
      exact h.1
    · obtain ⟨k, ek, rfl⟩ := Option.map_eq_some_iff.mp e
      have := slots_at h.2 ek
      rw [show j + (k + 1) = j + 1 + k by omega]
      exact this
def exRow (K : PySem.W.Frag) (r : Onc.Row) : Bool := match r.kl with
  | none => true
  | some x => sclsB K x && slotsB K x 0 r.sl
def exOf (rows : List Onc.Row) (file : Str) (xs : List XDef) (K : PySem.W.Frag) : Bool := rows.all (exRow K) && xOk K file xs
/-! ### the hook -/
abbrev AlE : Type := He.AlD × Bool × List XW
def asX (g : Addr → Option Obj) (n : Nat) : List Addr := cStatics :: He.asD g n
def obsE (n : Nat) (fa : List He.Fa) (fn : List He.DefD) (ex : PySem.W.Frag → Bool) (xs : List XDef) (g : Addr → Option Obj) : AlE := (He.obsD fa fn (He.frG g (asX g n)), ex (He.frG g (asX g n)), xs.map fun d => xW (He.frG g (asX g n)) d.x)
def SaysE (fa : List He.Fa) (fn : List He.DefD) (ex : PySem.W.Frag → Bool) (xs : List XDef) (K : PySem.W.Frag) : Prop := He.SaysD fa fn K ∧ ex K = true ∧ (xs.map fun d => xW K d.x) = xs.map XDef.val
def hookE (n : Nat) (fa : List He.Fa) (fn : List He.DefD) (ex : PySem.W.Frag → Bool) (xs : List XDef) : PySem.W.Hook where
  α := AlE
  obs := fun s => obsE n fa fn ex xs s.heap.get?
  val := fun _ => (He.valD fn, true, xs.map XDef.val)
  says := fun _ h => ∃ K : PySem.W.Frag, K.In h ∧ SaysE fa fn ex xs K
  of := fun _ s e => ⟨He.frG s.heap.get? (asX s.heap.get? n), He.frG_in, congrArg (fun z : AlE => z.1) e, congrArg (fun z : AlE => z.2.1) e, congrArg (fun z : AlE => z.2.2) e⟩
  keeps := fun _ _ _ ⟨K, hK, c⟩ k => ⟨K, PySem.W.Frag.In.keeps hK k, c⟩
theorem obsE_eq {n : Nat} {fa : List He.Fa} {fn : List He.DefD} {ex : PySem.W.Frag → Bool} {xs : List XDef} {g : Addr → Option Obj} {s : Shared} (h : ∀ a, g a = s.heap.get? a) : obsE n fa fn ex xs g = (hookE n fa fn ex xs).obs s := by
  have e : g = s.heap.get? := funext h
  rw [e] <;> rfl
theorem says_mem {fa : List He.Fa} {fn : List He.DefD} {K : PySem.W.Frag} (c : He.SaysD fa fn K) {f : He.Fa} (h : f ∈ fa) : f.ok K = true := by
  obtain ⟨i, hi, e⟩ := List.getElem_of_mem h
  exact c.fact i (by rw [List.getElem?_eq_getElem hi, e])
theorem world_of {rows : List Onc.Row} {cs : List (Str × Gk)} {xs : List XDef} {file : Str} {F : PySem.W.Frag} {P : Program} {w : World} {h : Heap} {mg : Str → Option Value} (X : F.In h) (G : h.Ns mainGlobals mg) (c : SaysE (faOf rows cs xs) (rows.map Row.defD) (exOf rows file xs) xs F)
    (hP : P.main.file = file) (ht : (P.main.scope.names.lookup ("super" : Str)).isSome = false) (hxs : xs.all xsB = true) (hbx : ∀ d ∈ xs, BindX d) (hxu : (xs.map (·.x)).Nodup)
    (ok : rows.all (fun r => r.ok rows (xs.map XDef.e)) = true) (uq : (rows.map (·.x)).Nodup) (hb : ∀ r ∈ rows, BindRow r) : World1 ⟨F, P, w, clOf mg⟩ mg rows (glD cs xs) := by
  obtain ⟨c, cx0, cv⟩ := c
  unfold exOf at cx0
  rw [Bool.and_eq_true] at cx0
  obtain ⟨cx, cxx⟩ := cx0
  have fac : ∀ r ∈ rows, ∀ f ∈ faRow r, f.ok F = true := fun r hr f hf => says_mem c (List.mem_append_left _ (List.mem_append_left _ (List.mem_append_left _ (List.mem_flatMap.mpr ⟨r, hr, hf⟩))))
  have gx : ∀ r ∈ rows, ∀ x, r.kl = some x → mg x = some (.ref (He.ga F x)) ∧ sclsB F x = true ∧ slotsB F x 0 r.sl = true := fun r hr x hx => by
    have h1 : (He.Fa.glo x).ok F = true := fac r hr _ (by unfold faRow; rw [hx]; exact List.mem_cons_self)
    have h2 := List.all_eq_true.mp cx r hr
    unfold exRow at h2
    rw [hx] at h2
    rw [Bool.and_eq_true] at h2
    exact ⟨He.glo_ok X G h1, h2.1, h2.2⟩
  have fre : ∀ f ∈ freeNames, mg (Str.ofString f) = none := fun f hf => He.free_ok X G (says_mem c (f := .free (Str.ofString f)) (List.mem_append_right _ (List.mem_map.mpr ⟨f, hf, rfl⟩)))
  have gxx : ∀ d ∈ xs, mg d.x = some (.ref (He.ga F d.x)) := fun d hd => He.glo_ok X G (says_mem c (f := .glo d.x) (List.mem_append_left _ (List.mem_append_left _ (List.mem_append_right _ (List.mem_map.mpr ⟨d, hd, rfl⟩)))))
  have xv : ∀ d ∈ xs, xW F d.x = d.val := fun d hd => by
    obtain ⟨i, hi, e⟩ := List.getElem_of_mem hd
    have e2 : (xs.map fun d => xW F d.x)[i]? = (xs.map XDef.val)[i]? := by rw [cv]
    rw [List.getElem?_map, List.getElem?_map, List.getElem?_eq_getElem hi, e] at e2
    exact Option.some.inj e2
  unfold xOk at cxx
  rw [Bool.and_eq_true] at cxx
  obtain ⟨cx1, cx2⟩ := cxx
  have xat : ∀ d ∈ xs, XcAt P F mg d.x d.b d.f (He.ga F d.x) := fun d hd => by
    have h1 := List.all_eq_true.mp cx1 d hd
    rw [Bool.and_eq_true] at h1
    exact x_at (gxx d hd) (fre "super" (by decide)) ht (xv d hd) (by rw [hP]; exact h1.1) h1.2 (List.all_eq_true.mp hxs d hd) (hbx d hd)
  have lk : ∀ x v, (xs.map XDef.e).lookup x = some v → ∃ d ∈ xs, d.x = x ∧ (d.b, d.f) = v := fun x v e => by
    obtain ⟨d, hd, e2⟩ := List.mem_map.mp (PySem.mem_of_lookup e)
    have e3 : (d.x, d.b, d.f) = (x, v) := e2
    exact ⟨d, hd, congrArg (·.1) e3, congrArg (·.2) e3⟩
  have ke : ∀ d ∈ xs, (∀ e ∈ xs, PySem.W.kitOne F (.ref (He.ga F d.x)) (.ref (He.ga F e.x)) = some (decide (d.x = e.x))) ∧ ∀ t ∈ exNames, PySem.W.kitOne F (.ref (He.ga F d.x)) (.type t) = some (decide (t = d.b)) := fun d hd => by
    have h1 := List.all_eq_true.mp cx2 d hd
    rw [Bool.and_eq_true] at h1
    exact ⟨fun e he => of_decide_eq_true (List.all_eq_true.mp h1.1 e he), fun t ht => of_decide_eq_true (List.all_eq_true.mp h1.2 t ht)⟩
  have xcs : XcsOk P F mg (glD cs xs).x := by
    refine ⟨fun x b f e => ?_, fun x y C D hx hy mx my => ?_, fun x b f C e m t ht => ?_⟩
    · obtain ⟨d, hd, rfl, e2⟩ := lk _ _ e
      cases e2
      exact ⟨_, xat d hd⟩
    · obtain ⟨v, ev⟩ := Option.isSome_iff_exists.mp hx
      obtain ⟨v2, ev2⟩ := Option.isSome_iff_exists.mp hy
      obtain ⟨d, hd, rfl, _⟩ := lk _ _ ev
      obtain ⟨d2, hd2, rfl, _⟩ := lk _ _ ev2
      rw [gxx d hd] at mx
      rw [gxx d2 hd2] at my
      cases mx
      cases my
      exact (ke d hd).1 d2 hd2
    · obtain ⟨d, hd, rfl, e2⟩ := lk _ _ e
      cases e2
      rw [gxx d hd] at m
      cases m
      exact (ke d hd).2 t ht
  refine ⟨fun r hr => ?_, List.all_eq_true.mp ok, uq, fun f hf => ?_, fun x d e => ?_, xcs, by show ((xs.map XDef.e).map (·.1)).Nodup; rw [List.map_map]; exact hxu, fun x f j C q1 q2 => ?_⟩
  · obtain ⟨i, hi, e⟩ := List.getElem_of_mem hr
    obtain ⟨fd, FD⟩ := c.def_ i (d := r.defD) (by rw [List.getElem?_map, List.getElem?_eq_getElem hi, e]; rfl)
    refine ⟨_, fd, FD, ?_, FunD.bindsN FD (hb r hr)⟩
    unfold PlaceOk Row.defD Row.place
    cases hk : r.kl with
    | none =>
      have h1 : (He.Fa.glo r.x).ok F = true := fac r hr _ (by unfold faRow; rw [hk]; exact List.mem_cons_self)
      exact He.glo_ok X G h1
    | some x =>
      obtain ⟨g1, g2, g3⟩ := gx r hr x hk
      refine ⟨_, g1, scls_ok g2, fun hn => ?_, fun hn => ?_⟩
      · have h1 : (He.Fa.mkr x).ok F = true := fac r hr _ (by unfold faRow; rw [hk]; simp [hn])
        have z : (PySem.W.makesIn F (He.ga F x) && (He.eqO (PySem.W.findIn F (.ref (He.ga F x)) "__init__") (some (some (.ref (He.ma F (He.ga F x) "__init__")))) && (PySem.W.isFn F (.ref (He.ma F (He.ga F x) "__init__")) && PySem.W.keepIn F (.ref (He.ga F x))))) = true := h1
        simp only [Bool.and_eq_true] at z
        have en : He.fAd F (x, some r.nm) = He.ma F (He.ga F x) "__init__" := by rw [hn]; rfl
        show Mk F _ (He.fAd F (x, some r.nm))
        rw [en]
        exact ⟨z.1, He.eqO_ok z.2.1, z.2.2.1, z.2.2.2⟩
      · have h1 : (He.Fa.meth x r.nm).ok F = true := fac r hr _ (by unfold faRow; rw [hk]; simp [hn])
        have z : (He.eqO (PySem.W.findIn F (.ref (He.ga F x)) r.nm) (some (some (.ref (He.ma F (He.ga F x) r.nm)))) && (PySem.W.isFn F (.ref (He.ma F (He.ga F x) r.nm)) && PySem.W.keepIn F (.ref (He.ma F (He.ga F x) r.nm)))) = true := h1
        simp only [Bool.and_eq_true] at z
        exact ⟨He.eqO_ok z.1, z.2.1, z.2.2⟩
  · exact He.free_ok X G (says_mem c (f := .free (Str.ofString f)) (List.mem_append_right _ (List.mem_map.mpr ⟨f, hf, rfl⟩)))
  · have e : (cs.lookup x).map Gk.d = some d := e
    obtain ⟨k, hk, rfl⟩ := Option.map_eq_some_iff.mp e
    have hm : (x, k) ∈ cs := PySem.mem_of_lookup hk
    have sub : ∀ f, (match (x, k).2 with | Gk.int i => He.Fa.int (x, k).1 i | .str z => .str (x, k).1 z) = f → f ∈ faOf rows cs xs := fun f hf => List.mem_append_left _ (List.mem_append_right _ (List.mem_map.mpr ⟨(x, k), hm, hf⟩))
    cases k with
    | int i =>
      obtain ⟨t, e⟩ := He.int_ok X G (says_mem c (sub _ rfl))
      exact ⟨_, .int i, e, ⟨t, rfl⟩, fun _ _ => .int i⟩
    | str z =>
      obtain ⟨t, e⟩ := He.str_ok X G (says_mem c (sub _ rfl))
      exact ⟨_, .str z, e, ⟨t, rfl⟩, fun _ _ => .str z⟩
  · unfold gSlot at q1
    split at q1
    · rename_i r hr
      have hm := List.mem_of_find?_eq_some hr
      have q := List.find?_some hr
      simp only [Bool.and_eq_true, decide_eq_true_eq] at q
      obtain ⟨g1, g2, g3⟩ := gx r hm x q.1
      have ec : C = He.ga F x := by
        unfold clOf at q2
        rw [g1] at q2
        exact (Option.some.inj q2).symm
      subst ec
      have z := slots_at g3 q1
      rw [Nat.zero_add] at z
      exact ⟨scls_ok g2, slot_ok z⟩
    · cases q1
theorem rds_ints {K : KW} {H : Hp} {ρ : Ro} : ∀ ns : List Int, RDs K H ρ (ns.map D.int) (ns.map V.int)
  | [] => .nil
  | n :: ns => .cons (.int n) (rds_ints ns)
theorem argL_of {K : KW} {H : Hp} {a : Addr} {xs : List V} (h : SqL K H a xs) : ArgL K H Ro.nil a xs := by
  rcases h with h | h
  · exact .inl ⟨h, fun m => m.elim (fun m => nomatch m) fun m => nomatch m⟩
  · exact .inr h
/-- the script's reading: a law's def, told by the evaluator -/
theorem law_sp {K : KW} {g : Gx} {n : Nat} {y : Str} (holds : ∀ ns : List Int, ns.length ≤ n → ∃ h', g.call y [.arg (ns.map D.int)] [] = some (.ok (.bl true), h')) (H : Hp) (a : Addr) (ns : List Int) (hl : ns.length ≤ n) (hS : SqL K H a (ns.map V.int)) :
    spF K g y [.ref a] H (fun v _ => v = .bl true) fun _ _ _ => False := by
  obtain ⟨h', e⟩ := holds ns hl
  refine ⟨[.arg (ns.map D.int)], Ro.nil, [], _, h', .cons (.arg (argL_of hS) (rds_ints ns)) .nil, ⟨rfl, List.nodup_nil, fun a m => (nomatch m), fun n o a e => (nomatch e)⟩, e, fun v H' ρ' _ _ r => ?_⟩
  cases r
  rfl
end Onc
set_option Elab.async false
set_option linter.all false
set_option maxRecDepth 1000000
set_option maxHeartbeats 0
namespace K64
open PySem PySem.Spec PyProof.Rows L2 Onc
abbrev prog : PySem.Program := PySem.Challenge.pw_oncesettled_k64_errors_and_what_they_kee
def top (i : Nat) : Stmt := prog.main.body.getD i (.Pass ⟨0, 0, 0, 0⟩)
def f_law_box : Onc.Fn := ⟨2, 3, true, (.cons (.asg (.nm 2) (.ite (.cmp .Lt (.var 1) (.blt true "len" (.cons (.var 0) .nil))) (.ix (.var 0) (.var 1)) (.int 0))) (.cons (.ret (.lst false (.cons (.bin true .Mult (.blt true "abs" (.cons (.var 2) .nil)) (.blt true "int" (.cons (.cmp .GtE (.blt true "abs" (.cons (.var 2) .nil)) (.bin true .Pow (.int 10) (.int 18))) .nil))) (.cons (.bin true .Add (.bin true .Add (.bin true .Mod (.blt true "int" (.cons (.var 2) .nil)) (.int 2305843009213693951)) (.bin true .Mult (.int 39373) (.var 1))) (.int 764)) (.cons (.int 0) .nil))))) .nil))⟩
def r_f_law_box : Onc.Row := ⟨"_law_box", "_law_box", none, [], "_law_box", defArgs (top 11), defBody (top 11), defScope (top 11), ["_law_script", "_law_k", "_law_cell"], ["_law_script", "_law_k"], f_law_box⟩
def f_law_cells : Onc.Fn := ⟨2, 6, false, (.cons (.asg (.nm 2) (.or (.blt false "list" (.cons (.sl true (.var 0) .nil (.var 1)) .nil)) (.or1 (.lst false (.cons (.int 0) .nil))))) (.cons (.for (.tp (.cons (.nm 3) (.cons (.nm 4) .nil))) 3 (.cons (.sl true (.var 0) (.var 1) (.int 63)) .nil) (.cons (.asg (.nm 5) (.bin true .Mod (.blt true "int" (.cons (.var 3) .nil)) (.var 1))) (.cons (.setix (.var 2) (.var 5) (.bin true .Add (.ix (.var 2) (.var 5)) (.bin true .Mult (.var 4) (.bin true .Add (.var 3) (.int 2))))) .nil))) (.cons (.ret (.var 2)) .nil)))⟩
def r_f_law_cells : Onc.Row := ⟨"_law_cells", "_law_cells", none, [], "_law_cells", defArgs (top 12), defBody (top 12), defScope (top 12), ["_law_script", "_law_most", "_law_cells_here", "_law_k", "_law_cell", "_law_at_so"], ["_law_script", "_law_most"], f_law_cells⟩
def f_law_same : Onc.Fn := ⟨2, 4, false, (.cons (.iff (.isi (.var 1) ["list", "tuple"]) (.cons (.iff (.or (.cmp .NotEq (.isi (.var 0) ["list"]) (.isi (.var 1) ["list"])) (.or1 (.cmp .NotEq (.isi (.var 0) ["tuple"]) (.isi (.var 1) ["tuple"])))) (.cons (.ret (.bl false)) .nil) .nil) (.cons (.ret (.and (.cmp .Eq (.blt true "len" (.cons (.var 0) .nil)) (.blt true "len" (.cons (.var 1) .nil))) (.and1 (.blt true "all" (.cons (.lc true (.call "_law_same" (.cons (.var 2) (.cons (.var 3) .nil))) (.tp (.cons (.nm 2) (.cons (.nm 3) .nil))) [("_law_mine", 2), ("_law_its", 3)] 4 (.cons (.var 0) (.cons (.var 1) .nil)) .nil) .nil))))) .nil)) .nil) (.cons (.iff (.or (.isN (.var 1)) (.or1 (.isi (.var 1) ["bool", "str"]))) (.cons (.ret (.and (.cmp .Eq (.var 0) (.var 1)) (.and (.cmp .Eq (.isi (.var 0) ["bool"]) (.isi (.var 1) ["bool"])) (.and1 (.cmp .Eq (.isN (.var 0)) (.isN (.var 1))))))) .nil) .nil) (.cons (.ret (.and (.isi (.var 0) ["int"]) (.and (.not (.isi (.var 0) ["bool"])) (.and1 (.cmp .Eq (.var 0) (.var 1)))))) .nil)))⟩
def r_f_law_same : Onc.Row := ⟨"_law_same", "_law_same", none, [], "_law_same", defArgs (top 13), defBody (top 13), defScope (top 13), ["_law_got", "_law_due", "_law_mine", "_law_its"], ["_law_got", "_law_due"], f_law_same⟩
def f_law_kinds : Onc.Fn := ⟨1, 2, false, (.cons (.asg (.nm 1) (.lst true (.cons (.isx (.var 0) "Open") (.cons (.isx (.var 0) "Nothing") (.cons (.isx (.var 0) "NoBranch") (.cons (.isx (.var 0) "Odd") .nil)))))) (.cons (.asg (.nm 1) (.bin true .Add (.var 1) (.lst true (.cons (.isx (.var 0) "Gainsaid") (.cons (.isx (.var 0) "Unlike") (.cons (.isx (.var 0) "Unsteady") .nil)))))) (.cons (.ret (.bin true .Add (.var 1) (.lst true (.cons (.isx (.var 0) "BadText") (.cons (.isx (.var 0) "BadLine") .nil))))) .nil)))⟩
def r_f_law_kinds : Onc.Row := ⟨"_law_kinds", "_law_kinds", none, [], "_law_kinds", defArgs (top 14), defBody (top 14), defScope (top 14), ["_law_its", "_law_found"], ["_law_its"], f_law_kinds⟩
def f_law_right : Onc.Fn := ⟨1, 9, false, (.cons (.asg (.tp (.cons (.nm 5) (.cons (.nm 6) .nil))) (.tup (.cons (.tup (.cons (.str "h") (.cons (.tup (.cons (.str "b") .nil)) (.cons (.tup (.cons (.str "x") .nil)) (.cons (.tup (.cons (.str "y") .nil)) (.cons (.str "") .nil)))))) (.cons (.tup (.cons .non (.cons .non (.cons (.tup (.cons (.str "b") .nil)) (.cons (.tup (.cons (.str "x") .nil)) (.cons (.tup (.cons (.str "y") .nil)) .nil)))))) .nil)))) (.cons (.asg (.nm 1) (.lst false (.cons (.attrx (.mkx "Open" false (.cons (.var 5) .nil)) "clash") (.cons (.attrx (.mkx "Nothing" false (.cons (.var 5) .nil)) "clash") (.cons (.attrx (.mkx "NoBranch" false (.cons (.str "bob") .nil)) "name") (.cons (.attrx (.mkx "Odd" false (.cons (.var 5) .nil)) "clash") .nil)))))) (.cons (.asg (.nm 1) (.bin false .Add (.var 1) (.lst true (.cons (.attrx (.mkx "Gainsaid" false (.cons (.var 6) .nil)) "key") (.cons (.attrx (.mkx "Unsteady" false (.cons (.tup (.cons (.int 0) (.cons (.int 2) .nil))) .nil)) "numbers") (.cons (.attrx (.mkx "BadLine" false (.cons (.int 3) .nil)) "number") .nil)))))) (.cons (.asg (.nm 2) (.lst true (.cons (.var 5) (.cons (.var 5) (.cons (.str "bob") (.cons (.var 5) (.cons (.var 6) (.cons (.tup (.cons (.int 0) (.cons (.int 2) .nil))) (.cons (.int 3) .nil))))))))) (.cons (.asg (.nm 1) (.bin false .Add (.var 1) (.lst true (.cons (.attrx (.mkx "Open" true (.var 5)) "clash") (.cons (.attrx (.mkx "Nothing" true (.var 5)) "clash") (.cons (.attrx (.mkx "NoBranch" true (.str "")) "name") .nil)))))) (.cons (.asg (.nm 1) (.bin false .Add (.var 1) (.lst true (.cons (.attrx (.mkx "Odd" true (.var 5)) "clash") (.cons (.attrx (.mkx "Gainsaid" true (.var 6)) "key") (.cons (.attrx (.mkx "Unsteady" true (.tup .nil)) "numbers") .nil)))))) (.cons (.expr (.app (.var 1) (.attrx (.mkx "BadLine" true (.int 0)) "number"))) (.cons (.iff (.not (.call "_law_same" (.cons (.var 1) (.cons (.bin true .Add (.var 2) (.lst true (.cons (.var 5) (.cons (.var 5) (.cons (.str "") (.cons (.var 5) (.cons (.var 6) (.cons (.tup .nil) (.cons (.int 0) .nil))))))))) .nil)))) (.cons (.ret (.bl false)) .nil) .nil) (.cons (.asg (.nm 3) (.lst true (.cons (.mkx "Open" false (.cons (.var 5) .nil)) (.cons (.mkx "Nothing" false (.cons (.var 5) .nil)) (.cons (.mkx "NoBranch" false (.cons (.str "a") .nil)) (.cons (.mkx "Odd" false (.cons (.var 5) .nil)) (.cons (.mkx "Gainsaid" false (.cons (.var 6) .nil)) (.cons (.mkx "Unlike" false .nil) .nil)))))))) (.cons (.asg (.nm 3) (.bin true .Add (.var 3) (.lst true (.cons (.mkx "Unsteady" false (.cons (.tup (.cons (.int 1) .nil)) .nil)) (.cons (.mkx "BadText" false .nil) (.cons (.mkx "BadLine" false (.cons (.int 9) .nil)) .nil)))))) (.cons (.for (.nm 4) 1 (.cons (.blt true "len" (.cons (.var 3) .nil)) .nil) (.cons (.asg (.nm 7) (.ix (.var 3) (.var 4))) (.cons (.iff (.or (.cmp .NotEq (.call "_law_kinds" (.cons (.var 7) .nil)) (.lc true (.cmp .Eq (.var 8) (.var 4)) (.nm 8) [("_law_own", 8)] 1 (.cons (.int 9) .nil) .nil)) (.or1 (.isb (.var 7) ["KeyError", "IndexError"]))) (.cons (.ret (.bl false)) .nil) .nil) (.cons (.iff (.or (.cmp .NotEq (.isb (.var 7) ["LookupError"]) (.cmp .Lt (.var 4) (.int 3))) (.or1 (.cmp .NotEq (.isb (.var 7) ["ValueError"]) (.cmp .Gt (.var 4) (.int 2))))) (.cons (.ret (.bl false)) .nil) .nil) .nil)))) (.cons (.ret (.bl true)) .nil))))))))))))⟩
def r_f_law_right : Onc.Row := ⟨"_law_right", "_law_right", none, [], "_law_right", defArgs (top 15), defBody (top 15), defScope (top 15), ["_law_box_here", "_law_got", "_law_due", "_law_every", "_law_k", "_law_clash_so", "_law_sign", "_law_its", "_law_own"], ["_law_box_here"], f_law_right⟩
def f_law : Onc.Fn := ⟨1, 5, false, (.cons (.asg (.nm 1) (.call "_law_cells" (.cons (.var 0) (.cons (.int 1) .nil)))) (.cons (.for (.nm 2) 1 (.cons (.blt true "len" (.cons (.var 1) .nil)) .nil) (.cons (.asg (.nm 3) (.call "_law_box" (.cons (.var 1) (.cons (.var 2) .nil)))) (.cons (.iff (.not (.blt true "all" (.cons (.lc true (.call "_law_right" (.cons (.var 3) .nil)) (.nm 4) [("_law_turn", 4)] 1 (.cons (.int 1) .nil) .nil) .nil))) (.cons (.ret (.bl false)) .nil) .nil) .nil))) (.cons (.ret (.bl true)) .nil)))⟩
def r_f_law : Onc.Row := ⟨"law", "law", none, [], "law", defArgs (top 16), defBody (top 16), defScope (top 16), ["_law_script", "_law_cells_here", "_law_k", "_law_box_here", "_law_turn"], ["_law_script"], f_law⟩
def rows : List Onc.Row := [r_f_law_box, r_f_law_cells, r_f_law_same, r_f_law_kinds, r_f_law_right, r_f_law]
def x_Open : Onc.XDef := ⟨"Open", "LookupError", some "clash", "__init__", "Open.__init__", defArgs (Onc.clsAt (top 1) 0), defBody (Onc.clsAt (top 1) 0), defScope (Onc.clsAt (top 1) 0)⟩
def x_Nothing : Onc.XDef := ⟨"Nothing", "LookupError", some "clash", "__init__", "Nothing.__init__", defArgs (Onc.clsAt (top 2) 0), defBody (Onc.clsAt (top 2) 0), defScope (Onc.clsAt (top 2) 0)⟩
def x_NoBranch : Onc.XDef := ⟨"NoBranch", "LookupError", some "name", "__init__", "NoBranch.__init__", defArgs (Onc.clsAt (top 3) 0), defBody (Onc.clsAt (top 3) 0), defScope (Onc.clsAt (top 3) 0)⟩
def x_Odd : Onc.XDef := ⟨"Odd", "ValueError", some "clash", "__init__", "Odd.__init__", defArgs (Onc.clsAt (top 4) 0), defBody (Onc.clsAt (top 4) 0), defScope (Onc.clsAt (top 4) 0)⟩
def x_Gainsaid : Onc.XDef := ⟨"Gainsaid", "ValueError", some "key", "__init__", "Gainsaid.__init__", defArgs (Onc.clsAt (top 5) 0), defBody (Onc.clsAt (top 5) 0), defScope (Onc.clsAt (top 5) 0)⟩
def x_Unlike : Onc.XDef := ⟨"Unlike", "ValueError", none, "__init__", "Unlike.__init__", defArgs (Onc.clsAt (top 6) 0), defBody (Onc.clsAt (top 6) 0), defScope (Onc.clsAt (top 6) 0)⟩
def x_Unsteady : Onc.XDef := ⟨"Unsteady", "ValueError", some "numbers", "__init__", "Unsteady.__init__", defArgs (Onc.clsAt (top 7) 0), defBody (Onc.clsAt (top 7) 0), defScope (Onc.clsAt (top 7) 0)⟩
def x_BadText : Onc.XDef := ⟨"BadText", "ValueError", none, "__init__", "BadText.__init__", defArgs (Onc.clsAt (top 8) 0), defBody (Onc.clsAt (top 8) 0), defScope (Onc.clsAt (top 8) 0)⟩
def x_BadLine : Onc.XDef := ⟨"BadLine", "ValueError", some "number", "__init__", "BadLine.__init__", defArgs (Onc.clsAt (top 9) 0), defBody (Onc.clsAt (top 9) 0), defScope (Onc.clsAt (top 9) 0)⟩
def xs : List Onc.XDef := [x_Open, x_Nothing, x_NoBranch, x_Odd, x_Gainsaid, x_Unlike, x_Unsteady, x_BadText, x_BadLine]
theorem xs_ok : xs.all Onc.xsB = true := by decide +kernel
theorem xs_uniq : (xs.map (·.x)).Nodup := by decide +kernel
theorem rows_ok : rows.all (fun r => r.ok rows (xs.map Onc.XDef.e)) = true := by decide +kernel
theorem rows_uniq : (rows.map (·.x)).Nodup := by decide +kernel
end K64
set_option Elab.async false
set_option linter.all false
set_option maxRecDepth 1000000
set_option maxHeartbeats 0
namespace K64
open PySem PySem.Spec PyProof.Rows L2 Onc
theorem b_f_law_box : BindRow r_f_law_box := fun _ _ _ _ _ _ us hl => match us, hl with | [_, _], _ => rfl
theorem b_f_law_cells : BindRow r_f_law_cells := fun _ _ _ _ _ _ us hl => match us, hl with | [_, _], _ => rfl
theorem b_f_law_same : BindRow r_f_law_same := fun _ _ _ _ _ _ us hl => match us, hl with | [_, _], _ => rfl
theorem b_f_law_kinds : BindRow r_f_law_kinds := fun _ _ _ _ _ _ us hl => match us, hl with | [_], _ => rfl
theorem b_f_law_right : BindRow r_f_law_right := fun _ _ _ _ _ _ us hl => match us, hl with | [_], _ => rfl
theorem b_f_law : BindRow r_f_law := fun _ _ _ _ _ _ us hl => match us, hl with | [_], _ => rfl
theorem binds : ∀ r ∈ rows, BindRow r := List.forall_mem_cons.mpr ⟨b_f_law_box, List.forall_mem_cons.mpr ⟨b_f_law_cells, List.forall_mem_cons.mpr ⟨b_f_law_same, List.forall_mem_cons.mpr ⟨b_f_law_kinds, List.forall_mem_cons.mpr ⟨b_f_law_right, List.forall_mem_cons.mpr ⟨b_f_law, (fun _ h => nomatch h)⟩⟩⟩⟩⟩⟩
theorem bx_Open : BindX x_Open := fun _ _ _ _ _ _ _ _ _ => ⟨rfl, rfl⟩
theorem bx_Nothing : BindX x_Nothing := fun _ _ _ _ _ _ _ _ _ => ⟨rfl, rfl⟩
theorem bx_NoBranch : BindX x_NoBranch := fun _ _ _ _ _ _ _ _ _ => ⟨rfl, rfl⟩
theorem bx_Odd : BindX x_Odd := fun _ _ _ _ _ _ _ _ _ => ⟨rfl, rfl⟩
theorem bx_Gainsaid : BindX x_Gainsaid := fun _ _ _ _ _ _ _ _ _ => ⟨rfl, rfl⟩
theorem bx_Unlike : BindX x_Unlike := fun _ _ _ _ _ _ _ _ _ => rfl
theorem bx_Unsteady : BindX x_Unsteady := fun _ _ _ _ _ _ _ _ _ => ⟨rfl, rfl⟩
theorem bx_BadText : BindX x_BadText := fun _ _ _ _ _ _ _ _ _ => rfl
theorem bx_BadLine : BindX x_BadLine := fun _ _ _ _ _ _ _ _ _ => ⟨rfl, rfl⟩
theorem bindsX : ∀ d ∈ xs, BindX d := List.forall_mem_cons.mpr ⟨bx_Open, List.forall_mem_cons.mpr ⟨bx_Nothing, List.forall_mem_cons.mpr ⟨bx_NoBranch, List.forall_mem_cons.mpr ⟨bx_Odd, List.forall_mem_cons.mpr ⟨bx_Gainsaid, List.forall_mem_cons.mpr ⟨bx_Unlike, List.forall_mem_cons.mpr ⟨bx_Unsteady, List.forall_mem_cons.mpr ⟨bx_BadText, List.forall_mem_cons.mpr ⟨bx_BadLine, (fun _ h => nomatch h)⟩⟩⟩⟩⟩⟩⟩⟩⟩
def cs : List (Str × Gk) := []
def loose : List Str := (["Open", "Nothing", "NoBranch", "Odd", "Gainsaid", "Unlike", "Unsteady", "BadText", "BadLine", "_law_box", "_law_cells", "_law_same", "_law_kinds", "_law_right"] : List String).map Str.ofString
def fn : List He.DefD := rows.map Onc.Row.defD
def fa : List He.Fa := faOf rows cs xs
abbrev R : PySem.W.OpenRow := PySem.W.OpenLaw.row PySem.Challenge.rw_oncesettled_k64_errors_and_what_they_kee
abbrev hk : PySem.W.Hook := Onc.hookE 4 fa fn (Onc.exOf rows prog.main.file xs) xs
def ob (s : PySem.W.SharedT) : Onc.AlE := Onc.obsE 4 fa fn (Onc.exOf rows prog.main.file xs) xs (HandSHeadRun.getT s)
theorem ob_eq (s : PySem.W.SharedT) : ob s = hk.obs s.abs := Onc.obsE_eq (HandSHeadRun.getT_eq s)
theorem run (w : World) : HandSHeadRun.RunEq R (PySem.W.view R.prog [16]) hk ob 4000 loose w := by
  intro os
  kernel_rfl
abbrev gg : Gx := gN rows (glD cs xs) 200 30
theorem facts {P : Program} {w : World} {K : PySem.W.Frag} {h : Heap} {mg : Str → Option Value} {f : Addr} (X : K.In h) (G : h.Ns mainGlobals mg) (hfa : mg ("law" : Str) = some (.ref f)) (c : Onc.SaysE fa fn (Onc.exOf rows prog.main.file xs) xs K) (hP : P.main.file = prog.main.file) (ht : (P.main.scope.names.lookup ("super" : Str)).isSome = false) :
    ∃ fd : FuncData, (∀ (s : Shared) (v : Value), BindsTo s fd ⟨[v], []⟩ [("_law_script", v)]) ∧ ∀ base : Heap, K.In base → base.Ns mainGlobals mg → FnOk P w K mg base CX0 60 f fd ["_law_script"] (spF ⟨K, P, w, clOf mg⟩ gg "law") := by
  have W := world_of (P := P) (w := w) X G c hP ht xs_ok bindsX xs_uniq rows_ok rows_uniq binds
  have hr : r_f_law ∈ rows := by simp [rows]
  obtain ⟨i, hi, e⟩ := List.getElem_of_mem hr
  obtain ⟨fd, F⟩ := c.1.def_ i (d := r_f_law.defD) (by show (rows.map Onc.Row.defD)[i]? = _; rw [List.getElem?_map, List.getElem?_eq_getElem hi, e]; rfl)
  have hg := He.glo_ok X G (says_mem c.1 (f := .glo r_f_law.x) (List.mem_append_left _ (List.mem_append_left _ (List.mem_append_left _ (List.mem_flatMap.mpr ⟨r_f_law, hr, List.mem_cons_self⟩)))))
  have e2 := hfa.symm.trans hg
  cases e2
  have b := FunD.bindsA (ps := ["_law_script"]) F fun _ _ _ _ _ _ us hl => match us, hl with | [_], _ => rfl
  exact ⟨fd, fun s v => b s [v] rfl, fun base _ _ => fns_ok (K := ⟨K, P, w, clOf mg⟩) rfl W 30 r_f_law hr _ fd ⟨F, (show PlaceOk _ _ r_f_law _ from hg), FunD.bindsN F (binds _ hr)⟩⟩
end K64
set_option Elab.async false
set_option linter.all false
set_option maxRecDepth 100000
set_option maxHeartbeats 400000
/-! Plain tools: how the evaluator runs. -/
namespace Onc
open PySem

section
variable {α β : Type} {m : M α} {f : α → M β} {h h1 : HS} {a : α} {r : Res β}
theorem bnd_run {r : Res β} (e : m h = some (.ok a, h1)) (e2 : f a h1 = r) : M.bnd m f h = r := by unfold M.bnd; rw [e]; exact e2
theorem ret_run : M.ret a h = some (.ok a, h) := rfl
theorem opt_some : M.opt (some a) h = some (.ok a, h) := rfl
theorem rd_run {d : D} : M.rd d h = some (.ok (rd h d), h) := rfl
end
/-- no list, no object that changes, within -/
inductive Pl : D → Prop
  | non : Pl .non
  | bl (b : Bool) : Pl (.bl b)
  | int (i : Int) : Pl (.int i)
  | str (x : Str) : Pl (.str x)
  | tup {xs : List D} : (∀ x ∈ xs, Pl x) → Pl (.tup xs)
theorem fzs_of {rc : Nat → Option D} {len : Nat} : ∀ {xs : List D}, (∀ x ∈ xs, D.fz rc len x = some x) → D.fzs rc len xs = some xs
  | [], _ => rfl
  | x :: xs, h => by rw [D.fzs, h x List.mem_cons_self, fzs_of fun y hy => h y (List.mem_cons_of_mem _ hy)]
theorem Pl.fz {rc : Nat → Option D} {len : Nat} {d : D} (p : Pl d) : D.fz rc len d = some d := by
  induction p with
  | tup _ ih => rw [D.fz, fzs_of ih]; rfl
  | _ => rfl
theorem Pl.fzl {rc : Nat → Option D} {len : Nat} {xs : List D} (p : ∀ x ∈ xs, Pl x) : D.fz rc len (.lst xs) = some (.lst xs) := by rw [D.fz, fzs_of fun x hx => (p x hx).fz]; rfl
/-- a heap that a call leaves as it was -/
def Still (h : HS) : Prop := truncL h.length h = some h
theorem still_nil : Still [] := rfl
theorem trunc_app {new h : HS} (s : Still h) : trunc h.length (new ++ h) = some h := by
  unfold trunc
  rw [List.length_append, Nat.add_sub_cancel, List.drop_left]
  exact s
theorem truncL_of {len : Nat} : ∀ {h : HS}, (∀ o ∈ h, ∃ xs, o = O.lst xs ∧ ∀ x ∈ xs, Pl x) → truncL len h = some h
  | [], _ => rfl
  | o :: h, p => by
    obtain ⟨xs, rfl, hx⟩ := p _ List.mem_cons_self
    rw [truncL, truncO, fzs_of fun x m => (hx x m).fz, truncL_of fun o m => p o (List.mem_cons_of_mem _ m)]
    rfl
theorem still_of {h : HS} (p : ∀ o ∈ h, ∃ xs, o = O.lst xs ∧ ∀ x ∈ xs, Pl x) : Still h := truncL_of p
/-- a call whose body ends in a return -/
theorem callF_rt {g : Gx} {F : Fn} {as : List D} {h h' : HS} {d : D} (hl : as.length = F.np) (e : exe g F.body (as.map some ++ List.replicate (F.n - F.np) none) h = some (.ok (.rt d), h')) : callF g F as h = endF F.mt h.length d h' := by
  unfold callF
  rw [if_pos hl, e]
theorem endF_v {d d' : D} {new h : HS} (s : Still h) (e : D.fz (rcN (new ++ h) h.length 4) h.length d = some d') : endF false h.length d (new ++ h) = some (.ok d', h) := by
  unfold endF
  rw [trunc_app s]
  show endV _ _ _ _ = _
  unfold endV
  rw [e]
theorem endF_pl {d : D} {h : HS} (s : Still h) (p : Pl d) : endF false h.length d h = some (.ok d, h) := endF_v (new := []) s p.fz
/-- a call that only reads: the value, the heap as it was -/
theorem callF_pl {g : Gx} {F : Fn} {as : List D} {h : HS} {d : D} (hl : as.length = F.np) (hm : F.mt = false) (s : Still h) (e : exe g F.body (as.map some ++ List.replicate (F.n - F.np) none) h = some (.ok (.rt d), h)) (p : Pl d) : callF g F as h = some (.ok d, h) := by
  rw [callF_rt hl e, hm, endF_pl s p]
theorem gN_call {rows : List Row} {gl : Glo} {wh k : Nat} {y : Str} {F : Fn} (e : lookF rows y = some F) (as : List D) : (gN rows gl wh (k + 1)).call y as = callF (gN rows gl wh k) F as := by
  show (match lookF rows y with | some F => callF (gN rows gl wh k) F as | none => M.fail) = _
  rw [e]
/-! ### rows that stand still -/
def enumF : Nat → List D → List D
  | _, [] => []
  | i, x :: xs => .tup [.int i, x] :: enumF (i + 1) xs
def zipF : List D → List D → List D
  | x :: xs, y :: ys => .tup [x, y] :: zipF xs ys
  | _, _ => []
def rngF (lo : Int) : Nat → List D
  | 0 => []
  | n + 1 => .int lo :: rngF (lo + 1) n
/-- what a source gives that does not hang on the heap -/
def Src.items : Src → Option (List D)
  | .one (.fix xs) => some xs
  | .enum (.fix xs) => some (enumF 0 xs)
  | .zip (.fix xs) (.fix ys) => some (zipF xs ys)
  | .rng lo n => some (rngF lo n)
  | _ => none
theorem enumF_get : ∀ {xs : List D} {k i : Nat}, (enumF k xs)[i]? = (xs[i]?).map fun x => .tup [.int (k + i : Nat), x]
  | [], _, _ => by simp [enumF]
  | x :: xs, k, 0 => by simp [enumF]
  | x :: xs, k, i + 1 => by
    show (enumF (k + 1) xs)[i]? = _
    rw [enumF_get]
    show _ = (xs[i]?).map _
    rw [show k + 1 + i = k + (i + 1) by omega]
theorem zipF_get : ∀ {xs ys : List D} {i : Nat}, (zipF xs ys)[i]? = match xs[i]?, ys[i]? with
    | some x, some y => some (.tup [x, y])
    | _, _ => none
  | [], ys, i => by cases ys <;> simp [zipF]
  | x :: xs, [], i => by
    simp only [zipF, List.getElem?_nil]
    split <;> simp_all
  | x :: xs, y :: ys, 0 => by simp [zipF]
  | x :: xs, y :: ys, i + 1 => by
    show (zipF xs ys)[i]? = _
    rw [zipF_get]
    simp
theorem rngF_get : ∀ {n i : Nat} {lo : Int}, (rngF lo n)[i]? = if i < n then some (.int (lo + i)) else none
  | 0, i, lo => by simp [rngF]
  | n + 1, 0, lo => by simp [rngF]
  | n + 1, i + 1, lo => by
    show (rngF (lo + 1) n)[i]? = _
    rw [rngF_get]
    by_cases h : i < n
    · rw [if_pos h, if_pos (by omega)]
      congr 2
      omega
    · rw [if_neg h, if_neg (by omega)]
theorem rngF_len : ∀ {n : Nat} {lo : Int}, (rngF lo n).length = n
  | 0, _ => rfl
  | n + 1, lo => by rw [rngF, List.length_cons, rngF_len]
theorem enumF_len : ∀ {xs : List D} {k : Nat}, (enumF k xs).length = xs.length
  | [], _ => rfl
  | x :: xs, k => by rw [enumF, List.length_cons, List.length_cons, enumF_len]
theorem zipF_len : ∀ {xs ys : List D}, (zipF xs ys).length ≤ xs.length
  | [], ys => by cases ys <;> simp [zipF]
  | x :: xs, [] => by simp [zipF]
  | x :: xs, y :: ys => by rw [zipF, List.length_cons, List.length_cons]; have := zipF_len (xs := xs) (ys := ys); omega
theorem at_items {s : Src} {xs : List D} (e : s.items = some xs) (h : HS) (i : Nat) : s.at h i = some xs[i]? := by
  unfold Src.items at e
  split at e <;> cases e
  · rfl
  · rw [enumF_get]
    show (match Src1.at h i (.fix _) with | some (some d) => some (some (D.tup [.int i, d])) | r => r) = _
    unfold Src1.at
    rename_i xs
    cases q : xs[i]? with
    | none => simp [q]
    | some d => simp [q]
  · rw [zipF_get]
    rename_i xs ys
    show (match Src1.at h i (.fix xs), Src1.at h i (.fix ys) with | some (some d), some (some e) => some (some (D.tup [d, e])) | some _, some _ => some none | _, _ => none) = _
    unfold Src1.at
    cases q : xs[i]? <;> cases q2 : ys[i]? <;> simp [q, q2]
  · rw [rngF_get]
    rename_i lo n
    show (if i < n then some (some (D.int (lo + i))) else some none) = _
    split <;> rfl
theorem len_items {s : Src} {xs : List D} (e : s.items = some xs) (h : HS) : xs.length ≤ s.len h := by
  unfold Src.items at e
  split at e <;> cases e
  · exact Nat.le_refl _
  · rw [enumF_len]; exact Nat.le_refl _
  · exact zipF_len
  · rw [rngF_len]; exact Nat.le_refl _
def compF (body : D → List D → M (List D)) : List D → List D → M (List D)
  | [], acc => M.ret acc
  | x :: xs, acc => (body x acc).bnd fun acc' => compF body xs acc'
theorem compM_F {s : Src} {xs : List D} (e : s.items = some xs) {body : D → List D → M (List D)} : ∀ (n i : Nat) (acc : List D) (h : HS), xs.length - i < n → compM s body n i acc h = compF body (xs.drop i) acc h := by
  intro n
  induction n with
  | zero => intro i acc h hl; omega
  | succ n ih =>
    intro i acc h hl
    unfold compM
    rw [at_items e]
    by_cases hi : i < xs.length
    · rw [List.getElem?_eq_getElem hi, List.drop_eq_getElem_cons hi]
      show M.bnd (body xs[i] acc) _ h = M.bnd (body xs[i] acc) _ h
      unfold M.bnd
      split
      · exact ih (i + 1) _ _ (by omega)
      · rfl
      · rfl
    · rw [List.getElem?_eq_none (by omega), List.drop_eq_nil_of_le (by omega)]
      rfl
theorem ok_items {s : Src} {xs : List D} (e : s.items = some xs) (h : HS) : s.ok h = true := by
  unfold Src.items at e
  split at e <;> cases e <;> rfl
theorem noX_run {α : Type} {m : M α} {h h' : HS} {a : α} (e : m h = some (.ok a, h')) : M.noX m h = some (.ok a, h') := by unfold M.noX; rw [e]
theorem clause_run {k : Nat} {it : Loc → M (List D)} {l wp : Loc} {t : T} {ifs : Loc → M Bool} {inner : Loc → List D → M (List D)} {acc acc' : List D} {h h1 h2 : HS} {as xs : List D} {s : Src}
    (hi : it l h = some (.ok as, h1)) (hs : srcP k as = some s) (hx : s.items = some xs) (hc : compF (bodyF wp t ifs inner) xs acc h1 = some (.ok acc', h2)) : clauseM k it l wp t ifs inner acc h = some (.ok acc', h2) := by
  unfold clauseM
  refine bnd_run hi ?_
  rw [hs]
  refine bnd_run opt_some ?_
  refine noX_run ?_
  show (if s.ok h1 = true then _ else _) = _
  rw [if_pos (ok_items hx h1)]
  have := compM_F hx (body := bodyF wp t ifs inner) (s.len h1 + 1) 0 acc h1 (by have := len_items hx h1; omega)
  rw [List.drop_zero, hc] at this
  exact this
def loopF (body : D → Loc → M Fl) : List D → Loc → M Fl
  | [], l => M.ret (.nx l)
  | x :: xs, l => (body x l).bnd fun f => match f with
    | .nx l' | .ct l' => loopF body xs l'
    | .bk l' => M.ret (.nx l')
    | .rt d => M.ret (.rt d)
theorem loopM_F {s : Src} {xs : List D} (e : s.items = some xs) {body : D → Loc → M Fl} : ∀ (n i : Nat) (l : Loc) (h : HS), xs.length - i < n → loopM s body n i l h = loopF body (xs.drop i) l h := by
  intro n
  induction n with
  | zero => intro i l h hl; omega
  | succ n ih =>
    intro i l h hl
    unfold loopM
    rw [at_items e]
    by_cases hi : i < xs.length
    · rw [List.getElem?_eq_getElem hi, List.drop_eq_getElem_cons hi]
      show M.bnd (body xs[i] l) _ h = M.bnd (body xs[i] l) _ h
      unfold M.bnd
      split
      · rename_i f h1 _
        cases f with
        | nx l' => exact ih (i + 1) _ _ (by omega)
        | ct l' => exact ih (i + 1) _ _ (by omega)
        | bk l' => rfl
        | rt d => rfl
      · rfl
      · rfl
    · rw [List.getElem?_eq_none (by omega), List.drop_eq_nil_of_le (by omega)]
      rfl
theorem for_run {g : Gx} {t : T} {k : Nat} {it : E} {b : S} {l : Loc} {h h1 : HS} {as xs : List D} {s : Src} {r : Res Fl} (hi : (den g it).s l h = some (.ok as, h1)) (hs : srcP k as = some s) (hx : s.items = some xs)
    (hc : loopF (fun d l => match t.set d l with
      | some l1 => exe g b l1
      | none => M.fail) xs l h1 = r) : exe g (.for t k it b) l h = r := by
  show M.bnd ((den g it).s l) _ h = r
  refine bnd_run hi ?_
  rw [hs]
  refine bnd_run opt_some ?_
  show (if s.ok h1 = true then _ else _) = r
  rw [if_pos (ok_items hx h1)]
  have := loopM_F hx (body := fun d l => match t.set d l with
      | some l1 => exe g b l1
      | none => M.fail) (s.len h1 + 1) 0 l h1 (by have := len_items hx h1; omega)
  rw [List.drop_zero, hc] at this
  exact this
theorem lt_line {n : Nat} (h : n ≤ 1000) : n ≤ sizeLine := by rw [sizeLine_eq]; omega
theorem addTo_run {acc : List D} {d : D} {h : HS} (hl : acc.length < 1000) : addTo acc d h = some (.ok (acc ++ [d]), h) := by
  unfold addTo
  rw [if_pos (by rw [sizeLine_eq]; omega)]
  rfl
theorem fin_run {xs : List D} {h : HS} (hl : xs.length ≤ 1000) : PR.fin true (.l xs) h = some (.ok (.lst xs), h) := by
  show (if xs.length ≤ sizeLine then _ else _) = _
  rw [if_pos (lt_line hl)]
  rfl
/-- an item each, from a function that leaves the heap -/
theorem compF_map {body : D → List D → M (List D)} {f : D → D} {h : HS} : ∀ {xs : List D} {acc : List D}, (∀ x ∈ xs, ∀ acc : List D, acc.length < 1000 → body x acc h = some (.ok (acc ++ [f x]), h)) → acc.length + xs.length ≤ 1000 → compF body xs acc h = some (.ok (acc ++ xs.map f), h)
  | [], acc, _, _ => by show some _ = _; simp
  | x :: xs, acc, hb, hl => by
    rw [List.length_cons] at hl
    show M.bnd (body x acc) _ h = _
    refine bnd_run (hb x List.mem_cons_self acc (by omega)) ?_
    have := compF_map (xs := xs) (acc := acc ++ [f x]) (fun y hy => hb y (List.mem_cons_of_mem _ hy)) (by rw [List.length_append]; simp; omega)
    rw [this]
    simp
/-- [elt for x in xs], elt a function of x alone -/
theorem lc_map {g : Gx} {elt it : E} {t : T} {k : Nat} {own : List (Str × Nat)} {l : Loc} {h h1 : HS} {as xs : List D} {s : Src} {f : D → D}
    (hi : (den g it).s l h = some (.ok as, h1)) (hs : srcP k as = some s) (hx : s.items = some xs) (hl : xs.length ≤ 1000) (he : ∀ x ∈ xs, ∃ l1, t.set x (wipeL l (own.map (·.2))) = some l1 ∧ (den g elt).v l1 h1 = some (.ok (f x), h1)) :
    (den g (.lc true elt t own k it .nil)).v l h = some (.ok (.lst (xs.map f)), h1) := by
  refine bnd_run (clause_run hi hs hx (compF_map (f := f) (acc := []) (fun x hx acc ha => ?_) (by simpa using hl))) ?_
  · obtain ⟨l1, e1, e2⟩ := he x hx
    unfold bodyF
    rw [e1]
    show M.bnd (M.ret true) _ h1 = _
    refine bnd_run ret_run ?_
    rw [if_pos rfl]
    exact bnd_run e2 (addTo_run ha)
  · exact fin_run (by simpa using hl)

/-! ### nodes -/
section
variable {g : Gx} {l : Loc} {h h1 h2 h3 : HS} {a b c e r : E} {x y z d : D} {xs : List D} {k : Bool}
theorem var_run {i : Nat} (e : l[i]? = some (some d)) : (den g (.var i)).v l h = some (.ok d, h) := by
  show (match l[i]? with | some (some d) => M.ret d | _ => M.fail) h = _
  rw [e]; rfl
theorem row_nil : (den g .nil).s l h = some (.ok [], h) := rfl
theorem row_cons (ea : (den g a).v l h = some (.ok x, h1)) (er : (den g r).s l h1 = some (.ok xs, h2)) : (den g (.cons a r)).s l h = some (.ok (x :: xs), h2) := bnd_run ea (bnd_run er rfl)
theorem row_one (ea : (den g a).v l h = some (.ok x, h1)) : (den g (.cons a .nil)).s l h = some (.ok [x], h1) := row_cons ea row_nil
theorem row_star {ys : List D} (ea : (den g a).v l h = some (.ok x, h1)) (hx : rd h1 x = .tup ys ∨ rd h1 x = .lst ys) (er : (den g r).s l h1 = some (.ok xs, h2)) : (den g (.star a r)).s l h = some (.ok (ys ++ xs), h2) := by
  refine bnd_run ea (bnd_run rd_run ?_)
  rcases hx with hx | hx <;> rw [hx] <;> exact bnd_run er rfl
theorem ite_v (ec : (den g c).t l h = some (.ok k, h1)) : (den g (.ite c a b)).v l h = if k = true then (den g a).v l h1 else (den g b).v l h1 := by
  show M.bnd _ _ h = _
  refine bnd_run ec ?_
  cases k <;> rfl
theorem ite_yes (ec : (den g c).t l h = some (.ok true, h1)) : (den g (.ite c a b)).v l h = (den g a).v l h1 := by rw [ite_v ec, if_pos rfl]
theorem ite_no (ec : (den g c).t l h = some (.ok false, h1)) : (den g (.ite c a b)).v l h = (den g b).v l h1 := by rw [ite_v ec, if_neg (by decide)]
theorem bin_run {op : Operator} {fz : Bool} {p : PR} {q : Res D} (ea : (den g a).v l h = some (.ok x, h1)) (eb : (den g b).v l h1 = some (.ok y, h2)) (ep : binP op (rd h2 x) (rd h2 y) = some p) (ef : PR.fin fz p h2 = q) : (den g (.bin fz op a b)).v l h = q := by
  refine bnd_run ea (bnd_run eb (bnd_run rd_run (bnd_run rd_run ?_)))
  rw [ep]
  exact bnd_run opt_some ef
theorem cmp_v {op : CmpOp} (ea : (den g a).v l h = some (.ok x, h1)) (eb : (den g b).v l h1 = some (.ok y, h2)) (ep : cmpP op (rd h2 x) (rd h2 y) = some k) : (den g (.cmp op a b)).v l h = some (.ok (.bl k), h2) := by
  refine bnd_run ea (bnd_run eb (bnd_run rd_run (bnd_run rd_run ?_)))
  rw [ep]
  exact bnd_run opt_some rfl
theorem tst_run {f : Loc → M D} (e : f l h = some (.ok x, h1)) (et : truth (rd h1 x) = some k) : tstOf f l h = some (.ok k, h1) := by
  refine bnd_run e (bnd_run rd_run ?_)
  rw [et]; rfl
theorem cmp_t {op : CmpOp} (ea : (den g a).v l h = some (.ok x, h1)) (eb : (den g b).v l h1 = some (.ok y, h2)) (ep : cmpP op (rd h2 x) (rd h2 y) = some k) : (den g (.cmp op a b)).t l h = some (.ok k, h2) := tst_run (cmp_v ea eb ep) rfl
theorem and_t (ea : (den g a).t l h = some (.ok k, h1)) : (den g (.and a r)).t l h = if k = true then (den g r).t l h1 else some (.ok false, h1) := by
  show M.bnd _ _ h = _
  refine bnd_run ea ?_
  cases k <;> rfl
theorem or_t (ea : (den g a).t l h = some (.ok k, h1)) : (den g (.or a r)).t l h = if k = true then some (.ok true, h1) else (den g r).t l h1 := by
  show M.bnd _ _ h = _
  refine bnd_run ea ?_
  cases k <;> rfl
theorem not_t (ea : (den g a).t l h = some (.ok k, h1)) : (den g (.not a)).t l h = some (.ok (!k), h1) := bnd_run ea rfl
theorem call_run {f : Str} {q : Res D} (es : (den g e).s l h = some (.ok xs, h1)) (ec : g.call f xs h1 = q) : (den g (.call f e)).v l h = q := bnd_run es ec
theorem blt_run {fz : Bool} {f : String} {p : PR} {q : Res D} (es : (den g e).s l h = some (.ok xs, h1)) (ep : bltP f (xs.map (rd h1)) = some p) (ef : PR.fin fz p h1 = q) : (den g (.blt fz f e)).v l h = q := by
  refine bnd_run es ?_
  show M.bnd (M.opt (bltP f (xs.map (rd h1)))) _ h1 = _
  rw [ep]
  exact bnd_run opt_some ef
theorem tup_run (es : (den g e).s l h = some (.ok xs, h1)) (hl : xs.length ≤ 1000) : (den g (.tup e)).v l h = some (.ok (.tup xs), h1) := by
  refine bnd_run es ?_
  unfold tupP small
  rw [if_pos (lt_line hl)]
  rfl
theorem lst_run (es : (den g e).s l h = some (.ok xs, h1)) (hl : xs.length ≤ 1000) : (den g (.lst true e)).v l h = some (.ok (.lst xs), h1) := bnd_run es (fin_run hl)
theorem ix_run (ea : (den g a).v l h = some (.ok x, h1)) (eb : (den g b).v l h1 = some (.ok y, h2)) (ep : ixP (rd h2 x) y = some d) : (den g (.ix a b)).v l h = some (.ok d, h2) := by
  refine bnd_run ea (bnd_run eb (bnd_run rd_run ?_))
  rw [ep]; rfl
theorem sl_run {lo hi : E} {u v : Option Int} {fz : Bool} {p : PR} {q : Res D} (ea : (den g a).v l h = some (.ok x, h1)) (el : (den g lo).p l h1 = some (.ok u, h2)) (eh : (den g hi).p l h2 = some (.ok v, h3)) (ep : slP (rd h3 x) u v = some p) (ef : PR.fin fz p h3 = q) : (den g (.sl fz a lo hi)).v l h = q := by
  refine bnd_run ea (bnd_run el (bnd_run eh (bnd_run rd_run ?_)))
  rw [ep]
  exact bnd_run opt_some ef
theorem rev_run {fz : Bool} {p : PR} {q : Res D} (ea : (den g a).v l h = some (.ok x, h1)) (ep : revP (rd h1 x) = some p) (ef : PR.fin fz p h1 = q) : (den g (.rev fz a)).v l h = q := by
  refine bnd_run ea (bnd_run rd_run ?_)
  rw [ep]
  exact bnd_run opt_some ef
/-! ### statements -/
variable {s t : S} {l1 : Loc} {q : Res Fl}
theorem s_cons (e1 : exe g s l h = some (.ok (.nx l1), h1)) (e2 : exe g t l1 h1 = q) : exe g (.cons s t) l h = q := bnd_run e1 e2
theorem s_rt (e1 : exe g s l h = some (.ok (.rt d), h1)) : exe g (.cons s t) l h = some (.ok (.rt d), h1) := bnd_run e1 rfl
theorem s_ret (ea : (den g a).v l h = some (.ok d, h1)) : exe g (.ret a) l h = some (.ok (.rt d), h1) := bnd_run ea rfl
theorem s_asg {i : Nat} (ea : (den g a).v l h = some (.ok d, h1)) : exe g (.asg (.nm i) a) l h = some (.ok (.nx (l.set i (some d))), h1) := bnd_run ea (bnd_run rd_run rfl)
theorem s_asgT {ts : T} (ea : (den g a).v l h = some (.ok d, h1)) (et : T.set (.tp ts) (rd h1 d) l = some l1) : exe g (.asg (.tp ts) a) l h = some (.ok (.nx l1), h1) := by
  refine bnd_run ea (bnd_run rd_run ?_)
  show (match T.set (.tp ts) (rd h1 d) l with | some l' => M.ret (Fl.nx l') | none => M.fail) h1 = _
  rw [et]; rfl
theorem s_iff (ea : (den g a).t l h = some (.ok k, h1)) : exe g (.iff a s t) l h = if k = true then exe g s l h1 else exe g t l h1 := by
  show M.bnd _ _ h = _
  refine bnd_run ea ?_
  cases k <;> rfl
theorem s_nil : exe g .nil l h = some (.ok (.nx l), h) := rfl
end
end Onc
set_option Elab.async false
set_option linter.all false
set_option maxRecDepth 100000
set_option maxHeartbeats 400000
/-! What the shared defs answer. -/
namespace Onc
open PySem
/-- plain data of a depth, its rows not long -/
inductive Pd : Nat → D → Prop
  | non {n : Nat} : Pd n .non
  | bl {n : Nat} (b : Bool) : Pd n (.bl b)
  | int {n : Nat} (i : Int) : Pd n (.int i)
  | str {n : Nat} (x : Str) : Pd n (.str x)
  | tup {n : Nat} {xs : List D} : xs.length ≤ 1000 → (∀ x ∈ xs, Pd n x) → Pd (n + 1) (.tup xs)
theorem Pd.pl {n : Nat} {d : D} (p : Pd n d) : Pl d := by
  induction p with
  | non => exact .non
  | bl b => exact .bl b
  | int i => exact .int i
  | str x => exact .str x
  | tup _ _ ih => exact .tup ih
variable {rows : List Row} {gl : Glo} {wh : Nat}
def F_tupled : Fn := ⟨1, 2, false, (.cons (.ret (.ite (.isi (.var 0) ["list", "tuple"]) (.blt true "tuple" (.cons (.lc true (.call "tupled" (.cons (.var 1) .nil)) (.nm 1) [("part", 1)] 0 (.cons (.var 0) .nil) .nil) .nil)) (.var 0))) .nil)⟩
theorem ret_body {g : Gx} {e : E} {l : Loc} {h h1 : HS} {d : D} (he : (den g e).v l h = some (.ok d, h1)) : exe g (.cons (.ret e) .nil) l h = some (.ok (.rt d), h1) := by
  show M.bnd (M.bnd ((den g e).v l) _) _ h = _
  exact bnd_run (bnd_run he rfl) rfl
theorem tupled_run (hL : lookF rows "tupled" = some F_tupled) : ∀ (n : Nat) (d : D), Pd n d → ∀ (k : Nat) (h : HS), n < k → Still h → (gN rows gl wh k).call "tupled" [d] h = some (.ok d, h) := by
  intro n d p
  induction p with
  | @tup n xs hl hx ih =>
    intro k h hk s
    obtain ⟨k, rfl⟩ : ∃ j, k = j + 1 := ⟨k - 1, by omega⟩
    rw [gN_call hL]
    refine callF_pl rfl rfl s (ret_body ?_) (.tup fun x m => (hx x m).pl)
    rw [ite_yes (h1 := h) rfl]
    have hlc := lc_map (g := gN rows gl wh k) (elt := .call "tupled" (.cons (.var 1) .nil)) (it := .cons (.var 0) .nil) (t := .nm 1) (k := 0) (own := [("part", 1)]) (l := [some (.tup xs), none]) (h := h) (h1 := h) (as := [.tup xs]) (xs := xs) (f := id) rfl rfl rfl hl
      (fun x m => ⟨_, rfl, call_run (row_one (var_run rfl)) (ih x m k h (by omega) s)⟩)
    rw [List.map_id] at hlc
    exact blt_run (row_one hlc) rfl rfl
  | _ =>
    intro k h hk s
    obtain ⟨k, rfl⟩ : ∃ j, k = j + 1 := ⟨k - 1, by omega⟩
    rw [gN_call hL]
    exact callF_pl rfl rfl s (ret_body rfl) (by constructor)
end Onc
set_option Elab.async false
set_option linter.all false
set_option maxRecDepth 100000
set_option maxHeartbeats 400000
/-! Texts: their data, what is compared. -/
namespace Onc
open PySem
/-- a word -/
abbrev Wd := { x : Str // PyData.strOk x = true }
abbrev Tx := List Wd
def dS (x : Wd) : D := .str x.1
def tx (s : Tx) : D := .tup (s.map dS)
def oS : Option Wd → D
  | none => .non
  | some x => dS x
def oT : Option Tx → D
  | none => .non
  | some x => tx x
def qS (x : Wd) : PyData := .str x.1
theorem toPs_str : ∀ s : Tx, D.toPs (s.map dS) = some (s.map qS)
  | [] => rfl
  | x :: s => by
    show (match D.toP (dS x), D.toPs (s.map dS) with | some a, some as => some (a :: as) | _, _ => none) = _
    rw [toPs_str s]; rfl
def ptx (s : Tx) : PyData := .tuple (s.map qS)
theorem toP_tx (s : Tx) : (tx s).toP = some (ptx s) := by
  show (D.toPs (s.map dS)).map PyData.tuple = _
  rw [toPs_str]; rfl
theorem lay_strs : ∀ s : Tx, PyData.canLayAll0 (s.map qS) = true
  | [] => by simp [PyData.canLayAll0]
  | x :: s => by rw [List.map_cons, PyData.canLayAll0, lay_strs s]; simp [qS, PyData.canLay0, x.2]
theorem depth_strs : ∀ s : Tx, PyData.depthAll (s.map qS) = 0
  | [] => by simp [PyData.depthAll]
  | x :: s => by rw [List.map_cons, PyData.depthAll, depth_strs s]; simp [qS, PyData.depth]
theorem lay_tx (s : Tx) : (ptx s).canLay0 = true := by unfold ptx; rw [PyData.canLay0, lay_strs]
theorem depth_tx (s : Tx) : (ptx s).depth = 1 := by unfold ptx; rw [PyData.depth, depth_strs]
theorem shaped_tx (s : Tx) : SeqAt.shaped (ptx s) = true := by unfold SeqAt.shaped; rw [lay_tx, depth_tx]; rfl
theorem sh_tx (s : Tx) : (tx s).sh = some (ptx s) := by unfold D.sh; rw [toP_tx]; show (if SeqAt.shaped (ptx s) = true then _ else _) = _; rw [if_pos (shaped_tx s)]
theorem sh_str (x : Wd) : (dS x).sh = some (qS x) := by unfold D.sh; show (if SeqAt.shaped (qS x) = true then _ else _) = _; rw [if_pos (by simp [qS, SeqAt.shaped, PyData.canLay0, PyData.depth, x.2])]; rfl
theorem sh_non : D.non.sh = some .none := by unfold D.sh; show (if SeqAt.shaped .none = true then _ else _) = _; rw [if_pos (by simp [SeqAt.shaped, PyData.canLay0, PyData.depth])]
theorem eqv_str (a b : Wd) : PyData.eqv (qS a) (qS b) = decide (a = b) := by
  unfold qS
  rw [PyData.eqv]
  by_cases h : a = b
  · simp [h]
  · have : ¬ a.1 = b.1 := fun e => h (Subtype.ext e)
    simp [h, this]
theorem eqv_strs : ∀ a b : Tx, PyData.eqvAll (a.map qS) (b.map qS) = decide (a = b)
  | [], [] => by simp [PyData.eqvAll]
  | [], y :: b => by simp [PyData.eqvAll]
  | x :: a, [] => by simp [PyData.eqvAll]
  | x :: a, y :: b => by
    rw [List.map_cons, List.map_cons, PyData.eqvAll, eqv_strs a b, eqv_str]
    by_cases h : x = y <;> by_cases h2 : a = b <;> simp [h, h2]
theorem eqv_tx (a b : Tx) : PyData.eqv (ptx a) (ptx b) = decide (a = b) := by unfold ptx; rw [PyData.eqv, eqv_strs]
theorem eqP_tx (a b : Tx) : eqP (tx a) (tx b) = some (decide (a = b)) := by unfold eqP; rw [sh_tx, sh_tx]; show some (PyData.eqv _ _) = _; rw [eqv_tx]
theorem eqP_str (a b : Wd) : eqP (dS a) (dS b) = some (decide (a = b)) := by
  unfold eqP; rw [sh_str, sh_str]
  show some (PyData.eqv (qS a) (qS b)) = _
  rw [eqv_str]
def pS : Option Wd → PyData
  | none => .none
  | some x => qS x
def pT : Option Tx → PyData
  | none => .none
  | some x => ptx x
theorem toP_oS (a : Option Wd) : (oS a).toP = some (pS a) := by cases a <;> rfl
theorem toP_oT (a : Option Tx) : (oT a).toP = some (pT a) := by
  cases a with
  | none => rfl
  | some a => exact toP_tx a
theorem eqv_S (a b : Option Wd) : PyData.eqv (pS a) (pS b) = decide (a = b) := by
  cases a <;> cases b
  · rfl
  · simp [pS, qS, PyData.eqv]
  · simp [pS, qS, PyData.eqv]
  · rename_i a b
    show PyData.eqv (qS a) (qS b) = _
    rw [eqv_str]
    simp
theorem eqv_T (a b : Option Tx) : PyData.eqv (pT a) (pT b) = decide (a = b) := by
  cases a <;> cases b <;> simp [pT, PyData.eqv]
  · simp [ptx, PyData.eqv]
  · simp [ptx, PyData.eqv]
  · rename_i a b
    rw [eqv_tx]
theorem lay_S (a : Option Wd) : (pS a).canLay0 = true ∧ (pS a).depth = 0 := by cases a with
  | none => simp [pS, PyData.canLay0, PyData.depth]
  | some a => simp [pS, qS, PyData.canLay0, PyData.depth, a.2]
theorem lay_T (a : Option Tx) : (pT a).canLay0 = true ∧ (pT a).depth ≤ 1 := by
  cases a with
  | none => simp [pT, PyData.canLay0, PyData.depth]
  | some a => exact ⟨lay_tx a, by show (ptx a).depth ≤ 1; rw [depth_tx]; exact Nat.le_refl _⟩
/-- a KEY -/
structure Key5 where
  a : Option Wd
  b : Option Wd
  c : Option Tx
  d : Option Tx
  e : Option Tx
  deriving DecidableEq
def Key5.D (k : Key5) : D := .tup [oS k.a, oS k.b, oT k.c, oT k.d, oT k.e]
def Key5.p (k : Key5) : PyData := .tuple [pS k.a, pS k.b, pT k.c, pT k.d, pT k.e]
theorem sh_key (k : Key5) : k.D.sh = some k.p := by
  have e : k.D.toP = some k.p := by
    unfold Key5.D Key5.p
    simp only [D.toP, D.toPs, toP_oS, toP_oT]
    rfl
  unfold D.sh
  rw [e]
  show (if SeqAt.shaped k.p = true then _ else _) = _
  rw [if_pos]
  unfold SeqAt.shaped Key5.p
  simp only [PyData.canLay0, PyData.canLayAll0, PyData.depth, PyData.depthAll, (lay_S _).1, (lay_T _).1, (lay_S _).2, Bool.and_true, Bool.true_and]
  rw [decide_eq_true_eq]
  have h1 := (lay_T k.c).2
  have h2 := (lay_T k.d).2
  have h3 := (lay_T k.e).2
  omega
theorem eqP_key (k m : Key5) : eqP k.D m.D = some (decide (k = m)) := by
  unfold eqP
  rw [sh_key, sh_key]
  show some (PyData.eqv k.p m.p) = _
  unfold Key5.p
  rw [PyData.eqv]
  simp only [PyData.eqvAll, eqv_S, eqv_T, Bool.and_true]
  congr 1
  obtain ⟨a, b, c, d, e⟩ := k
  obtain ⟨a', b', c', d', e'⟩ := m
  rw [Bool.eq_iff_iff]
  simp
/-! ### the same beginning -/
def manyL : Tx → Tx → Nat
  | x :: xs, y :: ys => if x = y then manyL xs ys + 1 else 0
  | _, _ => 0
theorem manyL_le : ∀ xs ys : Tx, manyL xs ys ≤ xs.length ∧ manyL xs ys ≤ ys.length
  | [], _ => ⟨Nat.zero_le _, Nat.zero_le _⟩
  | _ :: _, [] => ⟨Nat.zero_le _, Nat.zero_le _⟩
  | x :: xs, y :: ys => by
    unfold manyL
    have := manyL_le xs ys
    split
    · simp; omega
    · exact ⟨Nat.zero_le _, Nat.zero_le _⟩
theorem manyL_take : ∀ xs ys : Tx, xs.take (manyL xs ys) = ys.take (manyL xs ys)
  | [], _ => by simp [manyL]
  | _ :: _, [] => by simp [manyL]
  | x :: xs, y :: ys => by
    unfold manyL
    split
    · rename_i h; rw [List.take_succ_cons, List.take_succ_cons, manyL_take xs ys, h]
    · simp
theorem manyL_comm : ∀ xs ys : Tx, manyL xs ys = manyL ys xs
  | [], ys => by cases ys <;> rfl
  | x :: xs, [] => rfl
  | x :: xs, y :: ys => by
    unfold manyL
    by_cases h : x = y
    · rw [if_pos h, if_pos h.symm, manyL_comm xs ys]
    · rw [if_neg h, if_neg (fun e => h e.symm)]
/-- at the end the two part -/
theorem manyL_next : ∀ xs ys : Tx, ∀ a b, xs[manyL xs ys]? = some a → ys[manyL xs ys]? = some b → a ≠ b
  | [], _, a, b, h, _ => by simp at h
  | _ :: _, [], a, b, _, h => by simp at h
  | x :: xs, y :: ys, a, b, h1, h2 => by
    unfold manyL at h1 h2
    by_cases h : x = y
    · rw [if_pos h] at h1 h2
      exact manyL_next xs ys a b (by simpa using h1) (by simpa using h2)
    · rw [if_neg h] at h1 h2
      have e1 : x = a := by simpa using h1
      have e2 : y = b := by simpa using h2
      rw [← e1, ← e2]; exact h
theorem manyL_in : ∀ (xs ys : Tx) (i : Nat), i < manyL xs ys → ∃ a, xs[i]? = some a ∧ ys[i]? = some a
  | [], _, i, h => by simp [manyL] at h
  | _ :: _, [], i, h => by simp [manyL] at h
  | x :: xs, y :: ys, i, h => by
    unfold manyL at h
    by_cases e : x = y
    · rw [if_pos e] at h
      cases i with
      | zero => exact ⟨x, rfl, by rw [e]; rfl⟩
      | succ i => simpa using manyL_in xs ys i (by omega)
    · rw [if_neg e] at h; omega
end Onc
set_option Elab.async false
set_option linter.all false
set_option maxRecDepth 100000
set_option maxHeartbeats 1000000
/-! What the defs over texts answer. -/
namespace Onc
open PySem
theorem sh_int (i : Int) : (D.int i).sh = some (.int i) := by unfold D.sh; show (if SeqAt.shaped (.int i) = true then _ else _) = _; rw [if_pos (by simp [SeqAt.shaped, PyData.canLay0, PyData.depth])]
theorem eqP_int (i j : Int) : eqP (.int i) (.int j) = some (decide (i = j)) := by
  unfold eqP; rw [sh_int, sh_int]
  show some (PyData.eqv (.int i) (.int j)) = _
  rw [PyData.eqv]
  by_cases h : i = j <;> simp [h]
theorem ord_int (f : PyData → PyData → Bool) (i j : Int) : ordP f (.int i) (.int j) = some (f (.int i) (.int j)) := by
  unfold ordP; rw [sh_int, sh_int]
  rfl
theorem lt_int (i j : Int) : cmpP .Lt (.int i) (.int j) = some (decide (i < j)) := (ord_int (fun x y => W.dataLt x y) i j).trans (by rw [W.dataLt_int])
theorem gt_int (i j : Int) : cmpP .Gt (.int i) (.int j) = some (decide (j < i)) := (ord_int (fun x y => W.dataLt y x) i j).trans (by rw [W.dataLt_int])
theorem le_int (i j : Int) : cmpP .LtE (.int i) (.int j) = some (decide (i ≤ j)) := (ord_int (fun x y => !W.dataLt y x) i j).trans (by
  rw [W.dataLt_int]
  congr 1
  rw [Bool.eq_iff_iff]
  simp)
theorem ge_int (i j : Int) : cmpP .GtE (.int i) (.int j) = some (decide (j ≤ i)) := (ord_int (fun x y => !W.dataLt x y) i j).trans (by
  rw [W.dataLt_int]
  congr 1
  rw [Bool.eq_iff_iff]
  simp)
theorem atI_nat {α : Type} (xs : List α) (i : Nat) : L2.atI xs (i : Int) = xs[i]? := by
  unfold L2.atI L2.ixN
  rw [if_pos (by omega)]
  by_cases h : i < xs.length
  · rw [if_pos (by omega)]; rfl
  · rw [if_neg (by omega), List.getElem?_eq_none (by omega)]; rfl
theorem cut_map {α β : Type} (f : α → β) (xs : List α) (lo hi : Option Int) : cut (xs.map f) lo hi = (cut xs lo hi).map f := by
  unfold cut
  rw [List.length_map, List.map_take, List.map_drop]
theorem cut_to {α : Type} (xs : List α) (n : Nat) : cut xs none (some (n : Int)) = xs.take n := by
  unfold cut
  rw [HT.sIx_none, HT.sIx_nat, List.drop_zero, Nat.sub_zero]
  by_cases h : n ≤ xs.length
  · rw [Nat.min_eq_left h]
  · rw [Nat.min_eq_right (by omega), List.take_of_length_le (Nat.le_refl _), List.take_of_length_le (by omega)]
theorem cut_from {α : Type} (xs : List α) (n : Nat) : cut xs (some (n : Int)) none = xs.drop n := by
  unfold cut
  rw [HT.sIx_none, HT.sIx_nat]
  by_cases h : n ≤ xs.length
  · rw [Nat.min_eq_left h, List.take_of_length_le (by rw [List.length_drop]; omega)]
  · rw [Nat.min_eq_right (by omega), List.drop_eq_nil_of_le (Nat.le_refl _), List.drop_eq_nil_of_le (show xs.length ≤ n by omega)]
    simp
theorem cut_mid {α : Type} (xs : List α) (n m : Nat) : cut xs (some (n : Int)) (some (m : Int)) = (xs.take m).drop n := by
  unfold cut
  rw [HT.sIx_nat, HT.sIx_nat, List.drop_take]
  apply List.ext_getElem?
  intro i
  rw [List.getElem?_take, List.getElem?_take, List.getElem?_drop, List.getElem?_drop]
  by_cases h : n ≤ xs.length
  · rw [Nat.min_eq_left h]
    by_cases h1 : i < min m xs.length - n
    · rw [if_pos h1, if_pos (by omega)]
    · rw [if_neg h1]
      split
      · rw [List.getElem?_eq_none (by omega)]
      · rfl
  · rw [if_neg (by omega)]
    split
    · rw [List.getElem?_eq_none (by omega)]
    · rfl
theorem sl_tx (xs : Tx) (lo hi : Option Int) : slP (tx xs) lo hi = some (.v (tx (cut xs lo hi))) := by
  show some (PR.v (.tup (cut (xs.map dS) lo hi))) = _
  rw [cut_map]; rfl
theorem rev_tx (xs : Tx) : revP (tx xs) = some (.v (tx xs.reverse)) := by
  show some (PR.v (.tup (xs.map dS).reverse)) = _
  rw [← List.map_reverse]; rfl
theorem len_tx (xs : Tx) : bltP "len" [tx xs] = some (.v (.int xs.length)) := by
  show some (PR.v (.int (xs.map dS).length)) = _
  rw [List.length_map]
theorem rd_tx (h : HS) (xs : Tx) : rd h (tx xs) = tx xs := rfl
theorem rd_int (h : HS) (i : Int) : rd h (.int i) = .int i := rfl
theorem pl_tx (xs : Tx) : Pl (tx xs) := .tup fun x hx => by
  obtain ⟨y, _, rfl⟩ := List.mem_map.mp hx
  exact .str _
theorem pd_tx {n : Nat} (xs : Tx) (h : xs.length ≤ 1000) : Pd (n + 1) (tx xs) := .tup (by rw [List.length_map]; exact h) fun x hx => by
  obtain ⟨y, _, rfl⟩ := List.mem_map.mp hx
  exact .str _
variable {rows : List Row} {gl : Glo} {wh : Nat}
section
variable {g : Gx} {l : Loc} {h h1 : HS} {a b : E}
theorem len_run {xs : Tx} (ea : (den g a).v l h = some (.ok (tx xs), h1)) : (den g (.blt true "len" (.cons a .nil))).v l h = some (.ok (.int xs.length), h1) := blt_run (row_one ea) (by show bltP "len" [tx xs] = _; exact len_tx xs) rfl
theorem slTo_run {xs : Tx} {n : Nat} (ea : (den g a).v l h = some (.ok (tx xs), h1)) (eb : (den g b).v l h1 = some (.ok (.int n), h1)) (hb : (den g b).p = prtOf (den g b).v) : (den g (.sl true a .nil b)).v l h = some (.ok (tx (xs.take n)), h1) := by
  refine sl_run (h2 := h1) (h3 := h1) (u := none) (v := some (n : Int)) ea rfl ?_ (by rw [rd_tx, sl_tx, cut_to]) rfl
  rw [hb]; exact bnd_run eb rfl
theorem slFrom_run {xs : Tx} {n : Nat} (ea : (den g a).v l h = some (.ok (tx xs), h1)) (eb : (den g b).v l h1 = some (.ok (.int n), h1)) (hb : (den g b).p = prtOf (den g b).v) : (den g (.sl true a b .nil)).v l h = some (.ok (tx (xs.drop n)), h1) := by
  refine sl_run (h2 := h1) (h3 := h1) (u := some (n : Int)) (v := none) ea ?_ rfl (by rw [rd_tx, sl_tx, cut_from]) rfl
  rw [hb]; exact bnd_run eb rfl
theorem slMid_run {xs : Tx} {n m : Nat} {c : E} (ea : (den g a).v l h = some (.ok (tx xs), h1)) (eb : (den g b).v l h1 = some (.ok (.int n), h1)) (hb : (den g b).p = prtOf (den g b).v) (ec : (den g c).v l h1 = some (.ok (.int m), h1)) (hc : (den g c).p = prtOf (den g c).v) : (den g (.sl true a b c)).v l h = some (.ok (tx ((xs.take m).drop n)), h1) := by
  refine sl_run (h2 := h1) (h3 := h1) (u := some (n : Int)) (v := some (m : Int)) ea ?_ ?_ (by rw [rd_tx, sl_tx, cut_mid]) rfl
  · rw [hb]; exact bnd_run eb rfl
  · rw [hc]; exact bnd_run ec rfl
theorem revT_run {xs : Tx} (ea : (den g a).v l h = some (.ok (tx xs), h1)) : (den g (.rev true a)).v l h = some (.ok (tx xs.reverse), h1) := rev_run ea (by rw [rd_tx, rev_tx]) rfl
theorem eqT_run {xs ys : Tx} (ea : (den g a).v l h = some (.ok (tx xs), h1)) (eb : (den g b).v l h1 = some (.ok (tx ys), h1)) : (den g (.cmp .Eq a b)).t l h = some (.ok (decide (xs = ys)), h1) := cmp_t ea eb (by rw [rd_tx, rd_tx]; exact eqP_tx xs ys)
end

/-! ### many_alike -/
def F_many : Fn := ⟨2, 3, false, (.cons (.asg (.nm 2) (.int 0)) (.cons (.while (.and (.cmp .Lt (.var 2) (.blt true "min" (.cons (.blt true "len" (.cons (.var 0) .nil)) (.cons (.blt true "len" (.cons (.var 1) .nil)) .nil)))) (.and1 (.cmp .Eq (.ix (.var 0) (.var 2)) (.ix (.var 1) (.var 2))))) (.cons (.aug 2 .Add (.int 1)) .nil)) (.cons (.ret (.var 2)) .nil)))⟩
theorem many_cond {g : Gx} {h : HS} {xs ys : Tx} {i : Nat} (hi : i ≤ manyL xs ys) :
    (den g (.and (.cmp .Lt (.var 2) (.blt true "min" (.cons (.blt true "len" (.cons (.var 0) .nil)) (.cons (.blt true "len" (.cons (.var 1) .nil)) .nil)))) (.and1 (.cmp .Eq (.ix (.var 0) (.var 2)) (.ix (.var 1) (.var 2)))))).t [some (tx xs), some (tx ys), some (.int i)] h = some (.ok (decide (i < manyL xs ys)), h) := by
  have e1 : (den g (.cmp .Lt (.var 2) (.blt true "min" (.cons (.blt true "len" (.cons (.var 0) .nil)) (.cons (.blt true "len" (.cons (.var 1) .nil)) .nil))))).t [some (tx xs), some (tx ys), some (.int i)] h = some (.ok (decide (i < xs.length ∧ i < ys.length)), h) := by
    refine cmp_t (var_run rfl) (blt_run (row_cons (len_run (var_run rfl)) (row_one (len_run (var_run rfl)))) rfl rfl) ?_
    rw [rd_int, rd_int, lt_int]
    congr 1
    rw [Bool.eq_iff_iff, decide_eq_true_eq, decide_eq_true_eq]
    split <;> omega
  rw [and_t e1]
  obtain ⟨l1, l2⟩ := manyL_le xs ys
  by_cases hlt : i < xs.length ∧ i < ys.length
  · rw [decide_eq_true hlt, if_pos rfl]
    have ex : xs[i]? = some xs[i] := List.getElem?_eq_getElem hlt.1
    have ey : ys[i]? = some ys[i] := List.getElem?_eq_getElem hlt.2
    have e2 : (den g (.cmp .Eq (.ix (.var 0) (.var 2)) (.ix (.var 1) (.var 2)))).t [some (tx xs), some (tx ys), some (.int i)] h = some (.ok (decide (xs[i] = ys[i])), h) := by
      refine cmp_t (x := dS xs[i]) (y := dS ys[i]) (ix_run (var_run rfl) (var_run rfl) ?_) (ix_run (var_run rfl) (var_run rfl) ?_) (eqP_str _ _)
      · show L2.atI (xs.map dS) (i : Int) = _
        rw [atI_nat, List.getElem?_map, ex]; rfl
      · show L2.atI (ys.map dS) (i : Int) = _
        rw [atI_nat, List.getElem?_map, ey]; rfl
    refine Eq.trans e2 ?_
    congr 3
    rw [Bool.eq_iff_iff, decide_eq_true_eq, decide_eq_true_eq]
    constructor
    · intro e
      rcases Nat.lt_or_ge i (manyL xs ys) with q | q
      · exact q
      · have : i = manyL xs ys := by omega
        exact absurd e (manyL_next xs ys _ _ (by rw [← this]; exact ex) (by rw [← this]; exact ey))
    · intro q
      obtain ⟨a, e1, e2⟩ := manyL_in xs ys i q
      rw [ex] at e1; rw [ey] at e2
      exact (Option.some.inj e1).trans (Option.some.inj e2).symm
  · rw [decide_eq_false hlt, if_neg (by decide), decide_eq_false (by omega)]
theorem many_while {g : Gx} {h : HS} {xs ys : Tx} : ∀ (n i : Nat), i ≤ manyL xs ys → manyL xs ys - i < n →
    whileM (den g (.and (.cmp .Lt (.var 2) (.blt true "min" (.cons (.blt true "len" (.cons (.var 0) .nil)) (.cons (.blt true "len" (.cons (.var 1) .nil)) .nil)))) (.and1 (.cmp .Eq (.ix (.var 0) (.var 2)) (.ix (.var 1) (.var 2)))))).t (exe g (.cons (.aug 2 .Add (.int 1)) .nil)) n [some (tx xs), some (tx ys), some (.int i)] h = some (.ok (.nx [some (tx xs), some (tx ys), some (.int (manyL xs ys : Nat))]), h)
  | 0, i, _, h2 => by omega
  | n + 1, i, h1, h2 => by
    unfold whileM
    refine bnd_run (many_cond h1) ?_
    by_cases q : i < manyL xs ys
    · rw [decide_eq_true q, if_pos rfl]
      refine bnd_run (show exe g (.cons (.aug 2 .Add (.int 1)) .nil) [some (tx xs), some (tx ys), some (.int i)] h = some (.ok (.nx [some (tx xs), some (tx ys), some (.int ((i + 1 : Nat) : Int))]), h) from rfl) ?_
      exact many_while n (i + 1) (by omega) (by omega)
    · rw [decide_eq_false q, if_neg (by decide)]
      have : i = manyL xs ys := by omega
      rw [this]; rfl
theorem many_run (hL : lookF rows "many_alike" = some F_many) {xs ys : Tx} {k : Nat} {h : HS} (hk : 0 < k) (hw : xs.length < wh) (s : Still h) : (gN rows gl wh k).call "many_alike" [tx xs, tx ys] h = some (.ok (.int (manyL xs ys : Nat)), h) := by
  obtain ⟨k, rfl⟩ : ∃ j, k = j + 1 := ⟨k - 1, by omega⟩
  rw [gN_call hL]
  refine callF_pl rfl rfl s ?_ (.int _)
  refine s_cons (s_asg rfl) ?_
  have hwh : (gN rows gl wh k).wh = wh := by cases k <;> rfl
  refine s_cons (l1 := [some (tx xs), some (tx ys), some (.int (manyL xs ys : Nat))]) (h1 := h) (show whileM _ _ (gN rows gl wh k).wh _ h = _ from ?_) (ret_body (var_run rfl))
  rw [hwh]
  exact many_while wh 0 (Nat.zero_le _) (by have := (manyL_le xs ys).1; omega)
end Onc
set_option Elab.async false
set_option linter.all false
set_option maxRecDepth 100000
set_option maxHeartbeats 2000000
/-! Drawing. -/
namespace Onc
open PySem
def F_law_take : Fn := ⟨2, 6, false, (.cons (.iff (.cmp .Gt (.ix (.var 0) (.int 0)) (.int 0)) (.cons (.asg (.nm 5) (.bin true .Mod (.blt true "int" (.cons (.ix (.var 0) (.int 0)) .nil)) (.var 1))) (.cons (.setix (.var 0) (.int 0) (.bin true .FloorDiv (.ix (.var 0) (.int 0)) (.var 1))) (.cons (.ret (.var 5)) .nil))) .nil) (.cons (.setix (.var 0) (.int 2) (.bin true .Add (.ix (.var 0) (.int 2)) (.int 1))) (.cons (.asg (.nm 2) (.bin true .Mod (.blt true "int" (.cons (.bin true .Mult (.bin true .Add (.ix (.var 0) (.int 1)) (.bin true .Mult (.int 48271) (.ix (.var 0) (.int 2)))) (.bin true .Add (.int 39373) (.ix (.var 0) (.int 2)))) .nil)) (.int 2147483647))) (.cons (.asg (.nm 3) (.bin true .Add (.bin true .Mod (.blt true "int" (.cons (.var 2) .nil)) (.int 40009)) (.int 7))) (.cons (.asg (.nm 4) (.bin true .Mod (.blt true "int" (.cons (.bin true .Mult (.bin true .Add (.bin true .Add (.var 2) (.ix (.var 0) (.int 2))) (.bin true .FloorDiv (.ix (.var 0) (.int 1)) (.int 1000003))) (.var 3)) .nil)) (.int 2147483629))) (.cons (.ret (.bin true .Mod (.blt true "int" (.cons (.bin true .FloorDiv (.bin true .Mod (.blt true "int" (.cons (.bin true .Add (.bin true .Mult (.var 4) (.int 48271)) (.var 2)) .nil)) (.int 2147483587)) (.int 64)) .nil)) (.var 1))) .nil))))))⟩
def F_law_of : Fn := ⟨2, 2, false, (.cons (.ret (.ix (.var 1) (.call "_law_take" (.cons (.var 0) (.cons (.blt true "len" (.cons (.var 1) .nil)) .nil))))) .nil)⟩
def HP (h : HS) : Prop := ∀ o ∈ h, ∃ xs, o = O.lst xs ∧ ∀ x ∈ xs, Pl x
theorem HP.still {h : HS} (p : HP h) : Still h := still_of p
theorem HP.put {h : HS} (p : HP h) {n : Nat} {xs : List D} (hx : ∀ x ∈ xs, Pl x) : HP (put h n (.lst xs)) := by
  induction h with
  | nil => exact p
  | cons o h ih =>
    unfold Onc.put
    split
    · intro u hu
      rcases List.mem_cons.mp hu with rfl | hu
      · exact ⟨xs, rfl, hx⟩
      · exact p u (List.mem_cons_of_mem _ hu)
    · intro u hu
      rcases List.mem_cons.mp hu with rfl | hu
      · exact p _ List.mem_cons_self
      · exact ih (fun o ho => p o (List.mem_cons_of_mem _ ho)) u hu
theorem HP.cons {h : HS} (p : HP h) {xs : List D} (hx : ∀ x ∈ xs, Pl x) : HP (.lst xs :: h) := fun u hu => by
  rcases List.mem_cons.mp hu with rfl | hu
  · exact ⟨xs, rfl, hx⟩
  · exact p u hu
/-- a box at n, b draws from its end at least -/
def Bx (h : HS) (n b : Nat) : Prop := ∃ x y z : Int, nth h n = some (.lst [.int x, .int y, .int z]) ∧ 0 ≤ z ∧ z + b ≤ 2 ^ 60
/-- nothing but n is changed -/
def But (n : Nat) (h h' : HS) : Prop := h'.length = h.length ∧ ∀ m, m ≠ n → nth h' m = nth h m
theorem But.refl {n : Nat} {h : HS} : But n h h := ⟨rfl, fun _ _ => rfl⟩
theorem But.trans {n : Nat} {h h1 h2 : HS} (a : But n h h1) (b : But n h1 h2) : But n h h2 := ⟨b.1.trans a.1, fun m hm => (b.2 m hm).trans (a.2 m hm)⟩
theorem But.put {n : Nat} {h : HS} {o : O} : But n h (put h n o) := ⟨put_length h n o, fun m hm => nth_put_ne hm⟩
theorem endF_in {d : D} {h h' : HS} (hl : h'.length = h.length) (p : HP h') (pd : Pl d) : endF false h.length d h' = some (.ok d, h') := by
  unfold endF trunc
  rw [hl, Nat.sub_self, List.drop_zero, truncL_of p]
  show endV _ _ _ _ = _
  unfold endV
  rw [pd.fz]
theorem ints_pl (x y z : Int) : ∀ d ∈ [D.int x, D.int y, D.int z], Pl d := fun d hd => by
  simp only [List.mem_cons, List.not_mem_nil, or_false] at hd
  rcases hd with rfl | rfl | rfl <;> exact .int _
section
variable {g : Gx} {l : Loc} {h h1 : HS} {a b : E} {i j : Int}
theorem rd_ref {n : Nat} {xs : List D} (e : nth h n = some (.lst xs)) : rd h (.ref n) = .lst xs := by
  show (match nth h n with | some (.lst xs) => D.lst xs | _ => .ref n) = _
  rw [e]
theorem ixR_run {n j : Nat} {v : Nat} {xs : List D} {d : D} (ev : l[v]? = some (some (.ref n))) (e : nth h n = some (.lst xs)) (ed : xs[j]? = some d) : (den g (.ix (.var v) (.int j))).v l h = some (.ok d, h) :=
  ix_run (var_run ev) (show (den g (.int j)).v l h = some (.ok (.int j), h) from rfl) (by rw [rd_ref e]; show L2.atI xs (j : Int) = _; rw [atI_nat]; exact ed)
theorem int_run {d : Int} (ea : (den g a).v l h = some (.ok (.int d), h)) : (den g (.blt true "int" (.cons a .nil))).v l h = some (.ok (.int d), h) := blt_run (row_one ea) rfl rfl
theorem add_run (ea : (den g a).v l h = some (.ok (.int i), h)) (eb : (den g b).v l h = some (.ok (.int j), h)) : (den g (.bin true .Add a b)).v l h = some (.ok (.int (i + j)), h) := bin_run ea eb rfl rfl
theorem mul_run (ea : (den g a).v l h = some (.ok (.int i), h)) (eb : (den g b).v l h = some (.ok (.int j), h)) (hb : (-(2 ^ 64) < i ∧ i < 2 ^ 64) ∨ (-(2 ^ 64) < j ∧ j < 2 ^ 64)) : (den g (.bin true .Mult a b)).v l h = some (.ok (.int (i * j)), h) := by
  refine bin_run ea eb (p := .v (.int (i * j))) ?_ rfl
  show (if _ then _ else _) = _
  rw [if_pos hb]
theorem mod_run (ea : (den g a).v l h = some (.ok (.int i), h)) (eb : (den g b).v l h = some (.ok (.int j), h)) (hb : 0 < j) : (den g (.bin true .Mod a b)).v l h = some (.ok (.int (i % j)), h) := by
  refine bin_run ea eb (p := .v (.int (i % j))) ?_ rfl
  show (if _ then _ else _) = _
  rw [if_pos hb]
theorem div_run (ea : (den g a).v l h = some (.ok (.int i), h)) (eb : (den g b).v l h = some (.ok (.int j), h)) (hb : 0 < j ∧ j < 1073741824) : (den g (.bin true .FloorDiv a b)).v l h = some (.ok (.int (i / j)), h) := by
  refine bin_run ea eb (p := .v (.int (i / j))) ?_ rfl
  show (if _ then _ else _) = _
  rw [if_pos hb]
theorem lit_run {i : Int} : (den g (.int i)).v l h = some (.ok (.int i), h) := rfl
theorem setix_run {n j : Nat} {v : Nat} {xs : List D} {e : E} {d : D} (ee : (den g e).v l h = some (.ok d, h)) (ev : l[v]? = some (some (.ref n))) (en : nth h n = some (.lst xs)) (hj : j < xs.length) : exe g (.setix (.var v) (.int j) e) l h = some (.ok (.nx l), put h n (.lst (xs.set j d))) := by
  refine bnd_run ee (bnd_run (var_run ev) (bnd_run (show (den g (.int j)).v l h = some (.ok (.int j), h) from rfl) ?_))
  have eg : M.getL (.ref n) h = some (.ok (n, xs), h) := by
    show (match nth h n with | some (.lst xs) => some (Except.ok (n, xs), h) | _ => none) = _
    rw [en]
  refine bnd_run eg ?_
  show (match L2.ixN xs.length (j : Int) with | some j => (M.upd n (.lst (xs.set j d))).bnd fun _ => M.ret (Fl.nx l) | none => M.fail) h = _
  have ei : L2.ixN xs.length (j : Int) = some j := by
    unfold L2.ixN
    rw [if_pos (by omega), if_pos (by omega)]
    congr 1
  rw [ei]
  rfl
end
variable {rows : List Row} {gl : Glo} {wh k : Nat} {h : HS}
theorem take_run (hL : lookF rows "_law_take" = some F_law_take) {n b : Nat} {m : Int} (hk : 0 < k) (hm : 0 < m ∧ m < 1073741824) (B : Bx h n (b + 1)) (p : HP h) :
    ∃ r h', (gN rows gl wh k).call "_law_take" [.ref n, .int m] h = some (.ok (.int r), h') ∧ 0 ≤ r ∧ r < m ∧ Bx h' n b ∧ HP h' ∧ But n h h' := by
  obtain ⟨k, rfl⟩ : ∃ j, k = j + 1 := ⟨k - 1, by omega⟩
  obtain ⟨x, y, z, hn, hz, hb⟩ := B
  have hlt : n < h.length := nth_lt hn
  rw [gN_call hL]
  by_cases hx : 0 < x
  · refine ⟨x % m, put h n (.lst [.int (x / m), .int y, .int z]), ?_, Int.emod_nonneg _ (by omega), Int.emod_lt_of_pos _ hm.1, ⟨x / m, y, z, nth_put_same hlt, hz, by omega⟩, p.put (ints_pl _ _ _), But.put⟩
    rw [callF_rt rfl (d := .int (x % m)) (h' := put h n (.lst [.int (x / m), .int y, .int z]))]
    · exact endF_in (put_length _ _ _) (p.put (ints_pl _ _ _)) (.int _)
    · refine s_rt ?_
      have et : (den (gN rows gl wh k) (.cmp .Gt (.ix (.var 0) (.int 0)) (.int 0))).t [some (.ref n), some (.int m), none, none, none, none] h = some (.ok true, h) := by
        refine cmp_t (h1 := h) (h2 := h) (x := .int x) (y := .int 0) (ixR_run (j := 0) rfl hn rfl) rfl ?_
        rw [rd_int, rd_int, gt_int, decide_eq_true hx]
      refine (s_iff et).trans ?_
      rw [if_pos rfl]
      refine s_cons (s_asg (mod_run (int_run (ixR_run (j := 0) rfl hn rfl)) (var_run rfl) hm.1)) ?_
      refine s_cons (setix_run (j := 0) (div_run (ixR_run (j := 0) rfl hn rfl) (var_run rfl) hm) rfl hn (by show 0 < 3; omega)) ?_
      exact ret_body (var_run rfl)
  · have hn1 : nth (put h n (.lst [.int x, .int y, .int (z + 1)])) n = some (.lst [.int x, .int y, .int (z + 1)]) := nth_put_same hlt
    generalize hh : put h n (.lst [.int x, .int y, .int (z + 1)]) = h1 at hn1
    have hp1 : HP h1 := by rw [← hh]; exact p.put (ints_pl _ _ _)
    have hl1 : h1.length = h.length := by rw [← hh]; exact put_length _ _ _
    have hb1 : But n h h1 := by rw [← hh]; exact But.put
    have one_b : ∀ a : Int, 0 ≤ a % 2147483647 ∧ a % 2147483647 < 2147483647 := fun a => ⟨Int.emod_nonneg _ (by omega), Int.emod_lt_of_pos _ (by omega)⟩
    have et : (den (gN rows gl wh k) (.cmp .Gt (.ix (.var 0) (.int 0)) (.int 0))).t [some (.ref n), some (.int m), none, none, none, none] h = some (.ok false, h) := by
      refine cmp_t (h1 := h) (h2 := h) (x := .int x) (y := .int 0) (ixR_run (j := 0) rfl hn rfl) rfl ?_
      rw [rd_int, rd_int, gt_int, decide_eq_false hx]
    have r0 : ∀ {l : Loc}, l[0]? = some (some (.ref n)) → (den (gN rows gl wh k) (.ix (.var 0) (.int 1))).v l h1 = some (.ok (.int y), h1) := fun e => ixR_run (j := 1) e hn1 rfl
    have r2 : ∀ {l : Loc}, l[0]? = some (some (.ref n)) → (den (gN rows gl wh k) (.ix (.var 0) (.int 2))).v l h1 = some (.ok (.int (z + 1)), h1) := fun e => ixR_run (j := 2) e hn1 rfl
    generalize ho : ((y + 48271 * (z + 1)) * (39373 + (z + 1))) % 2147483647 = once
    have hob := one_b ((y + 48271 * (z + 1)) * (39373 + (z + 1)))
    rw [ho] at hob
    generalize hf : once % 40009 + 7 = far
    have hfb : 0 ≤ far ∧ far < 50000 := by
      have h1 := Int.emod_nonneg once (show (40009 : Int) ≠ 0 by omega)
      have h2 := Int.emod_lt_of_pos once (show (0 : Int) < 40009 by omega)
      omega
    generalize ht : ((once + (z + 1) + y / 1000003) * far) % 2147483629 = twice
    refine ⟨((twice * 48271 + once) % 2147483587 / 64) % m, h1, ?_, Int.emod_nonneg _ (by omega), Int.emod_lt_of_pos _ hm.1, ⟨x, y, z + 1, hn1, by omega, by omega⟩, hp1, hb1⟩
    rw [callF_rt rfl (d := .int (((twice * 48271 + once) % 2147483587 / 64) % m)) (h' := h1)]
    · exact endF_in hl1 hp1 (.int _)
    · refine s_cons (l1 := [some (.ref n), some (.int m), none, none, none, none]) (h1 := h) ((s_iff et).trans rfl) ?_
      refine s_cons (l1 := [some (.ref n), some (.int m), none, none, none, none]) (h1 := h1) ?_ ?_
      · rw [← hh]
        exact setix_run (j := 2) (add_run (ixR_run (j := 2) rfl hn rfl) rfl) rfl hn (by show 2 < 3; omega)
      refine s_cons (s_asg (d := .int once) (h1 := h1) ?_) ?_
      · rw [← ho]
        exact mod_run (int_run (mul_run (add_run (r0 rfl) (mul_run lit_run (r2 rfl) (.inl (by decide)))) (add_run lit_run (r2 rfl)) (.inr (by omega)))) lit_run (by decide)
      refine s_cons (s_asg (d := .int far) (h1 := h1) ?_) ?_
      · rw [← hf]
        exact add_run (mod_run (int_run (var_run rfl)) lit_run (by decide)) lit_run
      refine s_cons (s_asg (d := .int twice) (h1 := h1) ?_) ?_
      · rw [← ht]
        exact mod_run (int_run (mul_run (add_run (add_run (var_run rfl) (r2 rfl)) (div_run (r0 rfl) lit_run (by decide))) (var_run rfl) (.inr (by omega)))) lit_run (by decide)
      refine ret_body (mod_run (int_run (div_run (mod_run (int_run (add_run (mul_run (var_run rfl) lit_run (.inr (by decide))) (var_run rfl))) lit_run (by decide)) lit_run (by decide))) (var_run rfl) hm.1)
theorem endF_inF {d : D} {h h' : HS} (hl : h'.length = h.length) (p : HP h') (pd : ∀ rc len, D.fz rc len d = some d) : endF false h.length d h' = some (.ok d, h') := by
  unfold endF trunc
  rw [hl, Nat.sub_self, List.drop_zero, truncL_of p]
  show endV _ _ _ _ = _
  unfold endV
  rw [pd]
/-- one of a list -/
theorem of_runF (hL : lookF rows "_law_take" = some F_law_take) (hO : lookF rows "_law_of" = some F_law_of) {n b : Nat} {xs : List D} (hx : 0 < xs.length ∧ xs.length < 1000) (hk : 1 < k) (hpl : ∀ x ∈ xs, ∀ rc len, D.fz rc len x = some x) (B : Bx h n (b + 1)) (p : HP h) :
    ∃ d h', (gN rows gl wh k).call "_law_of" [.ref n, .lst xs] h = some (.ok d, h') ∧ d ∈ xs ∧ Bx h' n b ∧ HP h' ∧ But n h h' := by
  obtain ⟨k, rfl⟩ : ∃ j, k = j + 1 := ⟨k - 1, by omega⟩
  obtain ⟨r, h', e, r0, r1, B', p', bt⟩ := take_run (gl := gl) (wh := wh) (k := k) hL (m := xs.length) (by omega) ⟨by omega, by omega⟩ B p
  have hr : r.toNat < xs.length := by omega
  refine ⟨xs[r.toNat], h', ?_, List.getElem_mem hr, B', p', bt⟩
  rw [gN_call hO, callF_rt rfl (d := xs[r.toNat]) (h' := h')]
  · exact endF_inF bt.1 p' (hpl _ (List.getElem_mem hr))
  · refine ret_body (ix_run (var_run rfl) (call_run (row_cons (var_run rfl) (row_one (blt_run (row_one (var_run rfl)) (p := .v (.int xs.length)) rfl rfl))) e) ?_)
    show L2.atI xs r = _
    have e2 : L2.atI xs ((r.toNat : Nat) : Int) = some xs[r.toNat] := by rw [atI_nat, List.getElem?_eq_getElem hr]
    rw [Int.toNat_of_nonneg r0] at e2
    exact e2
theorem of_run (hL : lookF rows "_law_take" = some F_law_take) (hO : lookF rows "_law_of" = some F_law_of) {n b : Nat} {xs : List D} (hx : 0 < xs.length ∧ xs.length < 1000) (hk : 1 < k) (hpl : ∀ x ∈ xs, Pl x) (B : Bx h n (b + 1)) (p : HP h) :
    ∃ d h', (gN rows gl wh k).call "_law_of" [.ref n, .lst xs] h = some (.ok d, h') ∧ d ∈ xs ∧ Bx h' n b ∧ HP h' ∧ But n h h' := of_runF hL hO hx hk (fun x hx _ _ => (hpl x hx).fz) B p
end Onc
set_option Elab.async false
set_option linter.all false
set_option maxRecDepth 100000
set_option maxHeartbeats 2000000
/-! The numbers of a script; the box of one of them. -/
namespace Onc
open PySem
def F_law_box (q : Int) : Fn := ⟨2, 3, true, (.cons (.asg (.nm 2) (.ite (.cmp .Lt (.var 1) (.blt true "len" (.cons (.var 0) .nil))) (.ix (.var 0) (.var 1)) (.int 0))) (.cons (.ret (.lst false (.cons (.bin true .Mult (.blt true "abs" (.cons (.var 2) .nil)) (.blt true "int" (.cons (.cmp .GtE (.blt true "abs" (.cons (.var 2) .nil)) (.bin true .Pow (.int 10) (.int 18))) .nil))) (.cons (.bin true .Add (.bin true .Add (.bin true .Mod (.blt true "int" (.cons (.var 2) .nil)) (.int 2305843009213693951)) (.bin true .Mult (.int 39373) (.var 1))) (.int q)) (.cons (.int 0) .nil))))) .nil))⟩
def F_law_cells : Fn := ⟨2, 6, false, (.cons (.asg (.nm 2) (.or (.blt false "list" (.cons (.sl true (.var 0) .nil (.var 1)) .nil)) (.or1 (.lst false (.cons (.int 0) .nil))))) (.cons (.for (.tp (.cons (.nm 3) (.cons (.nm 4) .nil))) 3 (.cons (.sl true (.var 0) (.var 1) (.int 63)) .nil) (.cons (.asg (.nm 5) (.bin true .Mod (.blt true "int" (.cons (.var 3) .nil)) (.var 1))) (.cons (.setix (.var 2) (.var 5) (.bin true .Add (.ix (.var 2) (.var 5)) (.bin true .Mult (.var 4) (.bin true .Add (.var 3) (.int 2))))) .nil))) (.cons (.ret (.var 2)) .nil)))⟩
variable {rows : List Row} {gl : Glo} {wh k : Nat} {h : HS}
theorem pl_ints (ns : List Int) : ∀ d ∈ ns.map D.int, Pl d := fun d hd => by
  obtain ⟨i, _, rfl⟩ := List.mem_map.mp hd
  exact .int i
theorem finM_run {xs : List D} (hl : xs.length ≤ 1000) : PR.fin false (.l xs) h = some (.ok (.ref h.length), .lst xs :: h) := by
  show (if xs.length ≤ sizeLine then (if false = true then some (Except.ok (D.lst xs), h) else some (.ok (.ref h.length), .lst xs :: h)) else none) = _
  rw [if_pos (lt_line hl), if_neg (by decide)]
theorem endF_new {xs : List D} (s : Still h) (px : ∀ x ∈ xs, Pl x) : endF true h.length (.ref h.length) (.lst xs :: h) = some (.ok (.ref h.length), .lst xs :: h) := by
  unfold endF
  rw [show trunc h.length (O.lst xs :: h) = some h from trunc_app (new := [O.lst xs]) s]
  show endR h.length (.ref h.length) (O.lst xs :: h) h = _
  show endM h.length h.length (O.lst xs :: h) h = _
  unfold endM
  rw [if_neg (Nat.lt_irrefl _), nth_len]
  show (match D.fzs rc0 h.length xs with | some ys => some (Except.ok (D.ref h.length), O.lst ys :: h) | none => none) = _
  rw [fzs_of fun x hx => (px x hx).fz]
theorem box_run {q : Int} (hL : lookF rows "_law_box" = some (F_law_box q)) {cs : List Int} {i : Nat} (hk : 0 < k) (hi : i < 1000) (p : HP h) :
    ∃ x y : Int, (gN rows gl wh k).call "_law_box" [.lst (cs.map .int), .int i] h = some (.ok (.ref h.length), .lst [.int x, .int y, .int 0] :: h) := by
  obtain ⟨k, rfl⟩ : ∃ j, k = j + 1 := ⟨k - 1, by omega⟩
  have ec : ∃ c : Int, (den (gN rows gl wh k) (.ite (.cmp .Lt (.var 1) (.blt true "len" (.cons (.var 0) .nil))) (.ix (.var 0) (.var 1)) (.int 0))).v [some (.lst (cs.map .int)), some (.int i), none] h = some (.ok (.int c), h) := by
    have el : (den (gN rows gl wh k) (.cmp .Lt (.var 1) (.blt true "len" (.cons (.var 0) .nil)))).t [some (.lst (cs.map .int)), some (.int i), none] h = some (.ok (decide ((i : Int) < cs.length)), h) := by
      refine cmp_t (x := .int i) (y := .int cs.length) (var_run rfl) (blt_run (row_one (var_run rfl)) (p := .v (.int cs.length)) ?_ rfl) ?_
      · show some (PR.v (.int (cs.map D.int).length)) = _
        rw [List.length_map]
      · rw [rd_int, rd_int, lt_int]
    rw [ite_v el]
    by_cases hc : (i : Int) < cs.length
    · rw [decide_eq_true hc, if_pos rfl]
      refine ⟨cs[i]'(by omega), ix_run (var_run rfl) (var_run rfl) ?_⟩
      show L2.atI (cs.map D.int) (i : Int) = _
      rw [atI_nat, List.getElem?_map, List.getElem?_eq_getElem (by omega)]
      rfl
    · rw [decide_eq_false hc, if_neg (by decide)]
      exact ⟨0, rfl⟩
  obtain ⟨c, ec⟩ := ec
  have ea : ∀ {l : Loc}, l[2]? = some (some (.int c)) → (den (gN rows gl wh k) (.blt true "abs" (.cons (.var 2) .nil))).v l h = some (.ok (.int (if c < 0 then -c else c)), h) := fun e => blt_run (row_one (var_run e)) rfl rfl
  have eg : ∀ {l : Loc}, l[2]? = some (some (.int c)) → ∃ b : Int, (b = 0 ∨ b = 1) ∧ (den (gN rows gl wh k) (.blt true "int" (.cons (.cmp .GtE (.blt true "abs" (.cons (.var 2) .nil)) (.bin true .Pow (.int 10) (.int 18))) .nil))).v l h = some (.ok (.int b), h) := fun {l} e => by
    have e1 : (den (gN rows gl wh k) (.cmp .GtE (.blt true "abs" (.cons (.var 2) .nil)) (.bin true .Pow (.int 10) (.int 18)))).v l h = some (.ok (.bl (decide ((10 : Int) ^ 18 ≤ (if c < 0 then -c else c)))), h) := by
      refine cmp_v (h1 := h) (h2 := h) (x := .int (if c < 0 then -c else c)) (y := .int (10 ^ 18)) (ea e) (bin_run (h1 := h) (h2 := h) (x := .int 10) (y := .int 18) (p := .v (.int (10 ^ 18))) rfl rfl ?_ rfl) ?_
      · show (if (0 : Int) ≤ 18 ∧ (18 : Int) ≤ 1000000 ∧ (10 : Int).natAbs < 2 ^ 64 then some (PR.v (.int (10 ^ (18 : Int).toNat))) else none) = _
        rw [if_pos (by decide)]; rfl
      · rw [rd_int, rd_int, ge_int]
    cases hd : decide ((10 : Int) ^ 18 ≤ (if c < 0 then -c else c)) with
    | true => rw [hd] at e1; exact ⟨1, .inr rfl, blt_run (row_one e1) rfl rfl⟩
    | false => rw [hd] at e1; exact ⟨0, .inl rfl, blt_run (row_one e1) rfl rfl⟩
  obtain ⟨b, hb, eb⟩ := eg (l := [some (.lst (cs.map .int)), some (.int i), some (.int c)]) rfl
  refine ⟨(if c < 0 then -c else c) * b, c % 2305843009213693951 + 39373 * i + q, ?_⟩
  rw [gN_call hL, callF_rt rfl (d := .ref h.length) (h' := .lst [.int ((if c < 0 then -c else c) * b), .int (c % 2305843009213693951 + 39373 * i + q), .int 0] :: h)]
  · exact endF_new p.still (ints_pl _ _ _)
  · refine s_cons (s_asg (h1 := h) ec) ?_
    refine ret_body ?_
    refine bnd_run (row_cons (mul_run (ea rfl) eb (.inr (by rcases hb with rfl | rfl <;> decide))) (row_cons (add_run (add_run (mod_run (int_run (var_run rfl)) lit_run (by decide)) (mul_run lit_run (var_run rfl) (.inl (by decide)))) lit_run) (row_one lit_run))) ?_
    exact finM_run (by show 3 ≤ 1000; omega)
end Onc
set_option Elab.async false
set_option linter.all false
set_option maxRecDepth 100000
set_option maxHeartbeats 1000000
/-! ends_of, inner, cores, counted, keys. -/
namespace Onc
open PySem
def endsL (a b : Tx) : Tx × Tx :=
  let n := manyL a b
  let m := manyL (a.drop n).reverse (b.drop n).reverse
  (a.take n, a.drop (a.length - m))
def innerL (t hd tl : Tx) : Option Tx := if hd.length + tl.length ≤ t.length ∧ t.take hd.length = hd ∧ t.drop (t.length - tl.length) = tl then some ((t.take (t.length - tl.length)).drop hd.length) else none
def coresL (a b : Tx) : Option Tx × Option Tx := (innerL a (endsL a b).1 (endsL a b).2, innerL b (endsL a b).1 (endsL a b).2)
theorem many2_le (a b : Tx) : manyL (a.drop (manyL a b)).reverse (b.drop (manyL a b)).reverse + manyL a b ≤ a.length := by
  have := (manyL_le (a.drop (manyL a b)).reverse (b.drop (manyL a b)).reverse).1
  rw [List.length_reverse, List.length_drop] at this
  have := (manyL_le a b).1
  omega
variable {rows : List Row} {gl : Glo} {wh : Nat}
section
variable {k : Nat} {h : HS}
def F_ends_of : Fn := ⟨2, 4, false, (.cons (.asg (.nm 2) (.call "many_alike" (.cons (.var 0) (.cons (.var 1) .nil)))) (.cons (.asg (.nm 3) (.call "many_alike" (.cons (.rev true (.sl true (.var 0) (.var 2) .nil)) (.cons (.rev true (.sl true (.var 1) (.var 2) .nil)) .nil)))) (.cons (.ret (.tup (.cons (.sl true (.var 0) .nil (.var 2)) (.cons (.sl true (.var 0) (.bin true .Sub (.blt true "len" (.cons (.var 0) .nil)) (.var 3)) .nil) .nil)))) .nil)))⟩
def tx2 (p : Tx × Tx) : D := .tup [tx p.1, tx p.2]
theorem pl_tx2 (p : Tx × Tx) : Pl (tx2 p) := .tup fun x hx => by
  rcases List.mem_cons.mp hx with rfl | hx
  · exact pl_tx _
  · rcases List.mem_cons.mp hx with rfl | hx
    · exact pl_tx _
    · cases hx
theorem ends_of_run (hM : lookF rows "many_alike" = some F_many) (hL : lookF rows "ends_of" = some F_ends_of) {a b : Tx} (hk : 1 < k) (hw : a.length < wh) (s : Still h) : (gN rows gl wh k).call "ends_of" [tx a, tx b] h = some (.ok (tx2 (endsL a b)), h) := by
  obtain ⟨k, rfl⟩ : ∃ j, k = j + 1 := ⟨k - 1, by omega⟩
  rw [gN_call hL]
  refine callF_pl rfl rfl s ?_ (pl_tx2 _)
  have l1 := (manyL_le a b).1
  have l2 := many2_le a b
  refine s_cons (s_asg (call_run (row_cons (var_run rfl) (row_one (var_run rfl))) (many_run hM (by omega) hw s))) ?_
  refine s_cons (s_asg (d := .int (manyL (a.drop (manyL a b)).reverse (b.drop (manyL a b)).reverse : Nat)) (call_run (xs := [tx (a.drop (manyL a b)).reverse, tx (b.drop (manyL a b)).reverse]) (row_cons (revT_run (slFrom_run (var_run rfl) (var_run rfl) rfl)) (row_one (revT_run (slFrom_run (var_run rfl) (var_run rfl) rfl)))) (many_run hM (by omega) (by rw [List.length_reverse, List.length_drop]; omega) s))) ?_
  refine ret_body (tup_run (xs := [tx (endsL a b).1, tx (endsL a b).2]) (row_cons (slTo_run (n := manyL a b) (var_run rfl) (var_run rfl) rfl) (row_one (slFrom_run (n := a.length - manyL (a.drop (manyL a b)).reverse (b.drop (manyL a b)).reverse) (var_run rfl) (bin_run (len_run (var_run rfl)) (var_run rfl) rfl ?_) rfl))) (by show 2 ≤ 1000; omega))
  show some (Except.ok (D.int ((a.length : Int) - (manyL (a.drop (manyL a b)).reverse (b.drop (manyL a b)).reverse : Nat))), h) = _
  congr 4
  omega
def F_inner : Fn := ⟨3, 4, false, (.cons (.asg (.nm 3) (.bin true .Sub (.blt true "len" (.cons (.var 0) .nil)) (.blt true "len" (.cons (.var 2) .nil)))) (.cons (.ret (.ite (.and (.cmp .GtE (.var 3) (.blt true "len" (.cons (.var 1) .nil))) (.and (.cmp .Eq (.sl true (.var 0) .nil (.blt true "len" (.cons (.var 1) .nil))) (.var 1)) (.and1 (.cmp .Eq (.sl true (.var 0) (.var 3) .nil) (.var 2))))) (.sl true (.var 0) (.blt true "len" (.cons (.var 1) .nil)) (.var 3)) .non)) .nil))⟩
theorem pl_oT (a : Option Tx) : Pl (oT a) := by
  cases a with
  | none => exact .non
  | some a => exact pl_tx a
theorem inner_run (hL : lookF rows "inner" = some F_inner) {t hd tl : Tx} (hk : 0 < k) (s : Still h) : (gN rows gl wh k).call "inner" [tx t, tx hd, tx tl] h = some (.ok (oT (innerL t hd tl)), h) := by
  obtain ⟨k, rfl⟩ : ∃ j, k = j + 1 := ⟨k - 1, by omega⟩
  rw [gN_call hL]
  refine callF_pl rfl rfl s ?_ (pl_oT _)
  refine s_cons (s_asg (d := .int ((t.length : Int) - tl.length)) (bin_run (len_run (var_run rfl)) (len_run (var_run rfl)) rfl rfl)) ?_
  refine ret_body ?_
  have e1 : (den (gN rows gl wh k) (.cmp .GtE (.var 3) (.blt true "len" (.cons (.var 1) .nil)))).t [some (tx t), some (tx hd), some (tx tl), some (.int ((t.length : Int) - tl.length))] h = some (.ok (decide (hd.length + tl.length ≤ t.length)), h) := by
    refine cmp_t (var_run rfl) (len_run (var_run rfl)) ?_
    rw [rd_int, rd_int, ge_int]
    congr 1
    rw [Bool.eq_iff_iff, decide_eq_true_eq, decide_eq_true_eq]
    omega
  unfold innerL
  by_cases q1 : hd.length + tl.length ≤ t.length
  · have ev : ((t.length : Int) - tl.length) = ((t.length - tl.length : Nat) : Int) := by omega
    have e2 : (den (gN rows gl wh k) (.cmp .Eq (.sl true (.var 0) .nil (.blt true "len" (.cons (.var 1) .nil))) (.var 1))).t [some (tx t), some (tx hd), some (tx tl), some (.int ((t.length : Int) - tl.length))] h = some (.ok (decide (t.take hd.length = hd)), h) :=
      eqT_run (slTo_run (var_run rfl) (len_run (var_run rfl)) rfl) (var_run rfl)
    have e3 : (den (gN rows gl wh k) (.cmp .Eq (.sl true (.var 0) (.var 3) .nil) (.var 2))).t [some (tx t), some (tx hd), some (tx tl), some (.int ((t.length : Int) - tl.length))] h = some (.ok (decide (t.drop (t.length - tl.length) = tl)), h) :=
      eqT_run (slFrom_run (var_run rfl) (by rw [ev]; exact var_run rfl) rfl) (var_run rfl)
    have et : (den (gN rows gl wh k) (.and (.cmp .GtE (.var 3) (.blt true "len" (.cons (.var 1) .nil))) (.and (.cmp .Eq (.sl true (.var 0) .nil (.blt true "len" (.cons (.var 1) .nil))) (.var 1)) (.and1 (.cmp .Eq (.sl true (.var 0) (.var 3) .nil) (.var 2)))))).t [some (tx t), some (tx hd), some (tx tl), some (.int ((t.length : Int) - tl.length))] h = some (.ok (decide (t.take hd.length = hd ∧ t.drop (t.length - tl.length) = tl)), h) := by
      rw [and_t e1, decide_eq_true q1, if_pos rfl, and_t e2]
      by_cases q2 : t.take hd.length = hd
      · rw [decide_eq_true q2, if_pos rfl]
        refine Eq.trans e3 ?_
        simp [q2]
      · rw [decide_eq_false q2, if_neg (by decide)]
        simp [q2]
    refine Eq.trans (ite_v et) ?_
    by_cases q : t.take hd.length = hd ∧ t.drop (t.length - tl.length) = tl
    · rw [decide_eq_true q, if_pos rfl, if_pos ⟨q1, q⟩]
      exact slMid_run (var_run rfl) (len_run (var_run rfl)) rfl (by rw [ev]; exact var_run rfl) rfl
    · rw [decide_eq_false q, if_neg (by decide), if_neg (fun z => q z.2)]
      rfl
  · have et : (den (gN rows gl wh k) (.and (.cmp .GtE (.var 3) (.blt true "len" (.cons (.var 1) .nil))) (.and (.cmp .Eq (.sl true (.var 0) .nil (.blt true "len" (.cons (.var 1) .nil))) (.var 1)) (.and1 (.cmp .Eq (.sl true (.var 0) (.var 3) .nil) (.var 2)))))).t [some (tx t), some (tx hd), some (tx tl), some (.int ((t.length : Int) - tl.length))] h = some (.ok false, h) := by
      rw [and_t e1, decide_eq_false q1, if_neg (by decide)]
    refine Eq.trans (ite_no et) ?_
    rw [if_neg (fun z => q1 z.1)]
    rfl
def F_cores : Fn := ⟨2, 4, false, (.cons (.asg (.tp (.cons (.nm 2) (.cons (.nm 3) .nil))) (.call "ends_of" (.cons (.var 0) (.cons (.var 1) .nil)))) (.cons (.ret (.tup (.cons (.call "inner" (.cons (.var 0) (.cons (.var 2) (.cons (.var 3) .nil)))) (.cons (.call "inner" (.cons (.var 1) (.cons (.var 2) (.cons (.var 3) .nil)))) .nil)))) .nil))⟩
def oT2 (p : Option Tx × Option Tx) : D := .tup [oT p.1, oT p.2]
theorem pl_oT2 (p : Option Tx × Option Tx) : Pl (oT2 p) := .tup fun x hx => by
  rcases List.mem_cons.mp hx with rfl | hx
  · exact pl_oT _
  · rcases List.mem_cons.mp hx with rfl | hx
    · exact pl_oT _
    · cases hx
theorem cores_run (hM : lookF rows "many_alike" = some F_many) (hE : lookF rows "ends_of" = some F_ends_of) (hI : lookF rows "inner" = some F_inner) (hL : lookF rows "cores" = some F_cores) {a b : Tx} (hk : 2 < k) (hw : a.length < wh) (s : Still h) : (gN rows gl wh k).call "cores" [tx a, tx b] h = some (.ok (oT2 (coresL a b)), h) := by
  obtain ⟨k, rfl⟩ : ∃ j, k = j + 1 := ⟨k - 1, by omega⟩
  rw [gN_call hL]
  refine callF_pl rfl rfl s ?_ (pl_oT2 _)
  refine s_cons (s_asgT (call_run (row_cons (var_run rfl) (row_one (var_run rfl))) (ends_of_run hM hE (by omega) hw s)) rfl) ?_
  exact ret_body (tup_run (xs := [oT (coresL a b).1, oT (coresL a b).2]) (row_cons (call_run (row_cons (var_run rfl) (row_cons (var_run rfl) (row_one (var_run rfl)))) (inner_run hI (by omega) s)) (row_one (call_run (row_cons (var_run rfl) (row_cons (var_run rfl) (row_one (var_run rfl)))) (inner_run hI (by omega) s)))) (by show 2 ≤ 1000; omega))
end
end Onc
set_option Elab.async false
set_option linter.all false
set_option maxRecDepth 100000
set_option maxHeartbeats 1000000
/-! The order of texts; counted, keys. -/
namespace Onc
open PySem
def ltT (a b : Tx) : Bool := W.dataLt (ptx a) (ptx b)
theorem ltT_irrefl (a : Tx) : ltT a a = false := PyProof.Rows.lex_irrefl _
theorem ltT_asym {a b : Tx} (h : ltT a b = true) : ltT b a = false := by
  cases q : ltT b a with
  | false => rfl
  | true =>
    have := PyProof.Rows.lex_trans (O := PyProof.Rows.itemOrd) _ _ _ h q
    rw [show PyProof.Rows.lexLt PyProof.Rows.itemOrd (W.keyToks (ptx a)) (W.keyToks (ptx a)) = false from PyProof.Rows.lex_irrefl _] at this
    cases this
theorem toks_inj : ∀ {a b : Tx}, W.keyToksAll (a.map qS) = W.keyToksAll (b.map qS) → a = b
  | [], [], _ => rfl
  | [], y :: b, h => by
    simp [W.keyToksAll] at h
  | x :: a, [], h => by
    simp [W.keyToksAll] at h
  | x :: a, y :: b, h => by
    simp only [List.map_cons, W.keyToksAll, qS, W.keyToks, List.cons_append, List.nil_append, List.cons.injEq, true_and, Sum.inr.injEq] at h
    have e1 : x = y := Subtype.ext (W.str_of_cps h.1)
    rw [e1, toks_inj h.2]
theorem ltT_tri {a b : Tx} (h1 : ltT a b = false) (h2 : ltT b a = false) : a = b := by
  have := PyProof.Rows.lex_total (O := PyProof.Rows.itemOrd) _ _ h1 h2
  unfold ptx at this
  rw [W.keyToks, W.keyToks] at this
  exact toks_inj this
/-- the two, the less one first -/
def sortT (p : Tx × Tx) : Tx × Tx := if ltT p.2 p.1 = true then (p.2, p.1) else p
theorem merge2 {α : Type} (le : α → α → Bool) (a b : α) : [a, b].mergeSort le = if le a b = true then [a, b] else [b, a] := by
  rw [List.mergeSort]
  simp [List.MergeSort.Internal.splitInTwo, List.merge, List.mergeSort]
theorem alike_strs : ∀ a b : Tx, W.alikeAll (a.map qS) (b.map qS) = true
  | [], _ => by simp [W.alikeAll]
  | _ :: _, [] => by simp [W.alikeAll]
  | x :: a, y :: b => by
    rw [List.map_cons, List.map_cons, W.alikeAll, alike_strs a b]
    simp [qS, W.alike]
theorem alike_tx (a b : Tx) : W.alike (ptx a) (ptx b) = true := by unfold ptx; rw [W.alike, alike_strs]
theorem enc_tx (a : Tx) : encD (tx a) = ptx a := by unfold encD; rw [toP_tx]; rfl
theorem sorted2 (a b : Tx) : sortP [tx a, tx b] = some (.l [tx (sortT (a, b)).1, tx (sortT (a, b)).2]) := by
  have hok : sortOk [tx a, tx b] = true := by
    unfold sortOk
    simp only [List.all_cons, List.all_nil, sh_tx, enc_tx, alike_tx, Bool.and_true, Option.isSome_some, Bool.true_and]
    have e1 : isTupP (ptx a) = true := rfl
    have e2 : isTupP (ptx b) = true := rfl
    rw [e1, e2]
    simp only [Bool.and_true, Bool.true_or, Bool.true_and, decide_eq_true_eq, List.length_cons, List.length_nil]
    rw [sizeLine_eq]; omega
  unfold sortP
  rw [if_pos hok, merge2]
  have hle : W.dataLe false encD (tx a) (tx b) = !ltT b a := by
    show (!W.dataLt (encD (tx b)) (encD (tx a))) = _
    rw [enc_tx, enc_tx]
    rfl
  rw [hle]
  unfold sortT
  cases q : ltT b a <;> simp [q]
theorem sortT_comm (a b : Tx) : sortT (a, b) = sortT (b, a) := by
  unfold sortT
  show (if ltT b a = true then (b, a) else (a, b)) = if ltT a b = true then (a, b) else (b, a)
  cases q1 : ltT b a with
  | true => rw [if_pos rfl, ltT_asym q1, if_neg (by decide)]
  | false =>
    rw [if_neg (by decide)]
    cases q2 : ltT a b with
    | true => rw [if_pos rfl]
    | false => rw [if_neg (by decide), ltT_tri q1 q2]
theorem sortT_cases (p : Tx × Tx) : sortT p = p ∨ sortT p = (p.2, p.1) := by
  unfold sortT
  split
  · exact .inr rfl
  · exact .inl rfl
theorem sortT_lt (p : Tx × Tx) : ltT (sortT p).2 (sortT p).1 = false := by
  unfold sortT
  split
  · rename_i h; exact ltT_asym h
  · rename_i h; simpa using h
/-- a RULE -/
structure Ru where
  a : Bool
  b : Bool
  s : Bool
  w : Bool
  deriving DecidableEq
def Ru.D (r : Ru) : D := .tup [.bl r.a, .bl r.b, .bl r.s, .bl r.w]
/-- a CLASH -/
structure Cl where
  a : Wd
  base : Tx
  one : Tx
  other : Tx
  b : Wd
  deriving DecidableEq
def Cl.D (c : Cl) : D := .tup [dS c.a, tx c.base, tx c.one, tx c.other, dS c.b]
def swapIf (s : Bool) (p : Tx × Tx) : Tx × Tx := if s = true then p else sortT p
/-- the cores as texts -/
def coreL (a b : Tx) : Tx × Tx := ((coresL a b).1.getD [], (coresL a b).2.getD [])
def pairL (r : Ru) (a b : Tx) : Tx × Tx := if r.w = true then (a, b) else coreL a b
def countedL (r : Ru) (a b : Tx) : Tx × Tx := swapIf r.s (pairL r a b)
def keyL (r : Ru) (c : Cl) : Key5 := ⟨if r.a = true then some c.a else none, if r.a = true then some c.b else none, if r.b = true then some c.base else none, some (countedL r c.one c.other).1, some (countedL r c.one c.other).2⟩
/-! ### the ends, the cores -/
theorem ends_comm (a b : Tx) : endsL b a = endsL a b := by
  unfold endsL
  have e1 : manyL b a = manyL a b := manyL_comm b a
  simp only [e1]
  rw [manyL_comm (b.drop (manyL a b)).reverse]
  have h1 := manyL_take a b
  refine Prod.ext h1.symm ?_
  show b.drop (b.length - _) = a.drop (a.length - _)
  generalize hm : manyL (a.drop (manyL a b)).reverse (b.drop (manyL a b)).reverse = m
  have h2 := manyL_take (a.drop (manyL a b)).reverse (b.drop (manyL a b)).reverse
  have l1 := (manyL_le (a.drop (manyL a b)).reverse (b.drop (manyL a b)).reverse).1
  have l2 := (manyL_le (a.drop (manyL a b)).reverse (b.drop (manyL a b)).reverse).2
  rw [hm] at h2 l1 l2
  rw [List.length_reverse, List.length_drop] at l1 l2
  rw [List.take_reverse, List.take_reverse, List.length_drop, List.length_drop, List.drop_drop, List.drop_drop] at h2
  have h3 := List.reverse_inj.mp h2
  have k1 := (manyL_le a b).1
  have k2 := (manyL_le a b).2
  rw [show manyL a b + (a.length - manyL a b - m) = a.length - m by omega, show manyL a b + (b.length - manyL a b - m) = b.length - m by omega] at h3
  exact h3.symm
/-- what stands between -/
theorem ends_self (a b : Tx) : ∃ c, a = (endsL a b).1 ++ c ++ (endsL a b).2 ∧ innerL a (endsL a b).1 (endsL a b).2 = some c := by
  have k1 := (manyL_le a b).1
  have l2 := many2_le a b
  refine ⟨(a.take (a.length - manyL (a.drop (manyL a b)).reverse (b.drop (manyL a b)).reverse)).drop (manyL a b), ?_, ?_⟩
  · show a = a.take (manyL a b) ++ (a.take (a.length - _)).drop (manyL a b) ++ a.drop (a.length - _)
    generalize manyL (a.drop (manyL a b)).reverse (b.drop (manyL a b)).reverse = m at l2
    have : a.take (manyL a b) = (a.take (a.length - m)).take (manyL a b) := by rw [List.take_take, Nat.min_eq_left (by omega)]
    rw [this, List.take_append_drop, List.take_append_drop]
  · unfold innerL
    have e1 : (endsL a b).1.length = manyL a b := by show (a.take _).length = _; rw [List.length_take]; omega
    have e2 : (endsL a b).2.length = manyL (a.drop (manyL a b)).reverse (b.drop (manyL a b)).reverse := by show (a.drop _).length = _; rw [List.length_drop]; omega
    rw [e1, e2, if_pos ⟨by omega, rfl, rfl⟩]
theorem ends_other (a b : Tx) : ∃ c, b = (endsL a b).1 ++ c ++ (endsL a b).2 ∧ innerL b (endsL a b).1 (endsL a b).2 = some c := by
  have := ends_self b a
  rw [ends_comm] at this
  exact this
theorem cores_some (a b : Tx) : coresL a b = (some (coreL a b).1, some (coreL a b).2) := by
  obtain ⟨c, _, e1⟩ := ends_self a b
  obtain ⟨d, _, e2⟩ := ends_other a b
  unfold coreL coresL
  rw [e1, e2]
  rfl
theorem core_eq (a b : Tx) : a = (endsL a b).1 ++ (coreL a b).1 ++ (endsL a b).2 ∧ b = (endsL a b).1 ++ (coreL a b).2 ++ (endsL a b).2 := by
  obtain ⟨c, h1, e1⟩ := ends_self a b
  obtain ⟨d, h2, e2⟩ := ends_other a b
  have q : coreL a b = (c, d) := by unfold coreL coresL; rw [e1, e2]; rfl
  rw [q]
  exact ⟨h1, h2⟩
theorem core_comm (a b : Tx) : coreL b a = ((coreL a b).2, (coreL a b).1) := by
  unfold coreL coresL
  rw [ends_comm]
theorem core_ne {a b : Tx} (h : a ≠ b) : (coreL a b).1 ≠ (coreL a b).2 := fun e => by
  obtain ⟨h1, h2⟩ := core_eq a b
  rw [e] at h1
  exact h (h1.trans h2.symm)
end Onc
set_option Elab.async false
set_option linter.all false
set_option maxRecDepth 100000
set_option maxHeartbeats 1000000
/-! What the defs over RULEs, CLASHes, KEYs answer. -/
namespace Onc
open PySem
def F_is_tuple : Fn := ⟨2, 2, false, (.cons (.ret (.and (.isi (.var 0) ["tuple"]) (.and1 (.cmp .Eq (.blt true "len" (.cons (.var 0) .nil)) (.var 1))))) .nil)⟩
def F_is_line : Fn := ⟨1, 2, false, (.cons (.ret (.and (.isi (.var 0) ["str"]) (.and (.chain .Lt .LtE (.int 0) (.blt true "len" (.cons (.var 0) .nil)) (.glob "LONGEST")) (.and1 (.blt true "all" (.cons (.lc true (.cmp .In (.var 1) (.glob "LETTERS")) (.nm 1) [("letter", 1)] 0 (.cons (.var 0) .nil) .nil) .nil)))))) .nil)⟩
def F_is_text : Fn := ⟨1, 2, false, (.cons (.ret (.and (.isi (.var 0) ["tuple"]) (.and1 (.blt true "all" (.cons (.lc true (.call "is_line" (.cons (.var 1) .nil)) (.nm 1) [("part", 1)] 0 (.cons (.var 0) .nil) .nil) .nil))))) .nil)⟩
def F_is_around : Fn := ⟨1, 1, false, (.cons (.ret (.or (.call "is_line" (.cons (.var 0) .nil)) (.or1 (.and (.isi (.var 0) ["str"]) (.and1 (.cmp .Eq (.var 0) (.glob "NOBODY"))))))) .nil)⟩
def F_all_rules : Fn := ⟨0, 4, false, (.cons (.asg (.nm 0) (.lst true (.cons (.tup .nil) .nil))) (.cons (.for (.nm 1) 1 (.cons (.glob "TRUTHS") .nil) (.cons (.asg (.nm 0) (.lc2 true (.tup (.star (.var 2) (.cons (.var 3) .nil))) (.nm 2) [("row", 2), ("truth", 3)] 0 (.cons (.var 0) .nil) .nil (.nm 3) [3] 0 (.cons (.tup (.cons (.bl false) (.cons (.bl true) .nil))) .nil) .nil)) .nil)) (.cons (.ret (.var 0)) .nil)))⟩
def F_counted : Fn := ⟨3, 8, false, (.cons (.asg (.tp (.cons (.nm 4) (.cons (.nm 5) (.cons (.nm 6) (.cons (.nm 7) .nil))))) (.var 0)) (.cons (.asg (.nm 3) (.ite (.var 7) (.tup (.cons (.var 1) (.cons (.var 2) .nil))) (.call "cores" (.cons (.var 1) (.cons (.var 2) .nil))))) (.cons (.ret (.ite (.var 6) (.var 3) (.blt true "tuple" (.cons (.blt true "sorted" (.cons (.var 3) .nil)) .nil)))) .nil)))⟩
def F_can_be_cores : Fn := ⟨2, 2, false, (.cons (.ret (.and (.cmp .NotEq (.var 0) (.var 1)) (.and1 (.cmp .Eq (.call "ends_of" (.cons (.var 0) (.cons (.var 1) .nil))) (.tup (.cons (.tup .nil) (.cons (.tup .nil) .nil))))))) .nil)⟩
def F_is_key : Fn := ⟨2, 7, false, (.cons (.asg (.tp (.cons (.nm 2) (.cons (.nm 3) (.cons (.nm 4) (.cons (.nm 5) .nil))))) (.call "tupled" (.cons (.var 0) .nil))) (.cons (.iff (.or (.not (.call "is_tuple" (.cons (.var 1) (.cons (.glob "KEY_PARTS") .nil)))) (.or (.not (.call "is_text" (.cons (.ix (.var 1) (.int 3)) .nil))) (.or1 (.not (.call "is_text" (.cons (.ix (.var 1) (.int 4)) .nil)))))) (.cons (.ret (.bl false)) .nil) .nil) (.cons (.iff (.not (.blt true "all" (.cons (.lc true (.ite (.var 2) (.call "is_around" (.cons (.var 6) .nil)) (.isN (.var 6))) (.nm 6) [("part", 6)] 0 (.cons (.sl true (.var 1) .nil (.int 2)) .nil) .nil) .nil))) (.cons (.ret (.bl false)) .nil) .nil) (.cons (.iff (.not (.ite (.var 3) (.call "is_text" (.cons (.ix (.var 1) (.int 2)) .nil)) (.isN (.ix (.var 1) (.int 2))))) (.cons (.ret (.bl false)) .nil) .nil) (.cons (.iff (.or (.cmp .Eq (.ix (.var 1) (.int 3)) (.ix (.var 1) (.int 4))) (.or1 (.and (.not (.var 4)) (.and1 (.cmp .Gt (.ix (.var 1) (.int 3)) (.ix (.var 1) (.int 4))))))) (.cons (.ret (.bl false)) .nil) .nil) (.cons (.ret (.ite (.var 5) (.cmp .NotIn (.ix (.var 1) (.int 2)) (.sl true (.var 1) (.int 3) .nil)) (.call "can_be_cores" (.cons (.ix (.var 1) (.int 3)) (.cons (.ix (.var 1) (.int 4)) .nil))))) .nil))))))⟩
def F_ends : Fn := ⟨1, 6, false, (.cons (.asg (.tp (.cons (.nm 1) (.cons (.nm 2) (.cons (.nm 3) (.cons (.nm 4) (.cons (.nm 5) .nil)))))) (.call "tupled" (.cons (.var 0) .nil))) (.cons (.ret (.call "ends_of" (.cons (.var 3) (.cons (.var 4) .nil)))) .nil))⟩
def F_key_of : Fn := ⟨2, 9, false, (.cons (.asg (.nm 2) (.call "tupled" (.cons (.var 0) .nil))) (.cons (.asg (.tp (.cons (.nm 4) (.cons (.nm 5) (.cons (.nm 6) (.cons (.nm 7) (.cons (.nm 8) .nil)))))) (.call "tupled" (.cons (.var 1) .nil))) (.cons (.asg (.nm 3) (.ite (.ix (.var 2) (.int 0)) (.tup (.cons (.var 4) (.cons (.var 8) .nil))) (.tup (.cons .non (.cons .non .nil))))) (.cons (.ret (.tup (.star (.var 3) (.cons (.ite (.ix (.var 2) (.int 1)) (.var 5) .non) (.star (.call "counted" (.cons (.var 2) (.cons (.var 6) (.cons (.var 7) .nil)))) .nil))))) .nil))))⟩
def F_written : Fn := ⟨3, 5, false, (.cons (.asg (.tp (.cons (.nm 3) (.cons (.nm 4) .nil))) (.ite (.ix (.var 0) (.int 3)) (.tup (.cons (.tup .nil) (.cons (.tup .nil) .nil))) (.call "ends" (.cons (.var 1) .nil)))) (.cons (.ret (.tup (.star (.var 3) (.star (.call "tupled" (.cons (.var 2) .nil)) (.star (.var 4) .nil))))) .nil))⟩
def F_settled_by : Fn := ⟨3, 5, false, (.cons (.asg (.tp (.cons (.nm 3) (.cons (.nm 4) .nil))) (.ite (.ix (.var 0) (.int 3)) (.tup (.cons (.tup .nil) (.cons (.tup .nil) .nil))) (.call "ends" (.cons (.var 1) .nil)))) (.cons (.ret (.call "inner" (.cons (.call "tupled" (.cons (.var 2) .nil)) (.cons (.var 3) (.cons (.var 4) .nil))))) .nil))⟩
def F_settlement_of : Fn := ⟨3, 4, false, (.cons (.asg (.nm 3) (.call "settled_by" (.cons (.var 0) (.cons (.var 1) (.cons (.var 2) .nil))))) (.cons (.iff (.isN (.var 3)) (.cons .never .nil) .nil) (.cons (.ret (.var 3)) .nil)))⟩
def F_is_coarser : Fn := ⟨2, 4, false, (.cons (.ret (.blt true "all" (.cons (.lc true (.or (.var 3) (.or1 (.not (.var 2)))) (.tp (.cons (.nm 2) (.cons (.nm 3) .nil))) [("own", 2), ("its", 3)] 4 (.cons (.var 0) (.cons (.var 1) .nil)) .nil) .nil))) .nil)⟩
def F_key_by : Fn := ⟨3, 10, false, (.cons (.asg (.nm 3) (.call "tupled" (.cons (.var 2) .nil))) (.cons (.asg (.tp (.cons (.nm 5) (.cons (.nm 6) (.cons (.nm 7) (.cons (.nm 8) (.cons (.nm 9) .nil)))))) (.call "tupled" (.cons (.var 1) .nil))) (.cons (.asg (.nm 4) (.ite (.ix (.var 3) (.int 0)) (.tup (.cons (.var 5) (.cons (.var 6) .nil))) (.tup (.cons .non (.cons .non .nil))))) (.cons (.ret (.tup (.star (.var 4) (.cons (.ite (.ix (.var 3) (.int 1)) (.var 7) .non) (.star (.call "counted" (.cons (.var 3) (.cons (.var 8) (.cons (.var 9) .nil)))) .nil))))) .nil))))⟩
/-- the text's own defs, by name -/
structure Own (rows : List Row) : Prop where
  tupled : lookF rows "tupled" = some F_tupled
  many : lookF rows "many_alike" = some F_many
  ends_of : lookF rows "ends_of" = some F_ends_of
  inner : lookF rows "inner" = some F_inner
  cores : lookF rows "cores" = some F_cores
  counted : lookF rows "counted" = some F_counted
  ends : lookF rows "ends" = some F_ends
  key_of : lookF rows "key_of" = some F_key_of
variable {rows : List Row} {gl : Glo} {wh k : Nat} {h : HS}
theorem tx2_core (a b : Tx) : oT2 (coresL a b) = tx2 (coreL a b) := by rw [cores_some]; rfl
theorem var_t {g : Gx} {i : Nat} {l : Loc} {b : Bool} (e : l[i]? = some (some (.bl b))) : (den g (.var i)).t l h = some (.ok b, h) := tst_run (f := (den g (.var i)).v) (var_run e) rfl
theorem counted_run (O : Own rows) {r : Ru} {a b : Tx} (hk : 3 < k) (hw : a.length < wh) (s : Still h) : (gN rows gl wh k).call "counted" [r.D, tx a, tx b] h = some (.ok (tx2 (countedL r a b)), h) := by
  obtain ⟨k, rfl⟩ : ∃ j, k = j + 1 := ⟨k - 1, by omega⟩
  rw [gN_call O.counted]
  refine callF_pl rfl rfl s ?_ (pl_tx2 _)
  refine s_cons (s_asgT (l1 := [some r.D, some (tx a), some (tx b), none, some (.bl r.a), some (.bl r.b), some (.bl r.s), some (.bl r.w)]) (var_run rfl) rfl) ?_
  refine s_cons (h1 := h) (s_asg (h1 := h) (d := tx2 (pairL r a b)) ?_) ?_
  · rw [ite_v (h1 := h) (k := r.w) (var_t rfl)]
    unfold pairL
    cases r.w with
    | true => exact tup_run (row_cons (var_run rfl) (row_one (var_run rfl))) (by show 2 ≤ 1000; omega)
    | false =>
      rw [if_neg (by decide), if_neg (by decide), ← tx2_core]
      exact call_run (row_cons (var_run rfl) (row_one (var_run rfl))) (cores_run O.many O.ends_of O.inner O.cores (by omega) hw s)
  · refine ret_body ?_
    rw [ite_v (h1 := h) (k := r.s) (var_t rfl)]
    unfold countedL swapIf
    cases r.s with
    | true => exact var_run rfl
    | false =>
      rw [if_neg (by decide), if_neg (by decide)]
      refine blt_run (row_one (blt_run (row_one (var_run rfl)) (p := .l [tx (sortT (pairL r a b)).1, tx (sortT (pairL r a b)).2]) ?_ (fin_run (by show 2 ≤ 1000; omega)))) rfl rfl
      show sortP [tx (pairL r a b).1, tx (pairL r a b).2] = _
      rw [sorted2]
theorem pd_rule (r : Ru) : Pd 1 r.D := .tup (by show 4 ≤ 1000; omega) fun x hx => by
  simp only [List.mem_cons, List.not_mem_nil, or_false] at hx
  rcases hx with rfl | rfl | rfl | rfl <;> exact .bl _
def Cl.sm (c : Cl) (n : Nat) : Prop := c.base.length < n ∧ c.one.length < n ∧ c.other.length < n
theorem pd_clash {c : Cl} (hs : c.sm 1000) : Pd 2 c.D := .tup (by show 5 ≤ 1000; omega) fun x hx => by
  simp only [List.mem_cons, List.not_mem_nil, or_false] at hx
  rcases hx with rfl | rfl | rfl | rfl | rfl
  · exact .str _
  · exact pd_tx _ (by have := hs.1; omega)
  · exact pd_tx _ (by have := hs.2.1; omega)
  · exact pd_tx _ (by have := hs.2.2; omega)
  · exact .str _
theorem pl_key (q : Key5) : Pl q.D := .tup fun x hx => by
  simp only [List.mem_cons, List.not_mem_nil, or_false] at hx
  have h1 : ∀ a : Option Wd, Pl (oS a) := fun a => by cases a <;> first | exact .non | exact .str _
  rcases hx with rfl | rfl | rfl | rfl | rfl
  · exact h1 _
  · exact h1 _
  · exact pl_oT _
  · exact pl_oT _
  · exact pl_oT _
theorem ix_at {g : Gx} {i j : Nat} {l : Loc} {xs : List D} {d : D} (e : l[i]? = some (some (.tup xs))) (ed : xs[j]? = some d) : (den g (.ix (.var i) (.int j))).v l h = some (.ok d, h) := ix_run (var_run e) (show (den g (.int j)).v l h = some (.ok (.int j), h) from rfl) (by show L2.atI xs (j : Int) = _; rw [atI_nat]; exact ed)
theorem key_run (O : Own rows) {r : Ru} {c : Cl} (hk : 4 < k) (hw : c.sm wh) (h2 : wh ≤ 1000) (s : Still h) : (gN rows gl wh k).call "key_of" [r.D, c.D] h = some (.ok (keyL r c).D, h) := by
  obtain ⟨k, rfl⟩ : ∃ j, k = j + 1 := ⟨k - 1, by omega⟩
  rw [gN_call O.key_of]
  refine callF_pl rfl rfl s ?_ (pl_key _)
  have hc : c.sm 1000 := ⟨by have := hw.1; omega, by have := hw.2.1; omega, by have := hw.2.2; omega⟩
  refine s_cons (s_asg (call_run (row_one (var_run rfl)) (tupled_run O.tupled 1 r.D (pd_rule r) k h (by omega) s))) ?_
  refine s_cons (s_asgT (l1 := [some r.D, some c.D, some r.D, none, some (dS c.a), some (tx c.base), some (tx c.one), some (tx c.other), some (dS c.b)]) (call_run (row_one (var_run rfl)) (tupled_run O.tupled 2 c.D (pd_clash hc) k h (by omega) s)) rfl) ?_
  have t0 : ∀ l : Loc, l[2]? = some (some r.D) → (den (gN rows gl wh k) (.ix (.var 2) (.int 0))).t l h = some (.ok r.a, h) := fun l e => tst_run (ix_at (j := 0) e rfl) rfl
  have t1 : ∀ l : Loc, l[2]? = some (some r.D) → (den (gN rows gl wh k) (.ix (.var 2) (.int 1))).t l h = some (.ok r.b, h) := fun l e => tst_run (ix_at (j := 1) e rfl) rfl
  refine s_cons (h1 := h) (s_asg (h1 := h) (d := .tup [oS (if r.a = true then some c.a else none), oS (if r.a = true then some c.b else none)]) ?_) ?_
  · rw [ite_v (t0 _ rfl)]
    cases r.a <;> rfl
  · refine ret_body (tup_run (xs := [oS (if r.a = true then some c.a else none), oS (if r.a = true then some c.b else none)] ++ (oT (if r.b = true then some c.base else none) :: ([tx (countedL r c.one c.other).1, tx (countedL r c.one c.other).2] ++ []))) ?_ (by show 5 ≤ 1000; omega))
    refine row_star (x := .tup [oS (if r.a = true then some c.a else none), oS (if r.a = true then some c.b else none)]) (var_run rfl) (.inl rfl) (row_cons ?_ (row_star (x := tx2 (countedL r c.one c.other)) (call_run (row_cons (var_run rfl) (row_cons (var_run rfl) (row_one (var_run rfl)))) (counted_run O (by omega) hw.2.1 s)) (.inl rfl) row_nil))
    rw [ite_v (t1 _ rfl)]
    cases r.b <;> rfl
theorem endsC_run (O : Own rows) {c : Cl} (hk : 3 < k) (hw : c.sm wh) (h2 : wh ≤ 1000) (s : Still h) : (gN rows gl wh k).call "ends" [c.D] h = some (.ok (tx2 (endsL c.one c.other)), h) := by
  obtain ⟨k, rfl⟩ : ∃ j, k = j + 1 := ⟨k - 1, by omega⟩
  rw [gN_call O.ends]
  refine callF_pl rfl rfl s ?_ (pl_tx2 _)
  have hc : c.sm 1000 := ⟨by have := hw.1; omega, by have := hw.2.1; omega, by have := hw.2.2; omega⟩
  refine s_cons (s_asgT (l1 := [some c.D, some (dS c.a), some (tx c.base), some (tx c.one), some (tx c.other), some (dS c.b)]) (call_run (row_one (var_run rfl)) (tupled_run O.tupled 2 c.D (pd_clash hc) k h (by omega) s)) rfl) ?_
  exact ret_body (call_run (row_cons (var_run rfl) (row_one (var_run rfl))) (ends_of_run O.many O.ends_of (by omega) hw.2.1 s))
end Onc
set_option Elab.async false
set_option linter.all false
set_option maxRecDepth 100000
set_option maxHeartbeats 1000000
/-! Written texts, settlements, coarser rules, lines, keys. -/
namespace Onc
open PySem
structure Own2 (rows : List Row) (gl : Glo) : Prop extends Own rows where
  written : lookF rows "written" = some F_written
  settled_by : lookF rows "settled_by" = some F_settled_by
  settlement_of : lookF rows "settlement_of" = some F_settlement_of
  is_coarser : lookF rows "is_coarser" = some F_is_coarser
  key_by : lookF rows "key_by" = some F_key_by
  can_be_cores : lookF rows "can_be_cores" = some F_can_be_cores
  is_line : lookF rows "is_line" = some F_is_line
  is_text : lookF rows "is_text" = some F_is_text
  is_around : lookF rows "is_around" = some F_is_around
  is_tuple : lookF rows "is_tuple" = some F_is_tuple
  is_key : lookF rows "is_key" = some F_is_key
  all_rules : lookF rows "all_rules" = some F_all_rules
  letters : gl "LETTERS" = some (.str "abcdefghijklmnopqrstuvwxyz")
  longest : gl "LONGEST" = some (.int 8)
  nobody : gl "NOBODY" = some (.str "")
  parts : gl "KEY_PARTS" = some (.int 5)
  truths : gl "TRUTHS" = some (.int 4)
variable {rows : List Row} {gl : Glo} {wh k : Nat} {h : HS}
theorem gl_gN : (gN rows gl wh k).glob = gl := by cases k <;> rfl
theorem glob_run {l : Loc} {x : Str} {d : D} (e : gl x = some d) : (den (gN rows gl wh k) (.glob x)).v l h = some (.ok d, h) := by
  show M.opt ((gN rows gl wh k).glob x) h = _
  rw [gl_gN, e]; rfl
/-! ### written, settled -/
def hdTl (r : Ru) (c : Cl) : Tx × Tx := if r.w = true then ([], []) else endsL c.one c.other
def wrL (r : Ru) (c : Cl) (t : Tx) : Tx := (hdTl r c).1 ++ t ++ (hdTl r c).2
theorem tx_app (a b : Tx) : tx (a ++ b) = .tup (a.map dS ++ b.map dS) := by unfold tx; rw [List.map_append]
theorem hdTl_v (O : Own rows) {r : Ru} {c : Cl} {l : Loc} (hk : 3 < k) (hw : c.sm wh) (h2 : wh ≤ 1000) (s : Still h) (l0 : l[0]? = some (some r.D)) (l1 : l[1]? = some (some c.D)) :
    (den (gN rows gl wh k) (.ite (.ix (.var 0) (.int 3)) (.tup (.cons (.tup .nil) (.cons (.tup .nil) .nil))) (.call "ends" (.cons (.var 1) .nil)))).v l h = some (.ok (tx2 (hdTl r c)), h) := by
  have t3 : (den (gN rows gl wh k) (.ix (.var 0) (.int 3))).t l h = some (.ok r.w, h) := tst_run (ix_at (j := 3) l0 rfl) rfl
  rw [ite_v t3]
  unfold hdTl
  cases r.w with
  | true => rfl
  | false =>
    rw [if_neg (by decide), if_neg (by decide)]
    exact call_run (row_one (var_run l1)) (endsC_run O hk hw h2 s)
theorem ends_len (a b : Tx) : (endsL a b).1.length ≤ a.length ∧ (endsL a b).2.length ≤ a.length := by
  refine ⟨?_, ?_⟩
  · show (a.take _).length ≤ _; rw [List.length_take]; omega
  · show (a.drop _).length ≤ _; rw [List.length_drop]; omega
theorem hdTl_len (r : Ru) (c : Cl) : (hdTl r c).1.length ≤ c.one.length ∧ (hdTl r c).2.length ≤ c.one.length := by
  unfold hdTl
  split
  · exact ⟨Nat.zero_le _, Nat.zero_le _⟩
  · exact ends_len _ _
theorem written_run (O : Own2 rows gl) {r : Ru} {c : Cl} {t : Tx} (hk : 4 < k) (hw : c.sm wh) (h2 : wh ≤ 300) (ht : t.length ≤ 300) (s : Still h) : (gN rows gl wh k).call "written" [r.D, c.D, tx t] h = some (.ok (tx (wrL r c t)), h) := by
  obtain ⟨k, rfl⟩ : ∃ j, k = j + 1 := ⟨k - 1, by omega⟩
  rw [gN_call O.written]
  refine callF_pl rfl rfl s ?_ (pl_tx _)
  refine s_cons (s_asgT (l1 := [some r.D, some c.D, some (tx t), some (tx (hdTl r c).1), some (tx (hdTl r c).2)]) (hdTl_v O.toOwn (by omega) hw (by omega) s rfl rfl) rfl) ?_
  have hl := hdTl_len r c
  have := hw.2.1
  refine ret_body (Eq.trans (tup_run (xs := (hdTl r c).1.map dS ++ (t.map dS ++ ((hdTl r c).2.map dS ++ []))) (row_star (x := tx (hdTl r c).1) (var_run rfl) (.inl rfl) (row_star (x := tx t) (call_run (row_one (var_run rfl)) (tupled_run O.tupled 1 (tx t) (pd_tx t (by omega)) k h (by omega) s)) (.inl rfl) (row_star (x := tx (hdTl r c).2) (var_run rfl) (.inl rfl) row_nil))) (by simp; omega)) ?_)
  unfold wrL tx
  simp
theorem settledBy_run (O : Own2 rows gl) {r : Ru} {c : Cl} {t : Tx} (hk : 4 < k) (hw : c.sm wh) (h2 : wh ≤ 300) (ht : t.length ≤ 1000) (s : Still h) : (gN rows gl wh k).call "settled_by" [r.D, c.D, tx t] h = some (.ok (oT (innerL t (hdTl r c).1 (hdTl r c).2)), h) := by
  obtain ⟨k, rfl⟩ : ∃ j, k = j + 1 := ⟨k - 1, by omega⟩
  rw [gN_call O.settled_by]
  refine callF_pl rfl rfl s ?_ (pl_oT _)
  refine s_cons (s_asgT (l1 := [some r.D, some c.D, some (tx t), some (tx (hdTl r c).1), some (tx (hdTl r c).2)]) (hdTl_v O.toOwn (by omega) hw (by omega) s rfl rfl) rfl) ?_
  exact ret_body (call_run (row_cons (call_run (row_one (var_run rfl)) (tupled_run O.tupled 1 (tx t) (pd_tx t (by omega)) k h (by omega) s)) (row_cons (var_run rfl) (row_one (var_run rfl)))) (inner_run O.inner (by omega) s))
theorem inner_app (a t b : Tx) : innerL (a ++ t ++ b) a b = some t := by
  unfold innerL
  have e : (a ++ t ++ b).length - b.length = a.length + t.length := by simp only [List.length_append]; omega
  have e1 : (a ++ t ++ b).take a.length = a := by rw [List.append_assoc, List.take_left]
  have e2 : (a ++ t ++ b).drop (a.length + t.length) = b := by
    rw [show a.length + t.length = (a ++ t).length by simp, List.drop_left]
  have e3 : (a ++ t ++ b).take (a.length + t.length) = a ++ t := by
    rw [show a.length + t.length = (a ++ t).length by simp, List.take_left]
  rw [e, if_pos ⟨by simp only [List.length_append]; omega, e1, e2⟩, e3, List.drop_left]
theorem settlement_run (O : Own2 rows gl) {r : Ru} {c : Cl} {t : Tx} (hk : 5 < k) (hw : c.sm wh) (h2 : wh ≤ 300) (ht : t.length ≤ 300) (s : Still h) : (gN rows gl wh k).call "settlement_of" [r.D, c.D, tx (wrL r c t)] h = some (.ok (tx t), h) := by
  obtain ⟨k, rfl⟩ : ∃ j, k = j + 1 := ⟨k - 1, by omega⟩
  rw [gN_call O.settlement_of]
  refine callF_pl rfl rfl s ?_ (pl_tx _)
  have hl := hdTl_len r c
  have := hw.2.1
  refine s_cons (s_asg (d := tx t) (h1 := h) (call_run (row_cons (var_run rfl) (row_cons (var_run rfl) (row_one (var_run rfl)))) ?_)) ?_
  · rw [settledBy_run O (by omega) hw h2 (by unfold wrL; simp; omega) s]
    unfold wrL
    rw [inner_app]; rfl
  · refine s_cons (l1 := [some r.D, some c.D, some (tx (wrL r c t)), some (tx t)]) (h1 := h) ?_ (ret_body (var_run rfl))
    exact (s_iff (k := false) (h1 := h) (show (den (gN rows gl wh k) (.isN (.var 3))).t [some r.D, some c.D, some (tx (wrL r c t)), some (tx t)] h = some (.ok false, h) from rfl)).trans rfl
/-! ### coarser -/
def coarL (r m : Ru) : Bool := (m.a || !r.a) && ((m.b || !r.b) && ((m.s || !r.s) && (m.w || !r.w)))
theorem or_v2 {g : Gx} {l : Loc} {i j : Nat} {x y : Bool} (ei : l[i]? = some (some (.bl x))) (ej : l[j]? = some (some (.bl y))) : (den g (.or (.var i) (.or1 (.not (.var j))))).v l h = some (.ok (.bl (x || !y)), h) := by
  refine bnd_run (var_run ei) (bnd_run rd_run ?_)
  show M.bnd (M.opt (some x)) _ h = _
  refine bnd_run opt_some ?_
  cases x with
  | true => rfl
  | false =>
    rw [if_neg (by decide)]
    refine bnd_run (var_run ej) (bnd_run rd_run ?_)
    rfl
theorem coarser_run (O : Own2 rows gl) {r m : Ru} (hk : 0 < k) (s : Still h) : (gN rows gl wh k).call "is_coarser" [r.D, m.D] h = some (.ok (.bl (coarL r m)), h) := by
  obtain ⟨k, rfl⟩ : ∃ j, k = j + 1 := ⟨k - 1, by omega⟩
  rw [gN_call O.is_coarser]
  refine callF_pl rfl rfl s (ret_body ?_) (.bl _)
  refine blt_run (p := .v (.bl (coarL r m))) (row_one (lc_map (t := .tp (.cons (.nm 2) (.cons (.nm 3) .nil))) (k := 4) (own := [("own", 2), ("its", 3)]) (as := [r.D, m.D]) (s := .zip (.fix [.bl r.a, .bl r.b, .bl r.s, .bl r.w]) (.fix [.bl m.a, .bl m.b, .bl m.s, .bl m.w]))
    (xs := [.tup [.bl r.a, .bl m.a], .tup [.bl r.b, .bl m.b], .tup [.bl r.s, .bl m.s], .tup [.bl r.w, .bl m.w]]) (f := fun d => match d with | .tup [.bl o, .bl i] => .bl (i || !o) | _ => .non)
    (row_cons (var_run rfl) (row_one (var_run rfl))) rfl rfl (by show 4 ≤ 1000; omega) fun x hx => ?_)) ?_ rfl
  · simp only [List.mem_cons, List.not_mem_nil, or_false] at hx
    rcases hx with rfl | rfl | rfl | rfl <;> exact ⟨_, rfl, or_v2 rfl rfl⟩
  · show some (PR.v (.bl ([m.a || !r.a, m.b || !r.b, m.s || !r.s, m.w || !r.w].all id))) = _
    unfold coarL
    simp [Bool.and_assoc]
/-! ### keys by a coarser rule -/
def keyBy (q : Key5) (d e : Tx) (m : Ru) : Key5 := ⟨if m.a = true then q.a else none, if m.a = true then q.b else none, if m.b = true then q.c else none, some (countedL m d e).1, some (countedL m d e).2⟩
theorem pd_key {q : Key5} (h1 : ∀ t, q.c = some t → t.length ≤ 1000) (h2 : ∀ t, q.d = some t → t.length ≤ 1000) (h3 : ∀ t, q.e = some t → t.length ≤ 1000) : Pd 2 q.D := .tup (by show 5 ≤ 1000; omega) fun x hx => by
  simp only [List.mem_cons, List.not_mem_nil, or_false] at hx
  have hs : ∀ a : Option Wd, Pd 1 (oS a) := fun a => by cases a <;> first | exact .non | exact .str _
  have ht : ∀ a : Option Tx, (∀ t, a = some t → t.length ≤ 1000) → Pd 1 (oT a) := fun a ha => by
    cases a with
    | none => exact .non
    | some t => exact pd_tx t (ha t rfl)
  rcases hx with rfl | rfl | rfl | rfl | rfl
  · exact hs _
  · exact hs _
  · exact ht _ h1
  · exact ht _ h2
  · exact ht _ h3
theorem keyBy_run (O : Own2 rows gl) {r m : Ru} {q : Key5} {d e : Tx} (hd : q.d = some d) (he : q.e = some e) (h1 : ∀ t, q.c = some t → t.length ≤ 1000) (ld : d.length < wh) (le : e.length ≤ 1000) (hk : 4 < k) (h2 : wh ≤ 1000) (s : Still h) :
    (gN rows gl wh k).call "key_by" [r.D, q.D, m.D] h = some (.ok (keyBy q d e m).D, h) := by
  obtain ⟨k, rfl⟩ : ∃ j, k = j + 1 := ⟨k - 1, by omega⟩
  rw [gN_call O.key_by]
  refine callF_pl rfl rfl s ?_ (pl_key _)
  refine s_cons (s_asg (call_run (row_one (var_run rfl)) (tupled_run O.tupled 1 m.D (pd_rule m) k h (by omega) s))) ?_
  have hp : Pd 2 q.D := pd_key h1 (fun t z => by rw [hd] at z; cases z; omega) (fun t z => by rw [he] at z; cases z; omega)
  have eq : q.D = .tup [oS q.a, oS q.b, oT q.c, tx d, tx e] := by unfold Key5.D; rw [hd, he]; rfl
  refine s_cons (s_asgT (l1 := [some r.D, some q.D, some m.D, some m.D, none, some (oS q.a), some (oS q.b), some (oT q.c), some (tx d), some (tx e)]) (call_run (row_one (var_run rfl)) (tupled_run O.tupled 2 q.D hp k h (by omega) s)) (by rw [eq]; rfl)) ?_
  have t0 : ∀ l : Loc, l[3]? = some (some m.D) → (den (gN rows gl wh k) (.ix (.var 3) (.int 0))).t l h = some (.ok m.a, h) := fun l e => tst_run (ix_at (j := 0) e rfl) rfl
  have t1 : ∀ l : Loc, l[3]? = some (some m.D) → (den (gN rows gl wh k) (.ix (.var 3) (.int 1))).t l h = some (.ok m.b, h) := fun l e => tst_run (ix_at (j := 1) e rfl) rfl
  refine s_cons (h1 := h) (s_asg (h1 := h) (d := .tup [oS (if m.a = true then q.a else none), oS (if m.a = true then q.b else none)]) ?_) ?_
  · rw [ite_v (t0 _ rfl)]
    cases m.a <;> rfl
  · refine ret_body (tup_run (xs := [oS (if m.a = true then q.a else none), oS (if m.a = true then q.b else none)] ++ (oT (if m.b = true then q.c else none) :: ([tx (countedL m d e).1, tx (countedL m d e).2] ++ []))) ?_ (by show 5 ≤ 1000; omega))
    refine row_star (x := .tup [oS (if m.a = true then q.a else none), oS (if m.a = true then q.b else none)]) (var_run rfl) (.inl rfl) (row_cons ?_ (row_star (x := tx2 (countedL m d e)) (call_run (row_cons (var_run rfl) (row_cons (var_run rfl) (row_one (var_run rfl)))) (counted_run O.toOwn (by omega) ld s)) (.inl rfl) row_nil))
    rw [ite_v (t1 _ rfl)]
    cases m.b <;> rfl
end Onc
set_option Elab.async false
set_option linter.all false
set_option maxRecDepth 100000
set_option maxHeartbeats 1000000
/-! Lines, texts, keys as such. -/
namespace Onc
open PySem
variable {rows : List Row} {gl : Glo} {wh k : Nat} {h : HS}
section
variable {g : Gx} {l : Loc} {h1 h2 h3 : HS} {a b c r : E} {x y z : D} {q : Bool}
theorem and_v (ea : (den g a).v l h = some (.ok x, h1)) (et : truth (rd h1 x) = some q) : (den g (.and a r)).v l h = if q = true then (den g r).v l h1 else some (.ok x, h1) := by
  refine bnd_run ea (bnd_run rd_run ?_)
  rw [et]
  refine bnd_run opt_some ?_
  cases q <;> rfl
theorem or_v (ea : (den g a).v l h = some (.ok x, h1)) (et : truth (rd h1 x) = some q) : (den g (.or a r)).v l h = if q = true then some (.ok x, h1) else (den g r).v l h1 := by
  refine bnd_run ea (bnd_run rd_run ?_)
  rw [et]
  refine bnd_run opt_some ?_
  cases q <;> rfl
theorem not_v (ea : (den g a).v l h = some (.ok x, h1)) (et : truth (rd h1 x) = some q) : (den g (.not a)).v l h = some (.ok (.bl (!q)), h1) := by
  refine bnd_run ea (bnd_run rd_run ?_)
  rw [et]; rfl
theorem chain_v {op op' : CmpOp} {q2 : Bool} (ea : (den g a).v l h = some (.ok x, h1)) (eb : (den g b).v l h1 = some (.ok y, h2)) (e1 : cmpP op (rd h2 x) (rd h2 y) = some q) (ec : q = true → (den g c).v l h2 = some (.ok z, h3) ∧ cmpP op' (rd h3 y) (rd h3 z) = some q2) :
    (den g (.chain op op' a b c)).v l h = if q = true then some (.ok (.bl q2), h3) else some (.ok (.bl false), h2) := by
  refine bnd_run ea (bnd_run eb (bnd_run rd_run (bnd_run rd_run ?_)))
  rw [e1]
  refine bnd_run opt_some ?_
  cases q with
  | false => rfl
  | true =>
    rw [if_pos rfl, if_pos rfl]
    obtain ⟨e2, e3⟩ := ec rfl
    refine bnd_run e2 (bnd_run rd_run (bnd_run rd_run ?_))
    rw [e3]; rfl
end
def goodW (w : Wd) : Prop := 0 < w.1.length ∧ w.1.length ≤ 8 ∧ ∀ c ∈ w.1.cps.toList, c ∈ (Str.ofString "abcdefghijklmnopqrstuvwxyz").cps.toList
def goodT (t : Tx) : Prop := ∀ w ∈ t, goodW w
theorem slen (x : Str) : x.length = x.cps.toList.length := by rw [Array.length_toList]; rfl
theorem line_run (O : Own2 rows gl) {w : Wd} (g : goodW w) (hk : 0 < k) (s : Still h) : (gN rows gl wh k).call "is_line" [dS w] h = some (.ok (.bl true), h) := by
  obtain ⟨k, rfl⟩ : ∃ j, k = j + 1 := ⟨k - 1, by omega⟩
  rw [gN_call O.is_line]
  refine callF_pl rfl rfl s (ret_body ?_) (.bl true)
  have g1 := g.1
  have g2 := g.2.1
  rw [and_v (x := .bl true) (q := true) (h1 := h) rfl rfl, if_pos rfl]
  have el : (den (gN rows gl wh k) (.blt true "len" (.cons (.var 0) .nil))).v [some (dS w), none] h = some (.ok (.int w.1.length), h) := by
    refine blt_run (row_one (var_run rfl)) (p := .v (.int w.1.length)) ?_ rfl
    show small w.1.length (PR.v (.int w.1.length)) = _
    unfold small
    rw [if_pos (lt_line (by omega))]
  have ec : (den (gN rows gl wh k) (.chain .Lt .LtE (.int 0) (.blt true "len" (.cons (.var 0) .nil)) (.glob "LONGEST"))).v [some (dS w), none] h = some (.ok (.bl true), h) := by
    rw [chain_v (h1 := h) (h2 := h) (h3 := h) (x := .int 0) (y := .int w.1.length) (z := .int 8) (q := true) (q2 := true) rfl el (by rw [rd_int, rd_int, lt_int, decide_eq_true (by omega)]) fun _ => ⟨glob_run O.longest, by rw [rd_int, rd_int, le_int, decide_eq_true (by omega)]⟩, if_pos rfl]
  refine (and_v (x := .bl true) (q := true) ec rfl).trans ?_
  rw [if_pos rfl]
  refine blt_run (row_one (lc_map (t := .nm 1) (k := 0) (own := [("letter", 1)]) (as := [dS w]) (s := .one (.fix (signs w.1))) (xs := signs w.1) (f := fun _ => .bl true) (row_one (var_run rfl)) rfl rfl (by unfold signs; rw [List.length_map, ← slen]; omega) fun x hx => ?_)) (p := .v (.bl true)) ?_ rfl
  · unfold signs at hx
    obtain ⟨c, hc, rfl⟩ := List.mem_map.mp hx
    refine ⟨_, rfl, cmp_v (h1 := h) (h2 := h) (x := .str ⟨#[c]⟩) (y := .str "abcdefghijklmnopqrstuvwxyz") (var_run rfl) (glob_run O.letters) ?_⟩
    show some (decide (c ∈ (Str.ofString "abcdefghijklmnopqrstuvwxyz").cps.toList)) = _
    rw [decide_eq_true (g.2.2 c hc)]
  · show (boolsP ((signs w.1).map fun _ => D.bl true)).map (fun bs => PR.v (.bl (bs.all id))) = _
    have : ∀ xs : List D, boolsP (xs.map fun _ => D.bl true) = some (xs.map fun _ => true) := fun xs => by
      induction xs with
      | nil => rfl
      | cons x xs ih => rw [List.map_cons, boolsP, ih]; rfl
    rw [this]
    show some (PR.v (.bl ((List.map (fun _ => true) (signs w.1)).all id))) = _
    congr 3
    rw [List.all_map]
    simp
theorem text_run (O : Own2 rows gl) {t : Tx} (g : goodT t) (ht : t.length ≤ 1000) (hk : 1 < k) (s : Still h) : (gN rows gl wh k).call "is_text" [tx t] h = some (.ok (.bl true), h) := by
  obtain ⟨k, rfl⟩ : ∃ j, k = j + 1 := ⟨k - 1, by omega⟩
  rw [gN_call O.is_text]
  refine callF_pl rfl rfl s (ret_body ?_) (.bl true)
  rw [and_v (x := .bl true) (q := true) (h1 := h) rfl rfl, if_pos rfl]
  refine blt_run (row_one (lc_map (t := .nm 1) (k := 0) (own := [("part", 1)]) (as := [tx t]) (s := .one (.fix (t.map dS))) (xs := t.map dS) (f := fun _ => .bl true) (row_one (var_run rfl)) rfl rfl (by rw [List.length_map]; exact ht) fun x hx => ?_)) (p := .v (.bl true)) ?_ rfl
  · obtain ⟨w, hw, rfl⟩ := List.mem_map.mp hx
    exact ⟨_, rfl, call_run (row_one (var_run rfl)) (line_run O (g w hw) (by omega) s)⟩
  · show (boolsP ((t.map dS).map fun _ => D.bl true)).map (fun bs => PR.v (.bl (bs.all id))) = _
    have : ∀ xs : List D, boolsP (xs.map fun _ => D.bl true) = some (xs.map fun _ => true) := fun xs => by
      induction xs with
      | nil => rfl
      | cons x xs ih => rw [List.map_cons, boolsP, ih]; rfl
    rw [this]
    show some (PR.v (.bl ((List.map (fun _ => true) (t.map dS)).all id))) = _
    congr 3
    rw [List.all_map]
    simp
def nobody : Wd := ⟨"", by decide +kernel⟩
theorem around_run (O : Own2 rows gl) {w : Wd} (g : goodW w ∨ w = nobody) (hk : 1 < k) (s : Still h) : (gN rows gl wh k).call "is_around" [dS w] h = some (.ok (.bl true), h) := by
  obtain ⟨k, rfl⟩ : ∃ j, k = j + 1 := ⟨k - 1, by omega⟩
  rw [gN_call O.is_around]
  refine callF_pl rfl rfl s (ret_body ?_) (.bl true)
  rcases g with g | rfl
  · exact (or_v (x := .bl true) (q := true) (call_run (row_one (var_run rfl)) (line_run O g (by omega) s)) rfl).trans rfl
  · have e0 : (gN rows gl wh k).call "is_line" [dS nobody] h = some (.ok (.bl false), h) := by
      obtain ⟨k, rfl⟩ : ∃ j, k = j + 1 := ⟨k - 1, by omega⟩
      rw [gN_call O.is_line]
      refine callF_pl rfl rfl s (ret_body ?_) (.bl false)
      rw [and_v (x := .bl true) (q := true) (h1 := h) rfl rfl, if_pos rfl]
      have ec : (den (gN rows gl wh k) (.chain .Lt .LtE (.int 0) (.blt true "len" (.cons (.var 0) .nil)) (.glob "LONGEST"))).v [some (dS nobody), none] h = some (.ok (.bl false), h) := by
        have e2 : (den (gN rows gl wh k) (.blt true "len" (.cons (.var 0) .nil))).v [some (dS nobody), none] h = some (.ok (.int 0), h) := by
          refine blt_run (row_one (var_run rfl)) (p := .v (.int 0)) ?_ rfl
          show small 0 (PR.v (.int 0)) = _
          unfold small
          rw [if_pos (lt_line (by omega))]
        exact (chain_v (h1 := h) (h2 := h) (h3 := h) (x := .int 0) (y := .int 0) (z := .int 8) (q := false) (q2 := true) rfl e2 (lt_int 0 0) (fun z => nomatch z)).trans rfl
      exact (and_v (x := .bl false) (q := false) ec rfl).trans rfl
    refine (or_v (x := .bl false) (q := false) (call_run (row_one (var_run rfl)) e0) rfl).trans ?_
    rw [if_neg (by decide)]
    show (den _ (.and (.isi (.var 0) ["str"]) (.and1 (.cmp .Eq (.var 0) (.glob "NOBODY"))))).v _ h = _
    rw [and_v (x := .bl true) (q := true) (h1 := h) rfl rfl, if_pos rfl]
    exact cmp_v (h1 := h) (h2 := h) (x := dS nobody) (y := dS nobody) (var_run rfl) (glob_run O.nobody) ((eqP_str nobody nobody).trans (by rw [decide_eq_true rfl]))
theorem isTuple_run (O : Own2 rows gl) {xs : List D} {n : Nat} (hl : xs.length = n) (hk : 0 < k) (s : Still h) : (gN rows gl wh k).call "is_tuple" [.tup xs, .int n] h = some (.ok (.bl true), h) := by
  obtain ⟨k, rfl⟩ : ∃ j, k = j + 1 := ⟨k - 1, by omega⟩
  rw [gN_call O.is_tuple]
  refine callF_pl rfl rfl s (ret_body ?_) (.bl true)
  rw [and_v (x := .bl true) (q := true) (h1 := h) rfl rfl, if_pos rfl]
  refine cmp_v (h1 := h) (h2 := h) (x := .int xs.length) (y := .int n) (blt_run (row_one (var_run rfl)) rfl rfl) (var_run rfl) ?_
  show eqP (.int xs.length) (.int n) = _
  rw [eqP_int, hl, decide_eq_true rfl]
/-! ### can be cores -/
def canL (a b : Tx) : Bool := decide (a ≠ b) && decide (endsL a b = ([], []))
theorem eqP_tx2 (p q : Tx × Tx) : eqP (tx2 p) (tx2 q) = some (decide (p = q)) := by
  have e : ∀ p : Tx × Tx, (tx2 p).toP = some (.tuple [ptx p.1, ptx p.2]) := fun p => by
    unfold tx2
    simp only [D.toP, D.toPs, toP_tx]
    rfl
  have hs : ∀ p : Tx × Tx, (tx2 p).sh = some (.tuple [ptx p.1, ptx p.2]) := fun p => by
    unfold D.sh
    rw [e]
    show (if SeqAt.shaped _ = true then _ else _) = _
    rw [if_pos]
    unfold SeqAt.shaped
    simp only [PyData.canLay0, PyData.canLayAll0, PyData.depth, PyData.depthAll, lay_tx, depth_tx]
    rfl
  unfold eqP
  rw [hs, hs]
  show some (PyData.eqv _ _) = _
  rw [PyData.eqv]
  simp only [PyData.eqvAll, eqv_tx, Bool.and_true]
  congr 1
  rw [Bool.eq_iff_iff]
  simp [Prod.ext_iff]
theorem can_run (O : Own2 rows gl) {a b : Tx} (hk : 2 < k) (hw : a.length < wh) (s : Still h) : (gN rows gl wh k).call "can_be_cores" [tx a, tx b] h = some (.ok (.bl (canL a b)), h) := by
  obtain ⟨k, rfl⟩ : ∃ j, k = j + 1 := ⟨k - 1, by omega⟩
  rw [gN_call O.can_be_cores]
  refine callF_pl rfl rfl s (ret_body ?_) (.bl _)
  have e1 : (den (gN rows gl wh k) (.cmp .NotEq (.var 0) (.var 1))).v [some (tx a), some (tx b)] h = some (.ok (.bl (!decide (a = b))), h) := by
    refine cmp_v (var_run rfl) (var_run rfl) ?_
    show (eqP (tx a) (tx b)).map (!·) = _
    rw [eqP_tx]; rfl
  refine (and_v e1 rfl).trans ?_
  unfold canL
  by_cases hab : a = b
  · simp [hab]
  · rw [decide_eq_false hab]
    simp only [Bool.not_false, if_true, ne_eq, hab, not_false_eq_true, decide_true, Bool.true_and]
    exact cmp_v (h1 := h) (h2 := h) (x := tx2 (endsL a b)) (y := tx2 ([], [])) (call_run (row_cons (var_run rfl) (row_one (var_run rfl))) (ends_of_run O.many O.ends_of (by omega) hw s)) rfl (eqP_tx2 _ _)
end Onc
set_option Elab.async false
set_option linter.all false
set_option maxRecDepth 100000
set_option maxHeartbeats 2000000
/-! The numbers of a script. -/
namespace Onc
open PySem
variable {rows : List Row} {gl : Glo} {wh k : Nat} {h : HS}
theorem p_run {g : Gx} {l : Loc} {h1 : HS} {e : E} {i : Int} (hp : (den g e).p = prtOf (den g e).v) (ev : (den g e).v l h = some (.ok (.int i), h1)) : (den g e).p l h = some (.ok (some i), h1) := by rw [hp]; exact bnd_run ev rfl
theorem lstM_run {g : Gx} {l : Loc} {h1 : HS} {e : E} {xs : List D} (es : (den g e).s l h = some (.ok xs, h1)) (hl : xs.length ≤ 1000) : (den g (.lst false e)).v l h = some (.ok (.ref h1.length), .lst xs :: h1) := bnd_run es (finM_run hl)
theorem getR {n : Nat} {xs : List D} (en : nth h n = some (.lst xs)) : M.getL (.ref n) h = some (.ok (n, xs), h) := by
  show (match nth h n with | some (.lst xs) => some (Except.ok (n, xs), h) | _ => none) = _
  rw [en]
/-- the turns over the later numbers -/
theorem cells_loop {g : Gx} {n m : Nat} (hm : 0 < m) (hmk : m < 1000) : ∀ (ds : List Int) (i : Nat) (cs : List Int) (h0 : HS) (a3 a4 a5 : Option D) (sc : D), n = h0.length → cs.length = m → i + ds.length < 1000 →
    ∃ (cs' : List Int) (a3' a4' a5' : Option D), cs'.length = m ∧ loopF (fun d l => match T.set (.tp (.cons (.nm 3) (.cons (.nm 4) .nil))) d l with
      | some l1 => exe g (.cons (.asg (.nm 5) (.bin true .Mod (.blt true "int" (.cons (.var 3) .nil)) (.var 1))) (.cons (.setix (.var 2) (.var 5) (.bin true .Add (.ix (.var 2) (.var 5)) (.bin true .Mult (.var 4) (.bin true .Add (.var 3) (.int 2))))) .nil)) l1
      | none => M.fail) (enumF i (ds.map .int)) [some sc, some (.int m), some (.ref n), a3, a4, a5] (.lst (cs.map .int) :: h0) = some (.ok (.nx [some sc, some (.int m), some (.ref n), a3', a4', a5']), .lst (cs'.map .int) :: h0)
  | [], i, cs, h0, a3, a4, a5, sc, hn, hc, hi => ⟨cs, a3, a4, a5, hc, rfl⟩
  | d :: ds, i, cs, h0, a3, a4, a5, sc, hn, hc, hi => by
    rw [List.length_cons] at hi
    have hn1 : nth (O.lst (cs.map D.int) :: h0) n = some (.lst (cs.map .int)) := by rw [hn]; exact nth_len _ _
    have hmod0 : 0 ≤ (i : Int) % m := Int.emod_nonneg _ (by omega)
    have hmod1 : (i : Int) % m < m := Int.emod_lt_of_pos _ (by omega)
    generalize hj : ((i : Int) % m).toNat = j
    have ej : (i : Int) % m = (j : Int) := by omega
    have hjl : j < cs.length := by omega
    obtain ⟨cs', a3', a4', a5', hc', e⟩ := cells_loop (g := g) (n := n) hm hmk ds (i + 1) (cs.set j (cs[j] + d * ((i : Int) + 2))) h0 (some (.int i)) (some (.int d)) (some (.int j)) sc hn (by rw [List.length_set]; exact hc) (by omega)
    refine ⟨cs', a3', a4', a5', hc', ?_⟩
    show M.bnd (exe g _ [some sc, some (.int m), some (.ref n), some (.int i), some (.int d), a5]) _ _ = _
    suffices e0 : exe g (.cons (.asg (.nm 5) (.bin true .Mod (.blt true "int" (.cons (.var 3) .nil)) (.var 1))) (.cons (.setix (.var 2) (.var 5) (.bin true .Add (.ix (.var 2) (.var 5)) (.bin true .Mult (.var 4) (.bin true .Add (.var 3) (.int 2))))) .nil)) [some sc, some (.int m), some (.ref n), some (.int i), some (.int d), a5] (.lst (cs.map .int) :: h0) = some (.ok (.nx [some sc, some (.int m), some (.ref n), some (.int i), some (.int d), some (.int j)]), .lst ((cs.set j (cs[j] + d * ((i : Int) + 2))).map .int) :: h0) from bnd_run e0 e
    refine s_cons (s_asg (d := .int j) (h1 := .lst (cs.map .int) :: h0) ?_) ?_
    · rw [← ej]
      exact mod_run (int_run (var_run rfl)) (var_run rfl) (by omega)
    refine s_cons (l1 := [some sc, some (.int m), some (.ref n), some (.int i), some (.int d), some (.int j)]) (h1 := .lst ((cs.set j (cs[j] + d * ((i : Int) + 2))).map .int) :: h0) ?_ s_nil
    have ei : L2.ixN (cs.map D.int).length (j : Int) = some j := by
      unfold L2.ixN
      rw [List.length_map, if_pos (by omega), if_pos (by omega)]
      congr 1
    refine bnd_run (a := .int (cs[j] + d * ((i : Int) + 2))) (h1 := .lst (cs.map .int) :: h0) ?_ (bnd_run (var_run (d := .ref n) rfl) (bnd_run (var_run (d := .int j) rfl) (bnd_run (getR hn1) ?_)))
    · refine add_run (ix_run (var_run (d := .ref n) rfl) (var_run (d := .int j) rfl) ?_) (mul_run (var_run rfl) (add_run (var_run rfl) lit_run) (.inr (by omega)))
      rw [rd_ref hn1]
      show L2.atI (cs.map D.int) (j : Int) = _
      rw [atI_nat, List.getElem?_map, List.getElem?_eq_getElem hjl]
      rfl
    · show (match L2.ixN (cs.map D.int).length (j : Int) with | some j' => (M.upd n (.lst ((cs.map D.int).set j' (.int (cs[j]'hjl + d * ((i : Int) + 2)))))).bnd fun _ => M.ret (Fl.nx _) | none => M.fail) _ = _
      rw [ei]
      show some (Except.ok (Fl.nx _), put (O.lst (cs.map D.int) :: h0) n _) = _
      have ep : ∀ u, put (O.lst (cs.map D.int) :: h0) n u = u :: h0 := fun u => by unfold put; rw [if_pos hn]
      rw [ep, ← List.map_set]
      rfl
theorem cells_run (hL : lookF rows "_law_cells" = some F_law_cells) {ns : List Int} {m : Nat} (hm : 0 < m ∧ m < 63) (hns : ns.length ≤ 63) (hk : 0 < k) (p : HP h) :
    ∃ cs : List Int, 0 < cs.length ∧ cs.length ≤ m ∧ (gN rows gl wh k).call "_law_cells" [.arg (ns.map .int), .int m] h = some (.ok (.lst (cs.map .int)), h) := by
  obtain ⟨k, rfl⟩ : ∃ j, k = j + 1 := ⟨k - 1, by omega⟩
  have fin : ∀ (cs : List Int) (new : HS) (n : Nat), nth (new ++ h) n = some (.lst (cs.map .int)) → ¬ n < h.length → endF false h.length (.ref n) (new ++ h) = some (.ok (.lst (cs.map .int)), h) := fun cs new n e hn => by
    refine endF_v p.still ?_
    show (if n < h.length then _ else _) = _
    rw [if_neg hn]
    show rcN (new ++ h) h.length 4 n = _
    rw [rcN]
    rw [e]
    show (D.fzs _ _ (cs.map D.int)).map D.lst = _
    rw [fzs_of fun x hx => (pl_ints cs x hx).fz]
    rfl
  have ec1 : cut (ns.map D.int) none (some (m : Int)) = (ns.take m).map D.int := by rw [cut_map, cut_to]
  have ec2 : cut (ns.map D.int) (some (m : Int)) (some 63) = ((ns.take 63).drop m).map D.int := by rw [cut_map]; exact congrArg _ (cut_mid ns m 63)
  have e1 : (den (gN rows gl wh k) (.blt false "list" (.cons (.sl true (.var 0) .nil (.var 1)) .nil))).v [some (.arg (ns.map .int)), some (.int m), none, none, none, none] h = some (.ok (.ref h.length), .lst ((ns.take m).map .int) :: h) := by
    refine blt_run (h1 := h) (xs := [.lst ((ns.take m).map .int)]) (row_one (sl_run (h2 := h) (h3 := h) (u := none) (v := some (m : Int)) (var_run rfl) rfl (p_run rfl (var_run rfl)) (p := .l ((ns.take m).map .int)) ?_ (fin_run (by rw [List.length_map, List.length_take]; omega)))) rfl (finM_run (by rw [List.length_map, List.length_take]; omega))
    show some (PR.l (cut (ns.map D.int) none (some (m : Int)))) = _
    rw [ec1]
  have esrc : ∀ (l : Loc) (h1 : HS), l[0]? = some (some (.arg (ns.map .int))) → l[1]? = some (some (.int m)) → (den (gN rows gl wh k) (.cons (.sl true (.var 0) (.var 1) (.int 63)) .nil)).s l h1 = some (.ok [.lst (((ns.take 63).drop m).map .int)], h1) := fun l h1 a b => by
    refine row_one (sl_run (h2 := h1) (h3 := h1) (u := some (m : Int)) (v := some 63) (var_run a) (p_run rfl (var_run b)) rfl (p := .l (((ns.take 63).drop m).map .int)) ?_ (fin_run (by rw [List.length_map, List.length_drop, List.length_take]; omega)))
    show some (PR.l (cut (ns.map D.int) (some (m : Int)) (some 63))) = _
    rw [ec2]
  by_cases he : ns = []
  · subst he
    rw [List.take_nil] at e1
    refine ⟨[0], by show 0 < 1; omega, by show 1 ≤ m; omega, ?_⟩
    rw [gN_call hL, callF_rt rfl (d := .ref (h.length + 1)) (h' := [.lst [.int 0], .lst []] ++ h)]
    · exact fin [0] [.lst [.int 0], .lst []] (h.length + 1) (by show nth (O.lst [.int 0] :: O.lst [] :: h) (h.length + 1) = _; exact nth_len (O.lst [] :: h) _) (by omega)
    · refine s_cons (s_asg (d := .ref (h.length + 1)) (h1 := .lst [.int 0] :: .lst [] :: h) ?_) ?_
      · refine (or_v (q := false) e1 ?_).trans ?_
        · rw [rd_ref (nth_len h _)]
          rfl
        · rw [if_neg (by decide)]
          exact lstM_run (g := gN rows gl wh k) (xs := [.int 0]) (e := .cons (.int 0) .nil) (row_one lit_run) (by show 1 ≤ 1000; omega)
      refine s_cons (l1 := [some (.arg []), some (.int m), some (.ref (h.length + 1)), none, none, none]) (h1 := .lst [.int 0] :: .lst [] :: h) (for_run (esrc _ _ rfl rfl) rfl rfl ?_) (ret_body (var_run rfl))
      show loopF _ (enumF 0 (((([] : List Int).take 63).drop m).map .int)) _ _ = _
      rw [show ((([] : List Int).take 63).drop m) = [] by simp]
      rfl
  · have hl : (ns.take m).length = min m ns.length := List.length_take
    have hpos : 0 < ns.length := List.length_pos_iff.mpr he
    have hor : (den (gN rows gl wh k) (.or (.blt false "list" (.cons (.sl true (.var 0) .nil (.var 1)) .nil)) (.or1 (.lst false (.cons (.int 0) .nil))))).v [some (.arg (ns.map .int)), some (.int m), none, none, none, none] h = some (.ok (.ref h.length), .lst ((ns.take m).map .int) :: h) := by
      refine (or_v (q := true) e1 ?_).trans (by rw [if_pos rfl])
      rw [rd_ref (nth_len h _)]
      show some (!((ns.take m).map D.int).isEmpty) = _
      cases q : (ns.take m).map D.int with
      | nil => have z := congrArg List.length q; rw [List.length_map, hl] at z; have z : min m ns.length = 0 := z; omega
      | cons a b => rfl
    by_cases hlong : m ≤ ns.length
    · obtain ⟨cs', a3, a4, a5, hc, e⟩ := cells_loop (g := gN rows gl wh k) (n := h.length) (m := m) hm.1 (by omega) ((ns.take 63).drop m) 0 (ns.take m) h none none none (.arg (ns.map .int)) rfl (by rw [hl]; omega) (by rw [List.length_drop, List.length_take]; omega)
      refine ⟨cs', by omega, by omega, ?_⟩
      rw [gN_call hL, callF_rt rfl (d := .ref h.length) (h' := [.lst (cs'.map .int)] ++ h)]
      · exact fin cs' [.lst (cs'.map .int)] h.length (nth_len h _) (by omega)
      · refine s_cons (s_asg hor) ?_
        exact s_cons (for_run (esrc _ _ rfl rfl) rfl rfl e) (ret_body (var_run rfl))
    · refine ⟨ns.take m, by rw [hl]; omega, by rw [hl]; omega, ?_⟩
      rw [gN_call hL, callF_rt rfl (d := .ref h.length) (h' := [.lst ((ns.take m).map .int)] ++ h)]
      · exact fin _ [.lst ((ns.take m).map .int)] h.length (nth_len h _) (by omega)
      · refine s_cons (s_asg hor) ?_
        refine s_cons (l1 := [some (.arg (ns.map .int)), some (.int m), some (.ref h.length), none, none, none]) (h1 := .lst ((ns.take m).map .int) :: h) (for_run (esrc _ _ rfl rfl) rfl rfl ?_) (ret_body (var_run rfl))
        rw [show (ns.take 63).drop m = [] from List.drop_eq_nil_of_le (by rw [List.length_take]; omega)]
        rfl
end Onc
set_option Elab.async false
set_option linter.all false
set_option maxRecDepth 1000000
set_option maxHeartbeats 0
namespace K64
open PySem Onc
/-- no number of the box is drawn from: the whole is one run -/
theorem right64 (x y : Int) : (gN rows (glD cs xs) 200 29).call "_law_right" [.ref 0] [.lst [.int x, .int y, .int 0]] = some (.ok (.bl true), [.lst [.int x, .int y, .int 0]]) := by
  kernel_rfl
theorem turn64 (arg : D) (cs2 : List Int) (x y : Int) : (den (gN rows (glD cs xs) 200 29) (.blt true "all" (.cons (.lc true (.call "_law_right" (.cons (.var 3) .nil)) (.nm 4) [("_law_turn", 4)] 1 (.cons (.int 1) .nil) .nil) .nil))).t [some arg, some (.lst (cs2.map D.int)), some (.int 0), some (.ref 0), none] [.lst [.int x, .int y, .int 0]] = some (.ok true, [.lst [.int x, .int y, .int 0]]) := by
  have e1 := lc_map (g := gN rows (glD cs xs) 200 29) (elt := .call "_law_right" (.cons (.var 3) .nil)) (it := .cons (.int 1) .nil) (t := .nm 4) (k := 1) (own := [("_law_turn", 4)]) (l := [some arg, some (.lst (cs2.map D.int)), some (.int 0), some (.ref 0), none]) (h := [.lst [.int x, .int y, .int 0]]) (h1 := [.lst [.int x, .int y, .int 0]]) (as := [.int 1]) (s := .rng 0 1) (xs := rngF 0 1) (f := fun _ => .bl true)
    (row_one lit_run) rfl rfl (by decide) (fun z hz => ⟨_, rfl, call_run (row_one (var_run rfl)) (right64 x y)⟩)
  exact tst_run (x := .bl true) (blt_run (row_one e1) (p := .v (.bl true)) rfl rfl) rfl
theorem holds (ns : List Int) (h : ns.length ≤ 63) : ∃ h', gg.call "law" [.arg (ns.map D.int)] [] = some (.ok (.bl true), h') := by
  have p0 : HP [] := fun _ h => nomatch h
  obtain ⟨cs2, c1, c2, e1⟩ := cells_run (rows := rows) (gl := glD cs xs) (wh := 200) (k := 29) (m := 1) (by rfl) ⟨by omega, by omega⟩ h (by omega) p0
  obtain ⟨c, rfl⟩ : ∃ c, cs2 = [c] := by
    match cs2, c1, c2 with
    | [c], _, _ => exact ⟨c, rfl⟩
    | [], z, _ => exact absurd z (by decide)
    | _ :: _ :: _, _, z => exact absurd z (by simp)
  obtain ⟨x, y, e3⟩ := box_run (rows := rows) (gl := glD cs xs) (wh := 200) (k := 29) (q := 764) (by rfl) (cs := [c]) (i := 0) (by omega) (by omega) p0
  refine ⟨[], ?_⟩
  show (gN rows (glD cs xs) 200 (29 + 1)).call "law" _ _ = _
  rw [gN_call (F := f_law) (by rfl), callF_rt rfl (d := .bl true) (h' := [.lst [.int x, .int y, .int 0]])]
  · rfl
  · refine s_cons (s_asg (call_run (row_cons (var_run rfl) (row_one lit_run)) e1)) ?_
    refine s_cons (l1 := [some (.arg (ns.map .int)), some (.lst ([c].map D.int)), some (.int 0), some (.ref 0), none]) (h1 := [.lst [.int x, .int y, .int 0]]) (for_run (as := [.int 1]) (s := .rng 0 1) (xs := [.int 0]) (row_one (blt_run (p := .v (.int 1)) (row_one (var_run rfl)) rfl rfl)) rfl rfl ?_) (ret_body rfl)
    refine bnd_run (a := Fl.nx [some (.arg (ns.map .int)), some (.lst ([c].map D.int)), some (.int 0), some (.ref 0), none]) (h1 := [.lst [.int x, .int y, .int 0]]) ?_ rfl
    refine s_cons (s_asg (call_run (row_cons (var_run rfl) (row_one (var_run rfl))) e3)) ?_
    refine s_cons (h1 := [.lst [.int x, .int y, .int 0]]) ?_ s_nil
    exact (s_iff (not_t (k := true) (turn64 _ [c] x y))).trans rfl
end K64
set_option Elab.async false
set_option linter.all false
set_option maxRecDepth 1000000
set_option maxHeartbeats 0
open PySem PySem.W PySem.Calls PyProof.Rows
theorem PySem.Challenge.cw_oncesettled_k64_errors_and_what_they_kee_holds : PySem.Challenge.rw_oncesettled_k64_errors_and_what_they_kee.Holds := by
  w_on; o_law
  refine HandSHeadRun.head_any (r := OpenLaw.row PySem.Challenge.rw_oncesettled_k64_errors_and_what_they_kee) (q := view (OpenLaw.row PySem.Challenge.rw_oncesettled_k64_errors_and_what_they_kee).prog [16]) (H := K64.hk) (ob := K64.ob) (M := 4000) (loose := K64.loose) (d := HandSHeadRun.topDef (OpenLaw.row PySem.Challenge.rw_oncesettled_k64_errors_and_what_they_kee).prog 16) (kwd := []) K64.ob_eq
    (by kernel_rfl) (fun s => by kernel_rfl) K64.run (by kernel_rfl) (by kernel_rfl) (by kernel_rfl) (by rfl) (by first | assumption | decide +kernel) (by decide +kernel) ⟨rfl, rfl, rfl, rfl, rfl, by decide +kernel⟩ ?hw ?hc
  case hw => w_witness2
  case hc =>
    refine L2.walk_ofE (l := PySem.Challenge.rw_oncesettled_k64_errors_and_what_they_kee) (n := 63) (k := 60) (x := "_law_script") (CX := L2.CX0) rfl (by decide) (by kernel_rfl) ⟨rfl, by decide, by decide⟩ ?F (fun _ _ _ _ z => z)
    intro w mg fa h Y G hmg0
    obtain ⟨K, KX, c⟩ := Y
    have hmg : mg ("law" : PySem.Str) = some (.ref fa) := by
      have e : (HandSHeadRun.topDef (OpenLaw.row PySem.Challenge.rw_oncesettled_k64_errors_and_what_they_kee).prog 16).name = ("law" : PySem.Str) := by kernel_rfl
      rw [← e]
      exact hmg0
    obtain ⟨fd, hb, hF⟩ := K64.facts (P := (PySem.Challenge.rw_oncesettled_k64_errors_and_what_they_kee).prog) (w := w) KX G hmg c (by first | rfl | kernel_rfl) (by kernel_rfl)
    exact ⟨K, fd, Onc.spF ⟨K, (PySem.Challenge.rw_oncesettled_k64_errors_and_what_they_kee).prog, w, Onc.clOf mg⟩ K64.gg "law", KX, hb, fun H a ns hl _ hS => Onc.law_sp K64.holds H a ns hl hS, hF⟩
