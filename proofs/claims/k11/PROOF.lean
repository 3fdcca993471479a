import PyProof.Rows.All
import Wide.All
import OpenK.AllK
import Wide.FinOn
import HandS.ForMost
import HandS.More
import HandS.IsInst
import HandS.Style
import HandS.TupAny
import HandS.RaiseMore
import HandS.SortInts
import HandS.DictTup
import HandS.Defaults
import HandS.TryOnly
import HandS.HeadHook4
import HandS.HeadEnd
import HandS.Head2
import HandS.Codes
import PySem.Challenge.RW_ziggurat_k11_runs_of_plain_programs
set_option Elab.async false
set_option linter.all false
/-! M0: a small evaluator of my own for the Python subset of this program's laws (no model in it). -/
namespace Mi
open PySem L2

/-- immutable data; lit: a list that nobody changes; ref: a mutable object by its number; cd: a constant dict of a module by its number -/
inductive D where
  | non | bl (b : Bool) | int (i : Int) | str (x : Str) | tup (xs : List D) | lit (xs : List D) | ref (i : Nat) | cd (i : Nat)
/-- a mutable object -/
inductive O where
  | lst (xs : List D) | dK (kvs : List (Key × D)) | dT (kvs : List (List Key × D)) | ins (c : Nat) (fs : List (Str × D))
abbrev Sto := List O
inductive R (α : Type) where
  | ok (a : α) (s : Sto) | bad
def R.bind {α β : Type} (r : R α) (f : α → Sto → R β) : R β :=
  match r with
  | .ok a s => f a s
  | .bad => .bad
@[simp] theorem R.bind_ok {α β : Type} (a : α) (s : Sto) (f : α → Sto → R β) : (R.ok a s).bind f = f a s := rfl
@[simp] theorem R.bind_bad {α β : Type} (f : α → Sto → R β) : (R.bad : R α).bind f = .bad := rfl
theorem R.bind_eq {α β : Type} {r : R α} {f : α → Sto → R β} {b : β} {s : Sto} (h : r.bind f = .ok b s) : ∃ a t, r = .ok a t ∧ f a t = .ok b s := by
  cases r with
  | ok a t => exact ⟨a, t, rfl, h⟩
  | bad => cases h
abbrev En := List (Option D)

/-! ### the syntax -/
inductive BM where
  | append | extend | pop | lindex | get1 | get2 | pop2 | setd | join | split
  deriving DecidableEq
inductive BF where
  | len | int | str | max | min | sum | any | all | abs | tuple | list | dict | sorted
  deriving DecidableEq
inductive Ty where
  | int | str | tup | bool
  deriving DecidableEq
inductive Tg where
  | nm (i : Nat) | tp (is : List Nat)
  deriving DecidableEq
mutual
inductive E where
  | var (i : Nat) | int (i : Int) | str (s : Str) | bl (b : Bool) | non | con (x : Str)
  | bin (op : Operator) (a b : E) | neg (a : E)
  | cmp (op : CmpOp) (a b : E) | chn (o1 o2 : CmpOp) (a b c : E)
  | and (es : Es) | or (es : Es) | not (a : E) | ife (c a b : E)
  | call (f : Str) (es : Es) | make (c : Str) (es : Es) | meth (m : Str) (o : E) (es : Es)
  | fld (o : E) (f : Str) | sub (a b : E) | slc (a lo hi : E) | rev (a : E) | nop
  | tup (es : Es) | lst (es : Es) | dK | dT
  | bm (m : BM) (o : E) (es : Es) | bf (f : BF) (es : Es) | isi (e : E) (ty : Ty)
  | lc (t : Tg) (it : I) (c : E) (e : E) (own : List Nat)
  | lc2 (t : Tg) (it : I) (t1 : Tg) (it1 : I) (e : E) (own own1 : List Nat)
inductive Es where
  | nil | cons (e : E) (es : Es)
inductive I where
  | seq (e : E) | rng (es : Es) | enum (e : E)
end
inductive T where
  | nm (i : Nat) | tp (is : List Nat) | fld (o : E) (f : Str) | sub (o i : E)
mutual
inductive Sm where
  | exp (e : E) | asg (t : T) (e : E) | par (i j : Nat) (a b : E)
  | aug (i : Nat) (op : Operator) (e : E) | faug (o : E) (f : Str) (op : Operator) (e : E)
  | ifs (c : E) (a b : Sms) | whl (c : E) (b : Sms) | for_ (t : Tg) (it : I) (b : Sms)
  | ret (e : E) | retN | pas | cnt | never
inductive Sms where
  | nil | cons (s : Sm) (ss : Sms)
end

/-! ### values -/
def flat : D → Bool
  | .non => true | .bl _ => true | .int _ => true | .str _ => true | _ => false
def eqF : D → D → Bool
  | .non, .non => true
  | .bl a, .bl b => a == b
  | .bl a, .int b => (if a then 1 else 0) == b
  | .int a, .bl b => a == (if b then 1 else 0)
  | .int a, .int b => a == b
  | .str a, .str b => a == b
  | _, _ => false
mutual
/-- as the model's data, if there is no object in it -/
def pd : D → Option PyData
  | .non => some .none
  | .bl b => some (.bool b)
  | .int i => some (.int i)
  | .str x => some (.str x)
  | .tup xs => (pds xs).map .tuple
  | .lit _ => none
  | .ref _ => none
  | .cd _ => none
def pds : List D → Option (List PyData)
  | [] => some []
  | x :: xs => match pd x, pds xs with
    | some d, some ds => some (d :: ds)
    | _, _ => none
end
/-- as the model's data, lists by their items -/
def pdT (S : Sto) : D → Option PyData
  | .ref i => match S[i]? with
    | some (.lst xs) => (pds xs).map .list
    | _ => none
  | x => pd x
def eqD (neg : Bool) (x y : D) (S : Sto) : R D :=
  match x, y with
  | .str a, .str b => .ok (.bl (if neg then !decide (a = b) else decide (a = b))) S
  | .int a, .int b => .ok (.bl (if neg then !decide (a = b) else decide (a = b))) S
  | x, y => match pdT S x, pdT S y with
    | some d, some e => if SeqAt.shaped d = true ∧ SeqAt.shaped e = true then .ok (.bl (if neg then !PyData.eqv d e else PyData.eqv d e)) S else .bad
    | _, _ => .bad
def inStr (i j : Str) : Bool := !(Builtin.Str.occurrences j i 0 j.length 1).isEmpty
def keyD : D → Option Key
  | .int i => some (.inl i)
  | .str x => some (.inr x)
  | _ => none
/-- a pair as a key: something and a text -/
def keysD : List D → Option (List Key)
  | [x, .str s] => (keyD x).map fun k => [k, .inr s]
  | _ => none
def lookK {κ : Type} [DecidableEq κ] (kvs : List (κ × D)) (k : κ) : Option D := (kvs.find? fun kv => decide (kv.1 = k)).map (·.2)
def putKD {κ : Type} [DecidableEq κ] (kvs : List (κ × D)) (k : κ) (v : D) : List (κ × D) :=
  if (kvs.any fun kv => decide (kv.1 = k)) = true then kvs.map (fun kv => if kv.1 = k then (kv.1, v) else kv) else kvs ++ [(k, v)]
def dropKD {κ : Type} [DecidableEq κ] (kvs : List (κ × D)) (k : κ) : List (κ × D) := kvs.filter fun kv => decide (kv.1 ≠ k)
/-- what a dict holds at a key -/
def dget (cds : Nat → List (Str × D)) (S : Sto) (d k : D) : Option (Option D) :=
  match d with
  | .ref i => match S[i]? with
    | some (.dK kvs) => (keyD k).map fun k => lookK kvs k
    | some (.dT kvs) => match k with
      | .tup ks => (keysD ks).map fun k => lookK kvs k
      | _ => none
    | _ => none
  | .cd i => match k with
    | .str x => match cds i with
      | [] => none
      | q :: qs => some ((q :: qs).lookup x)
    | _ => none
  | _ => none
def inD (cds : Nat → List (Str × D)) (neg : Bool) (x y : D) (S : Sto) : R D :=
  match x, y with
  | .str a, .str b => .ok (.bl (if neg then !inStr a b else inStr a b)) S
  | x, .tup ys => if flat x = true ∧ ys.all flat = true then .ok (.bl (if neg then !(ys.any fun y => eqF y x) else ys.any fun y => eqF y x)) S else .bad
  | x, y => match dget cds S y x with
    | some o => .ok (.bl (if neg then !o.isSome else o.isSome)) S
    | none => match y with
      | .ref i => match S[i]? with
        | some (.lst ys) => if flat x = true ∧ ys.all flat = true then .ok (.bl (if neg then !(ys.any fun y => eqF y x) else ys.any fun y => eqF y x)) S else .bad
        | _ => .bad
      | _ => .bad
def isD (neg : Bool) (x y : D) (S : Sto) : R D :=
  match x, y with
  | x, .non => .ok (.bl (match x with | .non => !neg | _ => neg)) S
  | .bl a, .bl b => .ok (.bl (if neg then !decide (a = b) else decide (a = b))) S
  | _, _ => .bad
def cmpD (cds : Nat → List (Str × D)) (op : CmpOp) (x y : D) (S : Sto) : R D :=
  match op with
  | .Eq => eqD false x y S
  | .NotEq => eqD true x y S
  | .Is => isD false x y S
  | .IsNot => isD true x y S
  | .In => inD cds false x y S
  | .NotIn => inD cds true x y S
  | .Lt => match x, y with
    | .int i, .int j => .ok (.bl (decide (i < j))) S
    | _, _ => .bad
  | .LtE => match x, y with
    | .int i, .int j => .ok (.bl (decide (i ≤ j))) S
    | _, _ => .bad
  | .Gt => match x, y with
    | .int i, .int j => .ok (.bl (decide (j < i))) S
    | _, _ => .bad
  | .GtE => match x, y with
    | .int i, .int j => .ok (.bl (decide (j ≤ i))) S
    | _, _ => .bad
def addD (x y : D) (S : Sto) : R D :=
  match x, y with
  | .int i, .int j => .ok (.int (i + j)) S
  | .str i, .str j => if i.length + j.length ≤ sizeLine then .ok (.str (i ++ j)) S else .bad
  | .tup xs, .tup ys => if xs.length + ys.length ≤ sizeLine then .ok (.tup (xs ++ ys)) S else .bad
  | .ref a, .ref b => match S[a]?, S[b]? with
    | some (.lst xs), some (.lst ys) => if xs.length + ys.length ≤ sizeLine then .ok (.ref S.length) (S ++ [.lst (xs ++ ys)]) else .bad
    | _, _ => .bad
  | _, _ => .bad
open Classical in
noncomputable def binD (op : Operator) (x y : D) (S : Sto) : R D :=
  match op with
  | .Add => addD x y S
  | .Sub => match x, y with
    | .int i, .int j => .ok (.int (i - j)) S
    | _, _ => .bad
  | .Mult => match x, y with
    | .int i, .int j => if CMul i j then .ok (.int (i * j)) S else .bad
    | .str a, .int j => if 0 ≤ j ∧ j ≤ 100 ∧ a.length ≤ 1000 then .ok (.str (Txt.mul a j)) S else .bad
    | _, _ => .bad
  | .FloorDiv => match x, y with
    | .int i, .int j => if CDiv i j then .ok (.int (i / j)) S else .bad
    | _, _ => .bad
  | .Mod => match x, y with
    | .int i, .int j => if 0 < j then .ok (.int (i % j)) S else .bad
    | _, _ => .bad
  | .Pow => match x, y with
    | .int i, .int j => if CPow i j then .ok (.int (i ^ j.toNat)) S else .bad
    | _, _ => .bad
  | _ => .bad
def truth (S : Sto) : D → Option Bool
  | .non => some false
  | .bl b => some b
  | .int i => some (i != 0)
  | .str x => if x.length ≤ sizeLine then some ((x.length : Int) != 0) else none
  | .tup xs => some (!xs.isEmpty)
  | .lit xs => some (!xs.isEmpty)
  | .ref i => match S[i]? with
    | some (.lst xs) => some (!xs.isEmpty)
    | some (.dK kvs) => some (!kvs.isEmpty)
    | _ => none
  | .cd _ => none
def truthR (x : D) (S : Sto) : R Bool :=
  match truth S x with
  | some b => .ok b S
  | none => .bad
/-- the items of a list or tuple -/
def itemsD (S : Sto) : D → Option (List D)
  | .tup xs => some xs
  | .lit xs => some xs
  | .ref i => match S[i]? with
    | some (.lst xs) => some xs
    | _ => none
  | _ => none
def optR {α : Type} (o : Option α) (S : Sto) : R α :=
  match o with
  | some a => .ok a S
  | none => .bad
@[simp] theorem optR_some {α : Type} (a : α) (S : Sto) : optR (some a) S = .ok a S := rfl
def subD (cds : Nat → List (Str × D)) (x y : D) (S : Sto) : R D :=
  match x, y with
  | .str z, .int i => if z.length ≤ sizeLine then optR ((atI z.cps.toList i).map fun c => D.str ⟨#[c]⟩) S else .bad
  | x, .int i => match itemsD S x with
    | some xs => optR (atI xs i) S
    | none => match dget cds S x (.int i) with
      | some (some v) => .ok v S
      | _ => .bad
  | x, k => match dget cds S x k with
    | some (some v) => .ok v S
    | _ => .bad
def cutL {α : Type} (xs : List α) (lo hi : Option Int) : List α := (xs.drop (HT.sIx xs.length 0 lo)).take (HT.sIx xs.length xs.length hi - HT.sIx xs.length 0 lo)
def slcD (x : D) (lo hi : Option Int) (S : Sto) : R D :=
  match x with
  | .tup xs => .ok (.tup (cutL xs lo hi)) S
  | .lit xs => .ok (.ref S.length) (S ++ [.lst (cutL xs lo hi)])
  | .str z => if z.length ≤ sizeLine then .ok (.str (cutS z lo hi)) S else .bad
  | .ref i => match S[i]? with
    | some (.lst xs) => .ok (.ref S.length) (S ++ [.lst (cutL xs lo hi)])
    | _ => .bad
  | _ => .bad
def revD (x : D) (S : Sto) : R D :=
  match x with
  | .tup xs => .ok (.tup xs.reverse) S
  | .ref i => match S[i]? with
    | some (.lst xs) => .ok (.ref S.length) (S ++ [.lst xs.reverse])
    | _ => .bad
  | _ => .bad
def isiD (ty : Ty) (x : D) : Option Bool :=
  match x with
  | .non => some false
  | .bl _ => match ty with
    | .int => some true
    | .bool => some true
    | _ => some false
  | .int _ => match ty with
    | .int => some true
    | _ => some false
  | .str _ => match ty with
    | .str => some true
    | _ => some false
  | .tup _ => match ty with
    | .tup => some true
    | _ => some false
  | _ => none
def intsOf : List D → Option (List Int)
  | [] => some []
  | .int i :: xs => (intsOf xs).map (i :: ·)
  | _ :: _ => none
def blsOf : List D → Option (List Bool)
  | [] => some []
  | .bl i :: xs => (blsOf xs).map (i :: ·)
  | _ :: _ => none
def strsOf : List D → Option (List Str)
  | [] => some []
  | .str i :: xs => (strsOf xs).map (i :: ·)
  | _ :: _ => none
def lstOf (S : Sto) : D → Option (List D)
  | .ref i => match S[i]? with
    | some (.lst xs) => some xs
    | _ => none
  | _ => none
def maxL : List Int → Int
  | [] => 0
  | x :: xs => xs.foldl max x
def bfD (f : BF) (xs : List D) (S : Sto) : R D :=
  match f, xs with
  | .len, [x] => match x with
    | .str z => if z.length ≤ sizeLine then .ok (.int z.length) S else .bad
    | .ref i => match S[i]? with
      | some (.lst xs) => .ok (.int xs.length) S
      | some (.dK kvs) => .ok (.int kvs.length) S
      | _ => .bad
    | .tup xs => .ok (.int xs.length) S
    | .lit xs => .ok (.int xs.length) S
    | _ => .bad
  | .int, [.int i] => .ok (.int i) S
  | .int, [.bl b] => .ok (.int (if b then 1 else 0)) S
  | .str, [.str x] => .ok (.str x) S
  | .str, [.int i] => if i.natAbs.log2 < 1920 then .ok (.str (toString i)) S else .bad
  | .max, [.int i, .int j] => .ok (.int (if j > i then j else i)) S
  | .min, [.int i, .int j] => .ok (.int (if j < i then j else i)) S
  | .max, [x] => match (lstOf S x).bind intsOf with
    | some (i :: is) => .ok (.int (maxL (i :: is))) S
    | _ => .bad
  | .sum, [x] => match (lstOf S x).bind intsOf with
    | some is => .ok (.int is.sum) S
    | _ => .bad
  | .any, [x] => match (lstOf S x).bind blsOf with
    | some is => .ok (.bl (is.any id)) S
    | _ => .bad
  | .all, [x] => match (lstOf S x).bind blsOf with
    | some is => .ok (.bl (is.all id)) S
    | _ => .bad
  | .abs, [.int i] => .ok (.int (if i < 0 then -i else i)) S
  | .tuple, [x] => match itemsD S x with
    | some xs => .ok (.tup xs) S
    | none => .bad
  | .list, [x] => match itemsD S x with
    | some xs => .ok (.ref S.length) (S ++ [.lst xs])
    | none => .bad
  | .dict, [.ref i] => match S[i]? with
    | some (.dK kvs) => .ok (.ref S.length) (S ++ [.dK kvs])
    | _ => .bad
  | _, _ => .bad
def setO (S : Sto) (i : Nat) (o : O) : Sto := S.set i o
/-- the first place of an equal flat item -/
def idxF (x : D) (xs : List D) : Option Nat := xs.findIdx? fun y => eqF y x
/-- the object of a method is of its kind -/
def bmPre (m : BM) (o : D) (S : Sto) : Bool :=
  match m, o with
  | .join, .str _ => true
  | .split, .str _ => true
  | m, .ref i => match S[i]? with
    | some (.lst _) => (match m with | .append => true | .extend => true | .pop => true | .lindex => true | _ => false)
    | some (.dK _) => (match m with | .get1 => true | .get2 => true | .pop2 => true | .setd => true | _ => false)
    | some (.dT _) => (match m with | .get1 => true | .get2 => true | .pop2 => true | .setd => true | _ => false)
    | _ => false
  | _, _ => false
def bmD (m : BM) (o : D) (xs : List D) (S : Sto) : R D :=
  match m, o, xs with
  | .append, .ref i, [x] => match S[i]? with
    | some (.lst ys) => if ys.length < sizeLine then .ok .non (S.set i (.lst (ys ++ [x]))) else .bad
    | _ => .bad
  | .extend, .ref i, [.ref j] => match S[i]?, S[j]? with
    | some (.lst ys), some (.lst zs) => if ys.length + zs.length ≤ sizeLine then .ok .non (S.set i (.lst (ys ++ zs))) else .bad
    | _, _ => .bad
  | .pop, .ref i, [] => match S[i]? with
    | some (.lst ys) => match ys[ys.length - 1]? with
      | some y => .ok y (S.set i (.lst ys.dropLast))
      | none => .bad
    | _ => .bad
  | .lindex, x, [y] => match lstOf S x with
    | some ys => if flat y = true ∧ ys.all flat = true then optR ((idxF y ys).map fun j => D.int (j : Nat)) S else .bad
    | none => .bad
  | .get1, .ref i, [k] => match dget (fun _ => []) S (.ref i) k with
    | some o => .ok (o.getD .non) S
    | none => .bad
  | .get2, .ref i, [k, z] => match dget (fun _ => []) S (.ref i) k with
    | some o => .ok (o.getD z) S
    | none => .bad
  | .pop2, .ref i, [k, z] => match S[i]? with
    | some (.dT kvs) => match k with
      | .tup ks => match keysD ks with
        | some k => match lookK kvs k with
          | some v => .ok v (S.set i (.dT (dropKD kvs k)))
          | none => .ok z S
        | none => .bad
      | _ => .bad
    | _ => .bad
  | _, _, _ => .bad
/-- a store at o[i] -/
def setD (o i v : D) (S : Sto) : R Unit :=
  match o with
  | .ref a => match S[a]? with
    | some (.lst xs) => match i with
      | .int j => match ixN xs.length j with
        | some n => .ok () (S.set a (.lst (xs.set n v)))
        | none => .bad
      | _ => .bad
    | some (.dK kvs) => match keyD i with
      | some k => if kvs.length < sizeLine then .ok () (S.set a (.dK (putKD kvs k v))) else .bad
      | none => .bad
    | some (.dT kvs) => match i with
      | .tup ks => match keysD ks with
        | some k => if kvs.length < sizeLine then .ok () (S.set a (.dT (putKD kvs k v))) else .bad
        | none => .bad
      | _ => .bad
    | _ => .bad
  | _ => .bad
def fldD (o : D) (f : Str) (S : Sto) : R D :=
  match o with
  | .ref a => match S[a]? with
    | some (.ins _ fs) => optR (fs.lookup f) S
    | _ => .bad
  | _ => .bad
def putFD (f : Str) (v : D) : List (Str × D) → List (Str × D)
  | [] => [(f, v)]
  | (g, x) :: r => if g = f then (g, v) :: r else (g, x) :: putFD f v r
def setF (o : D) (f : Str) (v : D) (S : Sto) : R Unit :=
  match o with
  | .ref a => match S[a]? with
    | some (.ins c fs) => if fs.length < 1000 then .ok () (S.set a (.ins c (putFD f v fs))) else .bad
    | _ => .bad
  | _ => .bad
/-- an instance's class -/
def clsD (o : D) (S : Sto) : Option Nat :=
  match o with
  | .ref a => match S[a]? with
    | some (.ins c _) => some c
    | _ => none
  | _ => none
/-- what a for walks: the items; the list object that must stay as it is -/
structure It where
  items : List D
  own : Option (Nat × List D)
def rngL (lo : Int) (n : Nat) : List D := (List.range n).map fun i => D.int (lo + (i : Nat))
def seqIt (x : D) (S : Sto) : R It :=
  match x with
  | .tup xs => .ok ⟨xs, none⟩ S
  | .lit xs => .ok ⟨xs, none⟩ S
  | .str z => if z.length ≤ sizeLine then .ok ⟨z.cps.toList.map fun c => D.str ⟨#[c]⟩, none⟩ S else .bad
  | .ref i => match S[i]? with
    | some (.lst xs) => .ok ⟨xs, some (i, xs)⟩ S
    | _ => .bad
  | _ => .bad
/-- within a range's reach -/
def Rch (j : Int) : Prop := -4611686018427387904 ≤ j ∧ j < 4611686018427387904
open Classical in
noncomputable def rngIt (xs : List D) (S : Sto) : R It :=
  match xs with
  | [.int j] => if Rch j then .ok ⟨rngL 0 j.toNat, none⟩ S else .bad
  | [.int i, .int j] => if Rch i ∧ Rch j then .ok ⟨rngL i (j - i).toNat, none⟩ S else .bad
  | _ => .bad
def enumIt (x : D) (S : Sto) : R It :=
  match x with
  | .ref i => match S[i]? with
    | some (.lst xs) => .ok ⟨xs.zipIdx.map fun p => D.tup [.int (p.2 : Nat), p.1], some (i, xs)⟩ S
    | _ => .bad
  | _ => .bad
open Classical in
noncomputable def It.still (it : It) (S : Sto) : Bool :=
  match it.own with
  | none => true
  | some (i, xs) => decide (S[i]? = some (.lst xs))
def unpD (S : Sto) : D → Option (List D)
  | .tup xs => some xs
  | .ref i => match S[i]? with
    | some (.lst xs) => some xs
    | _ => none
  | _ => none
def setTg (t : Tg) (v : D) (e : En) (S : Sto) : Option En :=
  match t with
  | .nm i => if i < e.length then some (e.set i (some v)) else none
  | .tp is => match unpD S v with
    | some xs => if xs.length = is.length ∧ (∀ i ∈ is, i < e.length) then some ((is.zip xs).foldl (fun e p => e.set p.1 (some p.2)) e) else none
    | none => none
def wipeE (e : En) : List Nat → En
  | [] => e
  | v :: vs => (wipeE e vs).set v none

/-- what is around: calls, makings, methods, constants -/
structure Cxt where
  call : Str → List D → Sto → R D
  make : Str → List D → Sto → R D
  meth : Nat → Str → List D → Sto → R D
  con : Str → Option D
  cds : Nat → List (Str × D)

/-- a comprehension's loop -/
noncomputable def lcLoop (it : It) (body : D → Sto → R (Option D)) (p : Nat) : List D → Sto → R Unit
  | [], S => if it.still S = true then .ok () S else .bad
  | x :: xs, S => if it.still S = true then (body x S).bind fun y S1 => match y with
      | none => lcLoop it body p xs S1
      | some y => match S1[p]? with
        | some (.lst acc) => if acc.length < sizeLine then lcLoop it body p xs (S1.set p (.lst (acc ++ [y]))) else .bad
        | _ => .bad
    else .bad

/-- the outer loop of two clauses -/
noncomputable def lc2Loop (it : It) (body : D → Sto → R Unit) : List D → Sto → R Unit
  | [], S => if it.still S = true then .ok () S else .bad
  | x :: xs, S => if it.still S = true then (body x S).bind fun _ S1 => lc2Loop it body xs S1 else .bad
def partR (x : D) (S : Sto) : R (Option Int) :=
  match x with
  | .int i => .ok (some i) S
  | _ => .bad
/-- an expression as a value and as a test -/
structure Ev where
  v : En → Sto → R D
  t : En → Sto → R Bool
/-- a test is the truth of the value -/
def Ev.of (v : En → Sto → R D) : Ev := ⟨v, fun e S => (v e S).bind fun x S1 => truthR x S1⟩
def isNop : E → Bool
  | .nop => true
  | _ => false
variable (C : Cxt)
mutual
noncomputable def ev : E → Ev
  | .var i => .of fun e S => optR ((e[i]?).bind id) S
  | .int i => .of fun _ S => .ok (.int i) S
  | .str s => .of fun _ S => .ok (.str s) S
  | .bl b => .of fun _ S => .ok (.bl b) S
  | .non => .of fun _ S => .ok .non S
  | .con x => .of fun _ S => optR (C.con x) S
  | .bin op a b => .of fun e S => ((ev a).v e S).bind fun x S1 => ((ev b).v e S1).bind fun y S2 => binD op x y S2
  | .neg a => .of fun e S => ((ev a).v e S).bind fun x S1 => match x with
    | .int i => .ok (.int (-i)) S1
    | _ => .bad
  | .cmp op a b => .of fun e S => ((ev a).v e S).bind fun x S1 => ((ev b).v e S1).bind fun y S2 => cmpD C.cds op x y S2
  | .chn o1 o2 a b c => .of fun e S => ((ev a).v e S).bind fun x S1 => ((ev b).v e S1).bind fun y S2 => (cmpD C.cds o1 x y S2).bind fun z S3 => match z with
    | .bl true => ((ev c).v e S3).bind fun w S4 => cmpD C.cds o2 y w S4
    | .bl false => .ok (.bl false) S3
    | _ => .bad
  | .and es => ⟨evAndV es, evAnd es⟩
  | .or es => ⟨evOrV es, evOr es⟩
  | .not a => ⟨fun e S => ((ev a).v e S).bind fun x S1 => match x with
    | .bl b => .ok (.bl (!b)) S1
    | _ => .bad, fun e S => ((ev a).t e S).bind fun b S1 => .ok (!b) S1⟩
  | .ife c a b => .of fun e S => ((ev c).t e S).bind fun t S1 => if t = true then (ev a).v e S1 else (ev b).v e S1
  | .call f es => .of fun e S => (evEs es e S).bind fun vs S1 => C.call f vs S1
  | .make c es => .of fun e S => (evEs es e S).bind fun vs S1 => C.make c vs S1
  | .meth m o es => .of fun e S => ((ev o).v e S).bind fun x S1 => match x with
    | .ref a => match S1[a]? with
      | some (.ins c fs) => match fs.lookup m with
        | none => (evEs es e S1).bind fun vs S2 => C.meth c m (.ref a :: vs) S2
        | some _ => .bad
      | _ => .bad
    | _ => .bad
  | .fld o f => .of fun e S => ((ev o).v e S).bind fun x S1 => fldD x f S1
  | .sub a b => .of fun e S => ((ev a).v e S).bind fun x S1 => ((ev b).v e S1).bind fun y S2 => subD C.cds x y S2
  | .slc a lo hi => .of fun e S => ((ev a).v e S).bind fun x S1 => (if isNop lo = true then .ok none S1 else ((ev lo).v e S1).bind fun l S2 => partR l S2).bind fun l S2 =>
      (if isNop hi = true then .ok none S2 else ((ev hi).v e S2).bind fun h S3 => partR h S3).bind fun h S3 => slcD x l h S3
  | .rev a => .of fun e S => ((ev a).v e S).bind fun x S1 => revD x S1
  | .nop => .of fun _ _ => .bad
  | .tup es => .of fun e S => (evEs es e S).bind fun vs S1 => .ok (.tup vs) S1
  | .lst es => .of fun e S => (evEs es e S).bind fun vs S1 => .ok (.ref S1.length) (S1 ++ [.lst vs])
  | .dK => .of fun _ S => .ok (.ref S.length) (S ++ [.dK []])
  | .dT => .of fun _ S => .ok (.ref S.length) (S ++ [.dT []])
  | .bm m o es => .of fun e S => ((ev o).v e S).bind fun x S1 => if bmPre m x S1 = true then (evEs es e S1).bind fun vs S2 => bmD m x vs S2 else .bad
  | .bf f es => .of fun e S => (evEs es e S).bind fun vs S1 => bfD f vs S1
  | .isi a ty => .of fun e S => ((ev a).v e S).bind fun x S1 => optR ((isiD ty x).map .bl) S1
  | .lc t it c a own => .of fun e S => (evI it e S).bind fun J S1 =>
      (lcLoop J (fun x S2 => match setTg t x (wipeE e own) S2 with
        | none => .bad
        | some e2 => (if isNop c = true then .ok true S2 else (ev c).t e2 S2).bind fun b S3 => if b = true then ((ev a).v e2 S3).bind fun y S4 => .ok (some y) S4 else .ok none S3)
        S1.length J.items (S1 ++ [.lst []])).bind fun _ S5 => .ok (.ref S1.length) S5
  | .lc2 t it t1 it1 a own own1 => .of fun e S => (evI it e S).bind fun J S1 =>
      (lc2Loop J (fun x S2 => match setTg t x (wipeE e own) S2 with
        | none => .bad
        | some e2 => (evI it1 e2 S2).bind fun J1 S3 =>
          lcLoop J1 (fun x S4 => match setTg t1 x (wipeE e2 own1) S4 with
            | none => .bad
            | some e3 => (R.ok true S4).bind fun b S5 => if b = true then ((ev a).v e3 S5).bind fun y S6 => .ok (some y) S6 else .ok none S5) S1.length J1.items S3)
        J.items (S1 ++ [.lst []])).bind fun _ S5 => .ok (.ref S1.length) S5
noncomputable def evEs : Es → En → Sto → R (List D)
  | .nil => fun _ S => .ok [] S
  | .cons a as => fun e S => ((ev a).v e S).bind fun x S1 => (evEs as e S1).bind fun xs S2 => .ok (x :: xs) S2
noncomputable def evAnd : Es → En → Sto → R Bool
  | .nil => fun _ S => .ok true S
  | .cons a as => fun e S => ((ev a).t e S).bind fun b S1 => if b = true then evAnd as e S1 else .ok false S1
noncomputable def evOr : Es → En → Sto → R Bool
  | .nil => fun _ S => .ok false S
  | .cons a as => fun e S => ((ev a).t e S).bind fun b S1 => if b = true then .ok true S1 else evOr as e S1
/-- as values: all of them truth values, but for the last one -/
noncomputable def evAndV : Es → En → Sto → R D
  | .nil => fun _ _ => .bad
  | .cons a .nil => fun e S => (ev a).v e S
  | .cons a as => fun e S => ((ev a).v e S).bind fun x S1 => match x with
    | .bl true => evAndV as e S1
    | .bl false => .ok (.bl false) S1
    | _ => .bad
noncomputable def evOrV : Es → En → Sto → R D
  | .nil => fun _ _ => .bad
  | .cons a .nil => fun e S => (ev a).v e S
  | .cons a as => fun e S => ((ev a).v e S).bind fun x S1 => match x with
    | .bl true => .ok (.bl true) S1
    | .bl false => evOrV as e S1
    | _ => .bad
noncomputable def evI : I → En → Sto → R It
  | .seq a => fun e S => ((ev a).v e S).bind fun x S1 => seqIt x S1
  | .rng es => fun e S => (evEs es e S).bind fun xs S1 => rngIt xs S1
  | .enum a => fun e S => ((ev a).v e S).bind fun x S1 => enumIt x S1
termination_by structural x => x
end
/-! ### statements -/
/-- how a statement ends -/
inductive Out where
  | nx (e : En) | ret (v : D) | cnt (e : En)
def augD (op : Operator) (x y : D) (S : Sto) : R D :=
  match op, x, y with
  | .Add, .int i, .int j => .ok (.int (i + j)) S
  | .Sub, .int i, .int j => .ok (.int (i - j)) S
  | _, _, _ => .bad
noncomputable def whileN (t : En → Sto → R Bool) (b : En → Sto → R Out) : Nat → En → Sto → R Out
  | 0, _, _ => .bad
  | n + 1, e, S => (t e S).bind fun c S1 => if c = true then (b e S1).bind fun o S2 => match o with
      | .nx e2 => whileN t b n e2 S2
      | .cnt e2 => whileN t b n e2 S2
      | .ret v => .ok (.ret v) S2
    else .ok (.nx e) S1
theorem whileN_succ (t : En → Sto → R Bool) (b : En → Sto → R Out) : ∀ (n : Nat) (e : En) (S : Sto) (o : Out) (S' : Sto), whileN t b n e S = .ok o S' → whileN t b (n + 1) e S = .ok o S'
  | 0, e, S, o, S', h => by cases h
  | n + 1, e, S, o, S', h => by
    obtain ⟨c, S1, h1, h2⟩ := R.bind_eq h
    unfold whileN
    rw [h1]
    cases c with
    | false => exact h2
    | true =>
      obtain ⟨o2, S2, h3, h4⟩ := R.bind_eq h2
      show (b e S1).bind _ = _
      rw [h3]
      cases o2 with
      | nx e2 => exact whileN_succ t b n e2 S2 o S' h4
      | cnt e2 => exact whileN_succ t b n e2 S2 o S' h4
      | ret v => exact h4
theorem whileN_le {t : En → Sto → R Bool} {b : En → Sto → R Out} {n m : Nat} {e : En} {S : Sto} {o : Out} {S' : Sto} (hnm : n ≤ m) (h : whileN t b n e S = .ok o S') : whileN t b m e S = .ok o S' := by
  induction hnm with
  | refl => exact h
  | step _ ih => exact whileN_succ t b _ e S o S' ih
open Classical in
/-- as many turns as it takes -/
noncomputable def whileX (t : En → Sto → R Bool) (b : En → Sto → R Out) (e : En) (S : Sto) : R Out := if h : ∃ n o S', whileN t b n e S = .ok o S' then whileN t b (Classical.choose h) e S else .bad
theorem whileX_eq {t : En → Sto → R Bool} {b : En → Sto → R Out} {e : En} {S : Sto} {o : Out} {S' : Sto} (h : whileX t b e S = .ok o S') : ∃ n, whileN t b n e S = .ok o S' := by
  unfold whileX at h
  split at h
  · exact ⟨_, h⟩
  · cases h
theorem whileX_of {t : En → Sto → R Bool} {b : En → Sto → R Out} {n : Nat} {e : En} {S : Sto} {o : Out} {S' : Sto} (h : whileN t b n e S = .ok o S') : whileX t b e S = .ok o S' := by
  have hx : ∃ n o S', whileN t b n e S = .ok o S' := ⟨n, o, S', h⟩
  unfold whileX
  rw [dif_pos hx]
  obtain ⟨o2, S2, h2⟩ := Classical.choose_spec hx
  have a := whileN_le (Nat.le_max_left n (Classical.choose hx)) h
  have b := whileN_le (Nat.le_max_right n (Classical.choose hx)) h2
  rw [a] at b
  rw [h2, ← b]
noncomputable def forL (it : It) (t : Tg) (b : En → Sto → R Out) : List D → En → Sto → R Out
  | [], e, S => if it.still S = true then .ok (.nx e) S else .bad
  | x :: xs, e, S => if it.still S = true then match setTg t x e S with
      | none => .bad
      | some e1 => (b e1 S).bind fun o S2 => match o with
        | .nx e2 => forL it t b xs e2 S2
        | .cnt e2 => forL it t b xs e2 S2
        | .ret v => .ok (.ret v) S2
    else .bad
/-- a store to a target -/
noncomputable def setT (t : T) (v : D) (e : En) (S : Sto) : R En :=
  match t with
  | .nm i => optR (setTg (.nm i) v e S) S
  | .tp is => optR (setTg (.tp is) v e S) S
  | .fld o f => ((ev C o).v e S).bind fun x S1 => (setF x f v S1).bind fun _ S2 => .ok e S2
  | .sub o i => ((ev C o).v e S).bind fun x S1 => ((ev C i).v e S1).bind fun y S2 => (setD x y v S2).bind fun _ S3 => .ok e S3
mutual
noncomputable def evS : Sm → En → Sto → R Out
  | .exp a => fun e S => ((ev C a).v e S).bind fun _ S1 => .ok (.nx e) S1
  | .asg t a => fun e S => ((ev C a).v e S).bind fun v S1 => (setT C t v e S1).bind fun e2 S2 => .ok (.nx e2) S2
  | .par i j a b => fun e S => ((ev C a).v e S).bind fun x S1 => ((ev C b).v e S1).bind fun y S2 =>
      if i < e.length ∧ j < e.length then .ok (.nx ((e.set i (some x)).set j (some y))) S2 else .bad
  | .aug i op a => fun e S => (optR ((e[i]?).bind id) S).bind fun x S0 => ((ev C a).v e S0).bind fun y S1 => (augD op x y S1).bind fun z S2 => .ok (.nx (e.set i (some z))) S2
  | .faug o f op a => fun e S => ((ev C o).v e S).bind fun x S1 => (fldD x f S1).bind fun v S2 => ((ev C a).v e S2).bind fun y S3 =>
      (augD op v y S3).bind fun z S4 => if clsD x S4 = clsD x S2 then (setF x f z S4).bind fun _ S5 => .ok (.nx e) S5 else .bad
  | .ifs c a b => fun e S => ((ev C c).t e S).bind fun t S1 => if t = true then evSs a e S1 else evSs b e S1
  | .whl c b => fun e S => whileX (ev C c).t (evSs b) e S
  | .for_ t it b => fun e S => (evI C it e S).bind fun J S1 => forL J t (evSs b) J.items e S1
  | .ret a => fun e S => ((ev C a).v e S).bind fun v S1 => .ok (.ret v) S1
  | .retN => fun _ S => .ok (.ret .non) S
  | .pas => fun e S => .ok (.nx e) S
  | .cnt => fun e S => .ok (.cnt e) S
  | .never => fun _ _ => .bad
noncomputable def evSs : Sms → En → Sto → R Out
  | .nil => fun e S => .ok (.nx e) S
  | .cons s ss => fun e S => (evS s e S).bind fun o S1 => match o with
    | .nx e2 => evSs ss e2 S1
    | .ret v => .ok (.ret v) S1
    | .cnt e2 => .ok (.cnt e2) S1
termination_by structural x => x
end
/-- a def: how many parameters, how many names, its body -/
structure Fn where
  np : Nat
  nn : Nat
  body : Sms
def startE (nn : Nat) (vs : List D) : En := vs.map some ++ List.replicate (nn - vs.length) none
noncomputable def runF (f : Fn) (vs : List D) (S : Sto) : R D :=
  if vs.length = f.np then (evSs C f.body (startE f.nn vs) S).bind fun o S1 => match o with
    | .nx _ => .ok .non S1
    | .ret v => .ok v S1
    | .cnt _ => .bad
  else .bad
/-- a program: its defs, its classes (by numbers, with methods), its constants, its constant dicts -/
structure Pr where
  fns : List (Str × Fn)
  cls : List (Str × List (Str × Fn))
  con : List (Str × D)
  cds : List (List (Str × D))
/-- the class of a name: its number, its methods -/
def Pr.cl (P : Pr) (c : Str) : Option Nat := P.cls.findIdx? fun q => decide (q.1 = c)
def Pr.mt (P : Pr) (n : Nat) (m : Str) : Option Fn := (P.cls[n]?).bind fun q => q.2.lookup m
/-- what may be called with room for so many calls -/
noncomputable def cxt (P : Pr) : Nat → Cxt
  | 0 => ⟨fun _ _ _ => .bad, fun _ _ _ => .bad, fun _ _ _ _ => .bad, fun x => P.con.lookup x, fun i => P.cds.getD i []⟩
  | k + 1 => {
    call := fun f vs S => match P.fns.lookup f with
      | some fn => runF (cxt P k) fn vs S
      | none => .bad
    make := fun c vs S => match P.cl c with
      | some n => ((cxt P k).meth n "__init__" (.ref S.length :: vs) (S ++ [.ins n []])).bind fun v S1 => match v with
        | .non => .ok (.ref S.length) S1
        | _ => .bad
      | none => .bad
    meth := fun n m vs S => match P.mt n m with
      | some fn => runF (cxt P k) fn vs S
      | none => .bad
    con := fun x => P.con.lookup x
    cds := fun i => P.cds.getD i [] }
end Mi
set_option Elab.async false
set_option linter.all false
set_option maxRecDepth 100000
/-! M1: how the evaluator's data stand in the model's abstract heap, and readings that are what the evaluator says. -/
namespace Mi
open PySem PySem.Spec L2
open PyProof.Rows hiding St

/-- where the written things stand: classes by number, constant dicts by number -/
structure Wd where
  K : PySem.W.Frag
  ca : Nat → Addr
  da : Nat → Addr
  nc : Nat
/-- not what a pair as a key looks like -/
def nk : List V → Bool
  | [_, .str _] => false
  | _ => true
/-- a tuple that was made, or a written one that is no key -/
def TupAt (W : Wd) (H : Hp) (a : Addr) (ys : List V) : Prop := H a = some (.tup ys) ∨ (SqT W.K H a ys ∧ nk ys = true)
theorem TupAt.sq {W : Wd} {H : Hp} {a : Addr} {ys : List V} (h : TupAt W H a ys) : SqT W.K H a ys := h.elim SqT.of fun z => z.1
/-- a list that nobody changes -/
def LitAt (W : Wd) (H : Hp) (a : Addr) (ys : List V) : Prop := (∃ ob, H a = some (.frz ob (.lst ys))) ∨ SqL W.K (fun _ => none) a ys
theorem LitAt.sq {W : Wd} {H : Hp} {a : Addr} {ys : List V} (h : LitAt W H a ys) : SqL W.K H a ys := by
  rcases h with ⟨ob, h⟩ | (h | ⟨ob, h⟩) | h
  · exact .inl (.inr ⟨ob, h⟩)
  · cases h
  · cases h
  · exact .inr h
mutual
inductive VR (W : Wd) (m : List Addr) (H : Hp) : D → V → Prop
  | non : VR W m H .non .non
  | bl (b : Bool) : VR W m H (.bl b) (.bl b)
  | int (i : Int) : VR W m H (.int i) (.int i)
  | str (x : Str) : VR W m H (.str x) (.str x)
  | tup {a : Addr} {xs : List D} {ys : List V} : TupAt W H a ys → VRs W m H xs ys → VR W m H (.tup xs) (.ref a)
  | lit {a : Addr} {xs : List D} {ys : List V} : LitAt W H a ys → VRs W m H xs ys → VR W m H (.lit xs) (.ref a)
  | ref {i : Nat} {a : Addr} : m[i]? = some a → VR W m H (.ref i) (.ref a)
  | cd (i : Nat) : VR W m H (.cd i) (.ref (W.da i))
inductive VRs (W : Wd) (m : List Addr) (H : Hp) : List D → List V → Prop
  | nil : VRs W m H [] []
  | cons {x : D} {y : V} {xs : List D} {ys : List V} : VR W m H x y → VRs W m H xs ys → VRs W m H (x :: xs) (y :: ys)
end
/-- the heap has grown, or tracked things were written -/
structure Ext (m : List Addr) (H : Hp) (m' : List Addr) (H' : Hp) : Prop where
  pre : ∃ r, m' = m ++ r
  tup : ∀ a xs, H a = some (.tup xs) → H' a = some (.tup xs)
  frz : ∀ a o u, H a = some (.frz o u) → H' a = some (.frz o u)
section
variable {W : Wd} {m m' m2 : List Addr} {H H' H2 : Hp}
theorem Ext.refl : Ext m H m H := ⟨⟨[], by simp⟩, fun _ _ h => h, fun _ _ _ h => h⟩
theorem Ext.trans (x : Ext m H m' H') (y : Ext m' H' m2 H2) : Ext m H m2 H2 := by
  obtain ⟨r, e⟩ := x.pre
  obtain ⟨q, e'⟩ := y.pre
  exact ⟨⟨r ++ q, by rw [e', e, List.append_assoc]⟩, fun a xs h => y.tup a xs (x.tup a xs h), fun a o u h => y.frz a o u (x.frz a o u h)⟩
theorem Ext.sqT (x : Ext m H m' H') {K : PySem.W.Frag} {a : Addr} {xs : List V} (h : SqT K H a xs) : SqT K H' a xs := by
  rcases h with (h | ⟨o, h⟩) | h
  · exact .inl (.inl (x.tup a xs h))
  · exact .inl (.inr ⟨o, x.frz a o _ h⟩)
  · exact .inr h
theorem Ext.tupAt (x : Ext m H m' H') {a : Addr} {xs : List V} (h : TupAt W H a xs) : TupAt W H' a xs := h.elim (fun z => .inl (x.tup a xs z)) fun z => .inr ⟨x.sqT z.1, z.2⟩
theorem Ext.litAt (x : Ext m H m' H') {a : Addr} {xs : List V} (h : LitAt W H a xs) : LitAt W H' a xs := h.elim (fun ⟨ob, z⟩ => .inl ⟨ob, x.frz a ob _ z⟩) .inr
theorem Ext.get (x : Ext m H m' H') {i : Nat} {a : Addr} (h : m[i]? = some a) : m'[i]? = some a := by
  obtain ⟨r, e⟩ := x.pre
  rw [e, List.getElem?_append_left (List.getElem?_eq_some_iff.mp h).1, h]
mutual
theorem VR.mono (x : Ext m H m' H') : ∀ (d : D) (v : V), VR W m H d v → VR W m' H' d v
  | .non, _, h => by
    cases h
    exact .non
  | .bl b, _, h => by
    cases h
    exact .bl b
  | .int b, _, h => by
    cases h
    exact .int b
  | .str b, _, h => by
    cases h
    exact .str b
  | .tup xs, _, h => by
    cases h with
    | tup h1 h2 => exact .tup (x.tupAt h1) (VRs.mono x xs _ h2)
  | .lit xs, _, h => by
    cases h with
    | lit h1 h2 => exact .lit (x.litAt h1) (VRs.mono x xs _ h2)
  | .ref i, _, h => by
    cases h with
    | ref h1 => exact .ref (x.get h1)
  | .cd b, _, h => by
    cases h
    exact .cd b
theorem VRs.mono (x : Ext m H m' H') : ∀ (d : List D) (v : List V), VRs W m H d v → VRs W m' H' d v
  | [], _, h => by
    cases h
    exact .nil
  | d :: ds, _, h => by
    cases h with
    | cons h1 h2 => exact .cons (VR.mono x d _ h1) (VRs.mono x ds _ h2)
end
theorem VR.to (x : Ext m H m' H') {d : D} {v : V} (h : VR W m H d v) : VR W m' H' d v := VR.mono x d v h
theorem VRs.to (x : Ext m H m' H') {d : List D} {v : List V} (h : VRs W m H d v) : VRs W m' H' d v := VRs.mono x d v h
theorem VRs.length : ∀ {d : List D} {v : List V}, VRs W m H d v → d.length = v.length
  | [], _, h => by
    cases h
    rfl
  | d :: ds, _, h => by
    cases h with
    | cons h1 h2 => rw [List.length_cons, List.length_cons, VRs.length h2]
theorem VRs.get : ∀ {d : List D} {v : List V} {i : Nat} {x : D}, VRs W m H d v → d[i]? = some x → ∃ y, v[i]? = some y ∧ VR W m H x y
  | [], _, i, x, h, e => by simp at e
  | d :: ds, _, 0, x, h, e => by
    cases h with
    | cons h1 h2 =>
      simp at e
      subst e
      exact ⟨_, rfl, h1⟩
  | d :: ds, _, i + 1, x, h, e => by
    cases h with
    | cons h1 h2 =>
      obtain ⟨y, e1, r⟩ := VRs.get (i := i) h2 (by simpa using e)
      exact ⟨y, by simpa using e1, r⟩
theorem VRs.append : ∀ {d d' : List D} {v v' : List V}, VRs W m H d v → VRs W m H d' v' → VRs W m H (d ++ d') (v ++ v')
  | [], _, _, _, h, h' => by
    cases h
    exact h'
  | d :: ds, _, _, _, h, h' => by
    cases h with
    | cons h1 h2 => exact .cons h1 (VRs.append h2 h')
theorem VRs.drop : ∀ {d : List D} {v : List V} (n : Nat), VRs W m H d v → VRs W m H (d.drop n) (v.drop n)
  | [], _, n, h => by
    cases h
    simp
    exact .nil
  | d :: ds, _, 0, h => h
  | d :: ds, _, n + 1, h => by
    cases h with
    | cons h1 h2 => simpa using VRs.drop n h2
theorem VRs.take : ∀ {d : List D} {v : List V} (n : Nat), VRs W m H d v → VRs W m H (d.take n) (v.take n)
  | [], _, n, h => by
    cases h
    simp
    exact .nil
  | d :: ds, _, 0, h => by
    simp
    exact .nil
  | d :: ds, _, n + 1, h => by
    cases h with
    | cons h1 h2 =>
      rw [List.take_succ_cons, List.take_succ_cons]
      exact .cons h1 (VRs.take n h2)
theorem VRs.reverse {d : List D} {v : List V} (h : VRs W m H d v) : VRs W m H d.reverse v.reverse := by
  induction d generalizing v with
  | nil =>
    cases h
    exact .nil
  | cons x xs ih =>
    cases h with
    | cons h1 h2 =>
      rw [List.reverse_cons, List.reverse_cons]
      exact (ih h2).append (.cons h1 .nil)
theorem VRs.set : ∀ {d : List D} {v : List V} (n : Nat) {x : D} {y : V}, VR W m H x y → VRs W m H d v → VRs W m H (d.set n x) (v.set n y)
  | [], _, n, _, _, _, h => by
    cases h
    exact .nil
  | d :: ds, _, 0, _, _, r, h => by
    cases h with
    | cons h1 h2 => exact .cons r h2
  | d :: ds, _, n + 1, _, _, r, h => by
    cases h with
    | cons h1 h2 => exact .cons h1 (VRs.set n r h2)
theorem VRs.dropLast {d : List D} {v : List V} (h : VRs W m H d v) : VRs W m H d.dropLast v.dropLast := by
  rw [List.dropLast_eq_take, List.dropLast_eq_take, h.length]
  exact h.take _
end

/-- a dict's pairs -/
def KR (W : Wd) (m : List Addr) (H : Hp) {κ : Type} : List (κ × D) → List (κ × V) → Prop := Paired fun p q => p.1 = q.1 ∧ VR W m H p.2 q.2
def ORl (W : Wd) (m : List Addr) (H : Hp) (a : Addr) : O → Prop
  | .lst xs => ∃ ys, H a = some (.lst ys) ∧ VRs W m H xs ys
  | .dK kvs => ∃ kws, H a = some (.dK kws) ∧ KR W m H kvs kws
  | .dT kvs => ∃ kws, H a = some (.dT kws) ∧ KR W m H kvs kws
  | .ins c fs => c < W.nc ∧ ∃ dx gs, H a = some (.ins (W.ca c) dx gs) ∧ KR W m H fs gs
structure Rep (W : Wd) (m : List Addr) (H : Hp) (S : Sto) : Prop where
  len : m.length = S.length
  nd : m.Nodup
  obj : ∀ (i : Nat) (a : Addr) (o : O), m[i]? = some a → S[i]? = some o → ORl W m H a o
section
variable {W : Wd} {m m' m2 : List Addr} {H H' H2 : Hp} {S : Sto}
theorem KR.to {κ : Type} (x : Ext m H m' H') {d : List (κ × D)} {v : List (κ × V)} (h : KR W m H d v) : KR W m' H' d v := Paired.mapP h fun _ _ z => ⟨z.1, z.2.to x⟩
theorem Rep.at (r : Rep W m H S) {i : Nat} {o : O} (h : S[i]? = some o) : ∃ a, m[i]? = some a ∧ ORl W m H a o := by
  have hi := (List.getElem?_eq_some_iff.mp h).1
  have hi' : i < m.length := by rw [r.len]; exact hi
  have e : m[i]? = some m[i] := List.getElem?_eq_getElem hi'
  exact ⟨_, e, r.obj i _ o e h⟩
theorem Rep.there (r : Rep W m H S) {i : Nat} {a : Addr} (h : m[i]? = some a) : ∃ o, H a = some o := by
  have hi := (List.getElem?_eq_some_iff.mp h).1
  have hi' : i < S.length := by rw [← r.len]; exact hi
  have e : S[i]? = some S[i] := List.getElem?_eq_getElem hi'
  have q := r.obj i a _ h e
  cases hS : S[i] with
  | lst xs =>
    rw [hS] at q
    obtain ⟨_, q, _⟩ := q
    exact ⟨_, q⟩
  | dK xs =>
    rw [hS] at q
    obtain ⟨_, q, _⟩ := q
    exact ⟨_, q⟩
  | dT xs =>
    rw [hS] at q
    obtain ⟨_, q, _⟩ := q
    exact ⟨_, q⟩
  | ins c fs =>
    rw [hS] at q
    obtain ⟨_, _, _, q, _⟩ := q
    exact ⟨_, q⟩
theorem ORl.to (x : Ext m H m' H') {a : Addr} (ha : H' a = H a) : ∀ {o : O}, ORl W m H a o → ORl W m' H' a o
  | .lst xs, ⟨ys, e, r⟩ => ⟨ys, ha.trans e, r.to x⟩
  | .dK xs, ⟨ys, e, r⟩ => ⟨ys, ha.trans e, r.to x⟩
  | .dT xs, ⟨ys, e, r⟩ => ⟨ys, ha.trans e, r.to x⟩
  | .ins c xs, ⟨hc, dx, ys, e, r⟩ => ⟨hc, dx, ys, ha.trans e, r.to x⟩
theorem ext_new {p : Addr} {o : HO} (hp : H p = none) : Ext m H m (upd H p o) :=
  ⟨⟨[], by simp⟩, fun a xs h => by rw [upd_ne (ne_of_none h hp)]; exact h, fun a ob u h => by rw [upd_ne (ne_of_none h hp)]; exact h⟩
/-- a thing is laid that is no object of the store -/
theorem Rep.lay (r : Rep W m H S) {p : Addr} {o : HO} (hp : H p = none) : Rep W m (upd H p o) S :=
  ⟨r.len, r.nd, fun i a ob e1 e2 => by
    obtain ⟨u, hu⟩ := r.there e1
    exact (r.obj i a ob e1 e2).to (ext_new hp) (upd_ne (ne_of_none hu hp))⟩
/-- a new object of the store -/
theorem Rep.new (r : Rep W m H S) {p : Addr} {o : HO} {ob : O} (hp : H p = none) (h : ORl W (m ++ [p]) (upd H p o) p ob) : Rep W (m ++ [p]) (upd H p o) (S ++ [ob]) ∧ Ext m H (m ++ [p]) (upd H p o) := by
  have x : Ext m H (m ++ [p]) (upd H p o) :=
    ⟨⟨[p], rfl⟩, fun a xs h => by rw [upd_ne (ne_of_none h hp)]; exact h, fun a ob u h => by rw [upd_ne (ne_of_none h hp)]; exact h⟩
  refine ⟨⟨by rw [List.length_append, List.length_append, r.len]; rfl, ?_, fun i a o' e1 e2 => ?_⟩, x⟩
  · rw [List.nodup_append]
    refine ⟨r.nd, by simp, fun a ha b hb e => ?_⟩
    obtain ⟨i, hi, e1⟩ := List.mem_iff_getElem.mp ha
    obtain ⟨u, hu⟩ := r.there (i := i) (a := a) (by rw [List.getElem?_eq_getElem hi, e1])
    have e2 : b = p := by simpa using hb
    rw [e, e2, hp] at hu
    cases hu
  · by_cases hi : i < m.length
    · rw [List.getElem?_append_left hi] at e1
      rw [List.getElem?_append_left (by rw [← r.len]; exact hi)] at e2
      obtain ⟨u, hu⟩ := r.there e1
      exact (r.obj i a o' e1 e2).to x (upd_ne (ne_of_none hu hp))
    · have hi' : i = m.length := by
        have h3 := (List.getElem?_eq_some_iff.mp e1).1
        rw [List.length_append] at h3
        simp at h3
        omega
      subst hi'
      rw [List.getElem?_append_right (Nat.le_refl _), Nat.sub_self] at e1
      rw [List.getElem?_append_right (by rw [r.len]; exact Nat.le_refl _), r.len, Nat.sub_self] at e2
      simp at e1 e2
      subst e1 e2
      exact h
theorem nd_ne {i j : Nat} {a b : Addr} (nd : m.Nodup) (hi : m[i]? = some a) (hj : m[j]? = some b) (h : i ≠ j) : a ≠ b := by
  intro e
  subst e
  obtain ⟨h1, e1⟩ := List.getElem?_eq_some_iff.mp hi
  obtain ⟨h2, e2⟩ := List.getElem?_eq_some_iff.mp hj
  exact h ((List.getElem_inj nd).mp (e1.trans e2.symm))
/-- an object of the store is written -/
theorem Rep.put (r : Rep W m H S) {i : Nat} {a : Addr} {u o : HO} {ob : O} (hi : m[i]? = some a) (hu : H a = some u) (mu : ∀ xs, u ≠ .tup xs) (mf : ∀ b v, u ≠ .frz b v) (h : ORl W m (upd H a o) a ob) :
    Rep W m (upd H a o) (S.set i ob) ∧ Ext m H m (upd H a o) := by
  have x : Ext m H m (upd H a o) :=
    ⟨⟨[], by simp⟩, fun b xs h => by rw [upd_ne (ne_of h hu fun e => mu xs e.symm)]; exact h, fun b ob v h => by rw [upd_ne (ne_of h hu fun e => mf ob v e.symm)]; exact h⟩
  refine ⟨⟨by rw [List.length_set]; exact r.len, r.nd, fun j b o' e1 e2 => ?_⟩, x⟩
  by_cases e : j = i
  · subst e
    rw [hi] at e1
    cases e1
    rw [List.getElem?_set_self (by rw [← r.len]; exact (List.getElem?_eq_some_iff.mp hi).1)] at e2
    cases e2
    exact h
  · rw [List.getElem?_set_ne (Ne.symm e)] at e2
    exact (r.obj j b o' e1 e2).to x (upd_ne (nd_ne r.nd e1 hi e))
/-- what is to follow with a value -/
def Fin (W : Wd) (m : List Addr) (H : Hp) (S : Sto) (v : D) (Q : VK) : Prop := ∀ y H' m', Ext m H m' H' → Rep W m' H' S → VR W m' H' v y → Q y H'
theorem Fin.done {v : D} {y : V} {Q : VK} (f : Fin W m H S v Q) (r : Rep W m H S) (h : VR W m H v y) : Q y H := f y H m .refl r h
theorem Fin.tup {xs : List D} {ys : List V} {Q : VK} {p : Addr} (f : Fin W m H S (.tup xs) Q) (r : Rep W m H S) (h : VRs W m H xs ys) (hp : H p = none) : Q (.ref p) (upd H p (.tup ys)) :=
  f _ _ m (ext_new hp) (r.lay hp) (.tup (.inl upd_same) (h.to (ext_new hp)))
theorem Fin.new {o : HO} {ob : O} {Q : VK} {p : Addr} (f : Fin W m H (S ++ [ob]) (.ref S.length) Q) (r : Rep W m H S) (hp : H p = none) (h : ORl W (m ++ [p]) (upd H p o) p ob) : Q (.ref p) (upd H p o) := by
  obtain ⟨r2, x⟩ := r.new hp h
  exact f _ _ _ x r2 (.ref (by rw [← r.len]; simp))
theorem Fin.lst {xs : List D} {ys : List V} {Q : VK} {p : Addr} (f : Fin W m H (S ++ [.lst xs]) (.ref S.length) Q) (r : Rep W m H S) (h : VRs W m H xs ys) (hp : H p = none) : Q (.ref p) (upd H p (.lst ys)) :=
  f.new r hp ⟨ys, upd_same, h.to ⟨⟨[p], rfl⟩, fun b xs h => by rw [upd_ne (ne_of_none h hp)]; exact h, fun b ob v h => by rw [upd_ne (ne_of_none h hp)]; exact h⟩⟩
theorem Fin.to {v : D} {Q : VK} (f : Fin W m H S v Q) (x : Ext m H m' H') : Fin W m' H' S v Q := fun y H2 m2 x2 r h => f y H2 m2 (x.trans x2) r h
end

/-- the names -/
structure ER (W : Wd) (m : List Addr) (H : Hp) (e : En) (σ : St) : Prop where
  len : e.length = σ.length
  at_ : ∀ (i : Nat) (d : D), e[i]? = some (some d) → ∃ v, σ[i]? = some (some v) ∧ VR W m H d v
section
variable {W : Wd} {m m' m2 : List Addr} {H H' H2 : Hp} {S : Sto} {e : En} {σ : St}
theorem ER.to (x : Ext m H m' H') (r : ER W m H e σ) : ER W m' H' e σ := ⟨r.len, fun i d h => let ⟨v, e, q⟩ := r.at_ i d h; ⟨v, e, q.to x⟩⟩
theorem ER.set {d : D} {v : V} (i : Nat) (r : ER W m H e σ) (h : VR W m H d v) : ER W m H (e.set i (some d)) (σ.set i (some v)) := by
  refine ⟨by rw [List.length_set, List.length_set]; exact r.len, fun j d' q => ?_⟩
  by_cases hj : i = j
  · subst hj
    by_cases hi : i < e.length
    · rw [List.getElem?_set_self hi] at q
      cases q
      exact ⟨v, List.getElem?_set_self (by rw [← r.len]; exact hi), h⟩
    · rw [List.getElem?_eq_none (by rw [List.length_set]; omega)] at q
      cases q
  · rw [List.getElem?_set_ne hj] at q ⊢
    exact r.at_ j d' q
theorem ER.wipe (r : ER W m H e σ) : ∀ vs : List Nat, ER W m H (wipeE e vs) (wipe σ vs)
  | [] => r
  | v :: vs => by
    have ih := ER.wipe r vs
    refine ⟨by show ((wipeE e vs).set v none).length = ((L2.wipe σ vs).set v none).length; rw [List.length_set, List.length_set]; exact ih.len, fun j d q => ?_⟩
    have q : ((wipeE e vs).set v none)[j]? = some (some d) := q
    show ∃ y, ((L2.wipe σ vs).set v none)[j]? = _ ∧ _
    by_cases hj : v = j
    · subst hj
      by_cases hi : v < (wipeE e vs).length
      · rw [List.getElem?_set_self hi] at q
        cases q
      · rw [List.getElem?_eq_none (by rw [List.length_set]; omega)] at q
        cases q
    · rw [List.getElem?_set_ne hj] at q ⊢
      exact ih.at_ j d q
end
/-! ### readings that are what the evaluator says -/
def lift (W : Wd) (f : En → Sto → R D) : TE := fun σ H Q => ∃ m e S v S', ER W m H e σ ∧ Rep W m H S ∧ f e S = .ok v S' ∧ Fin W m H S' v Q
def liftT (W : Wd) (f : En → Sto → R Bool) : TT := fun σ H Q => ∃ m e S b S', ER W m H e σ ∧ Rep W m H S ∧ f e S = .ok b S' ∧ ∀ H' m', Ext m H m' H' → Rep W m' H' S' → Q b H'
def liftA (W : Wd) (f : En → Sto → R (List D)) : TA := fun σ H Q => ∃ m e S vs S', ER W m H e σ ∧ Rep W m H S ∧ f e S = .ok vs S' ∧ ∀ ys H' m', Ext m H m' H' → Rep W m' H' S' → VRs W m' H' vs ys → Q ys H'
def liftS (W : Wd) (f : En → Sto → R Out) : TS := fun D σ H => ∃ m e S o S', ER W m H e σ ∧ Rep W m H S ∧ f e S = .ok o S' ∧ (match o with
  | .nx e' => ∀ σ' H' m', Ext m H m' H' → Rep W m' H' S' → ER W m' H' e' σ' → D.nx σ' H'
  | .cnt e' => ∀ σ' H' m', Ext m H m' H' → Rep W m' H' S' → ER W m' H' e' σ' → D.ct σ' H'
  | .ret v => Fin W m H S' v D.rt)
section
variable {X : Cx} {x : Expr} {t t' : TE} {u u' : TT} {s s' : TS} {a a' : TA} {xs : List Expr} {st : Stmt} {ss : List Stmt}
theorem pe_imp (h : PE X x t) (k : ∀ σ H Q, t' σ H Q → t σ H Q) : PE X x t' := ⟨fun pins s σ H Q I q => h.run pins s σ H Q I (k σ H Q q)⟩
theorem pt_imp (h : PT X x u) (k : ∀ σ H Q, u' σ H Q → u σ H Q) : PT X x u' := ⟨fun pins s σ H Q I q => h.run pins s σ H Q I (k σ H Q q)⟩
theorem pw_imp (h : PW X x u) (k : ∀ σ H Q, u' σ H Q → u σ H Q) : PW X x u' := ⟨fun wh pins s σ H Q I q => h.run wh pins s σ H Q I (k σ H Q q)⟩
theorem pa_imp (h : PA X xs a) (k : ∀ σ H Q, a' σ H Q → a σ H Q) : PA X xs a' := ⟨fun p pins s σ H Q I q => h.run p pins s σ H Q I (k σ H Q q)⟩
theorem ps_imp (h : PS X st s) (k : ∀ D σ H, s' D σ H → s D σ H) : PS X st s' := ⟨fun pins s σ H D I q => h.run pins s σ H D I (k D σ H q)⟩
theorem pss_imp (h : PSs X ss s) (k : ∀ D σ H, s' D σ H → s D σ H) : PSs X ss s' := ⟨fun pins s σ H D I q => h.run pins s σ H D I (k D σ H q)⟩
end
end Mi
set_option Elab.async false
set_option linter.all false
set_option maxRecDepth 100000
/-! M2: the operations by values: the evaluator's against the layer's. -/
namespace Mi
open PySem PySem.Spec L2
open PyProof.Rows hiding St
/-- a two-place operation: what the evaluator says is what the reading asks -/
def S2 (W : Wd) (r : R2) (g : D → D → Sto → R D) : Prop := ∀ m H S x y X Y v S' Q, Rep W m H S → VR W m H x X → VR W m H y Y → g x y S = .ok v S' → Fin W m H S' v Q → r X Y H Q
def SA (W : Wd) (r : List V → Hp → VK → Prop) (g : List D → Sto → R D) : Prop := ∀ m H S xs Xs v S' Q, Rep W m H S → VRs W m H xs Xs → g xs S = .ok v S' → Fin W m H S' v Q → r Xs H Q
section
variable {W : Wd} {m : List Addr} {H : Hp} {S S' : Sto} {x y v : D} {X Y : V} {Q : VK}
theorem vrs1 {xs : List V} (h : VRs W m H [x] xs) : ∃ X, xs = [X] ∧ VR W m H x X := by
  cases h with
  | cons h1 h2 =>
    cases h2
    exact ⟨_, rfl, h1⟩
theorem vrs2 {xs : List V} (h : VRs W m H [x, y] xs) : ∃ X Y, xs = [X, Y] ∧ VR W m H x X ∧ VR W m H y Y := by
  cases h with
  | cons h1 h2 =>
    cases h2 with
    | cons h3 h4 =>
      cases h4
      exact ⟨_, _, rfl, h1, h3⟩
theorem vr_int {i : Int} (h : VR W m H (.int i) X) : X = .int i := by
  cases h
  rfl
theorem vr_str {i : Str} (h : VR W m H (.str i) X) : X = .str i := by
  cases h
  rfl
theorem vr_bl {i : Bool} (h : VR W m H (.bl i) X) : X = .bl i := by
  cases h
  rfl
theorem vr_non (h : VR W m H .non X) : X = .non := by
  cases h
  rfl
theorem vr_tup {xs : List D} (h : VR W m H (.tup xs) X) : ∃ a ys, X = .ref a ∧ TupAt W H a ys ∧ VRs W m H xs ys := by
  cases h with
  | tup h1 h2 => exact ⟨_, _, rfl, h1, h2⟩
theorem vr_lit {xs : List D} (h : VR W m H (.lit xs) X) : ∃ a ys, X = .ref a ∧ LitAt W H a ys ∧ VRs W m H xs ys := by
  cases h with
  | lit h1 h2 => exact ⟨_, _, rfl, h1, h2⟩
theorem vr_ref {i : Nat} (h : VR W m H (.ref i) X) : ∃ a, X = .ref a ∧ m[i]? = some a := by
  cases h with
  | ref h1 => exact ⟨_, rfl, h1⟩
theorem vr_obj {i : Nat} {o : O} (r : Rep W m H S) (h : VR W m H (.ref i) X) (e : S[i]? = some o) : ∃ a, X = .ref a ∧ m[i]? = some a ∧ ORl W m H a o := by
  obtain ⟨a, rfl, e1⟩ := vr_ref h
  exact ⟨a, rfl, e1, r.obj i a o e1 e⟩
theorem ok_inj {α : Type} {a b : α} {s t : Sto} (h : (R.ok a s : R α) = .ok b t) : a = b ∧ s = t := by
  cases h
  exact ⟨rfl, rfl⟩
theorem VRs.nil_iff {xs : List D} {ys : List V} (h : VRs W m H xs ys) : xs = [] ↔ ys = [] := by
  have := h.length
  constructor
  · rintro rfl
    exact List.eq_nil_of_length_eq_zero (by simpa using this.symm)
  · rintro rfl
    exact List.eq_nil_of_length_eq_zero (by simpa using this)

/-! ### + -/
def rAdd4 (K : PySem.W.Frag) : R2 := fun x y H Q => rI0 (fun i j => .int (i + j)) x y H Q ∨ ((∃ i j, x = .str i ∧ y = .str j ∧ i.length + j.length ≤ sizeLine ∧ Q (.str (i ++ j)) H) ∨ (rCatA K x y H Q ∨ rCat x y H Q))
theorem o_add4 {X : Cx} : OpR X (binaryOp .Add) (rAdd4 X.K) := op_add.or (op_add_str.or (op_catA.or op_cat))
theorem s_add : S2 W (rAdd4 W.K) addD := by
  intro m H S x y X Y v S' Q rp hx hy h f
  unfold addD at h
  split at h
  · obtain ⟨rfl, rfl⟩ := ok_inj h
    exact .inl ⟨_, _, vr_int hx, vr_int hy, f.done rp (.int _)⟩
  · split at h
    · obtain ⟨rfl, rfl⟩ := ok_inj h
      exact .inr (.inl ⟨_, _, vr_str hx, vr_str hy, by assumption, f.done rp (.str _)⟩)
    · cases h
  · split at h
    · rename_i xs ys hz
      obtain ⟨rfl, rfl⟩ := ok_inj h
      obtain ⟨a, as, rfl, sa, ra⟩ := vr_tup hx
      obtain ⟨b, bs, rfl, sb, rb⟩ := vr_tup hy
      refine .inr (.inr (.inl ⟨a, b, as, bs, rfl, rfl, sa.sq, sb.sq, by rw [← ra.length, ← rb.length]; exact hz, fun e => ?_, fun _ e => ?_, fun _ _ p hp => f.tup rp (ra.append rb) hp⟩))
      · have e' := ra.nil_iff.mpr e
        subst e'
        exact f.done rp (.tup sb rb)
      · have e' := rb.nil_iff.mpr e
        subst e'
        rw [List.append_nil] at f
        exact f.done rp (.tup sa ra)
    · cases h
  · split at h
    · rename_i xs ys ex ey
      split at h
      · rename_i hz
        obtain ⟨rfl, rfl⟩ := ok_inj h
        obtain ⟨a, rfl, _, as, ha, ra⟩ := vr_obj rp hx ex
        obtain ⟨b, rfl, _, bs, hb, rb⟩ := vr_obj rp hy ey
        exact .inr (.inr (.inr ⟨a, b, as, bs, rfl, rfl, ha, hb, by rw [← ra.length, ← rb.length]; exact hz, fun p hp => f.lst rp (ra.append rb) hp⟩))
      · cases h
    · cases h
  · cases h

/-! ### the other operators -/
def rSub4 : R2 := rI0 fun i j => .int (i - j)
def rMul4 : R2 := fun x y H Q => rI CMul (fun i j => .int (i * j)) x y H Q ∨ ∃ a j, x = .str a ∧ y = .int j ∧ (0 ≤ j ∧ j ≤ 100 ∧ a.length ≤ 1000) ∧ Q (.str (Txt.mul a j)) H
theorem o_mul4 {X : Cx} : OpR X (binaryOp .Mult) rMul4 := by
  refine op_mul.or ?_
  intro pins s σ H x y v u Q I rx ry h
  obtain ⟨a, j, rfl, rfl, ⟨h1, h2, h3⟩, q⟩ := h
  obtain ⟨t, rfl⟩ := rx
  obtain ⟨t', rfl⟩ := ry
  exact PySem.SB.mul (mulOk_of 1000 100 h3 h2 (by omega) (by decide) (by decide)) fun t2 k => ⟨.str _, H, I.tok _, ⟨_, rfl⟩, q⟩
theorem s_sub : S2 W rSub4 (binD .Sub) := by
  intro m H S x y X Y v S' Q rp hx hy h f
  simp only [binD] at h
  split at h <;> first | cases h | skip
  exact ⟨_, _, vr_int hx, vr_int hy, f.done rp (.int _)⟩
theorem s_mul : S2 W rMul4 (binD .Mult) := by
  intro m H S x y X Y v S' Q rp hx hy h f
  simp only [binD] at h
  split at h
  · split at h
    · obtain ⟨rfl, rfl⟩ := ok_inj h
      exact .inl ⟨_, _, vr_int hx, vr_int hy, by assumption, f.done rp (.int _)⟩
    · cases h
  · split at h
    · obtain ⟨rfl, rfl⟩ := ok_inj h
      exact .inr ⟨_, _, vr_str hx, vr_int hy, by assumption, f.done rp (.str _)⟩
    · cases h
  · cases h
theorem s_fdiv : S2 W (rI CDiv fun i j => .int (i / j)) (binD .FloorDiv) := by
  intro m H S x y X Y v S' Q rp hx hy h f
  simp only [binD] at h
  split at h <;> first | cases h | skip
  split at h <;> first | cases h | skip
  exact ⟨_, _, vr_int hx, vr_int hy, by assumption, f.done rp (.int _)⟩
theorem s_mod : S2 W (rI (fun _ j => 0 < j) fun i j => .int (i % j)) (binD .Mod) := by
  intro m H S x y X Y v S' Q rp hx hy h f
  simp only [binD] at h
  split at h <;> first | cases h | skip
  split at h <;> first | cases h | skip
  exact ⟨_, _, vr_int hx, vr_int hy, by assumption, f.done rp (.int _)⟩
theorem s_pow : S2 W (rI CPow fun i j => .int (i ^ j.toNat)) (binD .Pow) := by
  intro m H S x y X Y v S' Q rp hx hy h f
  simp only [binD] at h
  split at h <;> first | cases h | skip
  split at h <;> first | cases h | skip
  exact ⟨_, _, vr_int hx, vr_int hy, by assumption, f.done rp (.int _)⟩
/-- any operator -/
def rBin (K : PySem.W.Frag) : Operator → R2
  | .Add => rAdd4 K
  | .Sub => rSub4
  | .Mult => rMul4
  | .FloorDiv => rI CDiv fun i j => .int (i / j)
  | .Mod => rI (fun _ j => 0 < j) fun i j => .int (i % j)
  | .Pow => rI CPow fun i j => .int (i ^ j.toNat)
  | _ => fun _ _ _ _ => False
theorem o_bin {X : Cx} : ∀ op : Operator, OpR X (binaryOp op) (rBin X.K op) := by
  intro op
  cases op <;> first
    | exact o_add4
    | exact op_sub
    | exact o_mul4
    | exact op_fdiv
    | exact op_mod
    | exact op_pow
    | exact fun _ _ _ _ _ _ _ _ _ _ _ _ h => h.elim
theorem s_bin : ∀ op : Operator, S2 W (rBin W.K op) (binD op) := by
  intro op
  cases op <;> first
    | exact s_add
    | exact s_sub
    | exact s_mul
    | exact s_fdiv
    | exact s_mod
    | exact s_pow
    | exact fun _ _ _ _ _ _ _ _ _ _ _ _ _ h _ => by cases h

/-! ### == -/
mutual
theorem dp_of : ∀ (d : D) (v : V) (p : PyData), VR W m H d v → pd d = some p → Dp W.K H v p
  | .non, _, _, h, e => by
    cases h
    cases e
    exact .non
  | .bl b, _, _, h, e => by
    cases h
    cases e
    exact .bl b
  | .int b, _, _, h, e => by
    cases h
    cases e
    exact .int b
  | .str b, _, _, h, e => by
    cases h
    cases e
    exact .str b
  | .tup xs, _, _, h, e => by
    cases h with
    | tup h1 h2 =>
      have e : (pds xs).map PyData.tuple = some _ := e
      cases q : pds xs with
      | none =>
        rw [q] at e
        cases e
      | some ds =>
        rw [q] at e
        cases e
        exact .tup h1.sq (dps_of xs _ ds h2 q)
  | .ref _, _, _, _, e => by cases e
  | .cd _, _, _, _, e => by cases e
theorem dps_of : ∀ (d : List D) (v : List V) (p : List PyData), VRs W m H d v → pds d = some p → DpAll W.K H v p
  | [], _, _, h, e => by
    cases h
    cases e
    exact .nil
  | x :: xs, _, _, h, e => by
    cases h with
    | cons h1 h2 =>
      unfold pds at e
      split at e
      · rename_i d ds e1 e2
        cases e
        exact .cons (dp_of x _ d h1 e1) (dps_of xs _ ds h2 e2)
      · cases e
end
theorem dpT_of {p : PyData} (r : Rep W m H S) (h : VR W m H x X) (e : pdT S x = some p) : Dp W.K H X p := by
  unfold pdT at e
  split at e
  · split at e
    · rename_i i xs q
      obtain ⟨a, rfl, _, ys, ha, hy⟩ := vr_obj r h q
      cases q2 : pds xs with
      | none =>
        rw [q2] at e
        cases e
      | some ds =>
        rw [q2] at e
        cases e
        exact .lst (SqL.of ha) (dps_of xs _ ds hy q2)
    · cases e
  · exact dp_of _ _ _ h e
def rEq4 (K : PySem.W.Frag) (neg : Bool) : R2 := fun x y H Q => (scal x y = true ∧ Q (.bl (if neg then !decide (x = y) else decide (x = y))) H) ∨
  ∃ d e, Dp K H x d ∧ Dp K H y e ∧ SeqAt.shaped d = true ∧ SeqAt.shaped e = true ∧ Q (.bl (if neg then !PyData.eqv d e else PyData.eqv d e)) H
theorem o_eq4 {X : Cx} (hu : X.A.units + 64 < cLine) : OpR X (compareOp .Eq) (rEq4 X.K false) := op_eq.or (op_eqD hu)
theorem o_ne4 {X : Cx} (hu : X.A.units + 64 < cLine) : OpR X (compareOp .NotEq) (rEq4 X.K true) := op_ne.or (op_neD hu)
theorem s_eq {neg : Bool} : S2 W (rEq4 W.K neg) (eqD neg) := by
  intro m H S x y X Y v S' Q rp hx hy h f
  unfold eqD at h
  split at h
  · obtain ⟨rfl, rfl⟩ := ok_inj h
    obtain rfl := vr_str hx
    obtain rfl := vr_str hy
    rename_i a b
    refine .inl ⟨rfl, ?_⟩
    have e : decide (V.str a = V.str b) = decide (a = b) := by simp
    rw [e]
    exact f.done rp (.bl _)
  · obtain ⟨rfl, rfl⟩ := ok_inj h
    obtain rfl := vr_int hx
    obtain rfl := vr_int hy
    rename_i a b
    refine .inl ⟨rfl, ?_⟩
    have e : decide (V.int a = V.int b) = decide (a = b) := by simp
    rw [e]
    exact f.done rp (.bl _)
  · split at h
    · rename_i d e hd he
      split at h
      · rename_i hs
        obtain ⟨rfl, rfl⟩ := ok_inj h
        exact .inr ⟨d, e, dpT_of rp hx hd, dpT_of rp hy he, hs.1, hs.2, f.done rp (.bl _)⟩
      · cases h
    · cases h

/-! ### is -/
def rIs4 (neg : Bool) : R2 := fun x y H Q => (y = .non ∧ Q (.bl (if neg then !decide (x = .non) else decide (x = .non))) H) ∨ ∃ a b : Bool, x = .bl a ∧ y = .bl b ∧ Q (.bl (if neg then !decide (a = b) else decide (a = b))) H
theorem o_is4 {X : Cx} : OpR X (compareOp .Is) (rIs4 false) := op_isN.or op_isBl
theorem o_isnot4 {X : Cx} : OpR X (compareOp .IsNot) (rIs4 true) := op_notN.or op_notBl
theorem s_is {neg : Bool} : S2 W (rIs4 neg) (isD neg) := by
  intro m H S x y X Y v S' Q rp hx hy h f
  unfold isD at h
  split at h
  · obtain ⟨rfl, rfl⟩ := ok_inj h
    obtain rfl := vr_non hy
    refine .inl ⟨rfl, ?_⟩
    refine (?_ : ∀ b, b = _ → Q (.bl b) H) _ rfl
    intro b e
    have q := f.done rp (.bl _)
    rw [e]
    cases hx <;> cases neg <;> exact q
  · obtain ⟨rfl, rfl⟩ := ok_inj h
    exact .inr ⟨_, _, vr_bl hx, vr_bl hy, f.done rp (.bl _)⟩
  · cases h
end
end Mi
set_option Elab.async false
set_option linter.all false
set_option maxRecDepth 100000
/-! M3: in, subscripts, slices, dicts by values. -/
namespace Mi
open PySem PySem.Spec L2
open PyProof.Rows hiding St
/-- the constant dicts stand where W says -/
structure CdOk (K : PySem.W.Frag) (w : World) (W : Wd) (cds : Nat → List (Str × D)) : Prop where
  at_ : ∀ i, cds i ≠ [] → ∃ es n, KDict K w (W.da i) es n
  none_ : ∀ i z, cds i ≠ [] → (cds i).lookup z = none → PySem.W.nsIn K (W.da i) z = some none
  some_ : ∀ i z d, (cds i).lookup z = some d → ∃ u y, PySem.W.nsIn K (W.da i) z = some (some u) ∧ RelV y u ∧ ∀ m H, VR W m H d y
theorem OpR.ex {X : Cx} {α : Type} {f : Value → Value → Sem Value} {r : α → R2} (h : ∀ i, OpR X f (r i)) : OpR X f (fun x y H Q => ∃ i, r i x y H Q) := by
  intro pins s σ H x y v u Q I rx ry q
  obtain ⟨i, q⟩ := q
  exact h i pins s σ H x y v u Q I rx ry q
section
variable {W : Wd} {m : List Addr} {H : Hp} {S S' : Sto} {x y v : D} {X Y : V} {Q : VK} {cds : Nat → List (Str × D)}
theorem flat_of (h : VR W m H x X) (f : flat x = true) : flatV X = true := by
  cases h <;> first | rfl | cases f
theorem eqF_of (hx : VR W m H x X) (hy : VR W m H y Y) (fx : flat x = true) (fy : flat y = true) : eqV Y X = eqF y x := by
  cases hx <;> first | (cases fx; done) | (cases hy <;> first | rfl | cases fy)
theorem flats_of {xs : List D} {ys : List V} (h : VRs W m H xs ys) (f : xs.all flat = true) : ys.all flatV = true := by
  induction xs generalizing ys with
  | nil =>
    cases h
    rfl
  | cons a as ih =>
    cases h with
    | cons h1 h2 =>
      rw [List.all_cons, Bool.and_eq_true] at f
      rw [List.all_cons, flat_of h1 f.1, ih h2 f.2]
      rfl
theorem any_of {xs : List D} {ys : List V} (hx : VR W m H x X) (fx : flat x = true) (h : VRs W m H xs ys) (f : xs.all flat = true) : inV X ys = xs.any fun y => eqF y x := by
  unfold inV
  induction xs generalizing ys with
  | nil =>
    cases h
    rfl
  | cons a as ih =>
    cases h with
    | cons h1 h2 =>
      rw [List.all_cons, Bool.and_eq_true] at f
      rw [List.any_cons, List.any_cons, eqF_of hx h1 fx f.1, ih h2 f.2]
theorem key_of {k : Key} (h : VR W m H x X) (e : keyD x = some k) : X = kV k := by
  cases h <;> cases e <;> rfl
theorem keys_of {xs : List D} {ys : List V} {ks : List Key} (h : VRs W m H xs ys) (e : keysD xs = some ks) : ys = ks.map kV ∧ nk ys = false := by
  unfold keysD at e
  split at e
  · rename_i a s
    obtain ⟨A, B, rfl, ra, rb⟩ := vrs2 h
    obtain rfl := vr_str rb
    cases q : keyD a with
    | none =>
      rw [q] at e
      cases e
    | some k =>
      rw [q] at e
      cases e
      rw [key_of ra q]
      exact ⟨rfl, rfl⟩
  · cases e
theorem tup_key {a : Addr} {ys : List V} (h : TupAt W H a ys) (n : nk ys = false) : H a = some (.tup ys) := by
  rcases h with h | ⟨_, h⟩
  · exact h
  · rw [n] at h
    cases h
theorem look_of {κ : Type} [DecidableEq κ] {kvs : List (κ × D)} {kws : List (κ × V)} (h : KR W m H kvs kws) (k : κ) :
    (lookK kvs k = none ∧ valV kws k = none) ∨ ∃ d y, lookK kvs k = some d ∧ valV kws k = some y ∧ VR W m H d y := by
  unfold KR at h
  induction h with
  | nil => exact .inl ⟨rfl, rfl⟩
  | @cons p q ps qs r t ih =>
    obtain ⟨k1, d1⟩ := p
    obtain ⟨k2, v2⟩ := q
    obtain ⟨e, r2⟩ := r
    have e : k1 = k2 := e
    subst e
    by_cases hk : k1 = k
    · refine .inr ⟨d1, v2, ?_, ?_, r2⟩
      · unfold lookK
        rw [List.find?_cons_of_pos (by simpa using hk)]
        rfl
      · unfold valV
        rw [List.find?_cons_of_pos (by simpa using hk)]
        rfl
    · have e1 : lookK ((k1, d1) :: ps) k = lookK ps k := by
        unfold lookK
        rw [List.find?_cons_of_neg (by simpa using hk)]
      have e2 : valV ((k1, v2) :: qs) k = valV qs k := by
        unfold valV
        rw [List.find?_cons_of_neg (by simpa using hk)]
      rw [e1, e2]
      exact ih
/-- what a tracked dict holds -/
theorem dget_of {i : Nat} {k : D} {Y : V} {o : Option D} (r : Rep W m H S) (h : VR W m H (.ref i) X) (hk : VR W m H k Y) (e : dget cds S (.ref i) k = some o) :
    ∃ a q, X = .ref a ∧ DGet H a Y q ∧ ((o = none ∧ q = none) ∨ ∃ d y, o = some d ∧ q = some y ∧ VR W m H d y) := by
  unfold dget at e
  dsimp only at e
  split at e
  · rename_i kvs q
    obtain ⟨a, rfl, _, kws, ha, kr⟩ := vr_obj r h q
    cases qk : keyD k with
    | none =>
      rw [qk] at e
      cases e
    | some kk =>
      rw [qk] at e
      cases e
      obtain rfl := key_of hk qk
      refine ⟨a, _, rfl, DGet.k ha, ?_⟩
      rcases look_of kr kk with ⟨e1, e2⟩ | ⟨d, y, e1, e2, vr⟩
      · exact .inl ⟨e1, e2⟩
      · exact .inr ⟨d, y, e1, e2, vr⟩
  · rename_i kvs q
    obtain ⟨a, rfl, _, kws, ha, kr⟩ := vr_obj r h q
    split at e
    · rename_i ks
      cases qk : keysD ks with
      | none =>
        rw [qk] at e
        cases e
      | some kk =>
        rw [qk] at e
        cases e
        obtain ⟨b, ys, rfl, sb, rb⟩ := vr_tup hk
        obtain ⟨e3, e4⟩ := keys_of rb qk
        have hb := tup_key sb e4
        rw [e3] at hb
        refine ⟨a, _, rfl, DGet.t ha hb, ?_⟩
        rcases look_of kr kk with ⟨e1, e2⟩ | ⟨d, y, e1, e2, vr⟩
        · exact .inl ⟨e1, e2⟩
        · exact .inr ⟨d, y, e1, e2, vr⟩
    · cases e
  · cases e

/-! ### in -/
def rInD (neg : Bool) : R2 := fun y x H Q => ∃ a o, x = .ref a ∧ DGet H a y o ∧ Q (.bl (if neg then !o.isSome else o.isSome)) H
theorem o_inD {X : Cx} (hu : X.A.units + 1 < cLine) : OpR X (compareOp .In) (rInD false) := by
  intro pins s σ H y x v u Q I ry rx h
  obtain ⟨a, o, rfl, g, q⟩ := h
  cases rx
  exact d_in hu I g ry fun s' I' => ⟨.bl o.isSome, H, I', rfl, q⟩
theorem o_notInD {X : Cx} (hu : X.A.units + 1 < cLine) : OpR X (compareOp .NotIn) (rInD true) := by
  intro pins s σ H y x v u Q I ry rx h
  obtain ⟨a, o, rfl, g, q⟩ := h
  cases rx
  exact d_notIn hu I g ry fun s' I' => ⟨.bl (!o.isSome), H, I', rfl, q⟩
def rInC (K : PySem.W.Frag) (W : Wd) (cds : Nat → List (Str × D)) (neg : Bool) : R2 := fun x y H Q => ∃ i : {i : Nat // cds i ≠ []}, ∃ (z : Str) (r : Option Value), x = .str z ∧ y = .ref (W.da i.1) ∧ PySem.W.nsIn K (W.da i.1) z = some r ∧ Q (.bl (if neg then !r.isSome else r.isSome)) H
theorem o_inC {X : Cx} (c : CdOk X.K X.w W cds) : OpR X (compareOp .In) (rInC X.K W cds false) := by
  refine OpR.ex fun i => ?_
  obtain ⟨es, n, D⟩ := c.at_ i.1 i.2
  exact op_in_kd D
theorem o_notInC {X : Cx} (c : CdOk X.K X.w W cds) : OpR X (compareOp .NotIn) (rInC X.K W cds true) := by
  refine OpR.ex fun i => ?_
  obtain ⟨es, n, D⟩ := c.at_ i.1 i.2
  exact op_notIn_kd D
def rInT (neg : Bool) : R2 := fun x y H Q => ∃ i j, x = .str i ∧ y = .str j ∧ Q (.bl (if neg then !inStr i j else inStr i j)) H
def rIn4 (K : PySem.W.Frag) (W : Wd) (cds : Nat → List (Str × D)) (neg : Bool) : R2 := fun x y H Q => rInT neg x y H Q ∨ (rIn K neg x y H Q ∨ (rInD neg x y H Q ∨ rInC K W cds neg x y H Q))
theorem o_in4 {X : Cx} (hu : X.A.units + 1 < cLine) (c : CdOk X.K X.w W cds) : OpR X (compareOp .In) (rIn4 X.K W cds false) := OpR.or op_in_str (OpR.or op_in_seq (OpR.or (o_inD hu) (o_inC c)))
theorem o_notIn4 {X : Cx} (hu : X.A.units + 1 < cLine) (c : CdOk X.K X.w W cds) : OpR X (compareOp .NotIn) (rIn4 X.K W cds true) := OpR.or op_notin_str (OpR.or op_notIn_seq (OpR.or (o_notInD hu) (o_notInC c)))
theorem s_inDget {w : World} {neg : Bool} {o : Option D} (c : CdOk W.K w W cds) (rp : Rep W m H S) (hx : VR W m H x X) (hy : VR W m H y Y) (ho : dget cds S y x = some o) (f : Fin W m H S (.bl (if neg = true then !o.isSome else o.isSome)) Q) :
    rInD neg X Y H Q ∨ rInC W.K W cds neg X Y H Q := by
  cases y with
  | ref i =>
    obtain ⟨a, q, rfl, g, r⟩ := dget_of rp hy hx ho
    refine .inl ⟨a, q, rfl, g, ?_⟩
    have e : o.isSome = q.isSome := by
      rcases r with ⟨rfl, rfl⟩ | ⟨d, y, rfl, rfl, _⟩ <;> rfl
    rw [← e]
    exact f.done rp (.bl _)
  | cd i =>
    cases hy
    unfold dget at ho
    dsimp only at ho
    split at ho
    · rename_i z
      obtain rfl := vr_str hx
      split at ho
      · cases ho
      · rename_i q qs hc
        cases ho
        have hne : cds i ≠ [] := by
          rw [hc]
          exact List.cons_ne_nil _ _
        rw [← hc] at f
        refine .inr ⟨⟨i, hne⟩, z, ?_⟩
        cases hl : (cds i).lookup z with
        | none =>
          rw [hl] at f
          exact ⟨none, rfl, rfl, c.none_ i z hne hl, f.done rp (.bl _)⟩
        | some d =>
          rw [hl] at f
          obtain ⟨u, y, e1, _, _⟩ := c.some_ i z d hl
          exact ⟨some u, rfl, rfl, e1, f.done rp (.bl _)⟩
    · cases ho
  | _ => cases ho
theorem s_in {w : World} {neg : Bool} (c : CdOk W.K w W cds) : S2 W (rIn4 W.K W cds neg) (inD cds neg) := by
  intro m H S x y X Y v S' Q rp hx hy h f
  unfold inD at h
  split at h
  · obtain ⟨rfl, rfl⟩ := ok_inj h
    exact .inl ⟨_, _, vr_str hx, vr_str hy, f.done rp (.bl _)⟩
  · split at h
    · rename_i hf
      obtain ⟨rfl, rfl⟩ := ok_inj h
      obtain ⟨a, ys, rfl, sa, ra⟩ := vr_tup hy
      refine .inr (.inl ⟨a, ys, rfl, .inr sa.sq, flat_of hx hf.1, flats_of ra hf.2, ?_⟩)
      rw [any_of hx hf.1 ra hf.2]
      exact f.done rp (.bl _)
    · cases h
  · split at h
    · rename_i o ho
      obtain ⟨rfl, rfl⟩ := ok_inj h
      exact .inr (.inr (s_inDget c rp hx hy ho f))
    · split at h
      · split at h
        · rename_i i _ ys hy2
          split at h
          · rename_i hf
            obtain ⟨rfl, rfl⟩ := ok_inj h
            obtain ⟨a, rfl, _, bs, hb, rb⟩ := vr_obj rp hy hy2
            refine .inr (.inl ⟨a, bs, rfl, .inl (SqL.of hb), flat_of hx hf.1, flats_of rb hf.2, ?_⟩)
            rw [any_of hx hf.1 rb hf.2]
            exact f.done rp (.bl _)
          · cases h
        · cases h
      · cases h
/-! ### any comparison -/
def rCmp (K : PySem.W.Frag) (W : Wd) (cds : Nat → List (Str × D)) : CmpOp → R2
  | .Eq => rEq4 K false
  | .NotEq => rEq4 K true
  | .Is => rIs4 false
  | .IsNot => rIs4 true
  | .In => rIn4 K W cds false
  | .NotIn => rIn4 K W cds true
  | .Lt => rI0 fun i j => .bl (decide (i < j))
  | .LtE => rI0 fun i j => .bl (decide (i ≤ j))
  | .Gt => rI0 fun i j => .bl (decide (j < i))
  | .GtE => rI0 fun i j => .bl (decide (j ≤ i))
theorem o_cmp {X : Cx} (hu : X.A.units + 64 < cLine) (c : CdOk X.K X.w W cds) (op : CmpOp) : OpR X (compareOp op) (rCmp X.K W cds op) := by
  cases op with
  | Eq => exact o_eq4 hu
  | NotEq => exact o_ne4 hu
  | Is => exact o_is4
  | IsNot => exact o_isnot4
  | In => exact o_in4 (by omega) c
  | NotIn => exact o_notIn4 (by omega) c
  | Lt => exact op_lt
  | LtE => exact op_le
  | Gt => exact op_gt
  | GtE => exact op_ge
theorem s_cmp {w : World} (c : CdOk W.K w W cds) (op : CmpOp) : S2 W (rCmp W.K W cds op) (cmpD cds op) := by
  cases op with
  | Eq => exact s_eq
  | NotEq => exact s_eq
  | Is => exact s_is
  | IsNot => exact s_is
  | In => exact s_in c
  | NotIn => exact s_in c
  | _ =>
    intro m H S x y X Y v S' Q rp hx hy h f
    simp only [cmpD] at h
    split at h <;> first | cases h | skip
    exact ⟨_, _, vr_int hx, vr_int hy, f.done rp (.bl _)⟩
end
end Mi
set_option Elab.async false
set_option linter.all false
set_option maxRecDepth 100000
/-! M4: subscripts, slices, truth, built-in functions and methods, stores, by values. -/
namespace Mi
open PySem PySem.Spec L2
open PyProof.Rows hiding St
theorem IxR.ex {X : Cx} {α : Type} {r : α → R2} (h : ∀ i, IxR X (r i)) : IxR X (fun x y H Q => ∃ i, r i x y H Q) := by
  intro value slice pins s σ H x y v u Q I rx ry q hs
  obtain ⟨i, q⟩ := q
  exact h i value slice pins s σ H x y v u Q I rx ry q hs
section
variable {W : Wd} {m : List Addr} {H : Hp} {S S' : Sto} {x y v : D} {X Y : V} {Q : VK} {cds : Nat → List (Str × D)}
theorem atI_of {xs : List D} {ys : List V} {i : Int} {d : D} (h : VRs W m H xs ys) (e : atI xs i = some d) : ∃ y, atI ys i = some y ∧ VR W m H d y := by
  unfold atI at e ⊢
  rw [← h.length]
  cases q : ixN xs.length i with
  | none =>
    rw [q] at e
    cases e
  | some j =>
    rw [q] at e
    exact h.get e
theorem optR_ok {α : Type} {o : Option α} {a : α} {s t : Sto} (h : optR o s = .ok a t) : o = some a ∧ s = t := by
  cases o with
  | none => cases h
  | some b =>
    obtain ⟨rfl, rfl⟩ := ok_inj h
    exact ⟨rfl, rfl⟩
theorem items_of {xs : List D} (rp : Rep W m H S) (h : VR W m H x X) (e : itemsD S x = some xs) : ∃ a ys, X = .ref a ∧ (SqL W.K H a ys ∨ TupAt W H a ys) ∧ VRs W m H xs ys ∧ ((∃ q, x = .tup q) → TupAt W H a ys) ∧ ((¬ ∃ q, x = .tup q) → SqL W.K H a ys) := by
  unfold itemsD at e
  split at e
  · cases e
    obtain ⟨a, ys, rfl, sa, ra⟩ := vr_tup h
    exact ⟨a, ys, rfl, .inr sa, ra, fun _ => sa, fun z => absurd ⟨_, rfl⟩ z⟩
  · cases e
    obtain ⟨a, ys, rfl, sa, ra⟩ := vr_lit h
    exact ⟨a, ys, rfl, .inl sa.sq, ra, fun ⟨_, z⟩ => (D.noConfusion z), fun _ => sa.sq⟩
  · split at e
    · rename_i i _ q
      cases e
      obtain ⟨a, rfl, _, ys, ha, ra⟩ := vr_obj rp h q
      exact ⟨a, ys, rfl, .inl (SqL.of ha), ra, fun ⟨_, z⟩ => (D.noConfusion z), fun _ => SqL.of ha⟩
    · cases e
  · cases e

/-! ### x[i] -/
def rIxDict : R2 := fun x y H Q => ∃ a v, x = .ref a ∧ DGet H a y (some v) ∧ Q v H
theorem ix_dict {X : Cx} (hu : X.A.units + 1 < cLine) : IxR X rIxDict := by
  intro value slice pins s σ H x y v u Q I rx ry h hs
  obtain ⟨a, w, rfl, g, q⟩ := h
  cases rx
  exact tail_any (dict_typeIs I g) slot_dict_getitem.lookup (d_getItem hu I g ry fun w' s' I' rw' => ⟨w, H, I', rw', q⟩) hs
def rIx4 (K : PySem.W.Frag) (w : World) : R2 := fun x y H Q => rIxS x y H Q ∨ (rIxL K x y H Q ∨ (rIxT K x y H Q ∨ (rIxDict x y H Q ∨ rIxD K w x y H Q)))
theorem o_ix4 {X : Cx} (hu : X.A.units + 1 < cLine) : IxR X (rIx4 X.K X.w) := IxR.or ix_str (IxR.or ix_list (IxR.or ix_tup (IxR.or (ix_dict hu) ix_kdict)))
theorem s_subDget {w : World} (c : CdOk W.K w W cds) (rp : Rep W m H S) (hx : VR W m H x X) (hy : VR W m H y Y) (ho : dget cds S x y = some (some v)) (f : Fin W m H S v Q) :
    rIxDict X Y H Q ∨ rIxD W.K w X Y H Q := by
  cases x with
  | ref i =>
    obtain ⟨a, q, rfl, g, r⟩ := dget_of rp hx hy ho
    rcases r with ⟨e, _⟩ | ⟨d, y2, e, rfl, r⟩
    · cases e
    · cases e
      exact .inl ⟨a, y2, rfl, g, f.done rp r⟩
  | cd i =>
    cases hx
    unfold dget at ho
    dsimp only at ho
    split at ho
    · rename_i z
      obtain rfl := vr_str hy
      split at ho
      · cases ho
      · rename_i q qs hc
        have hl : (cds i).lookup z = some v := by
          rw [hc]
          exact Option.some.inj ho
        have hne : cds i ≠ [] := by
          rw [hc]
          exact List.cons_ne_nil _ _
        obtain ⟨u, y2, e1, r1, r2⟩ := c.some_ i z v hl
        obtain ⟨es, n, Dk⟩ := c.at_ i hne
        exact .inr ⟨W.da i, z, y2, rfl, rfl, ⟨es, n, u, Dk.at_, Dk.lit, e1, r1⟩, f.done rp (r2 m H)⟩
    · cases ho
  | _ => cases ho
theorem s_sub4 {w : World} (c : CdOk W.K w W cds) : S2 W (rIx4 W.K w) (subD cds) := by
  intro m H S x y X Y v S' Q rp hx hy h f
  unfold subD at h
  split at h
  · split at h
    · rename_i z i hz
      obtain ⟨e, rfl⟩ := optR_ok h
      obtain rfl := vr_str hx
      obtain rfl := vr_int hy
      cases q : atI z.cps.toList i with
      | none =>
        rw [q] at e
        cases e
      | some c =>
        rw [q] at e
        cases e
        exact .inl ⟨z, i, c, rfl, rfl, hz, q, f.done rp (.str _)⟩
    · cases h
  · split at h
    · rename_i i _ xs hi
      obtain ⟨e, rfl⟩ := optR_ok h
      obtain ⟨a, ys, rfl, sa, ra, _⟩ := items_of rp hx hi
      obtain rfl := vr_int hy
      obtain ⟨z, hz, rz⟩ := atI_of ra e
      rcases sa with sa | sa
      · exact .inr (.inl ⟨a, ys, _, z, rfl, rfl, sa, hz, f.done rp rz⟩)
      · exact .inr (.inr (.inl ⟨a, ys, _, z, rfl, rfl, sa.sq, hz, f.done rp rz⟩))
    · split at h
      · rename_i ho
        obtain ⟨rfl, rfl⟩ := ok_inj h
        exact .inr (.inr (.inr (s_subDget c rp hx hy ho f)))
      · cases h
  · split at h
    · rename_i ho
      obtain ⟨rfl, rfl⟩ := ok_inj h
      exact .inr (.inr (.inr (s_subDget c rp hx hy ho f)))
    · cases h

/-! ### slices -/
theorem cut_of {xs : List D} {ys : List V} (h : VRs W m H xs ys) (lo hi : Option Int) : VRs W m H (cutL xs lo hi) (cutV ys lo hi) := by
  unfold cutL cutV
  rw [h.length]
  exact (h.drop _).take _
theorem cutL_all {α : Type} {xs : List α} {lo hi : Option Int} (h1 : HT.sIx xs.length 0 lo = 0) (h2 : HT.sIx xs.length xs.length hi = xs.length) : cutL xs lo hi = xs := by
  unfold cutL
  rw [h1, h2]
  simp
def rSl4 (K : PySem.W.Frag) : V → Option Int → Option Int → Hp → VK → Prop := fun x lo hi H Q => rSlL K x lo hi H Q ∨ (rSlA K x lo hi H Q ∨ rSlS x lo hi H Q)
theorem o_sl4 {X : Cx} : SlR X (rSl4 X.K) := SlR.or sl_list (SlR.or sl_tupA sl_str)
theorem s_slc {lo hi : Option Int} (rp : Rep W m H S) (hx : VR W m H x X) (h : slcD x lo hi S = .ok v S') (f : Fin W m H S' v Q) : rSl4 W.K X lo hi H Q := by
  unfold slcD at h
  split at h
  · obtain ⟨rfl, rfl⟩ := ok_inj h
    obtain ⟨a, ys, rfl, sa, ra⟩ := vr_tup hx
    refine .inr (.inl ⟨a, ys, rfl, sa.sq, fun ⟨e1, e2⟩ => ?_, fun _ p hp => f.tup rp (cut_of ra lo hi) hp⟩)
    rw [← ra.length] at e1 e2
    rw [cutL_all e1 e2] at f
    exact f.done rp (.tup sa ra)
  · obtain ⟨rfl, rfl⟩ := ok_inj h
    obtain ⟨a, ys, rfl, sa, ra⟩ := vr_lit hx
    exact .inl ⟨a, ys, rfl, sa.sq, fun p hp => f.lst rp (cut_of ra lo hi) hp⟩
  · split at h
    · obtain ⟨rfl, rfl⟩ := ok_inj h
      exact .inr (.inr ⟨_, vr_str hx, by assumption, f.done rp (.str _)⟩)
    · cases h
  · split at h
    · rename_i i _ q
      obtain ⟨rfl, rfl⟩ := ok_inj h
      obtain ⟨a, rfl, _, ys, ha, ra⟩ := vr_obj rp hx q
      exact .inl ⟨a, ys, rfl, SqL.of ha, fun p hp => f.lst rp (cut_of ra lo hi) hp⟩
    · cases h
  · cases h

/-! ### truth -/
theorem s_truth {b : Bool} (rp : Rep W m H S) (hx : VR W m H x X) (h : truth S x = some b) : TruV W.K X H b := by
  unfold truth at h
  split at h
  · cases h
    obtain rfl := vr_non hx
    rfl
  · cases h
    obtain rfl := vr_bl hx
    rfl
  · cases h
    obtain rfl := vr_int hx
    rfl
  · split at h
    · cases h
      obtain rfl := vr_str hx
      exact ⟨by assumption, rfl⟩
    · cases h
  · cases h
    obtain ⟨a, ys, rfl, sa, ra⟩ := vr_tup hx
    refine .inr (.inl ⟨ys, sa.sq, ?_⟩)
    cases ra <;> rfl
  · cases h
    obtain ⟨a, ys, rfl, sa, ra⟩ := vr_lit hx
    refine .inl ⟨ys, sa.sq, ?_⟩
    cases ra <;> rfl
  · split at h
    · rename_i i _ q
      cases h
      obtain ⟨a, rfl, _, ys, ha, ra⟩ := vr_obj rp hx q
      refine .inl ⟨ys, SqL.of ha, ?_⟩
      cases ra <;> rfl
    · rename_i i _ q
      cases h
      obtain ⟨a, rfl, _, ys, ha, ra⟩ := vr_obj rp hx q
      refine .inr (.inr ⟨ys, ha, ?_⟩)
      cases ra <;> rfl
    · cases h
  · cases h

/-! ### built-in functions -/
theorem ints_of : ∀ {xs : List D} {ys : List V} {is : List Int}, VRs W m H xs ys → intsOf xs = some is → ys = is.map V.int
  | [], _, _, h, e => by
    cases h
    cases e
    rfl
  | x :: xs, _, _, h, e => by
    cases h with
    | cons h1 h2 =>
      cases x with
      | int i =>
        have e : (intsOf xs).map (i :: ·) = some _ := e
        cases q : intsOf xs with
        | none =>
          rw [q] at e
          cases e
        | some js =>
          rw [q] at e
          cases e
          rw [vr_int h1, ints_of h2 q]
          rfl
      | _ => cases e
theorem bls_of : ∀ {xs : List D} {ys : List V} {is : List Bool}, VRs W m H xs ys → blsOf xs = some is → ys = is.map V.bl
  | [], _, _, h, e => by
    cases h
    cases e
    rfl
  | x :: xs, _, _, h, e => by
    cases h with
    | cons h1 h2 =>
      cases x with
      | bl i =>
        have e : (blsOf xs).map (i :: ·) = some _ := e
        cases q : blsOf xs with
        | none =>
          rw [q] at e
          cases e
        | some js =>
          rw [q] at e
          cases e
          rw [vr_bl h1, bls_of h2 q]
          rfl
      | _ => cases e
theorem lst_of {xs : List D} (rp : Rep W m H S) (h : VR W m H x X) (e : lstOf S x = some xs) : ∃ a ys, X = .ref a ∧ H a = some (.lst ys) ∧ VRs W m H xs ys := by
  unfold lstOf at e
  split at e
  · split at e
    · rename_i i _ q
      cases e
      obtain ⟨a, rfl, _, ys, ha, ra⟩ := vr_obj rp h q
      exact ⟨a, ys, rfl, ha, ra⟩
    · cases e
  · cases e
theorem lstInts {is : List Int} (rp : Rep W m H S) (h : VR W m H x X) (e : (lstOf S x).bind intsOf = some is) : ∃ a, X = .ref a ∧ SqL W.K H a (is.map V.int) := by
  cases q : lstOf S x with
  | none =>
    rw [q] at e
    cases e
  | some xs =>
    rw [q] at e
    obtain ⟨a, ys, rfl, ha, ra⟩ := lst_of rp h q
    obtain rfl := ints_of ra e
    exact ⟨a, rfl, SqL.of ha⟩
theorem lstBls {is : List Bool} (rp : Rep W m H S) (h : VR W m H x X) (e : (lstOf S x).bind blsOf = some is) : ∃ a, X = .ref a ∧ SqL W.K H a (is.map V.bl) := by
  cases q : lstOf S x with
  | none =>
    rw [q] at e
    cases e
  | some xs =>
    rw [q] at e
    obtain ⟨a, ys, rfl, ha, ra⟩ := lst_of rp h q
    obtain rfl := bls_of ra e
    exact ⟨a, rfl, SqL.of ha⟩
theorem foldl_max : ∀ (is : List Int) (i : Int), i ≤ is.foldl max i ∧ (∀ j ∈ is, j ≤ is.foldl max i) ∧ (is.foldl max i = i ∨ is.foldl max i ∈ is)
  | [], i => ⟨Int.le_refl _, by simp, .inl rfl⟩
  | j :: js, i => by
    obtain ⟨h1, h2, h3⟩ := foldl_max js (max i j)
    rw [List.foldl_cons]
    refine ⟨by omega, fun k hk => ?_, ?_⟩
    · rcases List.mem_cons.mp hk with rfl | hk
      · omega
      · exact h2 k hk
    · rcases h3 with h3 | h3
      · rw [h3]
        by_cases hij : i ≤ j
        · exact .inr (by rw [show max i j = j by omega]; exact List.mem_cons_self)
        · exact .inl (by omega)
      · exact .inr (List.mem_cons_of_mem _ h3)
theorem maxL_eq {i : Int} {is : List Int} {k : Int} (h1 : k ∈ i :: is) (h2 : ∀ y, y ∈ i :: is → y ≤ k) : k = maxL (i :: is) := by
  obtain ⟨a, b, c⟩ := foldl_max is i
  show k = is.foldl max i
  have h3 : is.foldl max i ≤ k := by
    rcases c with c | c
    · rw [c]
      exact h2 i List.mem_cons_self
    · exact h2 _ (List.mem_cons_of_mem _ c)
  rcases List.mem_cons.mp h1 with e | e
  · omega
  · have := b k e
    omega
/-- what is called, as a built-in function (or type) -/
def BF.isTy : BF → Bool
  | .int => true | .str => true | .tuple => true | .list => true | .dict => true | _ => false
def BF.nm : BF → String
  | .len => "len" | .int => "int" | .str => "str" | .max => "max" | .min => "min" | .sum => "sum" | .any => "any" | .all => "all" | .abs => "abs" | .tuple => "tuple" | .list => "list" | .dict => "dict" | .sorted => "sorted"
def BF.val (f : BF) : Value := if f.isTy = true then .type f.nm else .builtin f.nm
def rBf (K : PySem.W.Frag) : BF → List V → Hp → VK → Prop
  | .len => fun xs H Q => (∃ x n, xs = [x] ∧ LenV K x H n ∧ Q (.int n) H) ∨ ∃ a kvs, xs = [V.ref a] ∧ H a = some (.dK kvs) ∧ Q (.int kvs.length) H
  | .int => fun xs H Q => (∃ i, xs = [.int i] ∧ Q (.int i) H) ∨ ∃ k, xs = [.bl k] ∧ Q (.int (if k then 1 else 0)) H
  | .str => fun xs H Q => (∃ i, xs = [.int i] ∧ i.natAbs.log2 < 1920 ∧ Q (.str (toString i)) H) ∨ ∃ a, xs = [.str a] ∧ Q (.str a) H
  | .max => fun xs H Q => (∃ i j, xs = [.int i, .int j] ∧ Q (.int (if j > i then j else i)) H) ∨ rMax K xs H Q
  | .min => fun xs H Q => ∃ i j, xs = [.int i, .int j] ∧ Q (.int (if j < i then j else i)) H
  | .sum => rSum K
  | .any => rAny K
  | .all => rAll K
  | .abs => fun xs H Q => ∃ i, xs = [.int i] ∧ Q (.int (if i < 0 then -i else i)) H
  | .tuple => fun xs H Q => ∃ p ys, xs = [.ref p] ∧ ((SqL K H p ys ∧ ∀ l, H l = none → Q (.ref l) (upd H l (.tup ys))) ∨ (SqT K H p ys ∧ Q (.ref p) H))
  | .list => fun xs H Q => ∃ p ys, xs = [.ref p] ∧ (SqL K H p ys ∨ SqT K H p ys) ∧ ∀ l, H l = none → Q (.ref l) (upd H l (.lst ys))
  | .dict => fun xs H Q => ∃ (a : Addr) (kvs : List (Key × V)), xs = [.ref a] ∧ Rd H a (.dK kvs) ∧ ∀ p, H p = none → Q (.ref p) (upd H p (.dK kvs))
  | .sorted => fun _ _ _ => False
theorem o_lenD {X : Cx} : CallR X (.builtin "len") (fun xs H Q => ∃ a kvs, xs = [V.ref a] ∧ H a = some (.dK kvs) ∧ Q (.int kvs.length) H) := by
  intro pins s σ H xs us Q I r h
  obtain ⟨a, kvs, rfl, ha, q⟩ := h
  obtain ⟨u, rfl, rx⟩ := vals1 r
  cases rx
  exact d_len I (.inl ha) fun t s' I' => ⟨.int kvs.length, H, I', ⟨_, rfl⟩, q⟩
theorem o_bf {X : Cx} (hc : X.calm = true) (f : BF) : CallR X f.val (rBf X.K f) := by
  cases f with
  | len => exact CallR.or call_len o_lenD
  | int => exact call_int1
  | str => exact CallR.or call_str_int SkE.call_str_str
  | max => exact CallR.or (call_max2 hc) (cr_max hc)
  | min => exact call_min2 hc
  | sum => exact cr_sum hc
  | any => exact cr_any hc
  | all => exact cr_all hc
  | abs => exact call_abs
  | tuple => exact call_tuple_of
  | list => exact call_list_of
  | dict => exact call_dictD
  | sorted => exact fun _ _ _ _ _ _ _ _ _ h => h.elim
theorem s_bf (f : BF) : SA W (rBf W.K f) (bfD f) := by
  intro m H S xs Xs v S' Q rp hxs h fi
  unfold bfD at h
  split at h
  · obtain ⟨X, rfl, hx⟩ := vrs1 hxs
    split at h
    · split at h
      · obtain ⟨rfl, rfl⟩ := ok_inj h
        obtain rfl := vr_str hx
        exact .inl ⟨_, _, rfl, ⟨by assumption, rfl⟩, fi.done rp (.int _)⟩
      · cases h
    · split at h
      · rename_i i _ q
        obtain ⟨rfl, rfl⟩ := ok_inj h
        obtain ⟨a, rfl, _, ys, ha, ra⟩ := vr_obj rp hx q
        refine .inl ⟨_, _, rfl, .inl ⟨ys, SqL.of ha, rfl⟩, ?_⟩
        rw [← ra.length]
        exact fi.done rp (.int _)
      · rename_i i _ q
        obtain ⟨rfl, rfl⟩ := ok_inj h
        obtain ⟨a, rfl, _, ys, ha, ra⟩ := vr_obj rp hx q
        refine .inr ⟨a, ys, rfl, ha, ?_⟩
        rw [← Paired.length ra]
        exact fi.done rp (.int _)
      · cases h
    · obtain ⟨rfl, rfl⟩ := ok_inj h
      obtain ⟨a, ys, rfl, sa, ra⟩ := vr_tup hx
      refine .inl ⟨_, _, rfl, .inr ⟨ys, sa.sq, rfl⟩, ?_⟩
      rw [← ra.length]
      exact fi.done rp (.int _)
    · obtain ⟨rfl, rfl⟩ := ok_inj h
      obtain ⟨a, ys, rfl, sa, ra⟩ := vr_lit hx
      refine .inl ⟨_, _, rfl, .inl ⟨ys, sa.sq, rfl⟩, ?_⟩
      rw [← ra.length]
      exact fi.done rp (.int _)
    · cases h
  · obtain ⟨rfl, rfl⟩ := ok_inj h
    obtain ⟨X, rfl, hx⟩ := vrs1 hxs
    obtain rfl := vr_int hx
    exact .inl ⟨_, rfl, fi.done rp (.int _)⟩
  · obtain ⟨rfl, rfl⟩ := ok_inj h
    obtain ⟨X, rfl, hx⟩ := vrs1 hxs
    obtain rfl := vr_bl hx
    exact .inr ⟨_, rfl, fi.done rp (.int _)⟩
  · obtain ⟨rfl, rfl⟩ := ok_inj h
    obtain ⟨X, rfl, hx⟩ := vrs1 hxs
    obtain rfl := vr_str hx
    exact .inr ⟨_, rfl, fi.done rp (.str _)⟩
  · split at h
    · obtain ⟨rfl, rfl⟩ := ok_inj h
      obtain ⟨X, rfl, hx⟩ := vrs1 hxs
      obtain rfl := vr_int hx
      exact .inl ⟨_, rfl, by assumption, fi.done rp (.str _)⟩
    · cases h
  · obtain ⟨rfl, rfl⟩ := ok_inj h
    obtain ⟨X, Y, rfl, hx, hy⟩ := vrs2 hxs
    obtain rfl := vr_int hx
    obtain rfl := vr_int hy
    exact .inl ⟨_, _, rfl, fi.done rp (.int _)⟩
  · obtain ⟨rfl, rfl⟩ := ok_inj h
    obtain ⟨X, Y, rfl, hx, hy⟩ := vrs2 hxs
    obtain rfl := vr_int hx
    obtain rfl := vr_int hy
    exact ⟨_, _, rfl, fi.done rp (.int _)⟩
  · split at h
    · rename_i i is q
      obtain ⟨rfl, rfl⟩ := ok_inj h
      obtain ⟨X, rfl, hx⟩ := vrs1 hxs
      obtain ⟨a, rfl, sa⟩ := lstInts rp hx q
      refine .inr ⟨a, i :: is, rfl, sa, by simp, fun k h1 h2 => ?_⟩
      rw [maxL_eq h1 h2]
      exact fi.done rp (.int _)
    · cases h
  · split at h
    · rename_i is q
      obtain ⟨rfl, rfl⟩ := ok_inj h
      obtain ⟨X, rfl, hx⟩ := vrs1 hxs
      obtain ⟨a, rfl, sa⟩ := lstInts rp hx q
      exact ⟨a, is, rfl, sa, fi.done rp (.int _)⟩
    · cases h
  · split at h
    · rename_i is q
      obtain ⟨rfl, rfl⟩ := ok_inj h
      obtain ⟨X, rfl, hx⟩ := vrs1 hxs
      obtain ⟨a, rfl, sa⟩ := lstBls rp hx q
      exact ⟨a, is, rfl, sa, fi.done rp (.bl _)⟩
    · cases h
  · split at h
    · rename_i is q
      obtain ⟨rfl, rfl⟩ := ok_inj h
      obtain ⟨X, rfl, hx⟩ := vrs1 hxs
      obtain ⟨a, rfl, sa⟩ := lstBls rp hx q
      exact ⟨a, is, rfl, sa, fi.done rp (.bl _)⟩
    · cases h
  · obtain ⟨rfl, rfl⟩ := ok_inj h
    obtain ⟨X, rfl, hx⟩ := vrs1 hxs
    obtain rfl := vr_int hx
    exact ⟨_, rfl, fi.done rp (.int _)⟩
  · split at h
    · rename_i xs q
      obtain ⟨rfl, rfl⟩ := ok_inj h
      obtain ⟨X, rfl, hx⟩ := vrs1 hxs
      obtain ⟨a, ys, rfl, sa, ra, _⟩ := items_of rp hx q
      rcases sa with sa | sa
      · exact ⟨a, ys, rfl, .inl ⟨sa, fun p hp => fi.tup rp ra hp⟩⟩
      · exact ⟨a, ys, rfl, .inr ⟨sa.sq, fi.done rp (.tup sa ra)⟩⟩
    · cases h
  · split at h
    · rename_i xs q
      obtain ⟨rfl, rfl⟩ := ok_inj h
      obtain ⟨X, rfl, hx⟩ := vrs1 hxs
      obtain ⟨a, ys, rfl, sa, ra, _⟩ := items_of rp hx q
      exact ⟨a, ys, rfl, sa.imp id TupAt.sq, fun p hp => fi.lst rp ra hp⟩
    · cases h
  · split at h
    · rename_i i kvs q
      obtain ⟨rfl, rfl⟩ := ok_inj h
      obtain ⟨X, rfl, hx⟩ := vrs1 hxs
      obtain ⟨a, rfl, _, ys, ha, ra⟩ := vr_obj rp hx q
      exact ⟨a, ys, rfl, .inl ha, fun p hp => fi.new rp hp ⟨ys, upd_same, ra.to ⟨⟨[p], rfl⟩, fun b xs h => by rw [upd_ne (ne_of_none h hp)]; exact h, fun b ob v h => by rw [upd_ne (ne_of_none h hp)]; exact h⟩⟩⟩
    · cases h
  · cases h
end
end Mi
set_option Elab.async false
set_option linter.all false
set_option maxRecDepth 100000
/-! M5: methods, stores, what is walked, targets. -/
namespace Mi
open PySem PySem.Spec L2
open PyProof.Rows hiding St
section
variable {W : Wd} {m : List Addr} {H : Hp} {S S' : Sto} {x y v : D} {X Y : V} {Q : VK} {cds : Nat → List (Str × D)}
/-! ### methods of lists -/
theorem put_lst {i : Nat} {a : Addr} {xs zs : List D} {ys ws : List V} (rp : Rep W m H S) (hi : m[i]? = some a) (ha : H a = some (.lst ys)) (r : VRs W m H zs ws) : Rep W m (upd H a (.lst ws)) (S.set i (.lst zs)) ∧ Ext m H m (upd H a (.lst ws)) := by
  have x : Ext m H m (upd H a (.lst ws)) :=
    ⟨⟨[], by simp⟩, fun b xs h => by rw [upd_ne (ne_of h ha fun e => by cases e)]; exact h, fun b ob v h => by rw [upd_ne (ne_of h ha fun e => by cases e)]; exact h⟩
  exact rp.put hi ha (fun _ e => by cases e) (fun _ _ e => by cases e) ⟨ws, upd_same, r.to x⟩
def rBm (K : PySem.W.Frag) : BM → V → List V → Hp → VK → Prop
  | .append => rAppend
  | .extend => rExtend
  | .pop => rPop
  | .lindex => rIndex K
  | _ => fun _ _ _ _ => False
def BM.isL : BM → Bool
  | .append => true | .extend => true | .pop => true | .lindex => true | _ => false
theorem idx_of {xs : List D} {ys : List V} {j : Nat} (hx : VR W m H x X) (fx : flat x = true) (h : VRs W m H xs ys) (f : xs.all flat = true) (e : idxF x xs = some j) :
    ∃ z, ys[j]? = some z ∧ eqV z X = true ∧ ∀ (k : Nat) (z' : V), k < j → ys[k]? = some z' → eqV z' X = false := by
  unfold idxF at e
  rw [List.findIdx?_eq_some_iff_getElem] at e
  obtain ⟨hj, e1, e2⟩ := e
  obtain ⟨z, hz, rz⟩ := h.get (List.getElem?_eq_getElem hj)
  have fl : ∀ (k : Nat) (hk : k < xs.length), flat xs[k] = true := fun k hk => List.all_eq_true.mp f _ (List.getElem_mem hk)
  refine ⟨z, hz, ?_, fun k z' hk hz' => ?_⟩
  · rw [eqF_of hx rz fx (fl j hj)]
    exact e1
  · have hk' : k < xs.length := by omega
    obtain ⟨z2, hz2, rz2⟩ := h.get (List.getElem?_eq_getElem hk')
    rw [hz'] at hz2
    cases hz2
    rw [eqF_of hx rz2 fx (fl k hk')]
    simpa using e2 k hk
theorem s_bmL (b : BM) (hb : b.isL = true) {xs : List D} {Xs : List V} (rp : Rep W m H S) (hx : VR W m H x X) (hxs : VRs W m H xs Xs) (h : bmD b x xs S = .ok v S') (f : Fin W m H S' v Q) : rBm W.K b X Xs H Q := by
  unfold bmD at h
  split at h <;> first | (cases hb; done) | skip
  · split at h
    · rename_i ys q
      split at h
      · rename_i hz
        obtain ⟨rfl, rfl⟩ := ok_inj h
        obtain ⟨Y, rfl, hy⟩ := vrs1 hxs
        obtain ⟨a, rfl, hi, ws, ha, ra⟩ := vr_obj rp hx q
        obtain ⟨r2, e2⟩ := put_lst (xs := ys) rp hi ha (ra.append (.cons hy .nil))
        exact ⟨a, ws, Y, rfl, rfl, ha, by rw [← ra.length]; exact hz, f _ _ _ e2 r2 .non⟩
      · cases h
    · cases h
  · split at h
    · rename_i ys zs q1 q2
      split at h
      · rename_i hz
        obtain ⟨rfl, rfl⟩ := ok_inj h
        obtain ⟨Y, rfl, hy⟩ := vrs1 hxs
        obtain ⟨a, rfl, hi, ws, ha, ra⟩ := vr_obj rp hx q1
        obtain ⟨b, rfl, _, us, hb2, rb⟩ := vr_obj rp hy q2
        obtain ⟨r2, e2⟩ := put_lst (xs := ys) rp hi ha (ra.append rb)
        exact ⟨a, b, ws, us, rfl, rfl, ha, hb2, by rw [← ra.length, ← rb.length]; exact hz, f _ _ _ e2 r2 .non⟩
      · cases h
    · cases h
  · split at h
    · rename_i ys q
      split at h
      · rename_i y hy
        obtain ⟨rfl, rfl⟩ := ok_inj h
        cases hxs
        obtain ⟨a, rfl, hi, ws, ha, ra⟩ := vr_obj rp hx q
        obtain ⟨z, hz, rz⟩ := ra.get hy
        obtain ⟨r2, e2⟩ := put_lst (xs := ys) rp hi ha ra.dropLast
        rw [ra.length] at hz
        exact ⟨a, ws, z, rfl, rfl, ha, hz, f _ _ _ e2 r2 (rz.to e2)⟩
      · cases h
    · cases h
  · split at h
    · rename_i ys q
      split at h
      · rename_i hf
        obtain ⟨e, rfl⟩ := optR_ok h
        obtain ⟨Y, rfl, hy⟩ := vrs1 hxs
        obtain ⟨a, ws, rfl, ha, ra⟩ := lst_of rp hx q
        obtain ⟨j, q2, rfl⟩ := Option.map_eq_some_iff.mp e
        obtain ⟨z, e1, e3, e4⟩ := idx_of hy hf.1 ra hf.2 q2
        exact ⟨a, ws, Y, j, z, rfl, rfl, SqL.of ha, flat_of hy hf.1, flats_of ra hf.2, e1, e3, e4, f.done rp (.int _)⟩
      · cases h
    · cases h
  · cases h

/-! ### stores at o[i] -/
theorem PSet.or {X : Cx} {t t' : TSet} (h : PSet X t) (h' : PSet X t') : PSet X (fun o i v H Q => t o i v H Q ∨ t' o i v H Q) := by
  intro pins s σ H o i v ov iv u Q I ro ri rv q
  rcases q with q | q
  · exact h pins s σ H o i v ov iv u Q I ro ri rv q
  · exact h' pins s σ H o i v ov iv u Q I ro ri rv q
def rSetD : TSet := fun o i v H Q => ∃ a H', o = .ref a ∧ DPut H a i v H' ∧ Q H'
theorem set_dict {X : Cx} (hu : X.A.units + 1 < cLine) : PSet X rSetD := by
  intro pins s σ H o i v ov iv u Q I ro ri rv h
  obtain ⟨a, H', rfl, g, q⟩ := h
  cases ro
  exact d_setItem hu I g ri rv fun s' I' => ⟨H', I', q⟩
theorem put_any {κ : Type} [DecidableEq κ] {kvs : List (κ × D)} {kws : List (κ × V)} (h : KR W m H kvs kws) (k : κ) : (kvs.any fun kv => decide (kv.1 = k)) = (kws.any fun kv => decide (kv.1 = k)) := by
  unfold KR at h
  induction h with
  | nil => rfl
  | @cons p q ps qs r t ih =>
    rw [List.any_cons, List.any_cons, ih, r.1]
theorem put_map {κ : Type} [DecidableEq κ] {kvs : List (κ × D)} {kws : List (κ × V)} (h : KR W m H kvs kws) (k : κ) (hv : VR W m H v Y) :
    KR W m H (kvs.map fun kv => if kv.1 = k then (kv.1, v) else kv) (kws.map fun kv => if kv.1 = k then (kv.1, Y) else kv) := by
  unfold KR at h ⊢
  induction h with
  | nil => exact .nil
  | @cons p q ps qs r t ih =>
    rw [List.map_cons, List.map_cons]
    refine .cons ?_ ih
    by_cases e : p.1 = k
    · have e2 : q.1 = k := by rw [← r.1]; exact e
      simp only [if_pos e, if_pos e2]
      exact ⟨r.1, hv⟩
    · have e2 : ¬ q.1 = k := by rw [← r.1]; exact e
      simp only [if_neg e, if_neg e2]
      exact r
theorem kr_app {κ : Type} {kvs kvs' : List (κ × D)} {kws kws' : List (κ × V)} (h : KR W m H kvs kws) (h' : KR W m H kvs' kws') : KR W m H (kvs ++ kvs') (kws ++ kws') := by
  unfold KR at h ⊢
  induction h with
  | nil => exact h'
  | cons r t ih => exact .cons r ih
theorem put_of {κ : Type} [DecidableEq κ] {kvs : List (κ × D)} {kws : List (κ × V)} (h : KR W m H kvs kws) (k : κ) (hv : VR W m H v Y) : KR W m H (putKD kvs k v) (putK kws k Y) := by
  unfold putKD putK
  rw [put_any h k]
  split
  · exact put_map h k hv
  · exact kr_app h (.cons ⟨rfl, hv⟩ .nil)
theorem drop_of {κ : Type} [DecidableEq κ] {kvs : List (κ × D)} {kws : List (κ × V)} (h : KR W m H kvs kws) (k : κ) : KR W m H (dropKD kvs k) (dropK kws k) := by
  unfold dropKD dropK
  unfold KR at h ⊢
  induction h with
  | nil => exact .nil
  | @cons p q ps qs r t ih =>
    by_cases e : p.1 = k
    · have e2 : q.1 = k := by rw [← r.1]; exact e
      rw [List.filter_cons_of_neg (by simpa using e), List.filter_cons_of_neg (by simpa using e2)]
      exact ih
    · have e2 : ¬ q.1 = k := by rw [← r.1]; exact e
      rw [List.filter_cons_of_pos (by simpa using e), List.filter_cons_of_pos (by simpa using e2)]
      exact .cons r ih
def rSet4 : TSet := fun o i v H Q => rSetL o i v H Q ∨ rSetD o i v H Q
theorem o_set4 {X : Cx} (hu : X.A.units + 1 < cLine) : PSet X rSet4 := PSet.or set_list (set_dict hu)
theorem s_set {o i : D} {Oo Oi : V} {K : Hp → Prop} (rp : Rep W m H S) (ho : VR W m H o Oo) (hi : VR W m H i Oi) (hv : VR W m H v Y) {u : Unit} (h : setD o i v S = .ok u S') (f : ∀ H', Ext m H m H' → Rep W m H' S' → K H') :
    rSet4 Oo Oi Y H K := by
  unfold setD at h
  split at h
  · split at h
    · rename_i a xs q
      split at h
      · rename_i j
        split at h
        · rename_i n hn
          obtain ⟨_, rfl⟩ := ok_inj h
          obtain ⟨p, rfl, hi2, ws, hp, ra⟩ := vr_obj rp ho q
          obtain rfl := vr_int hi
          obtain ⟨r2, e2⟩ := put_lst (xs := xs) rp hi2 hp (ra.set n hv)
          rw [ra.length] at hn
          exact .inl ⟨p, ws, j, n, rfl, rfl, hp, hn, f _ e2 r2⟩
        · cases h
      · cases h
    · rename_i a kvs q
      split at h
      · rename_i k hk
        split at h
        · rename_i hz
          obtain ⟨_, rfl⟩ := ok_inj h
          obtain ⟨p, rfl, hi2, ws, hp, ra⟩ := vr_obj rp ho q
          obtain rfl := key_of hi hk
          have x : Ext m H m (upd H p (.dK (putK ws k Y))) :=
            ⟨⟨[], by simp⟩, fun b xs h => by rw [upd_ne (ne_of h hp fun e => by cases e)]; exact h, fun b ob v h => by rw [upd_ne (ne_of h hp fun e => by cases e)]; exact h⟩
          obtain ⟨r2, e2⟩ := rp.put (ob := .dK (putKD kvs k v)) hi2 hp (fun _ e => by cases e) (fun _ _ e => by cases e) ⟨putK ws k Y, upd_same, (put_of ra k hv).to x⟩
          exact .inr ⟨p, _, rfl, DPut.k hp (by rw [← Paired.length ra]; exact hz), f _ e2 r2⟩
        · cases h
      · cases h
    · rename_i a kvs q
      split at h
      · rename_i ks
        split at h
        · rename_i k hk
          split at h
          · rename_i hz
            obtain ⟨_, rfl⟩ := ok_inj h
            obtain ⟨p, rfl, hi2, ws, hp, ra⟩ := vr_obj rp ho q
            obtain ⟨b, ys, rfl, sb, rb⟩ := vr_tup hi
            obtain ⟨e3, e4⟩ := keys_of rb hk
            have hb := tup_key sb e4
            rw [e3] at hb
            have x : Ext m H m (upd H p (.dT (putK ws k Y))) :=
              ⟨⟨[], by simp⟩, fun b xs h => by rw [upd_ne (ne_of h hp fun e => by cases e)]; exact h, fun b ob v h => by rw [upd_ne (ne_of h hp fun e => by cases e)]; exact h⟩
            obtain ⟨r2, e2⟩ := rp.put (ob := .dT (putKD kvs k v)) hi2 hp (fun _ e => by cases e) (fun _ _ e => by cases e) ⟨putK ws k Y, upd_same, (put_of ra k hv).to x⟩
            exact .inr ⟨p, _, rfl, DPut.t hp hb (by rw [← Paired.length ra]; exact hz), f _ e2 r2⟩
          · cases h
        · cases h
      · cases h
    · cases h
  · cases h

/-! ### what is walked -/
/-- the layer's iterator gives the items -/
structure ItR (W : Wd) (m : List Addr) (H : Hp) (J : L2.It) (it : It) : Prop where
  go : ∀ (i : Nat) (m' : List Addr) (H' : Hp) (S : Sto) (x : D), Ext m H m' H' → Rep W m' H' S → it.still S = true → it.items[i]? = some x → J.go i H'
  yld : ∀ (i : Nat) (m' : List Addr) (H' : Hp) (S : Sto) (x : D) (v : V) (H2 : Hp), Ext m H m' H' → Rep W m' H' S → it.still S = true → it.items[i]? = some x → J.yld i H' v H2 → Ext m' H' m' H2 ∧ Rep W m' H2 S ∧ VR W m' H2 x v
  stop : ∀ (i : Nat) (m' : List Addr) (H' : Hp) (S : Sto), Ext m H m' H' → Rep W m' H' S → it.still S = true → it.items.length ≤ i → J.stop i H'
theorem itr_tup {a : Addr} {xs : List D} {ys : List V} (h : TupAt W H a ys) (r : VRs W m H xs ys) : ItR W m H (Itt W.K a) ⟨xs, none⟩ := by
  refine ⟨fun i m' H' S x e rp _ hx => ?_, fun i m' H' S x v H2 e rp _ hx y => ?_, fun i m' H' S e rp _ hl => ?_⟩
  · obtain ⟨z, hz, _⟩ := r.get hx
    exact ⟨ys, z, (e.tupAt h).sq, hz⟩
  · obtain ⟨rfl, y⟩ := y
    obtain ⟨z, hz, rz⟩ := r.get hx
    have := y ys (e.tupAt h).sq
    rw [hz] at this
    cases this
    exact ⟨.refl, rp, rz.to e⟩
  · exact ⟨ys, (e.tupAt h).sq, by rw [← r.length]; exact hl⟩
theorem still_own {i : Nat} {xs its : List D} {S : Sto} (h : (It.mk its (some (i, xs))).still S = true) : S[i]? = some (.lst xs) := by
  unfold It.still at h
  simpa using h
theorem itr_lst {i : Nat} {a : Addr} {xs : List D} (hi : m[i]? = some a) : ItR W m H (Itl W.K a) ⟨xs, some (i, xs)⟩ := by
  refine ⟨fun k m' H' S x e rp st hx => ?_, fun k m' H' S x v H2 e rp st hx y => ?_, fun k m' H' S e rp st hl => ?_⟩
  · obtain ⟨ys, ha, r⟩ := rp.obj i a _ (e.get hi) (still_own st)
    obtain ⟨z, hz, _⟩ := r.get hx
    exact ⟨ys, z, SqL.of ha, hz⟩
  · obtain ⟨rfl, y⟩ := y
    obtain ⟨ys, ha, r⟩ := rp.obj i a _ (e.get hi) (still_own st)
    obtain ⟨z, hz, rz⟩ := r.get hx
    have := y ys (SqL.of ha)
    rw [hz] at this
    cases this
    exact ⟨.refl, rp, rz⟩
  · obtain ⟨ys, ha, r⟩ := rp.obj i a _ (e.get hi) (still_own st)
    exact ⟨ys, SqL.of ha, by rw [← r.length]; exact hl⟩
theorem itr_lit {a : Addr} {xs : List D} {ys : List V} (h : LitAt W H a ys) (r : VRs W m H xs ys) : ItR W m H (Itl W.K a) ⟨xs, none⟩ := by
  refine ⟨fun i m' H' S x e rp _ hx => ?_, fun i m' H' S x v H2 e rp _ hx y => ?_, fun i m' H' S e rp _ hl => ?_⟩
  · obtain ⟨z, hz, _⟩ := r.get hx
    exact ⟨ys, z, (e.litAt h).sq, hz⟩
  · obtain ⟨rfl, y⟩ := y
    obtain ⟨z, hz, rz⟩ := r.get hx
    have := y ys ((e.litAt h).sq)
    rw [hz] at this
    cases this
    exact ⟨.refl, rp, rz.to e⟩
  · exact ⟨ys, (e.litAt h).sq, by rw [← r.length]; exact hl⟩
theorem itr_str {z : Str} : ItR W m H (Its z) ⟨z.cps.toList.map fun c => D.str ⟨#[c]⟩, none⟩ := by
  refine ⟨fun i m' H' S x e rp _ hx => ?_, fun i m' H' S x v H2 e rp _ hx y => ?_, fun i m' H' S e rp _ hl => ?_⟩
  · have h := (List.getElem?_eq_some_iff.mp hx).1
    show i < z.cps.size
    simpa using h
  · obtain ⟨rfl, c, hc, rfl⟩ := y
    rw [List.getElem?_map] at hx
    have hc' : z.cps.toList[i]? = some c := by simpa using hc
    rw [hc'] at hx
    cases hx
    exact ⟨.refl, rp, .str _⟩
  · show z.cps.size ≤ i
    simpa using hl
theorem rngL_get {lo : Int} {n i : Nat} {x : D} (h : (rngL lo n)[i]? = some x) : i < n ∧ x = .int (lo + (i : Nat)) := by
  unfold rngL at h
  rw [List.getElem?_map] at h
  cases q : (List.range n)[i]? with
  | none =>
    rw [q] at h
    cases h
  | some j =>
    rw [q] at h
    cases h
    obtain ⟨h1, h2⟩ := List.getElem?_eq_some_iff.mp q
    rw [List.getElem_range] at h2
    subst h2
    exact ⟨by simpa using h1, rfl⟩
theorem itr_rng {lo : Int} {n : Nat} : ItR W m H (Itr lo n) ⟨rngL lo n, none⟩ := by
  refine ⟨fun i m' H' S x e rp _ hx => (rngL_get hx).1, fun i m' H' S x v H2 e rp _ hx y => ?_, fun i m' H' S e rp _ hl => ?_⟩
  · obtain ⟨rfl, rfl⟩ := y
    obtain ⟨_, rfl⟩ := rngL_get hx
    exact ⟨.refl, rp, .int _⟩
  · show n ≤ i
    have e : (rngL lo n).length = n := by simp [rngL]
    rw [← e]
    exact hl
theorem itr_enum {i : Nat} {a : Addr} {xs : List D} (hi : m[i]? = some a) : ItR W m H (Ite W.K a) ⟨xs.zipIdx.map fun p => D.tup [.int (p.2 : Nat), p.1], some (i, xs)⟩ := by
  have gx : ∀ {k : Nat} {x : D}, (xs.zipIdx.map fun p => D.tup [.int (p.2 : Nat), p.1])[k]? = some x → ∃ d, xs[k]? = some d ∧ x = .tup [.int (k : Nat), d] := fun {k x} h => by
    rw [List.getElem?_map, List.getElem?_zipIdx] at h
    cases q : xs[k]? with
    | none =>
      rw [q] at h
      cases h
    | some d =>
      rw [q] at h
      cases h
      exact ⟨d, rfl, by simp⟩
  refine ⟨fun k m' H' S x e rp st hx => ?_, fun k m' H' S x v H2 e rp st hx y => ?_, fun k m' H' S e rp st hl => ?_⟩
  · obtain ⟨ys, ha, r⟩ := rp.obj i a _ (e.get hi) (still_own st)
    obtain ⟨d, hd, rfl⟩ := gx hx
    obtain ⟨z, hz, _⟩ := r.get hd
    exact ⟨ys, z, SqL.of ha, hz⟩
  · obtain ⟨T, w, rfl, hT, rfl, y⟩ := y
    obtain ⟨ys, ha, r⟩ := rp.obj i a _ (e.get hi) (still_own st)
    obtain ⟨d, hd, rfl⟩ := gx hx
    obtain ⟨z, hz, rz⟩ := r.get hd
    have := y ys (SqL.of ha)
    rw [hz] at this
    cases this
    exact ⟨ext_new hT, rp.lay hT, .tup (.inl upd_same) (.cons (.int _) (.cons (rz.to (ext_new hT)) .nil))⟩
  · obtain ⟨ys, ha, r⟩ := rp.obj i a _ (e.get hi) (still_own st)
    exact ⟨ys, SqL.of ha, by rw [← r.length]; simpa using hl⟩
end
/-- a walked thing's reading -/
def liftI (W : Wd) (f : En → Sto → R It) : TI := fun σ H K => ∃ m e S it S', ER W m H e σ ∧ Rep W m H S ∧ f e S = .ok it S' ∧ ∀ J H' m', Ext m H m' H' → Rep W m' H' S' → ItR W m' H' J it → K J H'
section
variable {X : Cx} {tg iter : Expr}
theorem pi_imp {t t' : TI} (h : PI X tg iter t) (k : ∀ σ H R, t' σ H R → t σ H R) : PI X tg iter t' := ⟨fun pins s σ H R I q => h.run pins s σ H R I (k σ H R q)⟩
def iSeq (K : PySem.W.Frag) (te : TE) : TI := fun σ H R => te σ H fun x H1 => (∃ a, x = .ref a ∧ (∃ xs, SqL K H1 a xs) ∧ R (Itl K a) H1) ∨ (∃ a, x = .ref a ∧ (∃ xs, SqT K H1 a xs) ∧ R (Itt K a) H1) ∨ ∃ z, x = .str z ∧ R (Its z) H1
theorem pi_seq {te : TE} (he : PE X iter te) : PI X tg iter (iSeq X.K te) := by
  refine ⟨fun pins s σ H R I h => ?_⟩
  refine thn (he.run pins s σ H _ I h) fun v s1 ⟨x, H1, I1, r1, q1⟩ => ?_
  have fp : ∀ b ∈ [s1.heap.objs.size], FpOk X pins H1 b := fun b hb => by
    have e : b = s1.heap.objs.size := by simpa using hb
    subst e
    exact I1.fpOk (Nat.le_refl _) (I1.hok.fresh (Nat.le_refl _))
  rcases q1 with ⟨a, rfl, ⟨xs, hq⟩, q⟩ | ⟨a, rfl, ⟨xs, hq⟩, q⟩ | ⟨z, rfl, q⟩
  · cases r1
    obtain ⟨its, rv, p, hz⟩ := I1.list hq
    refine wpAny_pyIter_list p.isList ?_
    exact ⟨s1.heap.objs.size, [s1.heap.objs.size], _, _, H1, rfl, I1.kept (t' := s1.toks) fun b o e => Heap.get?_push_of_some _ e, turn_list a _, ⟨_, Heap.get?_push_size _ rfl, rfl, rfl⟩, fp, q⟩
  · cases r1
    obtain ⟨its, rv, p, hz⟩ := I1.tuple hq
    refine wpAny_pyIter_tuple (show s1.heap.IsTuple a its.toArray from p) ?_
    exact ⟨s1.heap.objs.size, [s1.heap.objs.size], _, _, H1, rfl, I1.kept (t' := s1.toks) fun b o e => Heap.get?_push_of_some _ e, turn_tuple a _, ⟨_, Heap.get?_push_size _ rfl, rfl, rfl⟩, fp, q⟩
  · obtain ⟨t, rfl⟩ := r1
    cases ha : z.cps.all (· < 128)
    · exact wpAny_pyIter_wide ha (pi_one (tk := s1.toks) I1 _ (turn_str _ z t "str_iterator" (.inr rfl)) ⟨_, Heap.get?_push_size _ rfl, rfl, rfl⟩ q)
    · exact wpAny_pyIter_ascii ha (pi_one (tk := s1.toks) I1 _ (turn_str _ z t "str_ascii_iterator" (.inl rfl)) ⟨_, Heap.get?_push_size _ rfl, rfl, rfl⟩ q)
end
end Mi
set_option Elab.async false
set_option linter.all false
set_option maxRecDepth 100000
/-! M6: from the row's syntax to mine, and what the translation gives of the row's text. -/
namespace Mi
open PySem PySem.Spec L2
open PyProof.Rows hiding St
/-- what a translation knows: the def's names by slot, the module's names, the fields, the dicts with pairs as keys (by their places) -/
structure Tx where
  N : List Str
  fns : List Str
  cls : List Str
  con : List Str
  fields : List Str
  dts : List (Nat × Nat)
def visB (sc : Scope) (x : Str) : Bool := match sc.names.lookup x with
  | some .local => true
  | some .cell => true
  | some .free => true
  | _ => false
def locB (sc : Scope) (x : Str) : Bool := match sc.names.lookup x with
  | some .local => true
  | some .cell => true
  | _ => false
def glB (sc : Scope) (x : Str) : Bool := match sc.names.lookup x with
  | some .globalImplicit => true
  | _ => false
def plainName (x : Str) : Bool := !(x == ("__debug__" : Str)) && !(x == ("__classdict__" : Str)) && !(x == ("__name__" : Str))
def slot (N : List Str) (x : Str) : Option Nat := N.findIdx? fun y => decide (y = x)
def bfTab : List (Str × BF) := [("len", .len), ("int", .int), ("str", .str), ("max", .max), ("min", .min), ("sum", .sum), ("any", .any), ("all", .all), ("abs", .abs), ("tuple", .tuple), ("list", .list), ("dict", .dict)]
def tyTab : List (Str × Ty) := [("int", .int), ("str", .str), ("tuple", .tup), ("bool", .bool)]
/-- the built-in names that are leaned on -/
def bltNames : List Str := ["len", "int", "str", "max", "min", "sum", "any", "all", "abs", "tuple", "list", "dict", "bool", "isinstance", "range", "enumerate"]
def bmOf (m : Str) (n : Nat) : Option BM :=
  if m = "append" then some .append else if m = "extend" then some .extend else if m = "pop" ∧ n = 0 then some .pop else if m = "index" then some .lindex
  else if m = "get" ∧ n = 1 then some .get1 else if m = "get" ∧ n = 2 then some .get2 else if m = "pop" ∧ n = 2 then some .pop2 else none
def notSuper : Expr → Bool
  | .Call (.Name id _) [] [] _ => !(id == ("super" : Str))
  | _ => true
def isIf : Expr → Bool
  | .IfExp .. => true
  | _ => false
def isSlc : Expr → Bool
  | .Slice .. => true
  | _ => false
def trs (f : Expr → Option E) : List Expr → Option Es
  | [] => some .nil
  | x :: xs => match f x, trs f xs with
    | some a, some as => some (.cons a as)
    | _, _ => none
/-- all of them, none an if-expression (for tests) -/
def trTs (f : Expr → Option E) : List Expr → Option Es
  | [] => some .nil
  | x :: xs => match isIf x, f x, trTs f xs with
    | false, some a, some as => some (.cons a as)
    | _, _, _ => none
def trP (f : Expr → Option E) : Option Expr → Option E
  | none => some .nop
  | some x => match f x with
    | some a => if isNop a = true then none else some a
    | none => none
def trI (sc : Scope) (f : Expr → Option E) : Expr → Option I
  | .Call (.Name g p) as ks pos =>
    if g = "range" then (match ks, as with
      | [], [a] => if glB sc "range" = true then (f a).map fun a => .rng (.cons a .nil) else none
      | [], [a, b] => if glB sc "range" = true then (match f a, f b with | some a, some b => some (.rng (.cons a (.cons b .nil))) | _, _ => none) else none
      | _, _ => none)
    else if g = "enumerate" then none else (f (.Call (.Name g p) as ks pos)).map .seq
  | x => (f x).map .seq
/-- enumerate goes to a tuple of targets alone -/
def trE (sc : Scope) (f : Expr → Option E) : Expr → Expr → Option I
  | .Tuple .., .Call (.Name g _) [a] [] _ => if g = "enumerate" ∧ glB sc "enumerate" = true then (f a).map .enum else none
  | _, _ => none
def trNm (N : List Str) (sc : Scope) : Expr → Option Nat
  | .Name x _ => if locB sc x = true then slot N x else none
  | _ => none
def trNms (N : List Str) (sc : Scope) : List Expr → Option (List Nat)
  | [] => some []
  | x :: xs => match trNm N sc x, trNms N sc xs with
    | some i, some is => some (i :: is)
    | _, _ => none
def trTg (N : List Str) (sc : Scope) : Expr → Option Tg
  | .Tuple es _ _ => (trNms N sc es).map .tp
  | x => (trNm N sc x).map .nm
def Tg.slots : Tg → List Nat
  | .nm i => [i]
  | .tp is => is
/-- a comprehension's own names -/
def ownOf (N : List Str) (sc : Scope) : List (Str × Nat) := sc.names.filterMap fun y => if locB sc y.1 = true then (slot N y.1).map fun i => (y.1, i) else none
def nilB : List Expr → Bool
  | [] => true
  | _ => false
def trG (t : Tx) (sc : Scope) (f : Expr → Option E) (g : Str) (as : List Expr) : Option E :=
  if g ∈ t.fns then (trs f as).map (.call g) else if g ∈ t.cls then (trs f as).map (.make g) else match bfTab.lookup g, as with
    | some b, x :: xs => (trs f (x :: xs)).map (.bf b)
    | _, _ => if g = "isinstance" then (match as with
      | [a, .Name ty _] => if glB sc ty = true then (match f a, tyTab.lookup ty with
        | some a, some u => some (.isi a u)
        | _, _ => none) else none
      | _ => none) else none
def tr (t : Tx) : Nat → Scope → Expr → Option E
  | 0, _, _ => none
  | n + 1, sc, x => match x with
    | .Constant (.int i) _ _ => some (.int i)
    | .Constant (.str s) _ _ => some (.str s)
    | .Constant (.bool b) _ _ => some (.bl b)
    | .Constant .none _ _ => some .non
    | .Name x _ => if plainName x = true then (if visB sc x = true then (slot t.N x).map .var else if glB sc x = true ∧ x ∈ t.con then some (.con x) else none) else none
    | .BinOp a op b _ => match tr t n sc a, tr t n sc b with
      | some a, some b => some (.bin op a b)
      | _, _ => none
    | .UnaryOp .USub a _ => (tr t n sc a).map .neg
    | .UnaryOp .Not a _ => if isIf a = true then none else (tr t n sc a).map .not
    | .Compare a [op] [b] _ => match tr t n sc a, tr t n sc b with
      | some a, some b => some (.cmp op a b)
      | _, _ => none
    | .Compare a [o1, o2] [b, c] _ => match tr t n sc a, tr t n sc b, tr t n sc c with
      | some a, some b, some c => some (.chn o1 o2 a b c)
      | _, _, _ => none
    | .BoolOp .And (v :: vs) _ => (trTs (tr t n sc) (v :: vs)).map .and
    | .BoolOp .Or (v :: vs) _ => (trTs (tr t n sc) (v :: vs)).map .or
    | .IfExp c a b _ => if isIf c = true then none else match tr t n sc c, tr t n sc a, tr t n sc b with
      | some c, some a, some b => some (.ife c a b)
      | _, _, _ => none
    | .Call (.Name g _) as [] _ => if plainName g = true ∧ glB sc g = true then trG t sc (tr t n sc) g as else none
    | .Call (.Attribute o m apos) as [] cpos => if notSuper o = true ∧ (apos.endLine == cpos.line) = true ∧ as.length < 28 then (match tr t n sc o, trs (tr t n sc) as, bmOf m as.length with
      | some o, some as, some b => some (.bm b o as)
      | some o, some as, none => some (.meth m o as)
      | _, _, _ => none) else none
    | .Attribute o f _ => if notSuper o = true ∧ f ∈ t.fields then (tr t n sc o).map fun o => .fld o f else none
    | .Subscript a (.Slice lo hi none _) _ => match tr t n sc a, trP (tr t n sc) lo, trP (tr t n sc) hi with
      | some a, some lo, some hi => some (.slc a lo hi)
      | _, _, _ => none
    | .Subscript a (.Slice none none (some (.UnaryOp .USub (.Constant (.int 1) _ _) _)) _) _ => (tr t n sc a).map .rev
    | .Subscript a b _ => if isSlc b = true then none else match tr t n sc a, tr t n sc b with
      | some a, some b => some (.sub a b)
      | _, _ => none
    | .Tuple es _ _ => if es.length < 10000 then (trs (tr t n sc) es).map .tup else none
    | .List es _ => if es.length < 10000 then (trs (tr t n sc) es).map .lst else none
    | .Dict [] [] pos => some (if (pos.line, pos.col) ∈ t.dts then .dT else .dK)
    | .ListComp elt [⟨tg, iter, ifs, 0⟩] scope _ =>
      if blkC t.N sc scope (ownOf t.N scope) = true then (match (match trE sc (tr t n sc) tg iter with | some i => some i | none => trI sc (tr t n sc) iter), trTg t.N scope tg, tr t n scope elt, (match ifs with
          | [] => some E.nop
          | [c] => if isIf c = true then none else (match tr t n scope c with | some c => if isNop c = true then none else some c | none => none)
          | _ => none) with
        | some it, some tg, some elt, some c => if tg.slots.all (fun i => decide (i ∈ (ownOf t.N scope).map (·.2))) = true then some (.lc tg it c elt ((ownOf t.N scope).map (·.2))) else none
        | _, _, _, _ => none) else none
    | .ListComp elt [⟨tg, iter, [], 0⟩, ⟨tg1, iter1, [], 0⟩] scope _ =>
      if blkC t.N sc scope (ownOf t.N scope) = true then (match trI sc (tr t n sc) iter, trTg t.N scope tg, trI scope (tr t n scope) iter1, trTg t.N scope tg1, tr t n scope elt with
        | some it, some tg, some it1, some tg1, some elt => if (tg.slots.all (fun i => decide (i ∈ (ownOf t.N scope).map (·.2))) && tg1.slots.all (fun i => decide (i ∈ (ownOf t.N scope).map (·.2)))) = true then
            some (.lc2 tg it tg1 it1 elt ((ownOf t.N scope).map (·.2)) tg1.slots) else none
        | _, _, _, _, _ => none) else none
    | _ => none

/-! ### what a translated expression is not -/
section
variable {t : Tx} {n : Nat} {sc : Scope} {x : Expr} {e : E}
theorem star_of (h : tr t n sc x = some e) (xs : List Expr) (env : Env) : starEach (x :: xs) env = (false, eval x env) :: starEach xs env := by
  cases n with
  | zero => cases h
  | succ n => cases x <;> first | rfl | cases h
theorem stars_of {xs : List Expr} {es : Es} (h : trs (tr t n sc) xs = some es) (env : Env) (pos : Pos) : (backTo pos (starEach xs env)).any (·.1) = false ∧ (backTo pos (starEach xs env)).all (fun x => !x.1) = true := by
  induction xs generalizing es with
  | nil => exact ⟨rfl, rfl⟩
  | cons y ys ih =>
    unfold trs at h
    split at h
    · rename_i a as h1 h2
      obtain ⟨i1, i2⟩ := ih h2
      rw [star_of h1]
      show ((false || (backTo pos (starEach ys env)).any (·.1)) = false) ∧ ((!false && (backTo pos (starEach ys env)).all (fun x => !x.1)) = true)
      rw [i1, i2]
      exact ⟨rfl, rfl⟩
    · cases h
theorem base_of {o : Expr} (h : notSuper o = true) (m : Str) (env : Env) (whole : Sem Value) : attributeBase o m env whole = whole := by
  unfold attributeBase
  split
  · rename_i id p pos
    have h1 : (!(id == ("super" : Str))) = true := h
    have h2 : (id != ("super" : Str)) = true := h1
    rw [h2]
    rfl
  · rfl
theorem fold_of (h : tr t n sc x = some e) (env : Env) (v : Value) : foldedSetIterable x env v = pure v := by
  cases n with
  | zero => cases h
  | succ n => cases x <;> first | rfl | cases h
theorem mark_of (h : tr t n sc x = some e) (op : CmpOp) : behindInMarks op x = false := by
  cases n with
  | zero => cases h
  | succ n => cases x <;> first | rfl | cases h
theorem slot_ok {N : List Str} {x : Str} {i : Nat} (h : slot N x = some i) : N[i]? = some x := by
  unfold slot at h
  rw [List.findIdx?_eq_some_iff_getElem] at h
  obtain ⟨hi, e, _⟩ := h
  rw [List.getElem?_eq_getElem hi]
  simpa using e
theorem isT_of (h : tr t n sc x = some e) (hb : ∀ op vs p, x ≠ .BoolOp op vs p) (hc : ∀ a b c p, x ≠ .Compare a b c p) (hn : ∀ a p, x ≠ .UnaryOp .Not a p) (hi : isIf x = false) (env : Env) : ∀ whole, isTrue x env whole = (do let v ← whole; standAt x.pos; holding [v] (truthy v)) := by
  intro whole
  cases x with
  | BoolOp op vs p => exact absurd rfl (hb _ _ _)
  | Compare a b c p => exact absurd rfl (hc _ _ _ _)
  | IfExp a b c p => cases hi
  | UnaryOp op a p =>
    cases op with
    | Not => exact absurd rfl (hn _ _)
    | _ => rfl
  | _ => rfl
theorem subs_of {b : Expr} (h : isSlc b = false) (o i : Value) : subscripted b false o i = operate [o, i] (getItem o i) := by
  cases b <;> first | rfl | cases h
end
end Mi
set_option Elab.async false
set_option linter.all false
set_option maxRecDepth 100000
/-! M7: each construct's reading is what the evaluator says. -/
namespace Mi
open PySem PySem.Spec L2
open PyProof.Rows hiding St
section
variable {X : Cx} {W : Wd} {a b c : Expr} {fa fb fc : En → Sto → R D} {pos : Pos}
theorem truth_of {v : D} {y : V} {m : List Addr} {H : Hp} {S : Sto} {bo : Bool} {Q : Bool → Hp → Prop} (rp : Rep W m H S) (hx : VR W m H v y) (h : truth S v = some bo) (q : Q bo H) : ∃ k, TruV W.K y H k ∧ Q k H := ⟨bo, s_truth rp hx h, q⟩
theorem truthR_ok {v : D} {S S' : Sto} {bo : Bool} (h : truthR v S = .ok bo S') : truth S v = some bo ∧ S = S' := by
  unfold truthR at h
  split at h
  · obtain ⟨rfl, rfl⟩ := ok_inj h
    exact ⟨by assumption, rfl⟩
  · cases h
/-- as a test, of what is no and, or, not, comparison -/
theorem e_truth (hK : X.K = W.K) (ha : PE X a (lift W fa)) (he : ∀ whole, isTrue a X.env whole = (do let v ← whole; standAt a.pos; holding [v] (truthy v))) :
    PT X a (liftT W fun e S => (fa e S).bind fun x S1 => truthR x S1) := by
  refine pt_imp (pt_truth ha he) fun σ H Q h => ?_
  obtain ⟨m, e, S, bo, S', er, rp, h, f⟩ := h
  obtain ⟨v, S1, h1, h2⟩ := R.bind_eq h
  obtain ⟨h3, rfl⟩ := truthR_ok h2
  refine ⟨m, e, S, v, S1, er, rp, h1, fun y H' m' x r vr => ?_⟩
  rw [hK]
  exact truth_of r vr h3 (f H' m' x r)
theorem e_const {v : D} {y : V} {e : Expr} (h : PE X e (tC y)) (vr : ∀ m H, VR W m H v y) : PE X e (lift W fun _ S => .ok v S) := by
  refine pe_imp h fun σ H Q h => ?_
  obtain ⟨m, e, S, w, S', er, rp, h, f⟩ := h
  obtain ⟨rfl, rfl⟩ := ok_inj h
  exact f.done rp (vr m H)
theorem e_constO {o : Option D} {y : D → V} {e : Expr} (h : ∀ d, o = some d → PE X e (tC (y d))) (vr : ∀ d, o = some d → ∀ m H, VR W m H d (y d)) : PE X e (lift W fun _ S => optR o S) := by
  cases o with
  | none => exact ⟨fun pins s σ H Q I q => by
      obtain ⟨m, e, S, w, S', er, rp, h, f⟩ := q
      cases h⟩
  | some d => exact e_const (h d rfl) (vr d rfl)
theorem e_var {i : Nat} {x : Str} (hN : X.N[i]? = some x) (hv : Vis X.env.scope x) (hd : (x == ("__debug__" : Str)) = false) (hcd : (x == ("__classdict__" : Str)) = false) :
    PE X (.Name x pos) (lift W fun e S => optR ((e[i]?).bind id) S) := by
  refine pe_imp (pe_var hN hv hd hcd) fun σ H Q h => ?_
  obtain ⟨m, e, S, w, S', er, rp, h, f⟩ := h
  obtain ⟨h1, rfl⟩ := optR_ok h
  cases q : e[i]? with
  | none =>
    rw [q] at h1
    cases h1
  | some o =>
    rw [q] at h1
    have h2 : o = some w := h1
    subst h2
    obtain ⟨y, hy, vr⟩ := er.at_ i w q
    exact ⟨y, hy, f.done rp vr⟩
theorem e_two {e : Expr} {r : R2} {g : D → D → Sto → R D} (hr : S2 W r g) (h : PE X e (tOp r (lift W fa) (lift W fb))) :
    PE X e (lift W fun e S => (fa e S).bind fun x S1 => (fb e S1).bind fun y S2 => g x y S2) := by
  refine pe_imp h fun σ H Q h => ?_
  obtain ⟨m, e, S, w, S', er, rp, h, f⟩ := h
  obtain ⟨x, S1, h1, h⟩ := R.bind_eq h
  obtain ⟨y, S2, h2, h3⟩ := R.bind_eq h
  refine ⟨m, e, S, x, S1, er, rp, h1, fun X1 H1 m1 x1 r1 v1 => ?_⟩
  refine ⟨m1, e, S1, y, S2, er.to x1, r1, h2, fun Y1 H2 m2 x2 r2 v2 => ?_⟩
  exact hr m2 H2 S2 x y X1 Y1 w S' Q r2 (v1.to x2) v2 h3 (f.to (x1.trans x2))
theorem e_neg (ha : PE X a (lift W fa)) : PE X (.UnaryOp .USub a pos) (lift W fun e S => (fa e S).bind fun x S1 => match x with
    | .int i => .ok (.int (-i)) S1
    | _ => .bad) := by
  refine pe_imp (pe_un un_neg ha) fun σ H Q h => ?_
  obtain ⟨m, e, S, w, S', er, rp, h, f⟩ := h
  obtain ⟨x, S1, h1, h⟩ := R.bind_eq h
  refine ⟨m, e, S, x, S1, er, rp, h1, fun X1 H1 m1 x1 r1 v1 => ?_⟩
  cases x with
  | int i =>
    obtain ⟨rfl, rfl⟩ := ok_inj h
    exact ⟨i, vr_int v1, (f.to x1).done r1 (.int _)⟩
  | _ => cases h
/-- a comparison gives a truth value -/
theorem cmp_bl {cds : Nat → List (Str × D)} {op : CmpOp} {x y v : D} {S S' : Sto} (h : cmpD cds op x y S = .ok v S') : ∃ bo, v = .bl bo ∧ S = S' := by
  have e : ∀ {neg : Bool}, eqD neg x y S = .ok v S' → ∃ bo, v = .bl bo ∧ S = S' := fun {neg} h => by
    unfold eqD at h
    split at h
    · obtain ⟨rfl, rfl⟩ := ok_inj h
      exact ⟨_, rfl, rfl⟩
    · obtain ⟨rfl, rfl⟩ := ok_inj h
      exact ⟨_, rfl, rfl⟩
    · split at h
      · split at h
        · obtain ⟨rfl, rfl⟩ := ok_inj h
          exact ⟨_, rfl, rfl⟩
        · cases h
      · cases h
  have i : ∀ {neg : Bool}, isD neg x y S = .ok v S' → ∃ bo, v = .bl bo ∧ S = S' := fun {neg} h => by
    unfold isD at h
    split at h
    · obtain ⟨rfl, rfl⟩ := ok_inj h
      exact ⟨_, rfl, rfl⟩
    · obtain ⟨rfl, rfl⟩ := ok_inj h
      exact ⟨_, rfl, rfl⟩
    · cases h
  have n : ∀ {neg : Bool}, inD cds neg x y S = .ok v S' → ∃ bo, v = .bl bo ∧ S = S' := fun {neg} h => by
    unfold inD at h
    split at h
    · obtain ⟨rfl, rfl⟩ := ok_inj h
      exact ⟨_, rfl, rfl⟩
    · split at h
      · obtain ⟨rfl, rfl⟩ := ok_inj h
        exact ⟨_, rfl, rfl⟩
      · cases h
    · split at h
      · obtain ⟨rfl, rfl⟩ := ok_inj h
        exact ⟨_, rfl, rfl⟩
      · split at h
        · split at h
          · split at h
            · obtain ⟨rfl, rfl⟩ := ok_inj h
              exact ⟨_, rfl, rfl⟩
            · cases h
          · cases h
        · cases h
  cases op with
  | Eq => exact e h
  | NotEq => exact e h
  | Is => exact i h
  | IsNot => exact i h
  | In => exact n h
  | NotIn => exact n h
  | _ =>
    simp only [cmpD] at h
    split at h <;> first | cases h | skip
    exact ⟨_, rfl, rfl⟩
theorem t_cmp {e : Expr} {r : R2} {cds : Nat → List (Str × D)} {op : CmpOp} (hr : S2 W r (cmpD cds op)) (h : PT X e (tTest (tOp r (lift W fa) (lift W fb)))) :
    PT X e (liftT W fun e S => ((fa e S).bind fun x S1 => (fb e S1).bind fun y S2 => cmpD cds op x y S2).bind fun x S1 => truthR x S1) := by
  refine pt_imp h fun σ H Q h => ?_
  obtain ⟨m, e, S, w, S', er, rp, h, f⟩ := h
  obtain ⟨v, S3, h0, h4⟩ := R.bind_eq h
  obtain ⟨x, S1, h1, h⟩ := R.bind_eq h0
  obtain ⟨y, S2, h2, h3⟩ := R.bind_eq h
  refine ⟨m, e, S, x, S1, er, rp, h1, fun X1 H1 m1 x1 r1 v1 => ?_⟩
  refine ⟨m1, e, S1, y, S2, er.to x1, r1, h2, fun Y1 H2 m2 x2 r2 v2 => ?_⟩
  obtain ⟨bo, rfl, rfl⟩ := cmp_bl h3
  obtain ⟨h5, rfl⟩ := truthR_ok h4
  cases h5
  refine hr m2 H2 S2 x y X1 Y1 (.bl w) S2 _ r2 (v1.to x2) v2 h3 fun z H3 m3 x3 r3 v3 => ?_
  exact ⟨w, vr_bl v3, f H3 m3 ((x1.trans x2).trans x3) r3⟩
def chnD (cds : Nat → List (Str × D)) (o1 o2 : CmpOp) (fa fb fc : En → Sto → R D) : En → Sto → R D := fun e S => (fa e S).bind fun x S1 => (fb e S1).bind fun y S2 => (cmpD cds o1 x y S2).bind fun z S3 => match z with
  | .bl true => (fc e S3).bind fun w S4 => cmpD cds o2 y w S4
  | .bl false => .ok (.bl false) S3
  | _ => .bad
theorem s_chn {cds : Nat → List (Str × D)} {o1 o2 : CmpOp} {r1 r2 : R2} (hr1 : S2 W r1 (cmpD cds o1)) (hr2 : S2 W r2 (cmpD cds o2)) {σ : St} {H : Hp} {Q : VK} (h : lift W (chnD cds o1 o2 fa fb fc) σ H Q) :
    tChain r1 r2 (lift W fa) (lift W fb) (lift W fc) σ H Q := by
  obtain ⟨m, e, S, w, S', er, rp, h, f⟩ := h
  obtain ⟨x, S1, h1, h⟩ := R.bind_eq h
  obtain ⟨y, S2, h2, h⟩ := R.bind_eq h
  obtain ⟨z, S3, h3, h4⟩ := R.bind_eq h
  refine ⟨m, e, S, x, S1, er, rp, h1, fun X1 H1 m1 x1 r1 v1 => ?_⟩
  refine ⟨m1, e, S1, y, S2, er.to x1, r1, h2, fun Y1 H2 m2 x2 r2 v2 => ?_⟩
  obtain ⟨b0, e1, e2⟩ := cmp_bl h3
  subst e1 e2
  refine hr1 m2 H2 S2 x y X1 Y1 (.bl b0) S2 _ r2 (v1.to x2) v2 h3 fun z H3 m3 x3 r3 v3 => ?_
  refine ⟨b0, vr_bl v3, ?_⟩
  cases b0 with
  | true =>
    rw [if_pos rfl]
    obtain ⟨u, S4, h5, h6⟩ := R.bind_eq h4
    refine ⟨m3, e, S2, u, S4, ((er.to x1).to x2).to x3, r3, h5, fun Z1 H4 m4 x4 r4 v4 => ?_⟩
    exact hr2 m4 H4 S4 y u Y1 Z1 w S' Q r4 (v2.to (x3.trans x4)) v4 h6 (f.to (((x1.trans x2).trans x3).trans x4))
  | false =>
    rw [if_neg Bool.false_ne_true]
    obtain ⟨rfl, rfl⟩ := ok_inj h4
    exact (f.to ((x1.trans x2).trans x3)).done r3 (.bl _)
theorem e_chn {e : Expr} {cds : Nat → List (Str × D)} {o1 o2 : CmpOp} {r1 r2 : R2} (hr1 : S2 W r1 (cmpD cds o1)) (hr2 : S2 W r2 (cmpD cds o2)) (h : PE X e (tChain r1 r2 (lift W fa) (lift W fb) (lift W fc))) :
    PE X e (lift W (chnD cds o1 o2 fa fb fc)) := pe_imp h fun σ H Q h => s_chn hr1 hr2 h
theorem t_chn {e : Expr} {cds : Nat → List (Str × D)} {o1 o2 : CmpOp} {r1 r2 : R2} (hr1 : S2 W r1 (cmpD cds o1)) (hr2 : S2 W r2 (cmpD cds o2)) (h : PT X e (tTest (tChain r1 r2 (lift W fa) (lift W fb) (lift W fc)))) :
    PT X e (liftT W fun e S => (chnD cds o1 o2 fa fb fc e S).bind fun x S1 => truthR x S1) := by
  refine pt_imp h fun σ H Q h => ?_
  obtain ⟨m, e, S, w, S', er, rp, h, f⟩ := h
  obtain ⟨v, S3, h0, h4⟩ := R.bind_eq h
  have hv : ∃ bo, v = .bl bo := by
    obtain ⟨x, S1, h1, h⟩ := R.bind_eq h0
    obtain ⟨y, S2, h2, h⟩ := R.bind_eq h
    obtain ⟨z, S5, h3, h5⟩ := R.bind_eq h
    obtain ⟨b0, e1, e2⟩ := cmp_bl h3
    subst e1 e2
    cases b0 with
    | true =>
      obtain ⟨u, S4, h6, h7⟩ := R.bind_eq h5
      obtain ⟨b2, e2, _⟩ := cmp_bl h7
      exact ⟨b2, e2⟩
    | false =>
      obtain ⟨rfl, rfl⟩ := ok_inj h5
      exact ⟨_, rfl⟩
  obtain ⟨b0, e0⟩ := hv
  subst e0
  obtain ⟨h5, h6⟩ := truthR_ok h4
  subst h6
  have h7 : b0 = w := Option.some.inj h5
  subst h7
  exact s_chn hr1 hr2 ⟨m, e, S, _, _, er, rp, h0, fun z H3 m3 x3 r3 v3 => ⟨b0, vr_bl v3, f H3 m3 x3 r3⟩⟩
/-! ### not, and, or, if -/
variable {ta tb : En → Sto → R Bool}
theorem t_not (ha : PT X a (liftT W ta)) : PT X (.UnaryOp .Not a pos) (liftT W fun e S => (ta e S).bind fun b S1 => .ok (!b) S1) := by
  refine pt_imp (pt_not ha) fun σ H Q h => ?_
  obtain ⟨m, e, S, w, S', er, rp, h, f⟩ := h
  obtain ⟨v, S1, h1, h2⟩ := R.bind_eq h
  obtain ⟨rfl, rfl⟩ := ok_inj h2
  exact ⟨m, e, S, v, S1, er, rp, h1, fun H' m' x r => f H' m' x r⟩
theorem e_not (ha : PE X a (lift W fa)) : PE X (.UnaryOp .Not a pos) (lift W fun e S => (fa e S).bind fun x S1 => match x with
    | .bl b => .ok (.bl (!b)) S1
    | _ => .bad) := by
  refine pe_imp (pe_not ha) fun σ H Q h => ?_
  obtain ⟨m, e, S, w, S', er, rp, h, f⟩ := h
  obtain ⟨x, S1, h1, h⟩ := R.bind_eq h
  refine ⟨m, e, S, x, S1, er, rp, h1, fun X1 H1 m1 x1 r1 v1 => ?_⟩
  cases x with
  | bl i =>
    obtain ⟨rfl, rfl⟩ := ok_inj h
    exact ⟨i, vr_bl v1, (f.to x1).done r1 (.bl _)⟩
  | _ => cases h
theorem e_ife (ht : PT X c (liftT W ta)) (ha : PE X a (lift W fa)) (hb : PE X b (lift W fb)) : PE X (.IfExp c a b pos) (lift W fun e S => (ta e S).bind fun t S1 => if t = true then fa e S1 else fb e S1) := by
  refine pe_imp (pe_ifExp ht ha hb) fun σ H Q h => ?_
  obtain ⟨m, e, S, w, S', er, rp, h, f⟩ := h
  obtain ⟨t, S1, h1, h⟩ := R.bind_eq h
  refine ⟨m, e, S, t, S1, er, rp, h1, fun H1 m1 x1 r1 => ?_⟩
  cases t with
  | true =>
    rw [if_pos rfl] at h ⊢
    exact ⟨m1, e, S1, w, S', er.to x1, r1, h, f.to x1⟩
  | false =>
    rw [if_neg Bool.false_ne_true] at h ⊢
    exact ⟨m1, e, S1, w, S', er.to x1, r1, h, f.to x1⟩
theorem w_and1 (ha : PT X a (liftT W ta)) : PW X (.BoolOp .And [a] pos) (liftT W fun e S => (ta e S).bind fun b S1 => if b = true then .ok true S1 else .ok false S1) := by
  refine pw_imp (pw_and1 ha) fun σ H Q h => ?_
  obtain ⟨m, e, S, w, S', er, rp, h, f⟩ := h
  obtain ⟨t, S1, h1, h⟩ := R.bind_eq h
  cases t <;> (obtain ⟨rfl, rfl⟩ := ok_inj h; exact ⟨m, e, S, _, S1, er, rp, h1, f⟩)
theorem w_or1 (ha : PT X a (liftT W ta)) : PW X (.BoolOp .Or [a] pos) (liftT W fun e S => (ta e S).bind fun b S1 => if b = true then .ok true S1 else .ok false S1) := by
  refine pw_imp (pw_or1 ha) fun σ H Q h => ?_
  obtain ⟨m, e, S, w, S', er, rp, h, f⟩ := h
  obtain ⟨t, S1, h1, h⟩ := R.bind_eq h
  cases t <;> (obtain ⟨rfl, rfl⟩ := ok_inj h; exact ⟨m, e, S, _, S1, er, rp, h1, f⟩)
theorem w_and {rest : List Expr} (ha : PT X a (liftT W ta)) (hb : PW X (.BoolOp .And (b :: rest) pos) (liftT W tb)) :
    PW X (.BoolOp .And (a :: b :: rest) pos) (liftT W fun e S => (ta e S).bind fun b S1 => if b = true then tb e S1 else .ok false S1) := by
  refine pw_imp (pw_and ha hb) fun σ H Q h => ?_
  obtain ⟨m, e, S, w, S', er, rp, h, f⟩ := h
  obtain ⟨t, S1, h1, h⟩ := R.bind_eq h
  refine ⟨m, e, S, t, S1, er, rp, h1, fun H1 m1 x1 r1 => ?_⟩
  cases t with
  | true =>
    rw [if_pos rfl] at h ⊢
    exact ⟨m1, e, S1, w, S', er.to x1, r1, h, fun H' m' x r => f H' m' (x1.trans x) r⟩
  | false =>
    rw [if_neg Bool.false_ne_true] at h ⊢
    obtain ⟨rfl, rfl⟩ := ok_inj h
    exact f H1 m1 x1 r1
theorem w_or {rest : List Expr} (ha : PT X a (liftT W ta)) (hb : PW X (.BoolOp .Or (b :: rest) pos) (liftT W tb)) :
    PW X (.BoolOp .Or (a :: b :: rest) pos) (liftT W fun e S => (ta e S).bind fun b S1 => if b = true then .ok true S1 else tb e S1) := by
  refine pw_imp (pw_or ha hb) fun σ H Q h => ?_
  obtain ⟨m, e, S, w, S', er, rp, h, f⟩ := h
  obtain ⟨t, S1, h1, h⟩ := R.bind_eq h
  refine ⟨m, e, S, t, S1, er, rp, h1, fun H1 m1 x1 r1 => ?_⟩
  cases t with
  | true =>
    rw [if_pos rfl] at h ⊢
    obtain ⟨rfl, rfl⟩ := ok_inj h
    exact f H1 m1 x1 r1
  | false =>
    rw [if_neg Bool.false_ne_true] at h ⊢
    exact ⟨m1, e, S1, w, S', er.to x1, r1, h, fun H' m' x r => f H' m' (x1.trans x) r⟩
theorem v_and {rest : List Expr} (ha : PE X a (lift W fa)) (hb : PE X (.BoolOp .And (b :: rest) pos) (lift W fb)) :
    PE X (.BoolOp .And (a :: b :: rest) pos) (lift W fun e S => (fa e S).bind fun x S1 => match x with
      | .bl true => fb e S1
      | .bl false => .ok (.bl false) S1
      | _ => .bad) := by
  refine pe_imp (pe_and ha hb) fun σ H Q h => ?_
  obtain ⟨m, e, S, w, S', er, rp, h, f⟩ := h
  obtain ⟨x, S1, h1, h⟩ := R.bind_eq h
  refine ⟨m, e, S, x, S1, er, rp, h1, fun X1 H1 m1 x1 r1 v1 => ?_⟩
  cases x with
  | bl t =>
    refine ⟨t, vr_bl v1, ?_⟩
    cases t with
    | true =>
      rw [if_pos rfl]
      exact ⟨m1, e, S1, w, S', er.to x1, r1, h, f.to x1⟩
    | false =>
      rw [if_neg Bool.false_ne_true]
      obtain ⟨rfl, rfl⟩ := ok_inj h
      exact (f.to x1).done r1 (.bl _)
  | _ => cases h
theorem v_or {rest : List Expr} (ha : PE X a (lift W fa)) (hb : PE X (.BoolOp .Or (b :: rest) pos) (lift W fb)) :
    PE X (.BoolOp .Or (a :: b :: rest) pos) (lift W fun e S => (fa e S).bind fun x S1 => match x with
      | .bl true => .ok (.bl true) S1
      | .bl false => fb e S1
      | _ => .bad) := by
  refine pe_imp (pe_or ha hb) fun σ H Q h => ?_
  obtain ⟨m, e, S, w, S', er, rp, h, f⟩ := h
  obtain ⟨x, S1, h1, h⟩ := R.bind_eq h
  refine ⟨m, e, S, x, S1, er, rp, h1, fun X1 H1 m1 x1 r1 v1 => ?_⟩
  cases x with
  | bl t =>
    refine ⟨t, vr_bl v1, ?_⟩
    cases t with
    | true =>
      rw [if_pos rfl]
      obtain ⟨rfl, rfl⟩ := ok_inj h
      exact (f.to x1).done r1 (.bl _)
    | false =>
      rw [if_neg Bool.false_ne_true]
      exact ⟨m1, e, S1, w, S', er.to x1, r1, h, f.to x1⟩
  | _ => cases h
/-! ### lists of arguments, displays -/
theorem a_nil : PA X [] (liftA W fun _ S => .ok [] S) := by
  refine pa_imp pa_nil fun σ H Q h => ?_
  obtain ⟨m, e, S, w, S', er, rp, h, f⟩ := h
  obtain ⟨rfl, rfl⟩ := ok_inj h
  exact f [] H m .refl rp .nil
theorem a_cons {xs : List Expr} {fs : En → Sto → R (List D)} (ha : PE X a (lift W fa)) (hs : PA X xs (liftA W fs)) (hst : starEach (a :: xs) X.env = (false, eval a X.env) :: starEach xs X.env) :
    PA X (a :: xs) (liftA W fun e S => (fa e S).bind fun x S1 => (fs e S1).bind fun ys S2 => .ok (x :: ys) S2) := by
  refine pa_imp (pa_cons ha hs hst) fun σ H Q h => ?_
  obtain ⟨m, e, S, w, S', er, rp, h, f⟩ := h
  obtain ⟨x, S1, h1, h⟩ := R.bind_eq h
  obtain ⟨ys, S2, h2, h3⟩ := R.bind_eq h
  obtain ⟨rfl, rfl⟩ := ok_inj h3
  refine ⟨m, e, S, x, S1, er, rp, h1, fun X1 H1 m1 x1 r1 v1 => ?_⟩
  refine ⟨m1, e, S1, ys, S2, er.to x1, r1, h2, fun Y1 H2 m2 x2 r2 v2 => ?_⟩
  exact f _ H2 m2 (x1.trans x2) r2 (.cons (v1.to x2) v2)
/-- so many come out as go in -/
theorem es_len {C : Cxt} : ∀ {xs : List Expr} {g : Expr → Option E} {es : Es}, trs g xs = some es → ∀ {e : En} {S S' : Sto} {vs : List D}, evEs C es e S = .ok vs S' → vs.length = xs.length
  | [], g, es, h, e, S, S', vs, q => by
    cases h
    obtain ⟨rfl, rfl⟩ := ok_inj q
    rfl
  | x :: xs, g, es, h, e, S, S', vs, q => by
    unfold trs at h
    split at h
    · rename_i a as h1 h2
      cases h
      obtain ⟨y, S1, q1, q⟩ := R.bind_eq q
      obtain ⟨ys, S2, q2, q3⟩ := R.bind_eq q
      obtain ⟨rfl, rfl⟩ := ok_inj q3
      rw [List.length_cons, List.length_cons, es_len h2 q2]
    · cases h
theorem e_tup {xs : List Expr} {fs : En → Sto → R (List D)} {k : Nat} (hs : PA X xs (liftA W fs)) (hl : ∀ e S vs S', fs e S = .ok vs S' → vs.length < 10000) :
    PE X (.Tuple xs k pos) (lift W fun e S => (fs e S).bind fun vs S1 => .ok (.tup vs) S1) := by
  refine pe_imp (pe_tup hs) fun σ H Q h => ?_
  obtain ⟨m, e, S, w, S', er, rp, h, f⟩ := h
  obtain ⟨vs, S1, h1, h2⟩ := R.bind_eq h
  obtain ⟨rfl, rfl⟩ := ok_inj h2
  refine ⟨m, e, S, vs, S1, er, rp, h1, fun ys H1 m1 x1 r1 v1 => ⟨?_, fun p hp => (f.to x1).tup r1 v1 hp⟩⟩
  have h3 := hl e S vs S1 h1
  rw [← v1.length, sizeLine_eq]
  omega
theorem e_lst {xs : List Expr} {fs : En → Sto → R (List D)} (hs : PA X xs (liftA W fs)) (hl : ∀ e S vs S', fs e S = .ok vs S' → vs.length < 10000) :
    PE X (.List xs pos) (lift W fun e S => (fs e S).bind fun vs S1 => .ok (.ref S1.length) (S1 ++ [.lst vs])) := by
  refine pe_imp (pe_lst hs) fun σ H Q h => ?_
  obtain ⟨m, e, S, w, S', er, rp, h, f⟩ := h
  obtain ⟨vs, S1, h1, h2⟩ := R.bind_eq h
  obtain ⟨rfl, rfl⟩ := ok_inj h2
  refine ⟨m, e, S, vs, S1, er, rp, h1, fun ys H1 m1 x1 r1 v1 => ⟨?_, fun p hp => (f.to x1).lst r1 v1 hp⟩⟩
  have h3 := hl e S vs S1 h1
  rw [← v1.length, sizeLine_eq]
  omega
theorem e_dK : PE X (.Dict [] [] pos) (lift W fun _ S => .ok (.ref S.length) (S ++ [.dK []])) := by
  refine pe_imp pe_dnewK fun σ H Q h => ?_
  obtain ⟨m, e, S, w, S', er, rp, h, f⟩ := h
  obtain ⟨rfl, rfl⟩ := ok_inj h
  exact fun p hp => f.new rp hp ⟨[], upd_same, .nil⟩
theorem e_dT : PE X (.Dict [] [] pos) (lift W fun _ S => .ok (.ref S.length) (S ++ [.dT []])) := by
  refine pe_imp pe_dnewT fun σ H Q h => ?_
  obtain ⟨m, e, S, w, S', er, rp, h, f⟩ := h
  obtain ⟨rfl, rfl⟩ := ok_inj h
  exact fun p hp => f.new rp hp ⟨[], upd_same, .nil⟩
end
end Mi
set_option Elab.async false
set_option linter.all false
set_option maxRecDepth 100000
/-! M7b: room counted call by call. -/
namespace Mi
open PySem PySem.Spec L2
open PyProof.Rows hiding St
/-- room for so many calls in one another -/
structure Rm (k : Nat) (A : Around) : Prop where
  h0 : A.handled = none
  d0 : A.depth + k + 1 < recursionLimit
  u0 : A.units + 5 * k + 300 < cLine
theorem Rm.less {i k : Nat} {A : Around} (r : Rm k A) (h : i ≤ k) : Rm i A := ⟨r.h0, by have := r.d0; omega, by have := r.u0; omega⟩
theorem Rm.sub {k : Nat} {A : Around} (r : Rm (k + 1) A) (env : Env) : Rm k (A.deeper env) := by
  obtain ⟨a, b, c⟩ := r
  refine ⟨a, ?_, ?_⟩
  · show A.depth + 1 + k + 1 < recursionLimit
    omega
  · show A.units + 3 + 5 * k + 300 < cLine
    omega
theorem Rm.new {k : Nat} {A : Around} (r : Rm (k + 1) A) (C : Addr) (us : List Value) (kw : List (Str × Value)) : Rm k (A.under (.builtin "type.__call__" ⟨.ref C :: us, kw⟩)) := by
  obtain ⟨a, b, c⟩ := r
  refine ⟨a, ?_, ?_⟩
  · rw [make_depth]
    omega
  · rw [make_units]
    omega
theorem Rm.low {k : Nat} {A : Around} (r : Rm k A) : A.depth < recursionLimit := by
  have := r.d0
  omega
/-- a def's promise where there is such room -/
structure FnR (P : Program) (w : World) (K : PySem.W.Frag) (mg : Str → Option Value) (base : Heap) (CX : CXT) (k : Nat) (f : Addr) (fd : FuncData) (ps : List Str) (sp : Sp) : Prop where
  many : ∀ vs H Q E, sp vs H Q E → vs.length = ps.length
  goes : ∀ (A : Around) (up : List Env) (s : Shared) (H : Hp) (gs : Args) (us : List Value) (vs : List V) (Q : VK) (E : XK), Rm k A → Env0 P w K mg base A up s H → BindsTo s fd gs (ps.zip us) → Vals vs us → sp vs H Q E →
    codeAny (model P w) A (.call (.ref f) gs) (CR CX up P w H s Q E) s
section
variable {P : Program} {w : World} {K : PySem.W.Frag} {mg : Str → Option Value} {base : Heap} {CX : CXT} {i k : Nat} {f : Addr} {fd : FuncData} {ps : List Str} {sp : Sp}
theorem FnR.more (F : FnR P w K mg base CX i f fd ps sp) (h : i ≤ k) : FnR P w K mg base CX k f fd ps sp :=
  ⟨F.many, fun A up s H gs us vs Q E r => F.goes A up s H gs us vs Q E (r.less h)⟩
/-- at the foot of all calls -/
theorem FnR.top (F : FnR P w K mg base CX 697 f fd ps sp) : FnOk P w K mg base CX 231 f fd ps sp :=
  ⟨F.many, fun A up s H gs us vs Q E r => F.goes A up s H gs us vs Q E ⟨r.hd, by have := r.dp; unfold recursionLimit at *; omega, by have := r.un; unfold cLine at *; omega⟩⟩
end
theorem room_top : Room 231 callerA := ⟨rfl, by decide +kernel, by decide +kernel⟩
section
variable {X : Cx} {pins : List (Addr × Obj)} {σ : St} {H : Hp} {s s' : Shared} {k : Nat} {f C : Addr} {fd : FuncData} {ps : List Str} {sp : Sp} {x : Str} {p pos : Pos} {b : Expr} {bs : List Expr} {t : TA}
/-- what a callee ends with -/
theorem back {Q : VK} {E : XK} {r : Result} (hx : Passes CX0 X E) (I : Inv X pins σ H s) (h : CR CX0 X.stack X.prog X.w H s Q E r s') : (match r with
    | .error e => X.xe e s'
    | .ok (.ret u) => EP X pins σ Q u s'
    | .ok _ => False) := by
  cases r with
  | error e => exact hx pins σ H s e s' I h
  | ok o => cases o <;> first | exact I.after h | exact h
theorem goR_fn {Q : VK} {us : List Value} {vs : List V} (F : FnR X.prog X.w X.K X.mg X.base CX0 k f fd ps sp) (r : Rm k X.A) (hb : Binds X.K fd ps []) (I : Inv X pins σ H s) (v : Vals vs us) (h : sp (vs ++ []) H Q E0) :
    wpAny (model X.prog X.w) X.A (call (.ref f) us) (EP X pins σ Q) X.xe s := by
  have v2 : Vals (vs ++ []) (us ++ []) := v.append .nil
  have hl : (us ++ []).length = ps.length := v2.length.symm.trans (F.many _ _ _ _ h)
  refine wpAny_call (codeAny_mono (F.goes _ _ _ _ ⟨us, []⟩ _ _ _ _ r I.env0 (hb s us I.kIn hl) v2 h) fun r s' q => ?_)
  have z := back pass0 I q
  cases r with
  | error e => exact z
  | ok o => cases o <;> exact z
theorem goR_make {Q : VK} {us : List Value} {vs : List V} (M : Mk X.K C f) (F : FnR X.prog X.w X.K X.mg X.base CX0 k f fd ps sp) (r : Rm (k + 1) X.A) (hb : Binds X.K fd ps []) (I : Inv X pins σ H s) (v : Vals vs us)
    (h : ∀ y dy, H y = none → H dy = none → dy ≠ y → sp (.ref y :: (vs ++ [])) (upd (upd H dy (.own y)) y (.ins C dy [])) (fun z H2 => z = .non ∧ Q (.ref y) H2) E0) : wpAny (model X.prog X.w) X.A (call (.ref C) us) (EP X pins σ Q) X.xe s := by
  have q := h (s.heap.objs.size + 1) s.heap.objs.size (I.hok.fresh (Nat.le_succ _)) (I.hok.fresh (Nat.le_refl _)) (Nat.ne_of_lt (Nat.lt_succ_self _))
  have J := Inv.made (C := C) I
  have v2 : Vals (V.ref (s.heap.objs.size + 1) :: (vs ++ [])) (Value.ref (s.heap.objs.size + 1) :: (us ++ [])) := .cons rfl (v.append .nil)
  have hl : (Value.ref (s.heap.objs.size + 1) :: us ++ []).length = ps.length := v2.length.symm.trans (F.many _ _ _ _ q)
  refine wpAny_call (make_map (f := f) I.kIn M.makes M.init (beq_iff_eq.mp M.fn) (codeAny_mono (F.goes _ _ _ _ ⟨_ :: us, []⟩ _ _ _ _ (r.new C us []) (J.env0.make C us []) (hb _ (_ :: us) J.kIn hl) v2 q) fun r s' q2 => ?_))
  have z := back pass0 J q2
  cases r with
  | error e => exact z
  | ok o =>
    cases o with
    | ret u =>
      obtain ⟨z, H', J2, rz, ez, q3⟩ := z
      subst ez
      exact ⟨rz, V.ref (s.heap.objs.size + 1), H', J2, rfl, q3⟩
    | next => exact z.elim
    | brk => exact z.elim
    | cont => exact z.elim
theorem peR_call (F : FnR X.prog X.w X.K X.mg X.base CX0 k f fd ps sp) (r : Rm k X.A) (hg : Gl X x) (hm : X.mg x = some (.ref f)) (hk : PySem.W.keepIn X.K (.ref f) = true) (hb : Binds X.K fd ps []) (ha : PA X (b :: bs) t) (hdb : (x == ("__debug__" : Str)) = false)
    (h1 : starEach (b :: bs) X.env = (false, eval b X.env) :: starEach bs X.env) (h2 : (backTo pos (starEach bs X.env)).any (·.1) = false) : PE X (.Call (.Name x p) (b :: bs) [] pos) (tCall sp [] E0 t) :=
  ⟨fun pins s σ H Q I h => wpAny_Call_Name_kw (ld_glob I hg hm (PySem.W.callWith_K (h₀ := X.base) I.ok.mod.kin hk (thn (ha.run pos pins s σ H _ I h) fun us s1 ⟨vs, H1, J, v, q⟩ => ⟨J.kIn, goR_fn F r hb J v q⟩) h1 h2) hdb)⟩
theorem peR_call0 (F : FnR X.prog X.w X.K X.mg X.base CX0 k f fd ps sp) (r : Rm k X.A) (hg : Gl X x) (hm : X.mg x = some (.ref f)) (hk : PySem.W.keepIn X.K (.ref f) = true) (hb : Binds X.K fd ps []) (hdb : (x == ("__debug__" : Str)) = false) :
    PE X (.Call (.Name x p) [] [] pos) (tCall sp [] E0 tNil) :=
  ⟨fun pins s σ H Q I h => wpAny_Call_Name_kw (ld_glob I hg hm (PySem.W.callWith_K0 I.kIn hk (goR_fn (us := []) F r hb I .nil h)) hdb)⟩
theorem peR_make (M : Mk X.K C f) (F : FnR X.prog X.w X.K X.mg X.base CX0 k f fd ps sp) (r : Rm (k + 1) X.A) (hg : Gl X x) (hm : X.mg x = some (.ref C)) (hb : Binds X.K fd ps []) (ha : PA X (b :: bs) t) (hdb : (x == ("__debug__" : Str)) = false)
    (h1 : starEach (b :: bs) X.env = (false, eval b X.env) :: starEach bs X.env) (h2 : (backTo pos (starEach bs X.env)).any (·.1) = false) : PE X (.Call (.Name x p) (b :: bs) [] pos) (tMake C sp [] E0 t) :=
  ⟨fun pins s σ H Q I h => wpAny_Call_Name_kw (ld_glob I hg hm (PySem.W.callWith_K (h₀ := X.base) I.ok.mod.kin M.kp (thn (ha.run pos pins s σ H _ I h) fun us s1 ⟨vs, H1, J, v, q⟩ => ⟨J.kIn, goR_make M F r hb J v q⟩) h1 h2) hdb)⟩
theorem peR_make0 (M : Mk X.K C f) (F : FnR X.prog X.w X.K X.mg X.base CX0 k f fd ps sp) (r : Rm (k + 1) X.A) (hg : Gl X x) (hm : X.mg x = some (.ref C)) (hb : Binds X.K fd ps []) (hdb : (x == ("__debug__" : Str)) = false) :
    PE X (.Call (.Name x p) [] [] pos) (tMake C sp [] E0 tNil) :=
  ⟨fun pins s σ H Q I h => wpAny_Call_Name_kw (ld_glob I hg hm (PySem.W.callWith_K0 I.kIn M.kp (goR_make (us := []) M F r hb I .nil h)) hdb)⟩
end
/-- a def, by its body -/
theorem FunD.okR {P : Program} {w : World} {K : PySem.W.Frag} {mg : Str → Option Value} {base : Heap} {x qual : Str} {params : Arguments} {body : List Stmt} {scope : Scope} {dvs : List V} {kws : List (Str × V)} {f : Addr} {fd : FuncData} {CX : CXT} {N ps : List Str} {k : Nat} {sp : Sp}
    (F : FunD K x qual params body scope dvs kws f fd) (S : FnScope N ps scope) (many : ∀ vs H Q E, sp vs H Q E → vs.length = ps.length)
    (hb : ∀ (cd : Value) (A : Around) (up : List Env) (s : Shared) (H : Hp) (vs : List V) (Q : VK) (E : XK), Rm k (A.deeper (envOfC qual scope s.heap.objs.size f cd)) → sp vs H Q E →
      ∃ t, PSs (cxOf CX P w K mg base N qual scope f cd A up s H E) body t ∧ t { nx := fun _ H' => Q .non H', rt := Q } (start N vs) H) : FnR P w K mg base CX (k + 1) f fd ps sp := by
  obtain ⟨oc, od, dV, kV, doc, pm, an, cd, ct, osl, rfl, lk, hcd, _, _⟩ := F.ex
  refine ⟨many, fun A up s H gs us vs Q E r e0 hbs v hsp => ?_⟩
  have ln := many _ _ _ _ hsp
  have KX : K.In s.heap := e0.mod.kin.keeps fun b o e => (e0.bs b o e).1
  have nl : s.heap.NoLimit := e0.mod.nolimit.keeps fun b o e => (e0.bs b o e).1
  have kinds : ∀ y ∈ ps.zip us, scope.names.lookup y.1 = some .local ∨ (scope.names.lookup y.1 = some .cell ∧ ((cellsFrom (s.heap.objs.size + 1) scope.names []).lookup y.1).isSome = true) := fun y hy =>
    (S.par y.1 (List.of_mem_zip hy).1).imp_right fun q => ⟨q, PySem.W.cellsFrom_some _ _ _ (.inl q)⟩
  refine codeAny_call_function r.low (KX _ _ lk) rfl S.co S.gen rfl (PySem.W.codeRec_of KX hcd) (hbs _ _ _ _ ?_)
  refine wpAny_newFunctionEnv_cells S.kind kinds fun env he s1 z => ?_
  subst he
  obtain ⟨t, pt, ht⟩ := hb cd A up s H vs Q E (r.sub _) hsp
  refine ⟨nl.keeps z.toInCall.keep, codeAny_func ?_⟩
  refine wpAny_mono (pt.run [] s1 (start N vs) H _ (inv_start S r.h0 e0 ln v z) ht) (fun o s' q => ?_) fun _ _ q => q
  cases o with
  | ret u =>
    obtain ⟨y, _, H', J, ry, qy⟩ := q
    exact ⟨y, H', J.os, J.bare, J.base, J.hok, ry, qy⟩
  | next =>
    obtain ⟨_, H', J, qy⟩ := q
    exact ⟨V.non, H', J.os, J.bare, J.base, J.hok, rfl, qy⟩
  | brk =>
    obtain ⟨_, _, _, q⟩ := q
    exact q.elim
  | cont =>
    obtain ⟨_, _, _, q⟩ := q
    exact q.elim
end Mi
set_option Elab.async false
set_option linter.all false
set_option maxRecDepth 100000
/-! M8: calls, fields, subscripts, slices, methods, comprehensions: their readings are what the evaluator says. -/
namespace Mi
open PySem PySem.Spec L2
open PyProof.Rows hiding St
/-- a def's promise: what the evaluator says of it -/
def spD (W : Wd) (g : List D → Sto → R D) : Sp := fun vs H Q _ => ∃ m S ds v S', Rep W m H S ∧ VRs W m H ds vs ∧ g ds S = .ok v S' ∧ Fin W m H S' v Q
section
variable {X : Cx} {W : Wd} {a b c o : Expr} {fa fb fc fo : En → Sto → R D} {pos apos : Pos} {k : Nat} {f : Addr} {fd : FuncData} {ps : List Str} {g : List D → Sto → R D} {x mm : Str} {p : Pos} {es : List Expr} {fs : En → Sto → R (List D)}
theorem lookKR {W : Wd} {m : List Addr} {H : Hp} {fs : List (Str × D)} {gs : List (Str × V)} (h : KR W m H fs gs) (f : Str) : (fs.lookup f = none ∧ gs.lookup f = none) ∨ ∃ d y, fs.lookup f = some d ∧ gs.lookup f = some y ∧ VR W m H d y := by
  unfold KR at h
  induction h with
  | nil => exact .inl ⟨rfl, rfl⟩
  | @cons p q ps qs r t ih =>
    obtain ⟨k1, d1⟩ := p
    obtain ⟨k2, v2⟩ := q
    obtain ⟨e, r2⟩ := r
    have e : k1 = k2 := e
    subst e
    rw [List.lookup_cons, List.lookup_cons]
    cases f == k1 with
    | true => exact .inr ⟨d1, v2, rfl, rfl, r2⟩
    | false => exact ih
theorem putKR {W : Wd} {m : List Addr} {H : Hp} {fs : List (Str × D)} {gs : List (Str × V)} (h : KR W m H fs gs) (f : Str) {d : D} {y : V} (r : VR W m H d y) : KR W m H (putFD f d fs) (putF f y gs) := by
  unfold KR at h ⊢
  induction h with
  | nil => exact .cons ⟨rfl, r⟩ .nil
  | @cons p q ps qs r1 t ih =>
    obtain ⟨k1, d1⟩ := p
    obtain ⟨k2, v2⟩ := q
    obtain ⟨e, r2⟩ := r1
    have e : k1 = k2 := e
    subst e
    show Paired _ (if k1 = f then (k1, d) :: ps else (k1, d1) :: putFD f d ps) (if k1 = f then (k1, y) :: qs else (k1, v2) :: putF f y qs)
    by_cases hk : k1 = f
    · rw [if_pos hk, if_pos hk]
      exact .cons ⟨rfl, r⟩ t
    · rw [if_neg hk, if_neg hk]
      exact .cons ⟨rfl, r2⟩ ih
/-! ### calls -/
theorem s_call {t : TA} {σ : St} {H : Hp} {Q : VK} (h : lift W (fun e S => (fs e S).bind fun vs S1 => g vs S1) σ H Q) : tCall (spD W g) [] E0 (liftA W fs) σ H Q := by
  obtain ⟨m, e, S, w, S', er, rp, h, f⟩ := h
  obtain ⟨vs, S1, h1, h2⟩ := R.bind_eq h
  refine ⟨m, e, S, vs, S1, er, rp, h1, fun ys H1 m1 x1 r1 v1 => ?_⟩
  refine ⟨m1, S1, vs, w, S', r1, ?_, h2, f.to x1⟩
  rw [List.append_nil]
  exact v1
theorem e_call (F : FnR X.prog X.w X.K X.mg X.base CX0 k f fd ps (spD W g)) (hr : Rm k X.A) (hg : Gl X x) (hm : X.mg x = some (.ref f)) (hk : PySem.W.keepIn X.K (.ref f) = true) (hb : Binds X.K fd ps []) (ha : PA X (b :: es) (liftA W fs))
    (hdb : (x == ("__debug__" : Str)) = false) (h1 : starEach (b :: es) X.env = (false, eval b X.env) :: starEach es X.env) (h2 : (backTo pos (starEach es X.env)).any (·.1) = false) :
    PE X (.Call (.Name x p) (b :: es) [] pos) (lift W fun e S => (fs e S).bind fun vs S1 => g vs S1) :=
  pe_imp (peR_call F hr hg hm hk hb ha hdb h1 h2) fun σ H Q h => s_call (t := liftA W fs) h
theorem e_call0 (F : FnR X.prog X.w X.K X.mg X.base CX0 k f fd ps (spD W g)) (hr : Rm k X.A) (hg : Gl X x) (hm : X.mg x = some (.ref f)) (hk : PySem.W.keepIn X.K (.ref f) = true) (hb : Binds X.K fd ps [])
    (hdb : (x == ("__debug__" : Str)) = false) : PE X (.Call (.Name x p) [] [] pos) (lift W fun _ S => g [] S) := by
  refine pe_imp (peR_call0 F hr hg hm hk hb hdb) fun σ H Q h => ?_
  obtain ⟨m, e, S, w, S', er, rp, h, f⟩ := h
  exact ⟨m, S, [], w, S', rp, .nil, h, f⟩
/-- making an instance -/
def mkD (n : Nat) (g : List D → Sto → R D) (vs : List D) (S : Sto) : R D := (g (.ref S.length :: vs) (S ++ [.ins n []])).bind fun v S1 => match v with
  | .non => .ok (.ref S.length) S1
  | _ => .bad
theorem s_make {n : Nat} (hn : n < W.nc) {m : List Addr} {H : Hp} {S S' : Sto} {vs : List D} {ys : List V} {w : D} {Q : VK} (rp : Rep W m H S) (v1 : VRs W m H vs ys) (h : mkD n g vs S = .ok w S') (f : Fin W m H S' w Q) :
    ∀ x dx, H x = none → H dx = none → dx ≠ x → spD W g (.ref x :: (ys ++ [])) (upd (upd H dx (.own x)) x (.ins (W.ca n) dx [])) (fun v H2 => v = .non ∧ Q (.ref x) H2) E0 := by
  intro x dx hx hdx hne
  obtain ⟨z, S1, h1, h2⟩ := R.bind_eq h
  have hz : z = .non ∧ w = .ref S.length ∧ S1 = S' := by
    cases z with
    | non =>
      obtain ⟨rfl, rfl⟩ := ok_inj h2
      exact ⟨rfl, rfl, rfl⟩
    | _ => cases h2
  obtain ⟨rfl, rfl, rfl⟩ := hz
  have r1 := rp.lay (o := .own x) hdx
  have hx1 : (upd H dx (.own x)) x = none := by
    rw [upd_ne hne.symm]
    exact hx
  obtain ⟨r2, x2⟩ := r1.new (o := .ins (W.ca n) dx []) (ob := .ins n []) hx1 ⟨hn, dx, [], upd_same, .nil⟩
  have x1 : Ext m H m (upd H dx (.own x)) := ext_new hdx
  have vx : VR W (m ++ [x]) (upd (upd H dx (.own x)) x (.ins (W.ca n) dx [])) (.ref S.length) (.ref x) := .ref (by rw [← rp.len]; simp)
  refine ⟨_, _, .ref S.length :: vs, .non, S1, r2, ?_, h1, fun y H' m' x' r' v' => ?_⟩
  · rw [List.append_nil]
    exact .cons vx (v1.to (x1.trans x2))
  · exact ⟨vr_non v', f _ _ _ ((x1.trans x2).trans x') r' (vx.to x')⟩
theorem e_make {n : Nat} {j : Nat} (hn : n < W.nc) (M : Mk X.K (W.ca n) f) (F : FnR X.prog X.w X.K X.mg X.base CX0 j f fd ps (spD W g)) (hr : Rm (j + 1) X.A) (hg : Gl X x) (hm : X.mg x = some (.ref (W.ca n))) (hb : Binds X.K fd ps []) (ha : PA X (b :: es) (liftA W fs))
    (hdb : (x == ("__debug__" : Str)) = false) (h1 : starEach (b :: es) X.env = (false, eval b X.env) :: starEach es X.env) (h2 : (backTo pos (starEach es X.env)).any (·.1) = false) :
    PE X (.Call (.Name x p) (b :: es) [] pos) (lift W fun e S => (fs e S).bind fun vs S1 => mkD n g vs S1) := by
  refine pe_imp (peR_make M F hr hg hm hb ha hdb h1 h2) fun σ H Q h => ?_
  obtain ⟨m, e, S, w, S', er, rp, h, f⟩ := h
  obtain ⟨vs, S1, h1, h2⟩ := R.bind_eq h
  exact ⟨m, e, S, vs, S1, er, rp, h1, fun ys H1 m1 x1 r1 v1 => s_make hn r1 v1 h2 (f.to x1)⟩
theorem e_make0 {n : Nat} {j : Nat} (hn : n < W.nc) (M : Mk X.K (W.ca n) f) (F : FnR X.prog X.w X.K X.mg X.base CX0 j f fd ps (spD W g)) (hr : Rm (j + 1) X.A) (hg : Gl X x) (hm : X.mg x = some (.ref (W.ca n))) (hb : Binds X.K fd ps [])
    (hdb : (x == ("__debug__" : Str)) = false) : PE X (.Call (.Name x p) [] [] pos) (lift W fun _ S => mkD n g [] S) := by
  refine pe_imp (peR_make0 M F hr hg hm hb hdb) fun σ H Q h => ?_
  obtain ⟨m, e, S, w, S', er, rp, h, f⟩ := h
  exact s_make hn rp .nil h f
/-! ### methods of own classes -/
/-- what is known of each class's methods -/
structure MtOk (X : Cx) (W : Wd) (k : Nat) (mt : Nat → Str → List D → Sto → R D) : Prop where
  cls : ∀ n, n < W.nc → Cls X.K (W.ca n)
  ok : ∀ n m ds S v S', n < W.nc → mt n m ds S = .ok v S' → ∃ fa fd ps, Meth X.K (W.ca n) m fa ∧ Binds X.K fd ps [] ∧ FnR X.prog X.w X.K X.mg X.base CX0 k fa fd ps (spD W (mt n m))
theorem methEq {args : List Expr} {env : Env} (hbase : attributeBase o mm env (eval o env) = eval o env) (hline : (apos.endLine == pos.line) = true) (hall : (backTo pos (starEach args env)).all (fun x => !x.1) = true) (hlen : args.length < 28) :
    eval (.Call (.Attribute o mm apos) args [] pos) env = (do
      let ov ← eval o env
      standAt apos.atName
      let (f, first) ← holding [ov] (getMethod ov mm (do return (← importBound o env).getD true))
      callWith pos f first (backTo pos (starEach args env)) (backToKw pos (keywordEach [] env))) := by
  rw [PySem.arm_eval_Call, hbase]
  have hform : methodCallForm (args.length + ([] : List Keyword).length) (backTo pos (starEach args env)) (backToKw pos (keywordEach [] env)) = true := by
    unfold methodCallForm
    rw [hall]
    simp [backToKw, keywordEach]
    omega
  have hpos : methodCallPos true o env apos pos = pure pos := by
    unfold methodCallPos
    simp [hline]
  unfold methodCall
  rw [hform, hpos]
  rfl
theorem e_meth {mt : Nat → Str → List D → Sto → R D} (M : MtOk X W k mt) (hr : Rm k X.A) (ho : PE X o (lift W fo)) (ha : PA X es (liftA W fs)) (hbase : attributeBase o mm X.env (eval o X.env) = eval o X.env) (hline : (apos.endLine == pos.line) = true)
    (hall : (backTo pos (starEach es X.env)).all (fun x => !x.1) = true) (hlen : es.length < 28) (hfs : es = [] → ∀ e S, fs e S = .ok [] S) (hs : ∀ y ys, es = y :: ys → starEach (y :: ys) X.env = (false, eval y X.env) :: starEach ys X.env ∧ (backTo pos (starEach ys X.env)).any (·.1) = false) :
    PE X (.Call (.Attribute o mm apos) es [] pos) (lift W fun e S => (fo e S).bind fun x S1 => match x with
      | .ref a => match S1[a]? with
        | some (.ins c gs) => match gs.lookup mm with
          | none => (fs e S1).bind fun vs S2 => mt c mm (.ref a :: vs) S2
          | some _ => .bad
        | _ => .bad
      | _ => .bad) := by
  refine ⟨fun pins s σ H Q I h => ?_⟩
  obtain ⟨m, e, S, w, S', er, rp, h, f⟩ := h
  obtain ⟨x, S1, h1, h⟩ := R.bind_eq h
  refine methcall_of (pos := pos) ho I ?_ (methEq hbase hline hall hlen)
  refine ⟨m, e, S, x, S1, er, rp, h1, fun X1 H1 m1 x1 r1 v1 => ?_⟩
  cases x with
  | ref i =>
    dsimp only at h
    split at h
    · rename_i cc gs hi
      split at h
      · rename_i hl
        obtain ⟨vs, S2, h2, h3⟩ := R.bind_eq h
        obtain ⟨aa, rfl, hmi, hn, dx, hs', haa, kr⟩ := vr_obj r1 v1 hi
        obtain ⟨fa, fd, ps, hm, hb, F⟩ := M.ok cc mm _ _ _ _ hn h3
        have hl2 : hs'.lookup mm = none := by
          rcases lookKR kr mm with ⟨_, e2⟩ | ⟨d, y, e1, _⟩
          · exact e2
          · rw [hl] at e1
            cases e1
        refine ⟨aa, _, dx, hs', fa, rfl, haa, M.cls cc hn, hm, hl2, fun s1 I1 => ?_⟩
        have key : ∀ (us : List Value) (s2 : Shared) (ys : List V) (H2 : Hp) (m2 : List Addr), Inv X pins σ H2 s2 → Ext m1 H1 m2 H2 → Rep W m2 H2 S2 → VRs W m2 H2 vs ys → Vals ys us → wpAny (model X.prog X.w) X.A (call (.ref fa) (.ref aa :: us)) (EP X pins σ Q) X.xe s2 :=
          fun us s2 ys H2 m2 I2 x2 r2 v2 rl => goR_fn (us := .ref aa :: us) (vs := .ref aa :: ys) F hr hb I2 (.cons rfl rl)
            ⟨m2, S2, .ref i :: vs, w, S', r2, by rw [List.append_nil]; exact .cons (v1.to x2) v2, h3, f.to (x1.trans x2)⟩
        cases es with
        | nil =>
          refine PySem.W.callWith_K0 (first := [.ref aa]) I1.kIn hm.kp ?_
          rw [hfs rfl] at h2
          obtain ⟨e1, e2⟩ := ok_inj h2
          subst e1 e2
          exact key [] s1 [] H1 m1 I1 .refl r1 .nil .nil
        | cons y ys =>
          obtain ⟨hst, hpl⟩ := hs y ys rfl
          refine PySem.W.callWith_K (first := [.ref aa]) (h₀ := X.base) I1.ok.mod.kin hm.kp (thn (ha.run pos pins s1 σ H1 (fun zs H2 => ∃ m2, Ext m1 H1 m2 H2 ∧ Rep W m2 H2 S2 ∧ VRs W m2 H2 vs zs) I1 ⟨m1, e, S1, vs, S2, er.to x1, r1, h2, fun zs H2 m2 x2 r2 v2 => ⟨m2, x2, r2, v2⟩⟩)
            fun us s2 ⟨zs, H2, I2, rl, m2, x2, r2, v2⟩ => ⟨I2.kIn, ?_⟩) hst hpl
          exact key us s2 zs H2 m2 I2 x2 r2 v2 rl
      · cases h
    · cases h
  | _ => cases h
/-! ### fields -/
theorem e_fld {f : Str} (cl : ∀ n, n < W.nc → Cls X.K (W.ca n) ∧ NoAttr X.K (W.ca n) f) (ho : PE X o (lift W fo)) (hb : attributeBase o f X.env (eval o X.env) = eval o X.env) :
    PE X (.Attribute o f pos) (lift W fun e S => (fo e S).bind fun x S1 => fldD x f S1) := by
  refine pe_imp (pe_fld ho hb) fun σ H Q h => ?_
  obtain ⟨m, e, S, w, S', er, rp, h, fi⟩ := h
  obtain ⟨x, S1, h1, h⟩ := R.bind_eq h
  refine ⟨m, e, S, x, S1, er, rp, h1, fun X1 H1 m1 x1 r1 v1 => ?_⟩
  unfold fldD at h
  split at h
  · split at h
    · rename_i i cc gs hi
      obtain ⟨e1, rfl⟩ := optR_ok h
      obtain ⟨aa, rfl, hmi, hn, dx, hs', haa, kr⟩ := vr_obj r1 v1 hi
      rcases lookKR kr f with ⟨e2, _⟩ | ⟨d, y, e2, e3, vr⟩
      · rw [e1] at e2
        cases e2
      · rw [e1] at e2
        cases e2
        exact ⟨aa, _, dx, hs', y, rfl, haa, (cl cc hn).1, (cl cc hn).2, e3, (fi.to x1).done r1 vr⟩
    · cases h
  · cases h
/-! ### subscripts, slices, xs[::-1] -/
theorem e_sub {w : World} {cds : Nat → List (Str × D)} (hK : X.K = W.K) (hu : X.A.units + 1 < cLine) (cd : CdOk X.K X.w W cds) (ha : PE X a (lift W fa)) (hb : PE X b (lift W fb)) (hs : PlainIx b) :
    PE X (.Subscript a b pos) (lift W fun e S => (fa e S).bind fun x S1 => (fb e S1).bind fun y S2 => subD cds x y S2) := by
  have h := pe_ix (pos := pos) (o_ix4 hu) ha hb hs
  rw [hK] at h cd
  exact e_two (s_sub4 cd) h
theorem e_slc0 {lo hi : Option Expr} {fl fh : En → Sto → R (Option Int)} {tl th : TO} {p2 : Pos} (hK : X.K = W.K) (ha : PE X a (lift W fa)) (hl : PO X lo tl) (hh : PO X hi th)
    (kl : ∀ {m e S o S' σ H K}, ER W m H e σ → Rep W m H S → fl e S = .ok o S' → (∀ H' m', Ext m H m' H' → Rep W m' H' S' → K o H') → tl σ H K)
    (kh : ∀ {m e S o S' σ H K}, ER W m H e σ → Rep W m H S → fh e S = .ok o S' → (∀ H' m', Ext m H m' H' → Rep W m' H' S' → K o H') → th σ H K) :
    PE X (.Subscript a (.Slice lo hi none p) pos) (lift W fun e S => (fa e S).bind fun x S1 => (fl e S1).bind fun l S2 => (fh e S2).bind fun u S3 => slcD x l u S3) := by
  have q := pe_slice (p2 := p) (pos := pos) o_sl4 ha hl hh
  rw [hK] at q
  refine pe_imp q fun σ H Q h => ?_
  obtain ⟨m, e, S, w, S', er, rp, h, fi⟩ := h
  obtain ⟨x, S1, h1, h⟩ := R.bind_eq h
  obtain ⟨l, S2, h2, h⟩ := R.bind_eq h
  obtain ⟨u, S3, h3, h4⟩ := R.bind_eq h
  refine ⟨m, e, S, x, S1, er, rp, h1, fun X1 H1 m1 x1 r1 v1 => ?_⟩
  refine kl (er.to x1) r1 h2 fun H2 m2 x2 r2 => ?_
  refine kh ((er.to x1).to x2) r2 h3 fun H3 m3 x3 r3 => ?_
  exact s_slc r3 (v1.to (x2.trans x3)) h4 (fi.to ((x1.trans x2).trans x3))
theorem k_none {m : List Addr} {e : En} {S S' : Sto} {o : Option Int} {σ : St} {H : Hp} {K : Option Int → Hp → Prop} (_er : ER W m H e σ) (rp : Rep W m H S) (h : (R.ok none S : R (Option Int)) = .ok o S') (q : ∀ H' m', Ext m H m' H' → Rep W m' H' S' → K o H') : tNoPart σ H K := by
  obtain ⟨rfl, rfl⟩ := ok_inj h
  exact q H m .refl rp
theorem k_some {m : List Addr} {e : En} {S S' : Sto} {o : Option Int} {σ : St} {H : Hp} {K : Option Int → Hp → Prop} (er : ER W m H e σ) (rp : Rep W m H S) (h : ((fa e S).bind fun l S2 => partR l S2) = .ok o S') (q : ∀ H' m', Ext m H m' H' → Rep W m' H' S' → K o H') : tPart (lift W fa) σ H K := by
  obtain ⟨x, S1, h1, h2⟩ := R.bind_eq h
  refine ⟨m, e, S, x, S1, er, rp, h1, fun X1 H1 m1 x1 r1 v1 => ?_⟩
  unfold partR at h2
  split at h2
  · obtain ⟨rfl, rfl⟩ := ok_inj h2
    exact ⟨_, vr_int v1, q H1 m1 x1 r1⟩
  · cases h2
/-! ### methods of lists -/
def BM.id : BM → String
  | .append => "list.append" | .extend => "list.extend" | .pop => "list.pop" | .lindex => "list.index" | _ => ""
theorem o_bmL (bm : BM) (hb : bm.isL = true) : MtR X bm.id (rBm X.K bm) := by
  cases bm <;> first
    | exact mt_append
    | exact mt_extend
    | exact mt_pop
    | exact mt_index
    | cases hb
theorem pre_lst {bm : BM} (hb : bm.isL = true) {v : D} {S : Sto} (h : bmPre bm v S = true) : ∃ i xs, v = .ref i ∧ S[i]? = some (.lst xs) := by
  cases v with
  | ref i =>
    cases hS : S[i]? with
    | none => cases bm <;> first | (exact absurd hb Bool.false_ne_true) | (simp only [bmPre, hS] at h; exact absurd h Bool.false_ne_true)
    | some ob =>
      cases ob with
      | lst xs => exact ⟨i, xs, rfl, hS⟩
      | _ => cases bm <;> first | (exact absurd hb Bool.false_ne_true) | (simp only [bmPre, hS] at h; exact absurd h Bool.false_ne_true)
  | _ => cases bm <;> first | (exact absurd hb Bool.false_ne_true) | (exact absurd h Bool.false_ne_true)
theorem s_bm {bm : BM} (hK : X.K = W.K) (hb : bm.isL = true) {σ : St} {H : Hp} {Q : VK}
    (h : lift W (fun e S => (fo e S).bind fun x S1 => if bmPre bm x S1 = true then (fs e S1).bind fun vs S2 => bmD bm x vs S2 else .bad) σ H Q) : tBM X.K "list" (rBm X.K bm) (lift W fo) (liftA W fs) σ H Q := by
  rw [hK]
  obtain ⟨m, e, S, w, S', er, rp, h, fi⟩ := h
  obtain ⟨x, S1, h1, h⟩ := R.bind_eq h
  split at h
  · rename_i hp
    obtain ⟨vs, S2, h2, h3⟩ := R.bind_eq h
    refine ⟨m, e, S, x, S1, er, rp, h1, fun X1 H1 m1 x1 r1 v1 => ?_⟩
    obtain ⟨i, xs, rfl, hi⟩ := pre_lst hb hp
    obtain ⟨aa, rfl, hmi, ys, haa, ra⟩ := vr_obj r1 v1 hi
    refine ⟨.inl ⟨rfl, ys, SqL.of haa⟩, m1, e, S1, vs, S2, er.to x1, r1, h2, fun zs H2 m2 x2 r2 v2 => ?_⟩
    exact s_bmL bm hb r2 (v1.to x2) v2 h3 (fi.to (x1.trans x2))
  · cases h
/-! ### built-in functions -/
theorem e_bf {bf : BF} (hK : X.K = W.K) (hc : X.calm = true) (hg : Gl X x) (hm : X.mg x = none) (hv : bootBuiltins x = some bf.val) (hn : x ≠ "__name__") (hdb : (x == ("__debug__" : Str)) = false) (ha : PA X (b :: es) (liftA W fs))
    (h1 : starEach (b :: es) X.env = (false, eval b X.env) :: starEach es X.env) (h2 : (backTo pos (starEach es X.env)).any (·.1) = false) :
    PE X (.Call (.Name x p) (b :: es) [] pos) (lift W fun e S => (fs e S).bind fun vs S1 => bfD bf vs S1) := by
  have key : PE X (.Call (.Name x p) (b :: es) [] pos) (tCB (rBf X.K bf) (liftA W fs)) := by
    have hc2 := o_bf (X := X) hc bf
    unfold BF.val at hv hc2
    cases hi : bf.isTy with
    | true =>
      rw [hi, if_pos rfl] at hv hc2
      exact pe_callTy hc2 hg hm hv ha hn hdb h1 h2
    | false =>
      rw [hi, if_neg Bool.false_ne_true] at hv hc2
      exact pe_callB hc2 hg hm hv ha hn hdb h1 h2
  rw [hK] at key
  refine pe_imp key fun σ H Q h => ?_
  obtain ⟨m, e, S, w, S', er, rp, h, fi⟩ := h
  obtain ⟨vs, S1, h1, h2⟩ := R.bind_eq h
  exact ⟨m, e, S, vs, S1, er, rp, h1, fun ys H1 m1 x1 r1 v1 => s_bf bf m1 H1 S1 vs ys w S' Q r1 v1 h2 (fi.to x1)⟩
end
end Mi
set_option Elab.async false
set_option linter.all false
set_option maxRecDepth 100000
/-! M8b: xs[::-1] of lists and tuples. -/
namespace Mi
open PySem PySem.Spec L2
open PyProof.Rows hiding St
section
variable {prog : Program} {w : World} {A : Around} {E : Value → Shared → Prop} {s : Shared}
theorem places_back (n : Nat) : Builtin.Slice.slicePlaces ((n : Int) - 1) (-1) (-1) = n := by
  unfold Builtin.Slice.slicePlaces
  have h1 : ¬ ((-1 : Int) > 0) := by omega
  rw [if_neg h1]
  by_cases h : (n : Int) - 1 > -1
  · rw [if_pos h]
    have e : ((n : Int) - 1 - -1 - 1) / (- -1) = (n : Int) - 1 := by
      rw [show (- -1 : Int) = 1 by omega, Int.ediv_one]
      omega
    rw [e]
    omega
  · rw [if_neg h]
    omega
theorem applied_back {sl : Addr} {vl vu vs : Value} {n : Nat} {Q : Int × Int × Nat → Shared → Prop} (hs : s.heap.IsSliceOf sl vl vu vs) (pl : IsPart vl none) (pu : IsPart vu none) (ps : IsPart vs (some (-1)))
    (h : Q ((n : Int) - 1, -1, n) s) : wpAny (model prog w) A (Builtin.Slice.sliceApplied (.ref sl) (pure (n : Int))) Q E s := by
  obtain ⟨os, h1, h2, h3⟩ := id hs
  unfold Builtin.Slice.sliceApplied Builtin.Slice.sliceFields
  refine wpAny_bind (wpAny_bind (wpAny_field h1 h3 (x := vl) rfl (wpAny_bind (wpAny_field h1 h3 (x := vu) rfl (wpAny_bind (wpAny_field h1 h3 (x := vs) rfl (wpAny_pure ?_)))))))
  refine wpAny_bind (HT.slicePart_ ps ?_)
  show wpAny _ _ (if ((-1 : Int) == 0) = true then _ else _) _ _ s
  rw [if_neg (by decide)]
  refine wpAny_bind (HT.slicePart_ pl (wpAny_bind (HT.slicePart_ pu (wpAny_bind (wpAny_pure ?_)))))
  show wpAny _ _ (pure ((n : Int) - 1, (-1 : Int), Builtin.Slice.slicePlaces ((n : Int) - 1) (-1) (-1))) _ _ s
  rw [places_back]
  exact wpAny_pure h
theorem fm_map {α β : Type} {f : α → Option β} {g : α → β} : ∀ (l : List α), (∀ m ∈ l, f m = some (g m)) → l.filterMap f = l.map g
  | [], _ => rfl
  | a :: l, h => by
    rw [List.filterMap_cons, h a List.mem_cons_self, List.map_cons, fm_map l fun m hm => h m (List.mem_cons_of_mem _ hm)]
theorem pick_back (xs : Array Value) : ((List.range xs.size).filterMap fun (m : Nat) => xs[(((xs.size : Nat) : Int) - 1 + (m : Int) * -1).toNat]?).toArray = xs.toList.reverse.toArray := by
  congr 1
  apply List.ext_getElem?
  intro i
  have e : ((List.range xs.size).filterMap fun (m : Nat) => xs[(((xs.size : Nat) : Int) - 1 + (m : Int) * -1).toNat]?) = (List.range xs.size).map fun m => xs.toList.getD (xs.size - 1 - m) .none := by
    refine fm_map _ fun m hm => ?_
    have hm : m < xs.size := by simpa using hm
    have e1 : (((xs.size : Nat) : Int) - 1 + (m : Int) * -1).toNat = xs.size - 1 - m := by omega
    rw [e1]
    show xs[xs.size - 1 - m]? = some _
    have hl : xs.size - 1 - m < xs.size := by omega
    rw [Array.getElem?_eq_getElem hl]
    simp [List.getD, hl]
  rw [e, List.getElem?_map]
  by_cases hi : i < xs.size
  · rw [List.getElem?_range hi, List.getElem?_reverse (by simpa using hi)]
    have hl : xs.size - 1 - i < xs.size := by omega
    simp [List.getD, hl]
  · rw [List.getElem?_eq_none (by simp; omega), List.getElem?_eq_none (by simp; omega)]
    rfl
theorem getItem_back {t sl : Addr} {items : Array Value} {vl vu vs : Value} {Q : Value → Shared → Prop} (ht : IsTup s.heap t items) (hs : s.heap.IsSliceOf sl vl vu vs) (pl : IsPart vl none) (pu : IsPart vu none) (ps : IsPart vs (some (-1)))
    (h : Q (.ref s.heap.objs.size) { s with heap := s.heap.push { cls := .type "tuple", data := .seq items.toList.reverse.toArray } }) (hz : items.size ≤ sizeLine) : wpAny (model prog w) A (getItem (.ref t) (.ref sl)) Q E s := by
  have hk : sizeOk (.seq items.toList.reverse.toArray) := by
    show items.toList.reverse.toArray.size ≤ sizeLine
    simpa using hz
  obtain ⟨os, h1, h2, h3⟩ := id hs
  have tS : s.TypeIs (.ref sl) "slice" := ⟨os, h1, h2⟩
  unfold getItem
  try with_reducible refine wpAny_holding ?_
  first | refine wpAny_bind (wpAny_pure ?_) | skip
  refine wpAny_bind (wpAny_sequenceKey (s := s) ht.typeIs (by decide) ?_)
  refine wpAny_bind (wpAny_callSpecial?_slot (name := Str.ofString "__getitem__") (s := s) ht.typeIs PyProof.Rows.slot_tuple_getitem
    (wpAny_call_entry PyProof.Rows.slot_tuple_getitem (s := s) ht.typeIs entry_tuple_getitem ?_ (args_tuple_getitem _ _)))
  show wpAny _ _ (Builtin.Tuple.tupleItemsOf (.ref t) >>= _) _ _ (s : Shared)
  refine wpAny_bind (tupleItemsOf_ (s := s) ht ?_)
  refine wpAny_bind (wpAny_typeOf (s := s) tS ?_)
  rw [if_pos (by decide)]
  refine wpAny_bind (applied_back hs pl pu ps ?_)
  have hno : ¬ ((((items.size : Nat) : Int) - 1 == 0 && (-1 : Int) == 1 && items.size == items.size) = true) := by
    intro q
    rw [Bool.and_eq_true, Bool.and_eq_true] at q
    exact absurd q.1.2 (by decide)
  show wpAny _ _ (if (((items.size : Nat) : Int) - 1 == 0 && (-1 : Int) == 1 && items.size == items.size) = true then _ else _) _ _ s
  rw [if_neg hno, pick_back]
  first
    | exact wpAny_bind (m := Builtin.Tuple.tupleExact _) (wpAny_newObj_type (s := s) (wpAny_pure ⟨_, rfl, wpAny_pure h⟩) hk)
    | exact wpAny_bind (m := Builtin.Tuple.tupleExact _) (wpAny_newObj_type (s := s) (wpAny_bind (wpAny_pure (wpAny_pure ⟨_, rfl, wpAny_pure h⟩))) hk)
    | exact wpAny_bind (wpAny_bind (m := Builtin.Tuple.tupleExact _) (wpAny_newObj_type (s := s) (wpAny_pure (wpAny_pure ⟨_, rfl, wpAny_pure h⟩)) hk))
    | exact wpAny_bind (wpAny_bind (m := Builtin.Tuple.tupleExact _) (wpAny_newObj_type (s := s) (wpAny_pure ⟨_, rfl, wpAny_pure h⟩) hk))
end
/-- a list or tuple backwards, new -/
def tRev (K : PySem.W.Frag) (te : TE) : TE := fun σ H Q => te σ H fun x H1 => ∃ a xs, x = .ref a ∧ ((SqL K H1 a xs ∧ ∀ p, H1 p = none → Q (.ref p) (upd H1 p (.lst xs.reverse))) ∨ (SqT K H1 a xs ∧ ∀ p, H1 p = none → Q (.ref p) (upd H1 p (.tup xs.reverse))))
section
variable {X : Cx} {W : Wd}
theorem pe_rev {e : Expr} {te : TE} {k : Nat} {p1 p2 p3 pos : Pos} (he : PE X e te) : PE X (.Subscript e (.Slice none none (some (.UnaryOp .USub (.Constant (.int 1) k p1) p2)) p3) pos) (tRev X.K te) := by
  refine ⟨fun pins s σ H Q I h => ?_⟩
  refine Subscript_ (thn (he.run pins s σ H _ I h) fun v s1 ⟨x, H1, I1, r1, a, xs, ex, q⟩ => ?_)
  subst ex
  obtain rfl : v = Value.ref a := r1
  have hst : PO X (some (.UnaryOp .USub (.Constant (.int 1) k p1) p2)) (tPart (tUn (rU fun i => .int (-i)) (tC (.int 1)))) := po_some (pe_un un_neg pe_int)
  refine wpAny_Slice (thn (po_none.run pins s1 σ H1 (fun o K2 => o = none ∧ K2 = H1) I1 ⟨rfl, rfl⟩) fun vl s2 ⟨l, H2, I2, pl, el, e2⟩ => ?_)
  subst el e2
  refine thn (po_none.run pins s2 σ H2 (fun o K3 => o = none ∧ K3 = H2) I2 ⟨rfl, rfl⟩) fun vu s3 ⟨u, H3, I3, pu, eu, e3⟩ => ?_
  subst eu e3
  refine thn (hst.run pins s3 σ H3 (fun o K4 => o = some (-1) ∧ K4 = H3) I3 ⟨1, rfl, -1, rfl, rfl, rfl⟩) fun vs s4 ⟨o, H4, I4, ps, eo, e4⟩ => ?_
  subst eo e4
  have I5 : Inv X pins σ H4 { s4 with heap := s4.heap.push { cls := .type "slice", data := .fields #[vl, vu, vs] } } := Inv.kept (t' := s4.toks) I4 fun b ob q => Heap.get?_push_of_some _ q
  rcases q with ⟨hx, q⟩ | ⟨hx, q⟩
  · obtain ⟨its, r, ht, hz⟩ := I5.list hx
    have hl := r.length
    show wpAny (model X.prog X.w) X.A (subscriptTail e (.Slice none none (some (.UnaryOp .USub (.Constant (.int 1) k p1) p2)) p3) (.ref a) (.ref s4.heap.objs.size)) _ X.xe { s4 with heap := s4.heap.push { cls := .type "slice", data := .fields #[vl, vu, vs] } }
    refine tail_any (ops := [.ref a, .ref s4.heap.objs.size]) ht.isList.typeIs PySem.slot_list_getitem.lookup ?_ (by with_unfolding_all rfl)
    refine wpAny_getItem_list_slice ht.isList (.new _ vl vu vs) pl pu ps (by decide) ?_ (by rw [List.size_toArray]; omega)
    rw [PySem.W.krv_pick]
    refine ⟨.ref _, _, Inv.laid (t' := s4.toks) (o := .lst xs.reverse) I5 (fun b ob q => Heap.get?_push_of_some _ q) (Nat.le_refl _) ?_, rfl, q _ (I5.hok.fresh (Nat.le_refl _))⟩
    exact ⟨by rw [List.length_reverse]; omega, _, 0, r.reverse, Heap.get?_push_size _ rfl⟩
  · obtain ⟨its, r, ht, hz⟩ := I5.tuple hx
    have hl := r.length
    show wpAny (model X.prog X.w) X.A (subscriptTail e (.Slice none none (some (.UnaryOp .USub (.Constant (.int 1) k p1) p2)) p3) (.ref a) (.ref s4.heap.objs.size)) _ X.xe { s4 with heap := s4.heap.push { cls := .type "slice", data := .fields #[vl, vu, vs] } }
    refine tail_any (ops := [.ref a, .ref s4.heap.objs.size]) ht.typeIs PyProof.Rows.slot_tuple_getitem.lookup ?_ (by with_unfolding_all rfl)
    refine getItem_back ht (.new _ vl vu vs) pl pu ps ?_ (by rw [List.size_toArray]; omega)
    refine ⟨.ref _, _, Inv.laid (t' := s4.toks) (o := .tup xs.reverse) I5 (fun b ob q => Heap.get?_push_of_some _ q) (Nat.le_refl _) ?_, rfl, q _ (I5.hok.fresh (Nat.le_refl _))⟩
    exact ⟨by rw [List.length_reverse]; omega, _, r.reverse, IsTup.new _ _⟩
theorem e_rev {e : Expr} {fa : En → Sto → R D} {k : Nat} {p1 p2 p3 pos : Pos} (hK : X.K = W.K) (ha : PE X e (lift W fa)) :
    PE X (.Subscript e (.Slice none none (some (.UnaryOp .USub (.Constant (.int 1) k p1) p2)) p3) pos) (lift W fun e S => (fa e S).bind fun x S1 => revD x S1) := by
  have q := pe_rev (k := k) (p1 := p1) (p2 := p2) (p3 := p3) (pos := pos) ha
  rw [hK] at q
  refine pe_imp q fun σ H Q h => ?_
  obtain ⟨m, e, S, w, S', er, rp, h, fi⟩ := h
  obtain ⟨x, S1, h1, h⟩ := R.bind_eq h
  refine ⟨m, e, S, x, S1, er, rp, h1, fun X1 H1 m1 x1 r1 v1 => ?_⟩
  unfold revD at h
  split at h
  · obtain ⟨rfl, rfl⟩ := ok_inj h
    obtain ⟨a, ys, rfl, sa, ra⟩ := vr_tup v1
    exact ⟨a, ys, rfl, .inr ⟨sa.sq, fun p hp => (fi.to x1).tup r1 ra.reverse hp⟩⟩
  · split at h
    · rename_i i _ q
      obtain ⟨rfl, rfl⟩ := ok_inj h
      obtain ⟨a, rfl, _, ys, haa, ra⟩ := vr_obj r1 v1 q
      exact ⟨a, ys, rfl, .inl ⟨SqL.of haa, fun p hp => (fi.to x1).lst r1 ra.reverse hp⟩⟩
    · cases h
  · cases h
end
end Mi
set_option Elab.async false
set_option linter.all false
set_option maxRecDepth 100000
/-! M9: isinstance, dicts' methods, targets, comprehensions. -/
namespace Mi
open PySem PySem.Spec L2
open PyProof.Rows hiding St
section
variable {X : Cx} {W : Wd} {a b c o : Expr} {fa fb fc fo : En → Sto → R D} {pos apos p p2 : Pos} {x : Str}
def Ty.nm : Ty → String
  | .int => "int" | .str => "str" | .tup => "tuple" | .bool => "bool"
theorem kit_all : ∀ (t : Ty), (kitB "NoneType" t.nm = some false) ∧ kitB "bool" t.nm = some (match t with | .int => true | .bool => true | _ => false) ∧ kitB "int" t.nm = some (match t with | .int => true | _ => false) ∧
    kitB "str" t.nm = some (match t with | .str => true | _ => false) ∧ kitB "tuple" t.nm = some (match t with | .tup => true | _ => false) := by
  intro t
  cases t <;> exact ⟨by decide +kernel, by decide +kernel, by decide +kernel, by decide +kernel, by decide +kernel⟩
theorem isi_of {m : List Addr} {H : Hp} {S : Sto} {v : D} {y : V} {t : Ty} {bo : Bool} (vr : VR W m H v y) (h : isiD t v = some bo) : ∃ u, TyX W.K H y u ∧ PySem.W.kitOne W.K u (.type t.nm) = some bo := by
  obtain ⟨k1, k2, k3, k4, k5⟩ := kit_all t
  cases vr with
  | non =>
    cases h
    exact ⟨_, .base .non, kit_ty k1⟩
  | bl q =>
    refine ⟨_, .base (.bl q), kit_ty (k2.trans ?_)⟩
    rw [← h]
    cases t <;> rfl
  | int q =>
    refine ⟨_, .base (.int q), kit_ty (k3.trans ?_)⟩
    rw [← h]
    cases t <;> rfl
  | str q =>
    refine ⟨_, .base (.str q), kit_ty (k4.trans ?_)⟩
    rw [← h]
    cases t <;> rfl
  | tup h1 h2 =>
    have k6 : PySem.W.kitOne W.K (.type "tuple") (.type t.nm) = some bo := by
      refine kit_ty (k5.trans ?_)
      rw [← h]
      cases t <;> rfl
    rcases h1 with h1 | ⟨(h1 | ⟨ob, h1⟩) | ⟨ob, its, n, h1, hc, _⟩, _⟩
    · exact ⟨_, .base (.tup h1), k6⟩
    · exact ⟨_, .base (.tup h1), k6⟩
    · exact ⟨_, .fTuple h1, k6⟩
    · exact ⟨_, .kTuple h1 hc, k6⟩
  | lit _ _ => cases h
  | ref _ => cases h
  | cd _ => cases h
theorem e_isi {ty : Str} {t : Ty} (hK : X.K = W.K) (hg : Gl X "isinstance") (hm : X.mg "isinstance" = none) (hgt : Gl X ty) (hmt : X.mg ty = none) (hvt : bootBuiltins ty = some (.type t.nm)) (hn : ty ≠ "__name__") (hd : (ty == ("__debug__" : Str)) = false)
    (ha : PE X a (lift W fa)) (h1 : ∀ xs, starEach (a :: xs) X.env = (false, eval a X.env) :: starEach xs X.env) :
    PE X (.Call (.Name "isinstance" p) [a, .Name ty p2] [] pos) (lift W fun e S => (fa e S).bind fun x S1 => optR ((isiD t x).map .bl) S1) := by
  have ht : PE X (.Name ty p2) (tC (.ty t.nm)) := pe_bltn hgt hmt hvt rfl hn hd
  have q := pe_callB (X := X) (p := p) (pos := pos) call_isi hg hm PyProof.Rows.boot_isinstance (pa_cons ha (pa_cons ht pa_nil rfl) (h1 _)) (by decide) (by decide) (h1 _) rfl
  rw [hK] at q
  refine pe_imp q fun σ H Q h => ?_
  obtain ⟨m, e, S, w, S', er, rp, h, fi⟩ := h
  obtain ⟨v, S1, h1, h⟩ := R.bind_eq h
  refine ⟨m, e, S, v, S1, er, rp, h1, fun y H1 m1 x1 r1 v1 => ?_⟩
  obtain ⟨e1, rfl⟩ := optR_ok h
  obtain ⟨bo, e2, rfl⟩ := Option.map_eq_some_iff.mp e1
  obtain ⟨u, k1, k2⟩ := isi_of (S := S1) v1 e2
  exact ⟨y, _, u, _, bo, rfl, .ty _, k1, k2, (fi.to x1).done r1 (.bl _)⟩
/-! ### get, pop of dicts -/
theorem pre_dic {bm : BM} (hb : bm = .get1 ∨ bm = .get2 ∨ bm = .pop2) {v : D} {S : Sto} (h : bmPre bm v S = true) : ∃ i, v = .ref i ∧ ((∃ kvs, S[i]? = some (.dK kvs)) ∨ ∃ kvs, S[i]? = some (.dT kvs)) := by
  cases v with
  | ref i =>
    cases hS : S[i]? with
    | none => rcases hb with rfl | rfl | rfl <;> (simp only [bmPre, hS] at h; exact absurd h Bool.false_ne_true)
    | some ob =>
      cases ob with
      | dK kvs => exact ⟨i, rfl, .inl ⟨kvs, hS⟩⟩
      | dT kvs => exact ⟨i, rfl, .inr ⟨kvs, hS⟩⟩
      | _ => rcases hb with rfl | rfl | rfl <;> (simp only [bmPre, hS] at h; exact absurd h Bool.false_ne_true)
  | _ => rcases hb with rfl | rfl | rfl <;> exact absurd h Bool.false_ne_true
theorem isD_of {m : List Addr} {H : Hp} {S : Sto} {i : Nat} {y : V} (rp : Rep W m H S) (vr : VR W m H (.ref i) y) (h : (∃ kvs, S[i]? = some (.dK kvs)) ∨ ∃ kvs, S[i]? = some (.dT kvs)) : ∃ aa, y = .ref aa ∧ m[i]? = some aa ∧ IsD H aa ∧ ((∃ kvs, H aa = some (.dK kvs)) ∨ ∃ kvs, H aa = some (.dT kvs)) := by
  rcases h with ⟨kvs, h⟩ | ⟨kvs, h⟩
  · obtain ⟨aa, rfl, hm, ks, ha, _⟩ := vr_obj rp vr h
    exact ⟨aa, rfl, hm, .inl ⟨ks, .inl ha⟩, .inl ⟨ks, ha⟩⟩
  · obtain ⟨aa, rfl, hm, ks, ha, _⟩ := vr_obj rp vr h
    exact ⟨aa, rfl, hm, .inr ⟨ks, .inl ha⟩, .inr ⟨ks, ha⟩⟩
theorem dget_ok {m : List Addr} {H : Hp} {S : Sto} {i : Nat} {k dft : D} {y ky dy : V} {oo : Option D} {Q : VK} (rp : Rep W m H S) (v1 : VR W m H (.ref i) y) (v2 : VR W m H k ky) (v3 : VR W m H dft dy) (h : dget (fun _ => []) S (.ref i) k = some oo)
    (fi : Fin W m H S (oo.getD dft) Q) : ∃ aa, y = .ref aa ∧ ∃ q, DGet H aa ky q ∧ Q (q.getD dy) H := by
  obtain ⟨aa, q, rfl, g, r⟩ := dget_of rp v1 v2 h
  refine ⟨aa, rfl, q, g, ?_⟩
  rcases r with ⟨rfl, rfl⟩ | ⟨d, z, rfl, rfl, vr⟩
  · exact fi.done rp v3
  · exact fi.done rp vr
theorem e_get1 (hu : X.A.units + 1 < cLine) (ho : PE X o (lift W fo)) (ha : PE X a (lift W fa)) (m1 : M1 X o "get" apos a pos) :
    PE X (.Call (.Attribute o "get" apos) [a] [] pos) (lift W fun e S => (fo e S).bind fun x S1 => if bmPre .get1 x S1 = true then ((fa e S1).bind fun k S2 => (R.ok [] S2).bind fun ks S3 => .ok (k :: ks) S3).bind fun vs S2 => bmD .get1 x vs S2 else .bad) := by
  refine pe_imp (pe_dget1 hu ho ha m1) fun σ H Q h => ?_
  obtain ⟨m, e, S, w, S', er, rp, h, fi⟩ := h
  obtain ⟨v, S1, h1, h⟩ := R.bind_eq h
  split at h
  · rename_i hp
    obtain ⟨vs, S2, h2, h3⟩ := R.bind_eq h
    obtain ⟨k, S3, h4, h5⟩ := R.bind_eq h2
    obtain ⟨rfl, rfl⟩ := ok_inj h5
    refine ⟨m, e, S, v, S1, er, rp, h1, fun y H1 m1 x1 r1 v1 => ?_⟩
    obtain ⟨i, rfl, hd⟩ := pre_dic (.inl rfl) hp
    obtain ⟨aa, rfl, hmi, hD, _⟩ := isD_of r1 v1 hd
    refine ⟨aa, rfl, hD, m1, e, S1, k, S3, er.to x1, r1, h4, fun z H2 m2 x2 r2 v2 => ?_⟩
    have h6 : (match dget (fun _ => []) S3 (.ref i) k with | some o => R.ok (o.getD .non) S3 | none => .bad) = .ok w S' := h3
    cases q : dget (fun _ => []) S3 (.ref i) k with
    | none =>
      rw [q] at h6
      cases h6
    | some oo =>
      rw [q] at h6
      obtain ⟨rfl, rfl⟩ := ok_inj h6
      obtain ⟨a2, e2, q2, g, hq⟩ := dget_ok r2 (v1.to x2) v2 .non q (fi.to (x1.trans x2))
      cases e2
      exact ⟨q2, g, hq⟩
  · cases h
theorem e_get2 (hu : X.A.units + 1 < cLine) (ho : PE X o (lift W fo)) (ha : PE X a (lift W fa)) (hb : PE X b (lift W fb)) (m1 : M2 X o "get" apos a b pos) :
    PE X (.Call (.Attribute o "get" apos) [a, b] [] pos) (lift W fun e S => (fo e S).bind fun x S1 => if bmPre .get2 x S1 = true then
      ((fa e S1).bind fun k S2 => ((fb e S2).bind fun l S3 => (R.ok [] S3).bind fun ks S3 => .ok (l :: ks) S3).bind fun ks S3 => .ok (k :: ks) S3).bind fun vs S2 => bmD .get2 x vs S2 else .bad) := by
  refine pe_imp (pe_dget2 hu ho ha hb m1) fun σ H Q h => ?_
  obtain ⟨m, e, S, w, S', er, rp, h, fi⟩ := h
  obtain ⟨v, S1, h1, h⟩ := R.bind_eq h
  split at h
  · rename_i hp
    obtain ⟨vs, S2, h2, h3⟩ := R.bind_eq h
    obtain ⟨k, S3, h4, h5⟩ := R.bind_eq h2
    obtain ⟨ls, S4, h7, h8⟩ := R.bind_eq h5
    obtain ⟨l, S5, h9, h10⟩ := R.bind_eq h7
    obtain ⟨rfl, rfl⟩ := ok_inj h10
    obtain ⟨rfl, rfl⟩ := ok_inj h8
    refine ⟨m, e, S, v, S1, er, rp, h1, fun y H1 m1 x1 r1 v1 => ?_⟩
    obtain ⟨i, rfl, hd⟩ := pre_dic (.inr (.inl rfl)) hp
    obtain ⟨aa, rfl, hmi, hD, _⟩ := isD_of r1 v1 hd
    refine ⟨aa, rfl, hD, m1, e, S1, k, S3, er.to x1, r1, h4, fun z H2 m2 x2 r2 v2 => ?_⟩
    refine ⟨m2, e, S3, l, S5, (er.to x1).to x2, r2, h9, fun z2 H3 m3 x3 r3 v3 => ?_⟩
    have h6 : (match dget (fun _ => []) S5 (.ref i) k with | some o => R.ok (o.getD l) S5 | none => .bad) = .ok w S' := h3
    cases q : dget (fun _ => []) S5 (.ref i) k with
    | none =>
      rw [q] at h6
      cases h6
    | some oo =>
      rw [q] at h6
      obtain ⟨rfl, rfl⟩ := ok_inj h6
      obtain ⟨a2, e2, q2, g, hq⟩ := dget_ok r3 (v1.to (x2.trans x3)) (v2.to x3) v3 q (fi.to ((x1.trans x2).trans x3))
      cases e2
      exact ⟨q2, g, hq⟩
  · cases h
/-- pop(key, default) of a dict with pairs as keys -/
theorem s_pop2 {fs : En → Sto → R (List D)} (hK : X.K = W.K) {σ : St} {H : Hp} {Q : VK}
    (h : lift W (fun e S => (fo e S).bind fun x S1 => if bmPre .pop2 x S1 = true then (fs e S1).bind fun vs S2 => bmD .pop2 x vs S2 else .bad) σ H Q) : tBM X.K "dict" L2.DX.rPopT (lift W fo) (liftA W fs) σ H Q := by
  rw [hK]
  obtain ⟨m, e, S, w, S', er, rp, h, fi⟩ := h
  obtain ⟨x, S1, h1, h⟩ := R.bind_eq h
  split at h
  · rename_i hp
    obtain ⟨vs, S2, h2, h3⟩ := R.bind_eq h
    refine ⟨m, e, S, x, S1, er, rp, h1, fun X1 H1 m1 x1 r1 v1 => ?_⟩
    obtain ⟨i, rfl, hd⟩ := pre_dic (.inr (.inr rfl)) hp
    obtain ⟨aa, rfl, hmi, _, hD⟩ := isD_of r1 v1 hd
    refine ⟨.inr (.inr (.inl ⟨rfl, hD⟩)), m1, e, S1, vs, S2, er.to x1, r1, h2, fun zs H2 m2 x2 r2 v2 => ?_⟩
    rcases vs with _ | ⟨k, _ | ⟨z, _ | ⟨_, _⟩⟩⟩
    · cases h3
    · cases h3
    · simp only [bmD] at h3
      split at h3
      · rename_i kvs hS
        split at h3
        · rename_i ks
          split at h3
          · rename_i kk hk
            obtain ⟨Y, Z, rfl, vy, vz⟩ := vrs2 v2
            obtain ⟨p, e3, hmi2, ws, hp2, kr⟩ := vr_obj r2 (v1.to x2) hS
            cases e3
            obtain ⟨bb, ys, rfl, sb, rb⟩ := vr_tup vy
            obtain ⟨e4, e5⟩ := keys_of rb hk
            have hbb := tup_key sb e5
            rw [e4] at hbb
            have fi2 := fi.to (x1.trans x2)
            unfold L2.DX.rPopT
            refine ⟨aa, ws, kk, bb, Z, rfl, rfl, hp2, hbb, fun u hu => ?_, fun hu => ?_⟩
            · rcases look_of kr kk with ⟨_, e7⟩ | ⟨d, y, e6, e7, vr⟩
              · rw [hu] at e7
                cases e7
              · rw [hu] at e7
                cases e7
                rw [e6] at h3
                obtain ⟨rfl, rfl⟩ := ok_inj h3
                have x3 : Ext m2 H2 m2 (upd H2 aa (.dT (dropK ws kk))) :=
                  ⟨⟨[], by simp⟩, fun b xs h => by rw [upd_ne (ne_of h hp2 fun e => by cases e)]; exact h, fun b ob v h => by rw [upd_ne (ne_of h hp2 fun e => by cases e)]; exact h⟩
                obtain ⟨r3, x4⟩ := r2.put (ob := .dT (dropKD kvs kk)) hmi2 hp2 (fun _ e => by cases e) (fun _ _ e => by cases e) ⟨dropK ws kk, upd_same, (drop_of kr kk).to x3⟩
                exact fi2 _ _ _ x4 r3 (vr.to x4)
            · rcases look_of kr kk with ⟨e6, _⟩ | ⟨d, y, _, e7, _⟩
              · rw [e6] at h3
                obtain ⟨rfl, rfl⟩ := ok_inj h3
                exact fi2.done r2 vz
              · rw [hu] at e7
                cases e7
          · cases h3
        · cases h3
      · cases h3
    · cases h3
  · cases h
/-! ### targets -/
def gNms : List Nat → TGs
  | [] => gNil
  | i :: is => gCons (gName i) (gNms is)
def gTg (K : PySem.W.Frag) : Tg → TG
  | .nm i => gName i
  | .tp is => fun v σ H Q => gTup K is.length (gNms is) v σ H Q ∨ gLst K is.length (gNms is) v σ H Q
/-- the slots that a target stores to -/
inductive SetsAt : List Nat → St → St → Prop
  | refl {is : List Nat} {σ : St} : SetsAt is σ σ
  | step {is : List Nat} {σ σ' : St} {i : Nat} {v : V} : i ∈ is → SetsAt is (σ.set i (some v)) σ' → SetsAt is σ σ'
theorem SetsAt.mono {is js : List Nat} {σ σ' : St} (h : SetsAt is σ σ') (k : ∀ i ∈ is, i ∈ js) : SetsAt js σ σ' := by
  induction h with
  | refl => exact .refl
  | step hi _ ih => exact .step (k _ hi) ih
theorem s_nms {m : List Addr} {H : Hp} {K : St → Hp → Prop} : ∀ (is : List Nat) (xs : List D) (ys : List V) (e : En) (σ : St), xs.length = is.length → VRs W m H xs ys → ER W m H e σ →
    (∀ σ', ER W m H ((is.zip xs).foldl (fun e p => e.set p.1 (some p.2)) e) σ' → SetsAt is σ σ' → K σ' H) → gNms is ys σ H K
  | [], xs, ys, e, σ, hl, r, er, k => by
    have hx : xs = [] := List.eq_nil_of_length_eq_zero hl
    subst hx
    cases r
    exact ⟨rfl, k σ er .refl⟩
  | i :: is, xs, ys, e, σ, hl, r, er, k => by
    cases r with
    | nil => cases hl
    | @cons x y xs ys h1 h2 =>
      refine ⟨y, ys, rfl, ?_⟩
      refine s_nms is xs ys (e.set i (some x)) (σ.set i (some y)) (by simpa using hl) h2 (er.set i h1) fun σ' er' st => ?_
      exact k σ' er' (.step List.mem_cons_self (st.mono fun j hj => List.mem_cons_of_mem _ hj))
theorem s_tg {m : List Addr} {H : Hp} {S : Sto} {K : St → Hp → Prop} {t : Tg} {x : D} {v : V} {e e2 : En} {σ : St} (rp : Rep W m H S) (h : setTg t x e S = some e2) (r : VR W m H x v) (er : ER W m H e σ) (k : ∀ σ', ER W m H e2 σ' → SetsAt t.slots σ σ' → K σ' H) : gTg W.K t v σ H K := by
  cases t with
  | nm i =>
    simp only [setTg] at h
    split at h
    · cases h
      exact k _ (er.set i r) (.step List.mem_cons_self .refl)
    · cases h
  | tp is =>
    simp only [setTg] at h
    split at h
    · split at h
      · rename_i xs hu hc
        cases h
        unfold unpD at hu
        split at hu
        · cases hu
          obtain ⟨a, ys, rfl, sa, ra⟩ := vr_tup r
          exact .inl ⟨a, ys, rfl, sa.sq, by rw [← ra.length]; exact hc.1, s_nms is xs ys e σ hc.1 ra er k⟩
        · split at hu
          · rename_i i zs hi
            cases hu
            obtain ⟨a, rfl, _, ys, haa, ra⟩ := vr_obj rp r hi
            exact .inr ⟨a, ys, rfl, SqL.of haa, by rw [← ra.length]; exact hc.1, s_nms is xs ys e σ hc.1 ra er k⟩
          · cases hu
        · cases hu
      · cases h
    · cases h
/-- the names of a scope, as the context has them -/
structure ScOk (X : Cx) (sc : Scope) : Prop where
  cf : ∀ x, sc.names.lookup x = some .cell ∨ sc.names.lookup x = some .free → X.env.scope.names.lookup x = some .cell ∨ X.env.scope.names.lookup x = some .free
  kind : X.env.scope.kind = .function
  vis : ∀ x, visB sc x = true → Vis X.env.scope x
  gl : ∀ x, glB sc x = true → Gl X x
  loc : ∀ x, locB sc x = true → Loc X.env.scope x ∧ (X.fn x = true ∨ X.env.scope.names.lookup x = some .local)
theorem nm_pg {N : List Str} {sc : Scope} {x : Expr} {i : Nat} (hX : X.N = N) (hN : N.Nodup) (so : ScOk X sc) (h : trNm N sc x = some i) : PG X x (gName i) := by
  unfold trNm at h
  split at h
  · rename_i y pos
    split at h
    · rename_i hl
      obtain ⟨h1, h2⟩ := so.loc y hl
      exact pg_name (by rw [hX]; exact hN) (by rw [hX]; exact slot_ok h) h1 h2
    · cases h
  · cases h
theorem nm_ass {N : List Str} {sc : Scope} {x : Expr} {i : Nat} (h : trNm N sc x = some i) (xs : List Expr) (env : Env) : assignEach (x :: xs) env = (false, assign x env) :: assignEach xs env := by
  unfold trNm at h
  split at h
  · rfl
  · cases h
theorem nms_pg {N : List Str} {sc : Scope} (hX : X.N = N) (hN : N.Nodup) (so : ScOk X sc) : ∀ {xs : List Expr} {is : List Nat}, trNms N sc xs = some is → PGs X xs (gNms is) ∧ (assignEach xs X.env).length = is.length ∧ (assignEach xs X.env).findIdx? (·.1) = none
  | [], is, h => by
    cases h
    exact ⟨pgs_nil, rfl, rfl⟩
  | x :: xs, is, h => by
    unfold trNms at h
    split at h
    · rename_i i is' h1 h2
      cases h
      obtain ⟨i1, i2, i3⟩ := nms_pg hX hN so h2
      have e := nm_ass h1 xs X.env
      refine ⟨pgs_cons (nm_pg hX hN so h1) i1 (by rw [e]; rfl), by rw [e, List.length_cons, List.length_cons, i2], ?_⟩
      rw [e, List.findIdx?_cons, i3]
      rfl
    · cases h
theorem pg_tl {x : Expr} {t t' : TG} (h : PG X x t) (h' : PG X x t') : PG X x (fun v σ H Q => t v σ H Q ∨ t' v σ H Q) := by
  refine ⟨fun pins s σ H v u Q I r hw => ?_⟩
  rcases hw with hw | hw
  · exact h.run pins s σ H v u Q I r hw
  · exact h'.run pins s σ H v u Q I r hw
theorem tg_pg {N : List Str} {sc : Scope} {x : Expr} {t : Tg} (hX : X.N = N) (hN : N.Nodup) (hc : X.calm = true) (so : ScOk X sc) (h : trTg N sc x = some t) : PG X x (gTg X.K t) := by
  unfold trTg at h
  split at h
  · obtain ⟨is, h1, rfl⟩ := Option.map_eq_some_iff.mp h
    obtain ⟨i1, i2, i3⟩ := nms_pg hX hN so h1
    exact pg_tl (pg_tup hc i1 i2 i3) (pg_lst hc i1 i2 i3)
  · obtain ⟨i, h1, rfl⟩ := Option.map_eq_some_iff.mp h
    exact nm_pg hX hN so h1
/-! ### comprehensions -/
theorem wipe_set {σ : St} {i : Nat} {v : Option V} : ∀ {vs : List Nat}, i ∈ vs → wipe (σ.set i v) vs = wipe σ vs
  | u :: us, h => by
    show (wipe (σ.set i v) us).set u none = (wipe σ us).set u none
    by_cases hu : i ∈ us
    · rw [wipe_set hu]
    · have e : u = i := by
        rcases List.mem_cons.mp h with e | e
        · exact e.symm
        · exact absurd e hu
      subst e
      have c : ∀ (ws : List Nat), u ∉ ws → wipe (σ.set u v) ws = (wipe σ ws).set u v := fun ws => by
        induction ws with
        | nil => exact fun _ => rfl
        | cons w ws ih =>
          intro hw
          simp only [List.mem_cons, not_or] at hw
          show (wipe (σ.set u v) ws).set w none = ((wipe σ ws).set w none).set u v
          rw [ih hw.2, List.set_comm _ _ (Ne.symm hw.1)]
      rw [c us hu, List.set_set]
theorem wipe_set_none {σ : St} {w : Nat} : ∀ (vs : List Nat), wipe (σ.set w none) vs = (wipe σ vs).set w none
  | [] => rfl
  | u :: us => by
    show (wipe (σ.set w none) us).set u none = ((wipe σ us).set u none).set w none
    rw [wipe_set_none us]
    by_cases e : u = w
    · rw [e]
    · rw [List.set_comm _ _ (Ne.symm e)]
theorem wipe_wipe {σ : St} : ∀ (us vs : List Nat), (∀ u ∈ us, u ∈ vs) → wipe (wipe σ us) vs = wipe σ vs
  | [], vs, _ => rfl
  | u :: us, vs, h => by
    show wipe ((wipe σ us).set u none) vs = wipe σ vs
    rw [wipe_set (h u List.mem_cons_self)]
    exact wipe_wipe us vs fun w hw => h w (List.mem_cons_of_mem _ hw)
theorem SetsAt.wipe {is vs : List Nat} {σ σ' : St} (h : SetsAt is σ σ') (k : ∀ i ∈ is, i ∈ vs) : wipe σ' vs = wipe σ vs := by
  induction h with
  | refl => rfl
  | step hi _ ih => rw [ih, wipe_set (k _ hi)]
def lcBody (t : Tg) (own : List Nat) (fc : En → Sto → R Bool) (fe : En → Sto → R D) (e : En) : D → Sto → R (Option D) := fun x S2 => match setTg t x (wipeE e own) S2 with
  | none => .bad
  | some e2 => (fc e2 S2).bind fun b S3 => if b = true then (fe e2 S3).bind fun y S4 => .ok (some y) S4 else .ok none S3
theorem s_lc {t : Tg} {own : List Nat} {fi : En → Sto → R It} {fc : En → Sto → R Bool} {fe : En → Sto → R D} {tt : TT} (hs : ∀ i ∈ t.slots, i ∈ own) {σ : St} {H : Hp} {Q : VK}
    (ktt : ∀ {σ H K}, liftT W fc σ H K → tt σ H K)
    (h : lift W (fun e S => (fi e S).bind fun J S1 => (lcLoop J (lcBody t own fc fe e) S1.length J.items (S1 ++ [.lst []])).bind fun _ S5 => .ok (.ref S1.length) S5) σ H Q) : tLc (liftI W fi) (gTg W.K t) tt (lift W fe) own σ H Q := by
  obtain ⟨m, e, S, w, S', er, rp, h, fin⟩ := h
  obtain ⟨it, S1, h1, h⟩ := R.bind_eq h
  obtain ⟨u, S5, h2, h3⟩ := R.bind_eq h
  obtain ⟨rfl, rfl⟩ := ok_inj h3
  refine ⟨m, e, S, it, S1, er, rp, h1, fun J H1 m1 x1 r1 jr => ?_⟩
  intro Dd hD
  obtain ⟨r2, x2⟩ := r1.new (o := .lst []) (ob := .lst []) hD ⟨[], upd_same, .nil⟩
  refine ⟨fun i n H' => n = it.items.length - i ∧ i ≤ it.items.length ∧ ∃ m' S0, Ext (m1 ++ [Dd]) (upd H1 Dd (.lst [])) m' H' ∧ Rep W m' H' S0 ∧ lcLoop it (lcBody t own fc fe e) S1.length (it.items.drop i) S0 = .ok u S5,
    ⟨_, rfl, Nat.zero_le _, m1 ++ [Dd], _, .refl, r2, h2⟩, ?_⟩
  rintro i n H' ⟨rfl, hi, m', S0, x3, r3, hl⟩
  have mD : m'[S1.length]? = some Dd := x3.get (by rw [← r1.len]; simp)
  by_cases hlt : i < it.items.length
  · rw [List.drop_eq_getElem_cons hlt] at hl
    have gi : it.items[i]? = some it.items[i] := List.getElem?_eq_getElem hlt
    generalize it.items[i] = x at hl gi
    unfold lcLoop at hl
    split at hl
    · rename_i st
      obtain ⟨yo, S6, h4, h5⟩ := R.bind_eq hl
      refine .inr ⟨jr.go i m' H' S0 x (x2.trans x3) r3 st gi, fun H2 => ∃ m2 S7, Ext (m1 ++ [Dd]) (upd H1 Dd (.lst [])) m2 H2 ∧ Rep W m2 H2 S7 ∧ lcLoop it (lcBody t own fc fe e) S1.length (it.items.drop (i + 1)) S7 = .ok u S5,
        fun H2 ⟨m2, S7, y1, y2, y3⟩ => ⟨it.items.length - (i + 1), by omega, rfl, hlt, m2, S7, y1, y2, y3⟩, fun v H2 hy => ?_⟩
      obtain ⟨x4, r4, vr⟩ := jr.yld i m' H' S0 x v H2 (x2.trans x3) r3 st gi hy
      unfold lcBody at h4
      split at h4
      · cases h4
      · rename_i e2 he2
        have xa := x1.trans (x2.trans (x3.trans x4))
        refine s_tg r4 he2 vr ((er.to xa).wipe own) fun σ2 er2 sa => ⟨?_, ?_⟩
        · rw [sa.wipe hs]
          exact wipe_wipe own own fun _ z => z
        · obtain ⟨bo, S8, h6, h7⟩ := R.bind_eq h4
          refine ktt ⟨m', e2, S0, bo, S8, er2, r4, h6, fun H3 m3 x5 r5 => ?_⟩
          cases bo with
          | true =>
            rw [if_pos rfl] at h7 ⊢
            obtain ⟨y, S9, h8, h9⟩ := R.bind_eq h7
            obtain ⟨rfl, rfl⟩ := ok_inj h9
            refine ⟨m3, e2, S8, y, S9, er2.to x5, r5, h8, fun Y H4 m4 x6 r6 vy => ?_⟩
            dsimp only at h5
            split at h5
            · rename_i acc hacc
              split at h5
              · rename_i hz
                have m4D : m4[S1.length]? = some Dd := x6.get (x5.get (x4.get mD))
                obtain ⟨ys, hys, ra⟩ := r6.obj _ _ _ m4D hacc
                obtain ⟨r7, x7⟩ := put_lst (xs := acc) r6 m4D hys (ra.append (.cons vy .nil))
                exact ⟨ys, hys, by rw [← ra.length]; exact hz, m4, _, x3.trans (x4.trans (x5.trans (x6.trans x7))), r7, h5⟩
              · cases h5
            · cases h5
          | false =>
            rw [if_neg Bool.false_ne_true] at h7 ⊢
            obtain ⟨rfl, rfl⟩ := ok_inj h7
            exact ⟨m3, _, x3.trans (x4.trans x5), r5, h5⟩
    · cases hl
  · have hie : i = it.items.length := by omega
    subst hie
    rw [List.drop_length] at hl
    unfold lcLoop at hl
    split at hl
    · rename_i st
      obtain ⟨_, rfl⟩ := ok_inj hl
      exact .inl ⟨jr.stop _ m' H' S0 (x2.trans x3) r3 st (Nat.le_refl _), fin _ _ _ (x1.trans (x2.trans x3)) r3 (.ref mD)⟩
    · cases hl
end
end Mi
set_option Elab.async false
set_option linter.all false
set_option maxRecDepth 100000
/-! M9b: two clauses. -/
namespace Mi
open PySem PySem.Spec L2
open PyProof.Rows hiding St
section
variable {X : Cx} {W : Wd}
noncomputable def lc2Body (t t1 : Tg) (own own1 : List Nat) (fi1 : En → Sto → R It) (fe : En → Sto → R D) (e : En) (p : Nat) : D → Sto → R Unit := fun x S2 => match setTg t x (wipeE e own) S2 with
  | none => .bad
  | some e2 => (fi1 e2 S2).bind fun J1 S3 => lcLoop J1 (lcBody t1 own1 (fun _ S => .ok true S) fe e2) p J1.items S3
theorem s_lc2 {t t1 : Tg} {own own1 : List Nat} {fi fi1 : En → Sto → R It} {fe : En → Sto → R D} (hs : ∀ i ∈ t.slots, i ∈ own) (hs1 : ∀ i ∈ t1.slots, i ∈ own1) {σ : St} {H : Hp} {Q : VK}
    (h : lift W (fun e S => (fi e S).bind fun J S1 => (lc2Loop J (lc2Body t t1 own own1 fi1 fe e S1.length) J.items (S1 ++ [.lst []])).bind fun _ S5 => .ok (.ref S1.length) S5) σ H Q) :
    tLc2 (liftI W fi) (gTg W.K t) tYes (liftI W fi1) (gTg W.K t1) tYes (lift W fe) own own1 σ H Q := by
  obtain ⟨m, e, S, w, S', er, rp, h, fin⟩ := h
  obtain ⟨it, S1, h1, h⟩ := R.bind_eq h
  obtain ⟨u, S5, h2, h3⟩ := R.bind_eq h
  obtain ⟨rfl, rfl⟩ := ok_inj h3
  refine ⟨m, e, S, it, S1, er, rp, h1, fun J H1 m1 x1 r1 jr => ?_⟩
  intro Dd hD
  obtain ⟨r2, x2⟩ := r1.new (o := .lst []) (ob := .lst []) hD ⟨[], upd_same, .nil⟩
  refine ⟨fun i n H' => n = it.items.length - i ∧ i ≤ it.items.length ∧ ∃ m' S0, Ext (m1 ++ [Dd]) (upd H1 Dd (.lst [])) m' H' ∧ Rep W m' H' S0 ∧ lc2Loop it (lc2Body t t1 own own1 fi1 fe e S1.length) (it.items.drop i) S0 = .ok u S5,
    ⟨_, rfl, Nat.zero_le _, m1 ++ [Dd], _, .refl, r2, h2⟩, ?_⟩
  rintro i n H' ⟨rfl, hi, m', S0, x3, r3, hl⟩
  have mD : m'[S1.length]? = some Dd := x3.get (by rw [← r1.len]; simp)
  by_cases hlt : i < it.items.length
  · rw [List.drop_eq_getElem_cons hlt] at hl
    have gi : it.items[i]? = some it.items[i] := List.getElem?_eq_getElem hlt
    generalize it.items[i] = x at hl gi
    unfold lc2Loop at hl
    split at hl
    · rename_i st
      obtain ⟨u1, S6, h4, h5⟩ := R.bind_eq hl
      refine .inr ⟨jr.go i m' H' S0 x (x2.trans x3) r3 st gi, fun H2 => ∃ m2 S7, Ext (m1 ++ [Dd]) (upd H1 Dd (.lst [])) m2 H2 ∧ Rep W m2 H2 S7 ∧ lc2Loop it (lc2Body t t1 own own1 fi1 fe e S1.length) (it.items.drop (i + 1)) S7 = .ok u S5,
        fun H2 ⟨m2, S7, y1, y2, y3⟩ => ⟨it.items.length - (i + 1), by omega, rfl, hlt, m2, S7, y1, y2, y3⟩, fun v H2 hy => ?_⟩
      obtain ⟨x4, r4, vr⟩ := jr.yld i m' H' S0 x v H2 (x2.trans x3) r3 st gi hy
      unfold lc2Body at h4
      split at h4
      · cases h4
      · rename_i e2 he2
        have xa := x1.trans (x2.trans (x3.trans x4))
        refine s_tg r4 he2 vr ((er.to xa).wipe own) fun σ2 er2 sa => ⟨?_, ?_⟩
        · rw [sa.wipe hs]
          exact wipe_wipe own own fun _ z => z
        · unfold tYes
          dsimp only
          rw [if_pos rfl]
          obtain ⟨it1, S8, h6, h7⟩ := R.bind_eq h4
          refine ⟨m', e2, S0, it1, S8, er2, r4, h6, fun J1 H3 m3 x5 r5 jr1 => ?_⟩
          refine ⟨fun j k H => k = it1.items.length - j ∧ j ≤ it1.items.length ∧ ∃ m4 S9, Ext m3 H3 m4 H ∧ Rep W m4 H S9 ∧ lcLoop it1 (lcBody t1 own1 (fun _ S => .ok true S) fe e2) S1.length (it1.items.drop j) S9 = .ok u1 S6,
            ⟨_, rfl, Nat.zero_le _, m3, S8, .refl, r5, h7⟩, ?_⟩
          rintro j k H4 ⟨rfl, hj, m4, S9, x6, r6, hl1⟩
          have m4D : m4[S1.length]? = some Dd := x6.get (x5.get (x4.get mD))
          by_cases hlt1 : j < it1.items.length
          · rw [List.drop_eq_getElem_cons hlt1] at hl1
            have gj : it1.items[j]? = some it1.items[j] := List.getElem?_eq_getElem hlt1
            generalize it1.items[j] = z at hl1 gj
            unfold lcLoop at hl1
            split at hl1
            · rename_i st1
              obtain ⟨yo, S10, g4, g5⟩ := R.bind_eq hl1
              refine .inr ⟨jr1.go j m4 H4 S9 z x6 r6 st1 gj, fun H5 => ∃ m5 S11, Ext m3 H3 m5 H5 ∧ Rep W m5 H5 S11 ∧ lcLoop it1 (lcBody t1 own1 (fun _ S => .ok true S) fe e2) S1.length (it1.items.drop (j + 1)) S11 = .ok u1 S6,
                fun H5 ⟨m5, S11, y1, y2, y3⟩ => ⟨it1.items.length - (j + 1), by omega, rfl, hlt1, m5, S11, y1, y2, y3⟩, fun v1 H5 hy1 => ?_⟩
              obtain ⟨x7, r7, vr1⟩ := jr1.yld j m4 H4 S9 z v1 H5 x6 r6 st1 gj hy1
              unfold lcBody at g4
              split at g4
              · cases g4
              · rename_i e3 he3
                refine s_tg r7 he3 vr1 ((((er2.to x5).to x6).to x7).wipe own1) fun σ3 er3 sa1 => ⟨?_, ?_⟩
                · rw [sa1.wipe hs1]
                  exact wipe_wipe own1 own1 fun _ z => z
                · rw [if_pos rfl]
                  obtain ⟨bo, S12, g6, g7⟩ := R.bind_eq g4
                  obtain ⟨rfl, rfl⟩ := ok_inj g6
                  rw [if_pos rfl] at g7
                  obtain ⟨y, S13, g8, g9⟩ := R.bind_eq g7
                  obtain ⟨rfl, rfl⟩ := ok_inj g9
                  refine ⟨m4, e3, S9, y, S13, er3, r7, g8, fun Y H6 m6 x8 r8 vy => ?_⟩
                  dsimp only at g5
                  split at g5
                  · rename_i acc hacc
                    split at g5
                    · rename_i hz
                      have m6D : m6[S1.length]? = some Dd := x8.get (x7.get m4D)
                      obtain ⟨ys, hys, ra⟩ := r8.obj _ _ _ m6D hacc
                      obtain ⟨r9, x9⟩ := put_lst (xs := acc) r8 m6D hys (ra.append (.cons vy .nil))
                      exact ⟨ys, hys, by rw [← ra.length]; exact hz, m6, _, x6.trans (x7.trans (x8.trans x9)), r9, g5⟩
                    · cases g5
                  · cases g5
            · cases hl1
          · have hje : j = it1.items.length := by omega
            subst hje
            rw [List.drop_length] at hl1
            unfold lcLoop at hl1
            split at hl1
            · rename_i st1
              obtain ⟨_, rfl⟩ := ok_inj hl1
              exact .inl ⟨jr1.stop _ m4 H4 S9 x6 r6 st1 (Nat.le_refl _), m4, _, x3.trans (x4.trans (x5.trans x6)), r6, h5⟩
            · cases hl1
    · cases hl
  · have hie : i = it.items.length := by omega
    subst hie
    rw [List.drop_length] at hl
    unfold lc2Loop at hl
    split at hl
    · rename_i st
      obtain ⟨_, rfl⟩ := ok_inj hl
      exact .inl ⟨jr.stop _ m' H' S0 (x2.trans x3) r3 st (Nat.le_refl _), fin _ _ _ (x1.trans (x2.trans x3)) r3 (.ref mD)⟩
    · cases hl
end
end Mi
set_option Elab.async false
set_option linter.all false
set_option maxRecDepth 100000
/-! M10: the translation of expressions is sound. -/
namespace Mi
open PySem PySem.Spec L2
open PyProof.Rows hiding St
/-- what is known where a def's body runs, with room for so many calls -/
structure Good (X : Cx) (W : Wd) (P : Pr) (t : Tx) (k : Nat) : Prop where
  hK : X.K = W.K
  hN : X.N = t.N
  nd : t.N.Nodup
  calm : X.calm = true
  room : Rm k X.A
  cds : CdOk X.K X.w W fun i => P.cds.getD i []
  con : ∀ x d, x ∈ t.con → P.con.lookup x = some d → ∃ u y, X.mg x = some u ∧ RelV y u ∧ ∀ m H, VR W m H d y
  blt : ∀ x ∈ bltNames, X.mg x = none
  fns : ∀ f ∈ t.fns, ∃ fa fd ps, X.mg f = some (.ref fa) ∧ PySem.W.keepIn X.K (.ref fa) = true ∧ Binds X.K fd ps [] ∧ FnR X.prog X.w X.K X.mg X.base CX0 k fa fd ps (spD W ((cxt P k).call f))
  cls : ∀ c ∈ t.cls, ∃ n fa fd ps, n < W.nc ∧ P.cl c = some n ∧ Mk X.K (W.ca n) fa ∧ X.mg c = some (.ref (W.ca n)) ∧ Binds X.K fd ps [] ∧ ∀ j, k = j + 1 → FnR X.prog X.w X.K X.mg X.base CX0 j fa fd ps (spD W ((cxt P j).meth n "__init__"))
  mts : MtOk X W k (cxt P k).meth
  flds : ∀ f ∈ t.fields, ∀ n, n < W.nc → NoAttr X.K (W.ca n) f
section
variable {X : Cx} {W : Wd} {P : Pr} {t : Tx} {k : Nat}
theorem Good.blk (G : Good X W P t k) {s : Shared} {H : Hp} {scope : Scope} {cenv : Env} {fp : List Addr} : Good (X.blk s H scope cenv fp) W P t k :=
  ⟨G.hK, G.hN, G.nd, G.calm, G.room, G.cds, G.con, G.blt, G.fns, G.cls, ⟨G.mts.cls, G.mts.ok⟩, G.flds⟩
theorem Good.u64 (G : Good X W P t k) : X.A.units + 64 < cLine := by
  have h := G.room.u0
  unfold cLine at h ⊢
  omega
theorem Good.u1 (G : Good X W P t k) : X.A.units + 1 < cLine := by
  have h := G.u64
  omega
theorem pe_bad {x : Expr} {f : En → Sto → R D} (h : ∀ e S v S', f e S ≠ .ok v S') : PE X x (lift W f) := ⟨fun pins s σ H Q I q => by
  obtain ⟨m, e, S, v, S', _, _, h1, _⟩ := q
  exact absurd h1 (h e S v S')⟩
/-! ### scopes of blocks -/
theorem ScOk.blk {sc scope : Scope} {own : List (Str × Nat)} (so : ScOk X sc) (hb : blkC X.N sc scope own = true) {s : Shared} {H : Hp} {cl : List (Str × Addr)} {C : Addr} {fp : List Addr} : ScOk (X.blk s H scope (compEnvC scope cl C X.env) fp) scope := by
  have ok := blkOk_by hb
  have hsc : (compEnvC scope cl C X.env).scope = relS scope X.env.scope := rfl
  have up : ∀ {x : Str} {kd : NameKind}, kd ≠ .free → scope.names.lookup x = some kd → (relS scope X.env.scope).names.lookup x = some kd := fun {x kd} hk h => lookup_relS_keep hk h
  have upF : ∀ {x : Str}, scope.names.lookup x = some .free → (relS scope X.env.scope).names.lookup x = some .cell ∨ (relS scope X.env.scope).names.lookup x = some .free := fun {x} h => by
    cases q : (relS scope X.env.scope).names.lookup x with
    | some kd =>
      obtain ⟨k', e, r⟩ := lookup_relS q
      rw [h] at e
      cases e
      rcases r with rfl | ⟨_, rfl⟩
      · exact .inr rfl
      · exact .inl rfl
    | none =>
      exfalso
      have hm : (x, NameKind.free) ∈ scope.names := PySem.mem_of_lookup h
      have : ∀ (names : List (Str × NameKind)), (x, NameKind.free) ∈ names → (names.map fun (n, k) => if (k == NameKind.free && X.env.scope.kind == .function && X.env.scope.names.lookup n == some .cell) then (n, NameKind.cell) else (n, k)).lookup x ≠ none := fun names => by
        induction names with
        | nil => intro h; cases h
        | cons p ps ih =>
          intro hp
          obtain ⟨n, k0⟩ := p
          show List.lookup x ((if (k0 == NameKind.free && X.env.scope.kind == .function && X.env.scope.names.lookup n == some .cell) = true then (n, NameKind.cell) else (n, k0)) :: (ps.map _)) ≠ none
          cases hx : x == n with
          | true =>
            by_cases hc : (k0 == NameKind.free && X.env.scope.kind == .function && X.env.scope.names.lookup n == some .cell) = true
            · rw [if_pos hc, List.lookup_cons, hx]
              exact fun e => by cases e
            · rw [if_neg hc, List.lookup_cons, hx]
              exact fun e => by cases e
          | false =>
            have hp2 : (x, NameKind.free) ∈ ps := by
              rcases List.mem_cons.mp hp with e | e
              · cases e
                simp at hx
              · exact e
            by_cases hc : (k0 == NameKind.free && X.env.scope.kind == .function && X.env.scope.names.lookup n == some .cell) = true
            · rw [if_pos hc, List.lookup_cons, hx]
              exact ih hp2
            · rw [if_neg hc, List.lookup_cons, hx]
              exact ih hp2
      exact this _ hm q
  refine ⟨fun x h => ?_, ok.kind, fun x h => ?_, fun x h => ?_, fun x h => ?_⟩
  · rcases h with h | h
    · exact .inl (up (by decide) h)
    · exact upF h
  · unfold visB at h
    show Vis (relS scope X.env.scope) x
    split at h
    · exact .inl (up (by decide) (by assumption))
    · exact .inr (.inl (up (by decide) (by assumption)))
    · rcases upF (by assumption) with e | e
      · exact .inr (.inl e)
      · exact .inr (.inr e)
    · cases h
  · unfold glB at h
    split at h
    · exact up (by decide) (by assumption)
    · cases h
  · unfold locB at h
    show Loc (relS scope X.env.scope) x ∧ ((scope.names.lookup x == some .cell) = true ∨ (relS scope X.env.scope).names.lookup x = some .local)
    split at h
    · rename_i e
      exact ⟨.inl (up (by decide) e), .inr (up (by decide) e)⟩
    · rename_i e
      exact ⟨.inr (up (by decide) e), .inl (by rw [e]; rfl)⟩
    · cases h
theorem blk_ok {sc scope : Scope} {own : List (Str × Nat)} (so : ScOk X sc) (hb : blkC X.N sc scope own = true) : BlkOk X.N X.env.scope scope own := by
  have ok := blkOk_by hb
  exact ⟨ok.kind, ok.uniq, ok.ix, fun y hy e => so.cf _ (ok.free y hy e), ok.own⟩
theorem p62 : (2 : Int) ^ 62 = 4611686018427387904 := by decide +kernel
/-! ### what is walked -/
theorem s_seq {fa : En → Sto → R D} {σ : St} {H : Hp} {K : L2.It → Hp → Prop} (h : liftI W (fun e S => (fa e S).bind fun x S1 => seqIt x S1) σ H K) : iSeq W.K (lift W fa) σ H K := by
  obtain ⟨m, e, S, it, S', er, rp, h, f⟩ := h
  obtain ⟨x, S1, h1, h⟩ := R.bind_eq h
  refine ⟨m, e, S, x, S1, er, rp, h1, fun X1 H1 m1 x1 r1 v1 => ?_⟩
  unfold seqIt at h
  split at h
  · obtain ⟨rfl, rfl⟩ := ok_inj h
    obtain ⟨a, ys, rfl, sa, ra⟩ := vr_tup v1
    exact .inr (.inl ⟨a, rfl, ⟨ys, sa.sq⟩, f _ H1 m1 x1 r1 (itr_tup sa ra)⟩)
  · obtain ⟨rfl, rfl⟩ := ok_inj h
    obtain ⟨a, ys, rfl, sa, ra⟩ := vr_lit v1
    exact .inl ⟨a, rfl, ⟨ys, sa.sq⟩, f _ H1 m1 x1 r1 (itr_lit sa ra)⟩
  · split at h
    · obtain ⟨rfl, rfl⟩ := ok_inj h
      obtain rfl := vr_str v1
      exact .inr (.inr ⟨_, rfl, f _ H1 m1 x1 r1 itr_str⟩)
    · cases h
  · split at h
    · rename_i i _ xs q
      obtain ⟨rfl, rfl⟩ := ok_inj h
      obtain ⟨a, rfl, hm, ys, haa, ra⟩ := vr_obj r1 v1 q
      exact .inl ⟨a, rfl, ⟨ys, SqL.of haa⟩, f _ H1 m1 x1 r1 (itr_lst hm)⟩
    · cases h
  · cases h
theorem s_rng1 {fs : En → Sto → R (List D)} {σ : St} {H : Hp} {K : L2.It → Hp → Prop} (hl : ∀ e S vs S', fs e S = .ok vs S' → vs.length = 1) (h : liftI W (fun e S => (fs e S).bind fun x S1 => rngIt x S1) σ H K) : iRng1 (liftA W fs) σ H K := by
  obtain ⟨m, e, S, it, S', er, rp, h, f⟩ := h
  obtain ⟨x, S1, h1, h⟩ := R.bind_eq h
  refine ⟨m, e, S, x, S1, er, rp, h1, fun X1 H1 m1 x1 r1 v1 => ?_⟩
  have hl := hl _ _ _ _ h1
  unfold rngIt at h
  split at h
  · rename_i j
    split at h
    · rename_i hj
      obtain ⟨rfl, rfl⟩ := ok_inj h
      obtain ⟨Y, rfl, hy⟩ := vrs1 v1
      obtain rfl := vr_int hy
      exact ⟨j, rfl, by rw [p62]; exact hj.1, by rw [p62]; exact hj.2, f _ H1 m1 x1 r1 itr_rng⟩
    · cases h
  · cases hl
  · cases h
theorem s_rng2 {fs : En → Sto → R (List D)} {σ : St} {H : Hp} {K : L2.It → Hp → Prop} (hl : ∀ e S vs S', fs e S = .ok vs S' → vs.length = 2) (h : liftI W (fun e S => (fs e S).bind fun x S1 => rngIt x S1) σ H K) : iRng2 (liftA W fs) σ H K := by
  obtain ⟨m, e, S, it, S', er, rp, h, f⟩ := h
  obtain ⟨x, S1, h1, h⟩ := R.bind_eq h
  refine ⟨m, e, S, x, S1, er, rp, h1, fun X1 H1 m1 x1 r1 v1 => ?_⟩
  have hl := hl _ _ _ _ h1
  unfold rngIt at h
  split at h
  · cases hl
  · rename_i i j
    split at h
    · rename_i hj
      obtain ⟨rfl, rfl⟩ := ok_inj h
      obtain ⟨Y, Z, rfl, hy, hz⟩ := vrs2 v1
      obtain rfl := vr_int hy
      obtain rfl := vr_int hz
      exact ⟨i, j, rfl, by rw [p62]; exact ⟨hj.1.1, hj.1.2, hj.2.1, hj.2.2⟩, f _ H1 m1 x1 r1 itr_rng⟩
    · cases h
  · cases h
theorem s_enum {fa : En → Sto → R D} {σ : St} {H : Hp} {K : L2.It → Hp → Prop} (h : liftI W (fun e S => (fa e S).bind fun x S1 => enumIt x S1) σ H K) :
    iEnum W.K (liftA W fun e S => (fa e S).bind fun x S1 => (R.ok [] S1).bind fun ys S2 => .ok (x :: ys) S2) σ H K := by
  obtain ⟨m, e, S, it, S', er, rp, h, f⟩ := h
  obtain ⟨x, S1, h1, h⟩ := R.bind_eq h
  have h1' : ((fa e S).bind fun x S1 => (R.ok [] S1).bind fun ys S2 => R.ok (x :: ys) S2) = .ok [x] S1 := by rw [h1]; rfl
  refine ⟨m, e, S, [x], S1, er, rp, h1', fun X1 H1 m1 x1 r1 v1 => ?_⟩
  obtain ⟨Y, rfl, hy⟩ := vrs1 v1
  unfold enumIt at h
  split at h
  · split at h
    · rename_i i _ xs q
      obtain ⟨rfl, rfl⟩ := ok_inj h
      obtain ⟨a, rfl, hm, ys, haa, ra⟩ := vr_obj r1 hy q
      exact ⟨a, ys, rfl, SqL.of haa, f _ H1 m1 x1 r1 (itr_enum hm)⟩
    · cases h
  · cases h
end
end Mi
set_option Elab.async false
set_option linter.all false
set_option maxRecDepth 100000
/-! M11: the translation of expressions is sound: the theorem. -/
namespace Mi
open PySem PySem.Spec L2
open PyProof.Rows hiding St
theorem boot_tab {x : Str} {b : BF} (h : bfTab.lookup x = some b) : bootBuiltins x = some b.val ∧ x ∈ bltNames ∧ x ≠ "__name__" ∧ (x == ("__debug__" : Str)) = false := by
  have hm := PySem.mem_of_lookup h
  have key : ∀ p ∈ bfTab, bootBuiltins p.1 = some p.2.val ∧ p.1 ∈ bltNames ∧ p.1 ≠ "__name__" ∧ (p.1 == ("__debug__" : Str)) = false := by
    intro p hp
    simp only [bfTab, List.mem_cons, List.not_mem_nil, or_false] at hp
    rcases hp with rfl | rfl | rfl | rfl | rfl | rfl | rfl | rfl | rfl | rfl | rfl | rfl <;> exact ⟨by decide +kernel, by decide +kernel, by decide +kernel, by decide +kernel⟩
  exact key _ hm
theorem boot_ty {x : Str} {b : Ty} (h : tyTab.lookup x = some b) : bootBuiltins x = some (.type b.nm) ∧ x ∈ bltNames ∧ x ≠ "__name__" ∧ (x == ("__debug__" : Str)) = false := by
  have hm := PySem.mem_of_lookup h
  have key : ∀ p ∈ tyTab, bootBuiltins p.1 = some (.type p.2.nm) ∧ p.1 ∈ bltNames ∧ p.1 ≠ "__name__" ∧ (p.1 == ("__debug__" : Str)) = false := by
    intro p hp
    simp only [tyTab, List.mem_cons, List.not_mem_nil, or_false] at hp
    rcases hp with rfl | rfl | rfl | rfl <;> exact ⟨by decide +kernel, by decide +kernel, by decide +kernel, by decide +kernel⟩
  exact key _ hm
section
variable {X : Cx} {W : Wd} {P : Pr} {t : Tx} {k : Nat} {n : Nat} {sc : Scope} {x : Expr}
/-- what is to be shown of an expression -/
def OkE (X : Cx) (W : Wd) (C : Cxt) (x : Expr) (e : E) : Prop := PE X x (lift W (ev C e).v) ∧ (isIf x = false → PT X x (liftT W (ev C e).t))
theorem plain_ok {e : E} {C : Cxt} {f : En → Sto → R D} (hK : X.K = W.K) (h : tr t n sc x = some e) (he : ev C e = .of f) (hp : PE X x (lift W f)) (hb : ∀ op vs p, x ≠ .BoolOp op vs p) (hc : ∀ a b c p, x ≠ .Compare a b c p) (hn : ∀ a p, x ≠ .UnaryOp .Not a p) : OkE X W C x e := by
  unfold OkE
  rw [he]
  exact ⟨hp, fun hi => e_truth hK hp (isT_of h hb hc hn hi X.env)⟩
theorem plain_nm {y : Str} (h : plainName y = true) : (y == ("__debug__" : Str)) = false ∧ (y == ("__classdict__" : Str)) = false ∧ y ≠ "__name__" := by
  unfold plainName at h
  rw [Bool.and_eq_true, Bool.and_eq_true] at h
  refine ⟨by simpa using h.1.1, by simpa using h.1.2, ?_⟩
  have h2 := h.2
  intro e
  rw [e] at h2
  simp at h2
/-- lists of expressions -/
theorem as_ok {C : Cxt} (IH : ∀ x e, tr t n sc x = some e → OkE X W C x e) : ∀ {xs : List Expr} {es : Es}, trs (tr t n sc) xs = some es → PA X xs (liftA W (evEs C es))
  | [], es, h => by
    cases h
    exact a_nil
  | x :: xs, es, h => by
    unfold trs at h
    split at h
    · rename_i a as h1 h2
      cases h
      exact a_cons (IH _ _ h1).1 (as_ok IH h2) (star_of h1 xs X.env)
    · cases h
theorem w_ok {C : Cxt} {pos : Pos} (IH : ∀ x e, tr t n sc x = some e → OkE X W C x e) : ∀ {xs : List Expr} {y : Expr} {es : Es}, trTs (tr t n sc) (y :: xs) = some es →
    PW X (.BoolOp .And (y :: xs) pos) (liftT W (evAnd C es)) ∧ PW X (.BoolOp .Or (y :: xs) pos) (liftT W (evOr C es)) ∧ PE X (.BoolOp .And (y :: xs) pos) (lift W (evAndV C es)) ∧ PE X (.BoolOp .Or (y :: xs) pos) (lift W (evOrV C es))
  | [], y, es, h => by
    unfold trTs at h
    split at h
    · rename_i a as h1 h2 h3
      cases h
      cases h3
      obtain ⟨p1, p2⟩ := IH _ _ h2
      exact ⟨w_and1 (p2 h1), w_or1 (p2 h1), pe_one p1, pe_one p1⟩
    · cases h
  | z :: xs, y, es, h => by
    unfold trTs at h
    split at h
    · rename_i a as h1 h2 h3
      cases h
      obtain ⟨p1, p2⟩ := IH _ _ h2
      obtain ⟨q1, q2, q3, q4⟩ := w_ok (pos := pos) IH h3
      cases as with
      | nil =>
        exfalso
        unfold trTs at h3
        split at h3 <;> cases h3
      | cons b bs => exact ⟨w_and (p2 h1) q1, w_or (p2 h1) q2, v_and p1 q3, v_or p1 q4⟩
    · cases h
theorem es_cons {C : Cxt} {f : Expr → Option E} {xs : List Expr} {es : Es} (h : trs f xs = some es) {e : En} {S S' : Sto} {vs : List D} (q : evEs C es e S = .ok vs S') : vs.length = xs.length := es_len h q
/-- a slice's part -/
theorem part_ok {C : Cxt} (IH : ∀ x e, tr t n sc x = some e → OkE X W C x e) {o : Option Expr} {e : E} (h : trP (tr t n sc) o = some e) : ∃ tp : TO, PO X o tp ∧ ∀ {m en S r S' σ H K}, ER W m H en σ → Rep W m H S →
    (if isNop e = true then R.ok none S else ((ev C e).v en S).bind fun l S2 => partR l S2) = .ok r S' → (∀ H' m', Ext m H m' H' → Rep W m' H' S' → K r H') → tp σ H K := by
  cases o with
  | none =>
    cases h
    refine ⟨_, po_none, fun {m en S r S' σ H K} er rp h q => ?_⟩
    have h2 : (R.ok none S : R (Option Int)) = .ok r S' := h
    exact k_none er rp h2 q
  | some x =>
    unfold trP at h
    dsimp only at h
    split at h
    · rename_i a h1
      split at h
      · cases h
      · rename_i hn
        cases h
        refine ⟨_, po_some (IH _ _ h1).1, fun {m en S r S' σ H K} er rp h q => ?_⟩
        rw [if_neg hn] at h
        exact k_some er rp h q
    · cases h
/-! ### calls -/
theorem call_ok (so : ScOk X sc) (G : Good X W P t k) (IH : ∀ x e, tr t n sc x = some e → OkE X W (cxt P k) x e) {g : Str} {p pos : Pos} {as : List Expr} {e : E} (hp : plainName g = true) (hg : glB sc g = true) (h : trG t sc (tr t n sc) g as = some e) :
    ∃ f, ev (cxt P k) e = .of f ∧ PE X (.Call (.Name g p) as [] pos) (lift W f) := by
  obtain ⟨hd, hcd, hnm⟩ := plain_nm hp
  have hG : Gl X g := so.gl g hg
  unfold trG at h
  split at h
  · rename_i hf
    obtain ⟨es, h1, rfl⟩ := Option.map_eq_some_iff.mp h
    obtain ⟨fa, fd, ps, m1, m2, m3, m4⟩ := G.fns g hf
    refine ⟨_, rfl, ?_⟩
    cases as with
    | nil =>
      cases h1
      exact e_call0 m4 G.room hG m1 m2 m3 hd
    | cons b bs =>
      have ha := as_ok IH h1
      obtain ⟨a0, as0, hb, hbs⟩ : ∃ a0 as0, tr t n sc b = some a0 ∧ trs (tr t n sc) bs = some as0 := by
        unfold trs at h1
        split at h1
        · exact ⟨_, _, by assumption, by assumption⟩
        · cases h1
      exact e_call m4 G.room hG m1 m2 m3 ha hd (star_of hb bs X.env) (stars_of hbs X.env pos).1
  · split at h
    · rename_i hf
      obtain ⟨es, h1, rfl⟩ := Option.map_eq_some_iff.mp h
      obtain ⟨nc, fa, fd, ps, l, hcl, M, m1, m3, m4⟩ := G.cls g hf
      cases k with
      | zero => exact ⟨_, rfl, pe_bad fun e S v S' q => by
          obtain ⟨vs, S1, _, q2⟩ := R.bind_eq q
          cases q2⟩
      | succ j =>
        have hmk : (cxt P (j + 1)).make g = mkD nc ((cxt P j).meth nc "__init__") := by
          funext vs S
          show (match P.cl g with | some n => _ | none => _) = _
          rw [hcl]
          rfl
        refine ⟨fun e S => (evEs (cxt P (j + 1)) es e S).bind fun vs S1 => mkD nc ((cxt P j).meth nc "__init__") vs S1, by rw [← hmk]; rfl, ?_⟩
        cases as with
        | nil =>
          cases h1
          exact e_make0 l M (m4 j rfl) G.room hG m1 m3 hd
        | cons b bs =>
          have ha := as_ok IH h1
          obtain ⟨a0, as0, hb, hbs⟩ : ∃ a0 as0, tr t n sc b = some a0 ∧ trs (tr t n sc) bs = some as0 := by
            unfold trs at h1
            split at h1
            · exact ⟨_, _, by assumption, by assumption⟩
            · cases h1
          exact e_make l M (m4 j rfl) G.room hG m1 m3 ha hd (star_of hb bs X.env) (stars_of hbs X.env pos).1
    · split at h
      · rename_i b x xs hb
        obtain ⟨es, h1, rfl⟩ := Option.map_eq_some_iff.mp h
        obtain ⟨b1, b2, b3, b4⟩ := boot_tab hb
        have ha := as_ok IH h1
        obtain ⟨a0, as0, hb, hbs⟩ : ∃ a0 as0, tr t n sc x = some a0 ∧ trs (tr t n sc) xs = some as0 := by
          unfold trs at h1
          split at h1
          · exact ⟨_, _, by assumption, by assumption⟩
          · cases h1
        exact ⟨_, rfl, e_bf G.hK G.calm hG (G.blt _ b2) b1 b3 b4 ha (star_of hb xs X.env) (stars_of hbs X.env pos).1⟩
      · split at h
        · rename_i hi
          subst hi
          split at h
          · rename_i a ty p2 _
            split at h
            · rename_i hgt
              split at h
              · rename_i a' u h1 h2
                cases h
                obtain ⟨b1, b2, b3, b4⟩ := boot_ty h2
                exact ⟨_, rfl, e_isi G.hK hG (G.blt _ (by decide)) (so.gl ty hgt) (G.blt _ b2) b1 b3 b4 (IH _ _ h1).1 fun xs => star_of h1 xs X.env⟩
              · cases h
            · cases h
          · cases h
        · cases h
/-! ### methods -/
theorem bmOf_id {m : Str} {j : Nat} {b : BM} (h : bmOf m j = some b) : (b = .append ∧ m = "append") ∨ (b = .extend ∧ m = "extend") ∨ (b = .pop ∧ m = "pop" ∧ j = 0) ∨ (b = .lindex ∧ m = "index") ∨ (b = .get1 ∧ m = "get" ∧ j = 1) ∨ (b = .get2 ∧ m = "get" ∧ j = 2) ∨ (b = .pop2 ∧ m = "pop" ∧ j = 2) := by
  unfold bmOf at h
  split at h
  · cases h
    exact .inl ⟨rfl, by assumption⟩
  split at h
  · cases h
    exact .inr (.inl ⟨rfl, by assumption⟩)
  split at h
  · cases h
    exact .inr (.inr (.inl ⟨rfl, by assumption⟩))
  split at h
  · cases h
    exact .inr (.inr (.inr (.inl ⟨rfl, by assumption⟩)))
  split at h
  · cases h
    exact .inr (.inr (.inr (.inr (.inl ⟨rfl, by assumption⟩))))
  split at h
  · cases h
    exact .inr (.inr (.inr (.inr (.inr (.inl ⟨rfl, by assumption⟩)))))
  split at h
  · cases h
    exact .inr (.inr (.inr (.inr (.inr (.inr ⟨rfl, by assumption⟩)))))
  · cases h
theorem bm_one {b : BM} (hb : b = .append ∨ b = .extend ∨ b = .lindex) (x : D) (vs : List D) (S : Sto) : bmD b x vs S = .bad ∨ vs.length = 1 := by
  unfold bmD
  split <;> first | exact .inr rfl | exact .inl rfl | (exfalso; rcases hb with h | h | h <;> cases h)
theorem few_of {es : List Expr} {as : Es} {cpos : Pos} (h : trs (tr t n sc) es = some as) (hl : es.length < 28) :
    ((backTo cpos (starEach es X.env)).all (fun x => !x.1) && (backToKw cpos (keywordEach [] X.env)).all (fun x => x.1.isSome) && decide (es.length + ([] : List Keyword).length + (if ([] : List Keyword).isEmpty then 0 else 1) < 30)) = true := by
  rw [(stars_of h X.env cpos).2]
  show (true && true && _) = true
  simp
  omega
theorem bm_ok (G : Good X W P t k) {C : Cxt} (IH : ∀ x e, tr t n sc x = some e → OkE X W C x e) {o : Expr} {m : Str} {apos pos : Pos} {as : List Expr} {eo : E} {es : Es} {b : BM} (hs : notSuper o = true) (hline : (apos.endLine == pos.line) = true) (hl : as.length < 28)
    (ho : tr t n sc o = some eo) (ha : trs (tr t n sc) as = some es) (hb : bmOf m as.length = some b) : PE X (.Call (.Attribute o m apos) as [] pos) (lift W fun e S => ((ev C eo).v e S).bind fun x S1 => if bmPre b x S1 = true then (evEs C es e S1).bind fun vs S2 => bmD b x vs S2 else .bad) := by
  have pO := (IH _ _ ho).1
  have pA := as_ok IH ha
  have hbase := base_of (o := o) hs m X.env (eval o X.env)
  have few := few_of (X := X) (cpos := pos) ha hl
  have bad : ∀ (c : BM), (∀ vs x S, bmD c x vs S = .bad ∨ vs.length = 1) → as.length ≠ 1 → b = c → PE X (.Call (.Attribute o m apos) as [] pos) (lift W fun e S => ((ev C eo).v e S).bind fun x S1 => if bmPre b x S1 = true then (evEs C es e S1).bind fun vs S2 => bmD b x vs S2 else .bad) := by
    intro c hc hne e
    subst e
    refine pe_bad fun e S v S' q => ?_
    obtain ⟨x, S1, _, q⟩ := R.bind_eq q
    split at q
    · obtain ⟨vs, S2, q1, q2⟩ := R.bind_eq q
      rcases hc vs x S2 with z | z
      · rw [z] at q2
        cases q2
      · exact hne ((es_len ha q1).symm.trans z)
    · cases q
  have one : ∀ {z : Expr} {zs : List Expr}, as = z :: zs → starEach (z :: zs) X.env = (false, eval z X.env) :: starEach zs X.env ∧ (backTo pos (starEach zs X.env)).any (·.1) = false := by
    intro z zs e
    subst e
    unfold trs at ha
    split at ha
    · rename_i h1 h2
      exact ⟨star_of h1 zs X.env, (stars_of h2 X.env pos).1⟩
    · cases ha
  rcases bmOf_id hb with ⟨rfl, rfl⟩ | ⟨rfl, rfl⟩ | ⟨rfl, rfl, hj⟩ | ⟨rfl, rfl⟩ | ⟨rfl, rfl, hj⟩ | ⟨rfl, rfl, hj⟩ | ⟨rfl, rfl, hj⟩
  · cases as with
    | nil => exact bad _ (fun vs x S => bm_one (by simp) x vs S) (by simp) rfl
    | cons z zs =>
      obtain ⟨o1, o2⟩ := one rfl
      exact pe_imp (pe_bm PySem.F.plainAttrs_list PySem.F.slot_list_append PySem.F.type_list_append (o_bmL .append rfl) pO pA hbase few hline o1 o2) fun σ H Q h => s_bm G.hK rfl h
  · cases as with
    | nil => exact bad _ (fun vs x S => bm_one (by simp) x vs S) (by simp) rfl
    | cons z zs =>
      obtain ⟨o1, o2⟩ := one rfl
      exact pe_imp (pe_bm PySem.F.plainAttrs_list PySem.F.slot_list_extend PySem.F.type_list_extend (o_bmL .extend rfl) pO pA hbase few hline o1 o2) fun σ H Q h => s_bm G.hK rfl h
  · obtain rfl : as = [] := List.eq_nil_of_length_eq_zero hj
    cases ha
    refine pe_imp (pe_bm0 PySem.F.plainAttrs_list PySem.F.slot_list_pop PySem.F.type_list_pop (o_bmL .pop rfl) pO hbase hline) fun σ H Q h => ?_
    obtain ⟨m, e, S, v, S', er, rp, h, fi⟩ := s_bm (X := X) (fo := (ev C eo).v) (fs := evEs C .nil) G.hK rfl h
    refine ⟨m, e, S, v, S', er, rp, h, fun X1 H1 m1 x1 r1 v1 => ?_⟩
    obtain ⟨q1, q2⟩ := fi X1 H1 m1 x1 r1 v1
    refine ⟨q1, ?_⟩
    obtain ⟨m2, e2, S2, vs, S3, er2, rp2, h2, fi2⟩ := q2
    obtain ⟨rfl, rfl⟩ := ok_inj h2
    exact fi2 [] H1 m2 .refl rp2 .nil
  · cases as with
    | nil => exact bad _ (fun vs x S => bm_one (by simp) x vs S) (by simp) rfl
    | cons z zs =>
      obtain ⟨o1, o2⟩ := one rfl
      exact pe_imp (pe_bm PySem.F.plainAttrs_list PySem.F.slot_list_index PySem.F.type_list_index (o_bmL .lindex rfl) pO pA hbase few hline o1 o2) fun σ H Q h => s_bm G.hK rfl h
  · rcases as with _ | ⟨z, _ | ⟨z2, zs⟩⟩
    · cases hj
    · unfold trs at ha
      split at ha
      · rename_i a1 as1 h1 h2
        cases ha
        cases h2
        exact e_get1 G.u1 pO (IH _ _ h1).1 ⟨hbase, few, hline, by rw [star_of h1]; rfl⟩
      · cases ha
    · simp at hj
  · rcases as with _ | ⟨z, _ | ⟨z2, _ | ⟨z3, zs⟩⟩⟩
    · cases hj
    · simp at hj
    · unfold trs at ha
      split at ha
      · rename_i a1 as1 h1 h2
        cases ha
        unfold trs at h2
        split at h2
        · rename_i a2 as2 h3 h4
          cases h2
          cases h4
          exact e_get2 G.u1 pO (IH _ _ h1).1 (IH _ _ h3).1 ⟨hbase, few, hline, by rw [star_of h1, star_of h3]; rfl⟩
        · cases h2
      · cases ha
    · simp at hj
  · cases as with
    | nil => cases hj
    | cons z zs =>
      obtain ⟨o1, o2⟩ := one rfl
      exact pe_imp (pe_bm PySem.F.plainAttrs_dict PySem.F.slot_dict_pop PySem.F.type_dict_pop (L2.DX.mt_popT G.u1) pO pA hbase few hline o1 o2) fun σ H Q h => s_pop2 G.hK h
end
end Mi
set_option Elab.async false
set_option linter.all false
set_option maxRecDepth 100000
/-! M12: every expression. -/
namespace Mi
open PySem PySem.Spec L2
open PyProof.Rows hiding St
section
variable {W : Wd} {P : Pr} {t : Tx} {k : Nat}
theorem i_ok {X : Cx} {sc : Scope} {n : Nat} {tg x : Expr} {it : I} (so : ScOk X sc) (G : Good X W P t k) (IH : ∀ x e, tr t n sc x = some e → OkE X W (cxt P k) x e) (h : trI sc (tr t n sc) x = some it) :
    PI X tg x (liftI W (evI (cxt P k) it)) ∧ ∀ env v, foldedSetIterable x env v = pure v := by
  have seq : ∀ {a : E}, tr t n sc x = some a → PI X tg x (liftI W (evI (cxt P k) (.seq a))) ∧ ∀ env v, foldedSetIterable x env v = pure v := fun {a} h => by
    have q := pi_seq (tg := tg) (IH _ _ h).1
    rw [G.hK] at q
    exact ⟨pi_imp q fun σ H R h => s_seq h, fun env v => fold_of h env v⟩
  unfold trI at h
  split at h
  · rename_i g p as ks pos
    split at h
    · rename_i hg
      subst hg
      split at h
      · rename_i a
        split at h
        · rename_i hgl
          obtain ⟨a', h1, rfl⟩ := Option.map_eq_some_iff.mp h
          have ha : PA X [a] (liftA W (evEs (cxt P k) (.cons a' .nil))) := a_cons (IH _ _ h1).1 a_nil (star_of h1 [] X.env)
          refine ⟨pi_imp (pi_range1 (so.gl _ hgl) (G.blt _ (by decide)) ha (star_of h1 [] X.env)) fun σ H Rr h => s_rng1 (fun e S vs S' q => ?_) h, fun env v => rfl⟩
          obtain ⟨y, S1, _, q⟩ := R.bind_eq q
          obtain ⟨ys, S2, q2, q3⟩ := R.bind_eq q
          obtain ⟨rfl, rfl⟩ := ok_inj q3
          obtain ⟨rfl, rfl⟩ := ok_inj q2
          rfl
        · cases h
      · rename_i a b
        split at h
        · rename_i hgl
          split at h
          · rename_i a' b' h1 h2
            cases h
            have ha : PA X [a, b] (liftA W (evEs (cxt P k) (.cons a' (.cons b' .nil)))) := a_cons (IH _ _ h1).1 (a_cons (IH _ _ h2).1 a_nil (star_of h2 [] X.env)) (star_of h1 [b] X.env)
            refine ⟨pi_imp (pi_range2 (so.gl _ hgl) (G.blt _ (by decide)) ha (by rw [star_of h1, star_of h2]; rfl) (star_of h2 [] X.env)) fun σ H Rr h => s_rng2 (fun e S vs S' q => ?_) h, fun env v => rfl⟩
            obtain ⟨y, S1, _, q⟩ := R.bind_eq q
            obtain ⟨ys, S2, q2, q3⟩ := R.bind_eq q
            obtain ⟨rfl, rfl⟩ := ok_inj q3
            obtain ⟨z, S3, _, q⟩ := R.bind_eq q2
            obtain ⟨zs, S4, q4, q5⟩ := R.bind_eq q
            obtain ⟨rfl, rfl⟩ := ok_inj q5
            obtain ⟨rfl, rfl⟩ := ok_inj q4
            rfl
          · cases h
        · cases h
      · cases h
    · split at h
      · cases h
      · obtain ⟨a, h1, rfl⟩ := Option.map_eq_some_iff.mp h
        exact seq h1
  · obtain ⟨a, h1, rfl⟩ := Option.map_eq_some_iff.mp h
    exact seq h1
theorem i_fold {sc : Scope} {n : Nat} {x : Expr} {it : I} (h : trI sc (tr t n sc) x = some it) : ∀ env v, foldedSetIterable x env v = pure v := by
  unfold trI at h
  split at h
  · exact fun env v => rfl
  · obtain ⟨a, h1, rfl⟩ := Option.map_eq_some_iff.mp h
    exact fun env v => fold_of h1 env v
theorem enum_ok {X : Cx} {sc : Scope} {n : Nat} {tg x : Expr} {it : I} (so : ScOk X sc) (G : Good X W P t k) (IH : ∀ x e, tr t n sc x = some e → OkE X W (cxt P k) x e) (h : trE sc (tr t n sc) tg x = some it) :
    PI X tg x (liftI W (evI (cxt P k) it)) ∧ ∀ env v, foldedSetIterable x env v = pure v := by
  unfold trE at h
  split at h
  · split at h
    · rename_i hg
      obtain ⟨hg, hgl⟩ := hg
      subst hg
      obtain ⟨a', h1, rfl⟩ := Option.map_eq_some_iff.mp h
      have ha : PA X _ (liftA W (evEs (cxt P k) (.cons a' .nil))) := a_cons (IH _ _ h1).1 a_nil (star_of h1 [] X.env)
      refine ⟨pi_imp (pi_enum (so.gl _ hgl) (G.blt _ (by decide)) ha (star_of h1 [] X.env)) fun σ H Rr h => ?_, fun env v => rfl⟩
      rw [G.hK]
      exact s_enum h
    · cases h
  · cases h
/-- a part of the source of a for or a clause -/
theorem it_ok {X : Cx} {sc : Scope} {n : Nat} {tg x : Expr} {it : I} (so : ScOk X sc) (G : Good X W P t k) (IH : ∀ x e, tr t n sc x = some e → OkE X W (cxt P k) x e)
    (h : (match trE sc (tr t n sc) tg x with | some i => some i | none => trI sc (tr t n sc) x) = some it) : PI X tg x (liftI W (evI (cxt P k) it)) ∧ ∀ env v, foldedSetIterable x env v = pure v := by
  split at h
  · rename_i q
    cases h
    exact enum_ok so G IH q
  · exact i_ok so G IH h
theorem all_in {is js : List Nat} (h : is.all (fun i => decide (i ∈ js)) = true) : ∀ i ∈ is, i ∈ js := fun i hi => by simpa using List.all_eq_true.mp h i hi
theorem isT_lc {elt : Expr} {gs : List Comprehension} {scope : Scope} {pos : Pos} {env : Env} : ∀ whole, isTrue (.ListComp elt gs scope pos) env whole = (do let v ← whole; standAt (Expr.ListComp elt gs scope pos).pos; holding [v] (truthy v)) := fun whole => rfl
/-- a comprehension: what it reads as, and what is stored by name = [..] -/
def LcOk (X : Cx) (W : Wd) (C : Cxt) (x : Expr) (e : E) : Prop := ∃ te : TE, (∀ σ H Q, lift W (ev C e).v σ H Q → te σ H Q) ∧ PE X x te ∧
  ∀ (y : Str) (py spos : Pos) (i : Nat), X.N[i]? = some y → X.env.scope.names.lookup y = some .local → swapsWith x (some (.Name y py)) spos.line X.env = pure true → PS X (.Assign [.Name y py] x spos) (tAsg te (gName i))
theorem lc_parts {n : Nat} {X : Cx} {sc : Scope} (so : ScOk X sc) (G : Good X W P t k) (IA : ∀ (X : Cx) (sc : Scope), ScOk X sc → Good X W P t k → ∀ (x : Expr) (e : E), tr t n sc x = some e → OkE X W (cxt P k) x e)
    {elt : Expr} {gs : List Comprehension} {scope : Scope} {pos : Pos} {e : E} (h : tr t (n + 1) sc (.ListComp elt gs scope pos) = some e) : LcOk X W (cxt P k) (.ListComp elt gs scope pos) e ∧ ∃ f, ev (cxt P k) e = .of f := by
  have IH := IA X sc so G
  unfold tr at h
  split at h <;> try contradiction
  · rename_i _ elt tg iter ifs scope pos heq
    cases heq
    split at h
    · rename_i hb
      split at h
      · rename_i it' tg' elt' c' h1 h2 h3 h4
        split at h
        · rename_i hsl
          cases h
          have hb : blkC X.N sc scope (ownOf t.N scope) = true := by
            rw [G.hN]
            exact hb
          obtain ⟨pi, hf⟩ := it_ok so G IH h1
          have go : ∀ (s : Shared) (H : Hp) (C : Addr) (cl : List (Str × Addr)) (fp : List Addr), ScOk (X.blk s H scope (compEnvC scope cl C X.env) fp) scope ∧ Good (X.blk s H scope (compEnvC scope cl C X.env) fp) W P t k := fun s H C cl fp => ⟨so.blk hb, G.blk⟩
          have hg : ∀ (s : Shared) (H : Hp) (C : Addr) (cl : List (Str × Addr)) (fp : List Addr), PG (X.blk s H scope (compEnvC scope cl C X.env) fp) tg (gTg X.K tg') := fun s H C cl fp =>
            tg_pg (X := X.blk s H scope (compEnvC scope cl C X.env) fp) G.hN G.nd G.calm (go s H C cl fp).1 h2
          have he : ∀ (s : Shared) (H : Hp) (C : Addr) (cl : List (Str × Addr)) (fp : List Addr), PE (X.blk s H scope (compEnvC scope cl C X.env) fp) elt (lift W (ev (cxt P k) elt').v) := fun s H C cl fp =>
            (IA _ scope (go s H C cl fp).1 (go s H C cl fp).2 elt elt' h3).1
          rw [G.hK] at hg
          have ht : ∃ tt : TT, (∀ (s : Shared) (H : Hp) (C : Addr) (cl : List (Str × Addr)) (fp : List Addr), PTs (X.blk s H scope (compEnvC scope cl C X.env) fp) ifs tt) ∧
              ∀ {σ H K}, liftT W (fun e2 S2 => if isNop c' = true then .ok true S2 else (ev (cxt P k) c').t e2 S2) σ H K → tt σ H K := by
            split at h4
            · cases h4
              refine ⟨_, fun s H C cl fp => pts_nil, fun {σ H K} q => ?_⟩
              obtain ⟨m, e, S, b, S', er, rp, h, f⟩ := q
              have h : (R.ok true S : R Bool) = .ok b S' := h
              obtain ⟨rfl, rfl⟩ := ok_inj h
              exact f H m .refl rp
            · split at h4
              · cases h4
              · rename_i hi
                split at h4
                · split at h4
                  · cases h4
                  · rename_i h5 h6
                    cases h4
                    refine ⟨_, fun s H C cl fp => pts_one ((IA _ scope (go s H C cl fp).1 (go s H C cl fp).2 _ _ h5).2 (by simpa using hi)), fun {σ H K} q => ?_⟩
                    have e0 : (fun (e2 : En) (S2 : Sto) => if isNop c' = true then R.ok true S2 else (ev (cxt P k) c').t e2 S2) = (ev (cxt P k) c').t := by
                      funext e2 S2
                      rw [if_neg h6]
                    rw [e0] at q
                    exact q
                · cases h4
            · cases h4
          obtain ⟨tt, ht1, ht2⟩ := ht
          have hnd : X.N.Nodup := by
            rw [G.hN]
            exact G.nd
          exact ⟨⟨_, fun σ H Q h => s_lc (all_in hsl) (fun {σ H K} z => ht2 z) h, pe_lc G.calm hnd pi (blk_ok so hb) hg ht1 he (hf X.env), fun y py spos i h1 h2 h3 => ps_setLc G.calm hnd h1 h2 h3 pi (blk_ok so hb) hg ht1 he (hf X.env)⟩, _, rfl⟩
        · cases h
      · cases h
    · cases h
  · rename_i _ elt tg iter tg1 iter1 scope pos heq
    cases heq
    split at h
    · rename_i hb
      split at h
      · rename_i it' tg' it1' tg1' elt' h1 h2 h3 h4 h5
        split at h
        · rename_i hsl
          cases h
          rw [Bool.and_eq_true] at hsl
          have hb : blkC X.N sc scope (ownOf t.N scope) = true := by
            rw [G.hN]
            exact hb
          obtain ⟨pi, hf⟩ := i_ok (tg := tg) so G IH h1
          have go : ∀ (s : Shared) (H : Hp) (C : Addr) (cl : List (Str × Addr)) (fp : List Addr), ScOk (X.blk s H scope (compEnvC scope cl C X.env) fp) scope ∧ Good (X.blk s H scope (compEnvC scope cl C X.env) fp) W P t k := fun s H C cl fp => ⟨so.blk hb, G.blk⟩
          have hg : ∀ (s : Shared) (H : Hp) (C : Addr) (cl : List (Str × Addr)) (fp : List Addr), PG (X.blk s H scope (compEnvC scope cl C X.env) fp) tg (gTg X.K tg') := fun s H C cl fp =>
            tg_pg (X := X.blk s H scope (compEnvC scope cl C X.env) fp) G.hN G.nd G.calm (go s H C cl fp).1 h2
          have hg1 : ∀ (s : Shared) (H : Hp) (C : Addr) (cl : List (Str × Addr)) (fp : List Addr), PG (X.blk s H scope (compEnvC scope cl C X.env) fp) tg1 (gTg X.K tg1') := fun s H C cl fp =>
            tg_pg (X := X.blk s H scope (compEnvC scope cl C X.env) fp) G.hN G.nd G.calm (go s H C cl fp).1 h4
          have he : ∀ (s : Shared) (H : Hp) (C : Addr) (cl : List (Str × Addr)) (fp : List Addr), PE (X.blk s H scope (compEnvC scope cl C X.env) fp) elt (lift W (ev (cxt P k) elt').v) := fun s H C cl fp =>
            (IA _ scope (go s H C cl fp).1 (go s H C cl fp).2 elt elt' h5).1
          have hi1 : ∀ (s : Shared) (H : Hp) (C : Addr) (cl : List (Str × Addr)) (fp : List Addr), PI (X.blk s H scope (compEnvC scope cl C X.env) fp) tg1 iter1 (liftI W (evI (cxt P k) it1')) ∧ ∀ env v, foldedSetIterable iter1 env v = pure v := fun s H C cl fp =>
            i_ok (go s H C cl fp).1 (go s H C cl fp).2 (IA _ scope (go s H C cl fp).1 (go s H C cl fp).2) h3
          rw [G.hK] at hg hg1
          have hnd : X.N.Nodup := by rw [G.hN]; exact G.nd
          exact ⟨⟨_, fun σ H Q h => s_lc2 (all_in hsl.1) (fun _ z => z) h, pe_lc2 (vs1 := tg1'.slots) G.calm hnd pi (blk_ok so hb) (all_in hsl.2) hg (fun _ _ _ _ _ => pts_nil) (fun s H C cl fp => (hi1 s H C cl fp).1) hg1 (fun _ _ _ _ _ => pts_nil) he (hf X.env) (i_fold h3),
            fun y py spos i h1 h2 h3' => ps_setLc2 (vs1 := tg1'.slots) G.calm hnd h1 h2 h3' pi (blk_ok so hb) (all_in hsl.2) hg (fun _ _ _ _ _ => pts_nil) (fun s H C cl fp => (hi1 s H C cl fp).1) hg1 (fun _ _ _ _ _ => pts_nil) he (hf X.env) (i_fold h3)⟩, _, rfl⟩
        · cases h
      · cases h
    · cases h
theorem tr_ok : ∀ (n : Nat) (X : Cx) (sc : Scope), ScOk X sc → Good X W P t k → ∀ (x : Expr) (e : E), tr t n sc x = some e → OkE X W (cxt P k) x e
  | 0, X, sc, so, G, x, e, h => by cases h
  | n + 1, X, sc, so, G, x, e, h => by
    have IH := tr_ok n X sc so G
    have h0 := h
    unfold tr at h
    split at h
    · cases h
      exact plain_ok G.hK h0 rfl (e_const pe_int fun _ _ => .int _) (fun _ _ _ q => by cases q) (fun _ _ _ _ q => by cases q) (fun _ _ q => by cases q)
    · cases h
      exact plain_ok G.hK h0 rfl (e_const pe_str fun _ _ => .str _) (fun _ _ _ q => by cases q) (fun _ _ _ _ q => by cases q) (fun _ _ q => by cases q)
    · cases h
      exact plain_ok G.hK h0 rfl (e_const pe_bl fun _ _ => .bl _) (fun _ _ _ q => by cases q) (fun _ _ _ _ q => by cases q) (fun _ _ q => by cases q)
    · cases h
      exact plain_ok G.hK h0 rfl (e_const pe_non fun _ _ => .non) (fun _ _ _ q => by cases q) (fun _ _ _ _ q => by cases q) (fun _ _ q => by cases q)
    · split at h
      · rename_i hp
        obtain ⟨hd, hcd, hnm⟩ := plain_nm hp
        split at h
        · rename_i hv
          obtain ⟨i, h1, rfl⟩ := Option.map_eq_some_iff.mp h
          exact plain_ok G.hK h0 rfl (e_var (by rw [G.hN]; exact slot_ok h1) (so.vis _ hv) hd hcd) (fun _ _ _ q => by cases q) (fun _ _ _ _ q => by cases q) (fun _ _ q => by cases q)
        · split at h
          · rename_i hg
            cases h
            refine plain_ok G.hK h0 rfl ?_ (fun _ _ _ q => by cases q) (fun _ _ _ _ q => by cases q) (fun _ _ q => by cases q)
            have hcon : (cxt P k).con = fun x => P.con.lookup x := by cases k <;> rfl
            rw [hcon]
            show PE X _ (lift W fun _ S => optR (P.con.lookup _) S)
            cases q : P.con.lookup _ with
            | none => exact pe_bad fun e S v S' q => by cases q
            | some d =>
              obtain ⟨u, y, m1, r, vr⟩ := G.con _ d hg.2 q
              exact e_const (pe_glob (so.gl _ hg.1) m1 r hd) vr
          · cases h
      · cases h
    · split at h
      · rename_i a' b' h1 h2
        cases h
        have q := fun (op : Operator) (pos : Pos) => pe_op (pos := pos) (o_bin (X := X) op) (IH _ _ h1).1 (IH _ _ h2).1
        rw [G.hK] at q
        exact plain_ok G.hK h0 rfl (e_two (s_bin _) (q _ _)) (fun _ _ _ q => by cases q) (fun _ _ _ _ q => by cases q) (fun _ _ q => by cases q)
      · cases h
    · obtain ⟨a', h1, rfl⟩ := Option.map_eq_some_iff.mp h
      exact plain_ok G.hK h0 rfl (e_neg (IH _ _ h1).1) (fun _ _ _ q => by cases q) (fun _ _ _ _ q => by cases q) (fun _ _ q => by cases q)
    · split at h
      · cases h
      · rename_i hi
        obtain ⟨a', h1, rfl⟩ := Option.map_eq_some_iff.mp h
        obtain ⟨p1, p2⟩ := IH _ _ h1
        exact ⟨e_not p1, fun _ => t_not (p2 (by simpa using hi))⟩
    · split at h
      · rename_i a' b' h1 h2
        cases h
        have c := G.cds
        have hC : (cxt P k).cds = fun i => P.cds.getD i [] := by cases k <;> rfl
        have o := o_cmp (X := X) G.u64 c
        have m := mark_of h2
        have q1 := fun (op : CmpOp) (pos : Pos) => pe_cmpR (pos := pos) (o op) (IH _ _ h1).1 (IH _ _ h2).1 (m op)
        have q2 := fun (op : CmpOp) (pos : Pos) => pt_cmpR (pos := pos) (o op) (IH _ _ h1).1 (IH _ _ h2).1 (m op)
        rw [G.hK] at q1 q2 c
        have s := fun op => s_cmp (W := W) c op
        rw [← hC] at s q1 q2
        exact ⟨e_two (s _) (q1 _ _), fun _ => t_cmp (s _) (q2 _ _)⟩
      · cases h
    · split at h
      · rename_i a' b' c' h1 h2 h3
        cases h
        have c := G.cds
        have hC : (cxt P k).cds = fun i => P.cds.getD i [] := by cases k <;> rfl
        have o := o_cmp (X := X) G.u64 c
        have q1 := fun (o1 o2 : CmpOp) (pos : Pos) => pe_chain (pos := pos) (o o1) (o o2) (IH _ _ h1).1 (IH _ _ h2).1 (IH _ _ h3).1 (mark_of h3 o2)
        have q2 := fun (o1 o2 : CmpOp) (pos : Pos) => pt_chain (pos := pos) (o o1) (o o2) (IH _ _ h1).1 (IH _ _ h2).1 (IH _ _ h3).1 (mark_of h3 o2)
        rw [G.hK] at q1 q2 c
        have s := fun op => s_cmp (W := W) c op
        rw [← hC] at s q1 q2
        exact ⟨e_chn (s _) (s _) (q1 _ _ _), fun _ => t_chn (s _) (s _) (q2 _ _ _)⟩
      · cases h
    · obtain ⟨es, h1, rfl⟩ := Option.map_eq_some_iff.mp h
      obtain ⟨w1, w2, w3, w4⟩ := w_ok IH h1
      exact ⟨w3, fun _ => w1.pt⟩
    · obtain ⟨es, h1, rfl⟩ := Option.map_eq_some_iff.mp h
      obtain ⟨w1, w2, w3, w4⟩ := w_ok IH h1
      exact ⟨w4, fun _ => w2.pt⟩
    · split at h
      · cases h
      · rename_i hi
        split at h
        · rename_i c' a' b' h1 h2 h3
          cases h
          exact plain_ok G.hK h0 rfl (e_ife ((IH _ _ h1).2 (by simpa using hi)) (IH _ _ h2).1 (IH _ _ h3).1) (fun _ _ _ q => by cases q) (fun _ _ _ _ q => by cases q) (fun _ _ q => by cases q)
        · cases h
    · split at h
      · rename_i hg
        obtain ⟨f, he, hp⟩ := call_ok so G IH hg.1 hg.2 h
        exact plain_ok G.hK h0 he hp (fun _ _ _ q => by cases q) (fun _ _ _ _ q => by cases q) (fun _ _ q => by cases q)
      · cases h
    · split at h
      · rename_i hg
        obtain ⟨g1, g2, g3⟩ := hg
        split at h
        · rename_i o' as' b' h1 h2 h3
          cases h
          exact plain_ok G.hK h0 rfl (bm_ok G IH g1 g2 g3 h1 h2 h3) (fun _ _ _ q => by cases q) (fun _ _ _ _ q => by cases q) (fun _ _ q => by cases q)
        · rename_i o' as' h1 h2 h3
          cases h
          refine plain_ok G.hK h0 rfl (e_meth G.mts G.room (IH _ _ h1).1 (as_ok IH h2) (base_of g1 _ _ _) g2 (stars_of h2 X.env _).2 g3 (fun e => ?_) fun y ys e => ?_) (fun _ _ _ q => by cases q) (fun _ _ _ _ q => by cases q) (fun _ _ q => by cases q)
          · subst e
            cases h2
            exact fun _ _ => rfl
          · subst e
            unfold trs at h2
            split at h2
            · rename_i q1 q2
              exact ⟨star_of q1 ys X.env, (stars_of q2 X.env _).1⟩
            · cases h2
        · cases h
      · cases h
    · split at h
      · rename_i hg
        obtain ⟨o', h1, rfl⟩ := Option.map_eq_some_iff.mp h
        exact plain_ok G.hK h0 rfl (e_fld (fun n hn => ⟨G.mts.cls n hn, G.flds _ hg.2 n hn⟩) (IH _ _ h1).1 (base_of hg.1 _ _ _)) (fun _ _ _ q => by cases q) (fun _ _ _ _ q => by cases q) (fun _ _ q => by cases q)
      · cases h
    · split at h
      · rename_i a' lo' hi' h1 h2 h3
        cases h
        obtain ⟨tl, pl, kl⟩ := part_ok IH h2
        obtain ⟨th, ph, kh⟩ := part_ok IH h3
        exact plain_ok G.hK h0 rfl (e_slc0 (p2 := default) G.hK (IH _ _ h1).1 pl ph kl kh) (fun _ _ _ q => by cases q) (fun _ _ _ _ q => by cases q) (fun _ _ q => by cases q)
      · cases h
    · obtain ⟨a', h1, rfl⟩ := Option.map_eq_some_iff.mp h
      exact plain_ok G.hK h0 rfl (e_rev G.hK (IH _ _ h1).1) (fun _ _ _ q => by cases q) (fun _ _ _ _ q => by cases q) (fun _ _ q => by cases q)
    · split at h
      · cases h
      · rename_i hs
        split at h
        · rename_i a' b' h1 h2
          cases h
          have hC : (cxt P k).cds = fun i => P.cds.getD i [] := by cases k <;> rfl
          have c := G.cds
          rw [← hC] at c
          exact plain_ok G.hK h0 rfl (e_sub (w := X.w) G.hK G.u1 c (IH _ _ h1).1 (IH _ _ h2).1 fun o i => subs_of (by simpa using hs) o i) (fun _ _ _ q => by cases q) (fun _ _ _ _ q => by cases q) (fun _ _ q => by cases q)
        · cases h
    · split at h
      · rename_i hl
        obtain ⟨es, h1, rfl⟩ := Option.map_eq_some_iff.mp h
        exact plain_ok G.hK h0 rfl (e_tup (as_ok IH h1) fun e S vs S' q => by rw [es_len h1 q]; exact hl) (fun _ _ _ q => by cases q) (fun _ _ _ _ q => by cases q) (fun _ _ q => by cases q)
      · cases h
    · split at h
      · rename_i hl
        obtain ⟨es, h1, rfl⟩ := Option.map_eq_some_iff.mp h
        exact plain_ok G.hK h0 rfl (e_lst (as_ok IH h1) fun e S vs S' q => by rw [es_len h1 q]; exact hl) (fun _ _ _ q => by cases q) (fun _ _ _ _ q => by cases q) (fun _ _ q => by cases q)
      · cases h
    · cases h
      split
      · exact plain_ok G.hK (h0.trans (by rw [if_pos (by assumption)])) rfl e_dT (fun _ _ _ q => by cases q) (fun _ _ _ _ q => by cases q) (fun _ _ q => by cases q)
      · exact plain_ok G.hK (h0.trans (by rw [if_neg (by assumption)])) rfl e_dK (fun _ _ _ q => by cases q) (fun _ _ _ _ q => by cases q) (fun _ _ q => by cases q)
    · obtain ⟨⟨te, q1, q2, _⟩, f, hf⟩ := lc_parts so G (tr_ok n) h0
      refine plain_ok G.hK h0 hf (pe_imp q2 fun σ H Q h => q1 σ H Q (by rw [hf]; exact h)) (fun _ _ _ q => by cases q) (fun _ _ _ _ q => by cases q) (fun _ _ q => by cases q)
    · obtain ⟨⟨te, q1, q2, _⟩, f, hf⟩ := lc_parts so G (tr_ok n) h0
      refine plain_ok G.hK h0 hf (pe_imp q2 fun σ H Q h => q1 σ H Q (by rw [hf]; exact h)) (fun _ _ _ q => by cases q) (fun _ _ _ _ q => by cases q) (fun _ _ q => by cases q)
    · cases h
end
end Mi
set_option Elab.async false
set_option linter.all false
set_option maxRecDepth 100000
/-! M13: statements: the translation. -/
namespace Mi
open PySem PySem.Spec L2
open PyProof.Rows hiding St
def notLc : Expr → Bool
  | .ListComp .. => false
  | .SetComp .. => false
  | .DictComp .. => false
  | _ => true
def notTl : Expr → Bool
  | .Tuple .. => false
  | .List .. => false
  | _ => true
def trT (t : Tx) (n : Nat) (sc : Scope) : Expr → Option T
  | .Name x p => (trNm t.N sc (.Name x p)).map .nm
  | .Tuple es _ _ => (trNms t.N sc es).map .tp
  | .Attribute o f _ => if f ∈ t.fields then (tr t n sc o).map fun o => .fld o f else none
  | .Subscript o i _ => if isSlc i = true then none else match tr t n sc o, tr t n sc i with
    | some o, some i => some (.sub o i)
    | _, _ => none
  | _ => none
def lcl (sc : Scope) (x : Str) : Bool := match sc.names.lookup x with
  | some .local => true
  | _ => false
def pass1 : Option (List Stmt) → Bool
  | some [.Pass _] => true
  | _ => false
def augOk : Operator → Bool
  | .Add => true
  | .Sub => true
  | _ => false
def isCst : Expr → Bool
  | .Constant .. => true
  | .Tuple .. => true
  | _ => false
def trS (t : Tx) : Nat → Scope → Stmt → Option Sm
  | 0, _, _ => none
  | n + 1, sc, s => match s with
    | .Expr (.Constant (.str _) _ _) _ => some .pas
    | .Expr e _ => if notLc e = true then (tr t n sc e).map .exp else none
    | .Assign [.Tuple [.Name x px, .Name y py] _ _] (.Tuple [a, b] _ _) _ =>
      if lcl sc x = true ∧ lcl sc y = true ∧ (x == y) = false ∧ (px.line == py.line) = true ∧ ([a, b].all (foldedForSure 8)) = false ∧ ([a, b].all (constantsAlone 8)) = false then
        (match slot t.N x, slot t.N y, tr t n sc a, tr t n sc b with
          | some i, some j, some a, some b => if i = j then none else some (.par i j a b)
          | _, _, _, _ => none) else none
    | .Assign [.Name y py] (.ListComp elt gs scope pos) _ =>
      if lcl sc y = true ∧ (py.line == pos.line) = true ∧ (scope.names.any fun (n, k) => n == y && (k == .local || k == .cell)) = false then
        (match slot t.N y, tr t n sc (.ListComp elt gs scope pos) with
          | some i, some e => some (.asg (.nm i) e)
          | _, _ => none) else none
    | .Assign [tg] e _ => if notLc e = true ∧ notTl e = true then (match trT t n sc tg, tr t n sc e with
      | some g, some e => some (.asg g e)
      | _, _ => none) else if notLc e = true ∧ notTl tg = true then (match trT t n sc tg, tr t n sc e with
      | some g, some e => some (.asg g e)
      | _, _ => none) else none
    | .AugAssign (.Name x p) op e _ => if augOk op = true then (match trNm t.N sc (.Name x p), tr t n sc e with
      | some i, some e => some (.aug i op e)
      | _, _ => none) else none
    | .AugAssign (.Attribute o f _) op e _ => if augOk op = true ∧ f ∈ t.fields then (match tr t n sc o, tr t n sc e with
      | some o, some e => some (.faug o f op e)
      | _, _ => none) else none
    | .If c a b _ => if isIf c = true then none else (match tr t n sc c, trSs (trS t n sc) a, trSs (trS t n sc) b with
      | some c, some a, some b => some (.ifs c a b)
      | _, _, _ => none)
    | .While c b [] _ => if isIf c = true then none else (match tr t n sc c, trSs (trS t n sc) b with
      | some c, some b => some (.whl c b)
      | _, _ => none)
    | .For tg it b [] _ => (match (match trE sc (tr t n sc) tg it with | some i => some i | none => trI sc (tr t n sc) it), trTg t.N sc tg, trSs (trS t n sc) b with
      | some it, some tg, some b => some (.for_ tg it b)
      | _, _, _ => none)
    | .Return (some e) _ => (tr t n sc e).map .ret
    | .Return none _ => some .retN
    | .Pass _ => some .pas
    | .Continue _ => some .cnt
    | .Raise _ _ _ => some .never
    | _ => none
where trSs (f : Stmt → Option Sm) : List Stmt → Option Sms
  | [] => some .nil
  | s :: ss => match f s, trSs f ss with
    | some s, some ss => some (.cons s ss)
    | _, _ => none
end Mi
set_option Elab.async false
set_option linter.all false
set_option maxRecDepth 100000
/-! M14: my syntax compared. -/
namespace Mi
open PySem PySem.Spec L2
mutual
def eqE : E → E → Bool
  | .var i, .var j => decide (i = j)
  | .int i, .int j => decide (i = j)
  | .str i, .str j => decide (i = j)
  | .bl i, .bl j => decide (i = j)
  | .non, .non => true
  | .con i, .con j => decide (i = j)
  | .bin o a b, .bin o' a' b' => decide (o = o') && eqE a a' && eqE b b'
  | .neg a, .neg a' => eqE a a'
  | .cmp o a b, .cmp o' a' b' => decide (o = o') && eqE a a' && eqE b b'
  | .chn o p a b c, .chn o' p' a' b' c' => decide (o = o') && decide (p = p') && eqE a a' && eqE b b' && eqE c c'
  | .and a, .and a' => eqEs a a'
  | .or a, .or a' => eqEs a a'
  | .not a, .not a' => eqE a a'
  | .ife a b c, .ife a' b' c' => eqE a a' && eqE b b' && eqE c c'
  | .call f a, .call f' a' => decide (f = f') && eqEs a a'
  | .make f a, .make f' a' => decide (f = f') && eqEs a a'
  | .meth f o a, .meth f' o' a' => decide (f = f') && eqE o o' && eqEs a a'
  | .fld o f, .fld o' f' => decide (f = f') && eqE o o'
  | .sub a b, .sub a' b' => eqE a a' && eqE b b'
  | .slc a b c, .slc a' b' c' => eqE a a' && eqE b b' && eqE c c'
  | .rev a, .rev a' => eqE a a'
  | .nop, .nop => true
  | .tup a, .tup a' => eqEs a a'
  | .lst a, .lst a' => eqEs a a'
  | .dK, .dK => true
  | .dT, .dT => true
  | .bm m o a, .bm m' o' a' => decide (m = m') && eqE o o' && eqEs a a'
  | .bf m a, .bf m' a' => decide (m = m') && eqEs a a'
  | .isi a m, .isi a' m' => decide (m = m') && eqE a a'
  | .lc t i c e w, .lc t' i' c' e' w' => decide (t = t') && decide (w = w') && eqI i i' && eqE c c' && eqE e e'
  | .lc2 t i t1 i1 e w w1, .lc2 t' i' t1' i1' e' w' w1' => decide (t = t') && decide (w = w') && decide (t1 = t1') && decide (w1 = w1') && eqI i i' && eqI i1 i1' && eqE e e'
  | _, _ => false
def eqEs : Es → Es → Bool
  | .nil, .nil => true
  | .cons a b, .cons a' b' => eqE a a' && eqEs b b'
  | _, _ => false
def eqI : I → I → Bool
  | .seq a, .seq a' => eqE a a'
  | .rng a, .rng a' => eqEs a a'
  | .enum a, .enum a' => eqE a a'
  | _, _ => false
end
def eqT : T → T → Bool
  | .nm i, .nm j => decide (i = j)
  | .tp i, .tp j => decide (i = j)
  | .fld o f, .fld o' f' => decide (f = f') && eqE o o'
  | .sub a b, .sub a' b' => eqE a a' && eqE b b'
  | _, _ => false
mutual
def eqS : Sm → Sm → Bool
  | .exp a, .exp a' => eqE a a'
  | .asg a b, .asg a' b' => eqT a a' && eqE b b'
  | .par i j a b, .par i' j' a' b' => decide (i = i') && decide (j = j') && eqE a a' && eqE b b'
  | .aug i o a, .aug i' o' a' => decide (i = i') && decide (o = o') && eqE a a'
  | .faug e f o a, .faug e' f' o' a' => decide (f = f') && decide (o = o') && eqE e e' && eqE a a'
  | .ifs c a b, .ifs c' a' b' => eqE c c' && eqSs a a' && eqSs b b'
  | .whl c a, .whl c' a' => eqE c c' && eqSs a a'
  | .for_ t i a, .for_ t' i' a' => decide (t = t') && eqI i i' && eqSs a a'
  | .ret a, .ret a' => eqE a a'
  | .retN, .retN => true
  | .pas, .pas => true
  | .cnt, .cnt => true
  | .never, .never => true
  | _, _ => false
def eqSs : Sms → Sms → Bool
  | .nil, .nil => true
  | .cons a b, .cons a' b' => eqS a a' && eqSs b b'
  | _, _ => false
end
mutual
theorem eqE_eq : ∀ (a b : E), eqE a b = true → a = b
  | a, b, h => by
    cases a <;> cases b <;> first
      | (exact absurd h Bool.false_ne_true)
      | rfl
      | (simp only [eqE, Bool.and_eq_true, decide_eq_true_eq] at h
         first
           | (obtain rfl := h; rfl)
           | (exact congrArg _ (eqE_eq _ _ h))
           | (exact congrArg _ (eqEs_eq _ _ h))
           | (obtain ⟨rfl, h1⟩ := h; exact congrArg _ (eqEs_eq _ _ h1))
           | (obtain ⟨rfl, h1⟩ := h; rw [eqE_eq _ _ h1])
           | (obtain ⟨h1, h2⟩ := h; rw [eqE_eq _ _ h1, eqE_eq _ _ h2])
           | (obtain ⟨⟨rfl, h1⟩, h2⟩ := h; rw [eqE_eq _ _ h1, eqE_eq _ _ h2])
           | (obtain ⟨⟨rfl, h1⟩, h2⟩ := h; rw [eqE_eq _ _ h1, eqEs_eq _ _ h2])
           | (obtain ⟨⟨h0, h1⟩, h2⟩ := h; rw [eqE_eq _ _ h0, eqE_eq _ _ h1, eqE_eq _ _ h2])
           | (obtain ⟨⟨⟨⟨rfl, rfl⟩, h1⟩, h2⟩, h3⟩ := h; rw [eqE_eq _ _ h1, eqE_eq _ _ h2, eqE_eq _ _ h3])
           | (obtain ⟨⟨⟨⟨rfl, rfl⟩, h1⟩, h2⟩, h3⟩ := h; rw [eqI_eq _ _ h1, eqE_eq _ _ h2, eqE_eq _ _ h3])
           | (obtain ⟨⟨⟨⟨⟨⟨rfl, rfl⟩, rfl⟩, rfl⟩, h1⟩, h2⟩, h3⟩ := h; rw [eqI_eq _ _ h1, eqI_eq _ _ h2, eqE_eq _ _ h3]))
theorem eqEs_eq : ∀ (a b : Es), eqEs a b = true → a = b
  | a, b, h => by
    cases a <;> cases b <;> first
      | (exact absurd h Bool.false_ne_true)
      | rfl
      | (simp only [eqEs, Bool.and_eq_true] at h
         obtain ⟨h1, h2⟩ := h
         rw [eqE_eq _ _ h1, eqEs_eq _ _ h2])
theorem eqI_eq : ∀ (a b : I), eqI a b = true → a = b
  | a, b, h => by
    cases a <;> cases b <;> first
      | (exact absurd h Bool.false_ne_true)
      | (simp only [eqI] at h
         first
           | (exact congrArg _ (eqE_eq _ _ h))
           | (exact congrArg _ (eqEs_eq _ _ h)))
end
theorem eqT_eq {a b : T} (h : eqT a b = true) : a = b := by
  cases a <;> cases b <;> first
    | (exact absurd h Bool.false_ne_true)
    | (simp only [eqT, Bool.and_eq_true, decide_eq_true_eq] at h
       first
         | (obtain rfl := h; rfl)
         | (obtain ⟨rfl, h1⟩ := h; rw [eqE_eq _ _ h1])
         | (obtain ⟨h1, h2⟩ := h; rw [eqE_eq _ _ h1, eqE_eq _ _ h2]))
mutual
theorem eqS_eq : ∀ (a b : Sm), eqS a b = true → a = b
  | a, b, h => by
    cases a <;> cases b <;> first
      | (exact absurd h Bool.false_ne_true)
      | rfl
      | (simp only [eqS, Bool.and_eq_true, decide_eq_true_eq] at h
         first
           | (exact congrArg _ (eqE_eq _ _ h))
           | (obtain ⟨h1, h2⟩ := h; rw [eqT_eq h1, eqE_eq _ _ h2])
           | (obtain ⟨h1, h2⟩ := h; rw [eqE_eq _ _ h1, eqSs_eq _ _ h2])
           | (obtain ⟨⟨h0, h1⟩, h2⟩ := h; rw [eqE_eq _ _ h0, eqSs_eq _ _ h1, eqSs_eq _ _ h2])
           | (obtain ⟨⟨rfl, rfl⟩, h1⟩ := h; rw [eqE_eq _ _ h1])
           | (obtain ⟨⟨rfl, h1⟩, h2⟩ := h; rw [eqI_eq _ _ h1, eqSs_eq _ _ h2])
           | (obtain ⟨⟨⟨rfl, rfl⟩, h1⟩, h2⟩ := h; rw [eqE_eq _ _ h1, eqE_eq _ _ h2]))
theorem eqSs_eq : ∀ (a b : Sms), eqSs a b = true → a = b
  | a, b, h => by
    cases a <;> cases b <;> first
      | (exact absurd h Bool.false_ne_true)
      | rfl
      | (simp only [eqSs, Bool.and_eq_true] at h
         obtain ⟨h1, h2⟩ := h
         rw [eqS_eq _ _ h1, eqSs_eq _ _ h2])
end
/-- the row's text is this -/
def isTxt (t : Tx) (sc : Scope) (body : List Stmt) (b : Sms) : Bool := match trS.trSs (trS t 60 sc) body with
  | some b' => eqSs b' b
  | none => false
theorem isTxt_eq {t : Tx} {sc : Scope} {body : List Stmt} {b : Sms} (h : isTxt t sc body b = true) : trS.trSs (trS t 60 sc) body = some b := by
  unfold isTxt at h
  split at h
  · rename_i q
    rw [q, eqSs_eq _ _ h]
  · cases h
end Mi
set_option Elab.async false
set_option linter.all false
set_option maxRecDepth 100000
/-! M15: statements: the readings. -/
namespace Mi
open PySem PySem.Spec L2
open PyProof.Rows hiding St
section
variable {X : Cx} {W : Wd} {fa fb fo : En → Sto → R D} {tc : En → Sto → R Bool} {ba bb : En → Sto → R Out} {D : Ends} {σ : St} {H : Hp}
theorem Fin.to' {m m' : List Addr} {H H' : Hp} {S : Sto} {v : Mi.D} {Q : VK} (f : Fin W m H S v Q) (x : Ext m H m' H') : Fin W m' H' S v Q := f.to x
theorem s_next (h : liftS W (fun e S => .ok (.nx e) S) D σ H) : tNext D σ H := by
  obtain ⟨m, e, S, o, S', er, rp, h, f⟩ := h
  obtain ⟨rfl, rfl⟩ := ok_inj h
  exact f σ H m .refl rp er
theorem s_cont (h : liftS W (fun e S => .ok (.cnt e) S) D σ H) : tCont D σ H := by
  obtain ⟨m, e, S, o, S', er, rp, h, f⟩ := h
  obtain ⟨rfl, rfl⟩ := ok_inj h
  exact f σ H m .refl rp er
theorem s_retN (h : liftS W (fun _ S => .ok (.ret .non) S) D σ H) : tRetN D σ H := by
  obtain ⟨m, e, S, o, S', er, rp, h, f⟩ := h
  obtain ⟨rfl, rfl⟩ := ok_inj h
  exact Fin.done f rp .non
theorem s_never {f : En → Sto → R Out} (hf : ∀ e S, f e S = .bad) (h : liftS W f D σ H) : tNever D σ H := by
  obtain ⟨m, e, S, o, S', er, rp, h, f⟩ := h
  rw [hf] at h
  cases h
theorem s_drop (h : liftS W (fun e S => (fa e S).bind fun _ S1 => .ok (.nx e) S1) D σ H) : tDrop (lift W fa) D σ H := by
  obtain ⟨m, e, S, o, S', er, rp, h, f⟩ := h
  obtain ⟨x, S1, h1, h2⟩ := R.bind_eq h
  obtain ⟨rfl, rfl⟩ := ok_inj h2
  exact ⟨m, e, S, x, S1, er, rp, h1, fun y H1 m1 x1 r1 _ => f σ H1 m1 x1 r1 (er.to x1)⟩
theorem s_ret (h : liftS W (fun e S => (fa e S).bind fun v S1 => .ok (.ret v) S1) D σ H) : tRet (lift W fa) D σ H := by
  obtain ⟨m, e, S, o, S', er, rp, h, f⟩ := h
  obtain ⟨x, S1, h1, h2⟩ := R.bind_eq h
  obtain ⟨rfl, rfl⟩ := ok_inj h2
  exact ⟨m, e, S, x, S1, er, rp, h1, f⟩
theorem s_if (h : liftS W (fun e S => (tc e S).bind fun t S1 => if t = true then ba e S1 else bb e S1) D σ H) : tIfS (liftT W tc) (liftS W ba) (liftS W bb) D σ H := by
  obtain ⟨m, e, S, o, S', er, rp, h, f⟩ := h
  obtain ⟨t, S1, h1, h2⟩ := R.bind_eq h
  refine ⟨m, e, S, t, S1, er, rp, h1, fun H1 m1 x1 r1 => ?_⟩
  cases t with
  | true =>
    rw [if_pos rfl] at h2 ⊢
    refine ⟨m1, e, S1, o, S', er.to x1, r1, h2, ?_⟩
    cases o with
    | nx e' => exact fun σ' H' m' x r er => f σ' H' m' (x1.trans x) r er
    | cnt e' => exact fun σ' H' m' x r er => f σ' H' m' (x1.trans x) r er
    | ret v => exact Fin.to f x1
  | false =>
    rw [if_neg Bool.false_ne_true] at h2 ⊢
    refine ⟨m1, e, S1, o, S', er.to x1, r1, h2, ?_⟩
    cases o with
    | nx e' => exact fun σ' H' m' x r er => f σ' H' m' (x1.trans x) r er
    | cnt e' => exact fun σ' H' m' x r er => f σ' H' m' (x1.trans x) r er
    | ret v => exact Fin.to f x1
theorem s_seqs (h : liftS W (fun e S => (ba e S).bind fun o S1 => match o with
    | .nx e2 => bb e2 S1
    | .ret v => .ok (.ret v) S1
    | .cnt e2 => .ok (.cnt e2) S1) D σ H) : tSeq (liftS W ba) (liftS W bb) D σ H := by
  obtain ⟨m, e, S, o, S', er, rp, h, f⟩ := h
  obtain ⟨p, S1, h1, h2⟩ := R.bind_eq h
  refine ⟨m, e, S, p, S1, er, rp, h1, ?_⟩
  cases p with
  | nx e2 =>
    intro σ' H' m' x r er'
    refine ⟨m', e2, S1, o, S', er', r, h2, ?_⟩
    cases o with
    | nx e' => exact fun σ2 H2 m2 x2 r2 er2 => f σ2 H2 m2 (x.trans x2) r2 er2
    | cnt e' => exact fun σ2 H2 m2 x2 r2 er2 => f σ2 H2 m2 (x.trans x2) r2 er2
    | ret v => exact Fin.to f x
  | ret v =>
    obtain ⟨rfl, rfl⟩ := ok_inj h2
    exact f
  | cnt e2 =>
    obtain ⟨rfl, rfl⟩ := ok_inj h2
    exact f
theorem s_while (h : liftS W (fun e S => whileX tc bb e S) D σ H) : tWhile (liftT W tc) (liftS W bb) D σ H := by
  obtain ⟨m, e, S, o, S', er, rp, h, f⟩ := h
  obtain ⟨n, h⟩ := whileX_eq h
  refine ⟨fun n σ1 H1 => ∃ m1 e1 S1, Ext m H m1 H1 ∧ Rep W m1 H1 S1 ∧ ER W m1 H1 e1 σ1 ∧ whileN tc bb n e1 S1 = .ok o S', ⟨n, m, e, S, .refl, rp, er, h⟩, ?_⟩
  rintro k σ1 H1 ⟨m1, e1, S1, x1, r1, er1, h1⟩
  cases k with
  | zero => cases h1
  | succ k =>
    obtain ⟨c, S2, h2, h3⟩ := R.bind_eq h1
    refine ⟨m1, e1, S1, c, S2, er1, r1, h2, fun H2 m2 x2 r2 => ?_⟩
    cases c with
    | true =>
      rw [if_pos rfl] at h3 ⊢
      obtain ⟨o2, S3, h4, h5⟩ := R.bind_eq h3
      refine ⟨fun σ' H' => ∃ m' e' S4, Ext m H m' H' ∧ Rep W m' H' S4 ∧ ER W m' H' e' σ' ∧ whileN tc bb k e' S4 = .ok o S', fun σ' H' z => ⟨k, Nat.lt_succ_self _, z⟩, m2, e1, S2, o2, S3, er1.to x2, r2, h4, ?_⟩
      cases o2 with
      | nx e2 => exact fun σ' H' m' x r er' => ⟨m', e2, S3, x1.trans (x2.trans x), r, er', h5⟩
      | cnt e2 => exact fun σ' H' m' x r er' => ⟨m', e2, S3, x1.trans (x2.trans x), r, er', h5⟩
      | ret v =>
        obtain ⟨rfl, rfl⟩ := ok_inj h5
        exact Fin.to f (x1.trans x2)
    | false =>
      rw [if_neg Bool.false_ne_true] at h3 ⊢
      obtain ⟨rfl, rfl⟩ := ok_inj h3
      exact f σ1 H2 m2 (x1.trans x2) r2 (er1.to x2)
theorem s_for {t : Tg} {fi : En → Sto → R Mi.It} (h : liftS W (fun e S => (fi e S).bind fun J S1 => forL J t bb J.items e S1) D σ H) : tFor (liftI W fi) (gTg W.K t) (liftS W bb) D σ H := by
  obtain ⟨m, e, S, o, S', er, rp, h, f⟩ := h
  obtain ⟨it, S1, h1, h2⟩ := R.bind_eq h
  refine ⟨m, e, S, it, S1, er, rp, h1, fun J H1 m1 x1 r1 jr => ?_⟩
  refine ⟨fun i n σ1 H' => n = it.items.length - i ∧ i ≤ it.items.length ∧ ∃ m' e1 S0, Ext m1 H1 m' H' ∧ Rep W m' H' S0 ∧ ER W m' H' e1 σ1 ∧ forL it t bb (it.items.drop i) e1 S0 = .ok o S',
    ⟨_, rfl, Nat.zero_le _, m1, e, S1, .refl, r1, er.to x1, h2⟩, ?_⟩
  rintro i n σ1 H' ⟨rfl, hi, m', e1, S0, x3, r3, er3, hl⟩
  by_cases hlt : i < it.items.length
  · rw [List.drop_eq_getElem_cons hlt] at hl
    have gi : it.items[i]? = some it.items[i] := List.getElem?_eq_getElem hlt
    generalize it.items[i] = x at hl gi
    unfold forL at hl
    split at hl
    · rename_i st
      split at hl
      · cases hl
      · rename_i e2 he2
        obtain ⟨o2, S6, h4, h5⟩ := R.bind_eq hl
        refine .inr ⟨jr.go i m' H' S0 x x3 r3 st gi, fun σ' H2 => ∃ m2 e5 S7, Ext m1 H1 m2 H2 ∧ Rep W m2 H2 S7 ∧ ER W m2 H2 e5 σ' ∧ forL it t bb (it.items.drop (i + 1)) e5 S7 = .ok o S',
          fun σ' H2 ⟨m2, e5, S7, y1, y2, y3, y4⟩ => ⟨it.items.length - (i + 1), by omega, rfl, hlt, m2, e5, S7, y1, y2, y3, y4⟩, fun v H2 hy => ?_⟩
        obtain ⟨x4, r4, vr⟩ := jr.yld i m' H' S0 x v H2 x3 r3 st gi hy
        refine s_tg r4 he2 vr (er3.to x4) fun σ2 er2 _ => ?_
        refine ⟨m', e2, S0, o2, S6, er2, r4, h4, ?_⟩
        cases o2 with
        | nx e5 => exact fun σ' H3 m3 x5 r5 er5 => ⟨m3, e5, S6, x3.trans (x4.trans x5), r5, er5, h5⟩
        | cnt e5 => exact fun σ' H3 m3 x5 r5 er5 => ⟨m3, e5, S6, x3.trans (x4.trans x5), r5, er5, h5⟩
        | ret v2 =>
          obtain ⟨rfl, rfl⟩ := ok_inj h5
          exact Fin.to f (x1.trans (x3.trans x4))
    · cases hl
  · have hie : i = it.items.length := by omega
    subst hie
    rw [List.drop_length] at hl
    unfold forL at hl
    split at hl
    · rename_i st
      obtain ⟨rfl, rfl⟩ := ok_inj hl
      exact .inl ⟨jr.stop _ m' H' S0 x3 r3 st (Nat.le_refl _), f σ1 H' m' (x1.trans x3) r3 er3⟩
    · cases hl
/-! ### stores -/
theorem s_asgTg {C : Cxt} {t : T} {g : Tg} (hg : ∀ v e S, setT C t v e S = optR (setTg g v e S) S) (h : liftS W (fun e S => (fa e S).bind fun v S1 => (setT C t v e S1).bind fun e2 S2 => .ok (.nx e2) S2) D σ H) : tAsg (lift W fa) (gTg W.K g) D σ H := by
  obtain ⟨m, e, S, o, S', er, rp, h, f⟩ := h
  obtain ⟨x, S1, h1, h2⟩ := R.bind_eq h
  obtain ⟨e2, S2, h3, h4⟩ := R.bind_eq h2
  obtain ⟨rfl, rfl⟩ := ok_inj h4
  rw [hg] at h3
  obtain ⟨h5, rfl⟩ := optR_ok h3
  exact ⟨m, e, S, x, S1, er, rp, h1, fun y H1 m1 x1 r1 v1 => s_tg r1 h5 v1 (er.to x1) fun σ' er' _ => f σ' H1 m1 x1 r1 er'⟩
theorem s_asgSub {C : Cxt} {o i : E} (h : liftS W (fun e S => (fa e S).bind fun v S1 => (setT C (.sub o i) v e S1).bind fun e2 S2 => .ok (.nx e2) S2) D σ H) :
    tAsg (lift W fa) (gSub (lift W (ev C o).v) (lift W (ev C i).v) rSet4) D σ H := by
  obtain ⟨m, e, S, ou, S', er, rp, h, f⟩ := h
  obtain ⟨x, S1, h1, h2⟩ := R.bind_eq h
  obtain ⟨e2, S2, h3, h4⟩ := R.bind_eq h2
  obtain ⟨rfl, rfl⟩ := ok_inj h4
  obtain ⟨xo, S3, h5, h3⟩ := R.bind_eq h3
  obtain ⟨xi, S4, h6, h3⟩ := R.bind_eq h3
  obtain ⟨u, S5, h7, h8⟩ := R.bind_eq h3
  obtain ⟨rfl, rfl⟩ := ok_inj h8
  refine ⟨m, e, S, x, S1, er, rp, h1, fun y H1 m1 x1 r1 v1 => ?_⟩
  refine ⟨m1, e, S1, xo, S3, er.to x1, r1, h5, fun yo H2 m2 x2 r2 v2 => ?_⟩
  refine ⟨m2, e, S3, xi, S4, (er.to x1).to x2, r2, h6, fun yi H3 m3 x3 r3 v3 => ?_⟩
  refine s_set r3 (v2.to x3) v3 (v1.to (x2.trans x3)) h7 fun H4 x4 r4 => ?_
  exact f σ H4 m3 (x1.trans (x2.trans (x3.trans x4))) r4 (((er.to x1).to x2).to (x3.trans x4))
theorem put_ins {m : List Addr} {H : Hp} {S : Sto} {i : Nat} {a dx : Addr} {c : Nat} {fs : List (Str × Mi.D)} {gs : List (Str × V)} {f : Str} {d : Mi.D} {y : V} (rp : Rep W m H S) (hi : m[i]? = some a) (hc : c < W.nc) (ha : H a = some (.ins (W.ca c) dx gs)) (kr : KR W m H fs gs) (r : VR W m H d y) :
    Rep W m (upd H a (.ins (W.ca c) dx (putF f y gs))) (S.set i (.ins c (putFD f d fs))) ∧ Ext m H m (upd H a (.ins (W.ca c) dx (putF f y gs))) := by
  have x : Ext m H m (upd H a (.ins (W.ca c) dx (putF f y gs))) :=
    ⟨⟨[], by simp⟩, fun b xs h => by rw [upd_ne (ne_of h ha fun e => by cases e)]; exact h, fun b ob v h => by rw [upd_ne (ne_of h ha fun e => by cases e)]; exact h⟩
  exact rp.put hi ha (fun _ e => by cases e) (fun _ _ e => by cases e) ⟨hc, dx, _, upd_same, (putKR kr f r).to x⟩
theorem setF_ok {o v : Mi.D} {f : Str} {S S' : Sto} {u : Unit} (h : setF o f v S = .ok u S') : ∃ a c fs, o = .ref a ∧ S[a]? = some (.ins c fs) ∧ fs.length < 1000 ∧ S' = S.set a (.ins c (putFD f v fs)) := by
  unfold setF at h
  split at h
  · split at h
    · split at h
      · obtain ⟨_, rfl⟩ := ok_inj h
        exact ⟨_, _, _, rfl, by assumption, by assumption, rfl⟩
      · cases h
    · cases h
  · cases h
theorem kr_len {m : List Addr} {H : Hp} {fs : List (Str × Mi.D)} {gs : List (Str × V)} (h : KR W m H fs gs) : fs.length = gs.length := Paired.length h
theorem s_asgFld {C : Cxt} {o : E} {f : Str} (cl : ∀ n, n < W.nc → Cls W.K (W.ca n) ∧ NoAttr W.K (W.ca n) f) (h : liftS W (fun e S => (fa e S).bind fun v S1 => (setT C (.fld o f) v e S1).bind fun e2 S2 => .ok (.nx e2) S2) D σ H) :
    sFld W.K (lift W (ev C o).v) (lift W fa) f D σ H := by
  obtain ⟨m, e, S, ou, S', er, rp, h, fi⟩ := h
  obtain ⟨x, S1, h1, h2⟩ := R.bind_eq h
  obtain ⟨e2, S2, h3, h4⟩ := R.bind_eq h2
  obtain ⟨rfl, rfl⟩ := ok_inj h4
  obtain ⟨xo, S3, h5, h3⟩ := R.bind_eq h3
  obtain ⟨u, S5, h7, h8⟩ := R.bind_eq h3
  obtain ⟨rfl, rfl⟩ := ok_inj h8
  refine ⟨m, e, S, x, S1, er, rp, h1, fun y H1 m1 x1 r1 v1 => ?_⟩
  refine ⟨m1, e, S1, xo, S3, er.to x1, r1, h5, fun yo H2 m2 x2 r2 v2 => ?_⟩
  obtain ⟨a, c, fs, rfl, hS, hl, rfl⟩ := setF_ok h7
  obtain ⟨aa, rfl, hmi, hn, dx, gs, haa, kr⟩ := vr_obj r2 v2 hS
  obtain ⟨r3, x3⟩ := put_ins (f := f) r2 hmi hn haa kr (v1.to x2)
  exact ⟨aa, _, dx, gs, rfl, haa, (cl c hn).1, (cl c hn).2, by rw [← kr_len kr]; exact hl, fi σ _ m2 (x1.trans (x2.trans x3)) r3 ((er.to x1).to (x2.trans x3))⟩
def rAug : Operator → TIp
  | .Add => ipI fun i j => i + j
  | .Sub => ipI fun i j => i - j
  | _ => fun _ _ _ _ => False
theorem p_aug : ∀ op, PIp X op (rAug op)
  | .Add => ip_add
  | .Sub => ip_sub
  | .Mult => fun _ _ _ _ _ _ _ _ _ _ _ _ h => h.elim
  | .MatMult => fun _ _ _ _ _ _ _ _ _ _ _ _ h => h.elim
  | .Div => fun _ _ _ _ _ _ _ _ _ _ _ _ h => h.elim
  | .Mod => fun _ _ _ _ _ _ _ _ _ _ _ _ h => h.elim
  | .Pow => fun _ _ _ _ _ _ _ _ _ _ _ _ h => h.elim
  | .LShift => fun _ _ _ _ _ _ _ _ _ _ _ _ h => h.elim
  | .RShift => fun _ _ _ _ _ _ _ _ _ _ _ _ h => h.elim
  | .BitOr => fun _ _ _ _ _ _ _ _ _ _ _ _ h => h.elim
  | .BitXor => fun _ _ _ _ _ _ _ _ _ _ _ _ h => h.elim
  | .BitAnd => fun _ _ _ _ _ _ _ _ _ _ _ _ h => h.elim
  | .FloorDiv => fun _ _ _ _ _ _ _ _ _ _ _ _ h => h.elim
theorem s_augD {op : Operator} {x y z : Mi.D} {X Y : V} {m : List Addr} {H : Hp} {S S' : Sto} {Q : VK} (hx : VR W m H x X) (hy : VR W m H y Y) (h : augD op x y S = .ok z S') (k : S = S' → ∀ i, z = .int i → Q (.int i) H) : rAug op X Y H Q := by
  unfold augD at h
  split at h
  · obtain ⟨rfl, rfl⟩ := ok_inj h
    obtain rfl := vr_int hx
    obtain rfl := vr_int hy
    exact ⟨_, _, rfl, rfl, k rfl _ rfl⟩
  · obtain ⟨rfl, rfl⟩ := ok_inj h
    obtain rfl := vr_int hx
    obtain rfl := vr_int hy
    exact ⟨_, _, rfl, rfl, k rfl _ rfl⟩
  · cases h
theorem s_aug {i : Nat} {op : Operator} (h : liftS W (fun e S => (optR ((e[i]?).bind id) S).bind fun x S0 => (fa e S0).bind fun y S1 => (augD op x y S1).bind fun z S2 => .ok (.nx (e.set i (some z))) S2) D σ H) : tAug i (lift W fa) (rAug op) D σ H := by
  obtain ⟨m, e, S, o, S', er, rp, h, f⟩ := h
  obtain ⟨x, S0, h0, h⟩ := R.bind_eq h
  obtain ⟨h5, rfl⟩ := optR_ok h0
  obtain ⟨y, S1, h1, h⟩ := R.bind_eq h
  obtain ⟨z, S2, h2, h3⟩ := R.bind_eq h
  obtain ⟨rfl, rfl⟩ := ok_inj h3
  obtain ⟨q1, q2⟩ : ∃ d, e[i]? = some (some d) ∧ d = x := by
    cases q : e[i]? with
    | none =>
      rw [q] at h5
      cases h5
    | some d =>
      rw [q] at h5
      exact ⟨x, by rw [show d = some x from h5], rfl⟩
  obtain ⟨q2, rfl⟩ := q2
  obtain ⟨v, hv, vr⟩ := er.at_ i _ q2
  refine ⟨v, hv, m, e, S, y, S1, er, rp, h1, fun Y H1 m1 x1 r1 v1 => ?_⟩
  exact s_augD (vr.to x1) v1 h2 fun es j ej => by
    subst es ej
    exact f _ H1 m1 x1 r1 ((er.to x1).set i (.int j))
theorem s_faug {op : Operator} {f : Str} (cl : ∀ n, n < W.nc → Cls W.K (W.ca n) ∧ NoAttr W.K (W.ca n) f)
    (h : liftS W (fun e S => (fo e S).bind fun x S1 => (fldD x f S1).bind fun v S2 => (fa e S2).bind fun y S3 => (augD op v y S3).bind fun z S4 => if clsD x S4 = clsD x S2 then (setF x f z S4).bind fun _ S5 => .ok (.nx e) S5 else .bad) D σ H) : sFldAug W.K (lift W fo) (lift W fa) (rAug op) f D σ H := by
  obtain ⟨m, e, S, o, S', er, rp, h, fi⟩ := h
  obtain ⟨x, S1, h1, h⟩ := R.bind_eq h
  obtain ⟨v, S2, h2, h⟩ := R.bind_eq h
  obtain ⟨y, S3, h3, h⟩ := R.bind_eq h
  obtain ⟨z, S4, h4, h⟩ := R.bind_eq h
  split at h
  rotate_left
  · cases h
  rename_i hcls
  obtain ⟨u, S5, h5, h6⟩ := R.bind_eq h
  obtain ⟨rfl, rfl⟩ := ok_inj h6
  refine ⟨m, e, S, x, S1, er, rp, h1, fun X1 H1 m1 x1 r1 v1 => ?_⟩
  unfold fldD at h2
  split at h2
  · split at h2
    · rename_i a _ c gs hS
      obtain ⟨e1, rfl⟩ := optR_ok h2
      obtain ⟨aa, rfl, hmi, hn, dx, hs, haa, kr⟩ := vr_obj r1 v1 hS
      rcases lookKR kr f with ⟨e2, _⟩ | ⟨d, w, e2, e3, vr⟩
      · rw [e1] at e2
        cases e2
      · rw [e1] at e2
        cases e2
        refine ⟨aa, _, dx, hs, w, rfl, haa, (cl c hn).1, (cl c hn).2, e3, m1, e, S1, y, S3, er.to x1, r1, h3, fun Y H2 m2 x2 r2 v2 => ?_⟩
        refine s_augD (vr.to x2) v2 h4 fun es j ej => ?_
        subst es ej
        obtain ⟨a', c', fs', ea, hS', hl, rfl⟩ := setF_ok h5
        cases ea
        obtain ⟨aa', ea', hmi', hn', dx', gs', haa', kr'⟩ := vr_obj r2 (v1.to x2) hS'
        cases ea'
        obtain ⟨r3, x3⟩ := put_ins (f := f) r2 hmi' hn' haa' kr' (.int j)
        have hc : c' = c := by
          unfold clsD at hcls
          dsimp only at hcls
          rw [hS', hS] at hcls
          exact Option.some.inj hcls
        subst hc
        exact ⟨dx', gs', haa', by rw [← kr_len kr']; exact hl, fi σ _ m2 (x1.trans (x2.trans x3)) r3 ((er.to x1).to (x2.trans x3))⟩
    · cases h2
  · cases h2
end
end Mi
set_option Elab.async false
set_option linter.all false
set_option maxRecDepth 100000
/-! M16: every statement; every def. -/
namespace Mi
open PySem PySem.Spec L2
open PyProof.Rows hiding St
theorem sw_no {e : Expr} (h : notLc e = true) (tg : Option Expr) (l : Nat) (env : Env) : swapsWith e tg l env = pure false := by
  cases e <;> first | rfl | cases h
theorem sws_no {e : Expr} (h : notLc e = true) (tg : Expr) (l : Nat) (env : Env) : swapsWithSole [tg] e l env = pure false := by
  unfold swapsWithSole
  exact sw_no h _ _ _
theorem trTg_nm {N : List Str} {sc : Scope} {x : Str} {p : Pos} {i : Nat} (h : trNm N sc (.Name x p) = some i) : trTg N sc (.Name x p) = some (.nm i) := by
  unfold trTg
  dsimp only
  rw [h]
  rfl
theorem ss_e {tg e : Expr} (h : notTl e = true) (env : Env) : swappedStores [tg] e env = pure none := by
  cases e <;> first
    | (exact absurd h Bool.false_ne_true)
    | (cases tg <;> rfl)
theorem ss_t {tg e : Expr} (h : notTl tg = true) (env : Env) : swappedStores [tg] e env = pure none := by
  cases tg <;> first
    | (exact absurd h Bool.false_ne_true)
    | (cases e <;> rfl)
theorem as_sub {o i : Expr} {p : Pos} {env : Env} (h : isSlc i = false) : ∀ v, assign (.Subscript o i p) env v = (do
    let ov ← holding [v] (eval o env)
    let iv ← holding [v, ov] (eval i env)
    standAt p
    holding [v, ov, iv] (setItem ov iv v)
    release [v, ov, iv] []) := by
  intro v
  cases i <;> first | rfl | cases h
section
variable {W : Wd} {P : Pr} {t : Tx} {k : Nat} {X : Cx} {sc : Scope}
theorem lcl_ok {x : Str} (h : lcl sc x = true) : locB sc x = true ∧ sc.names.lookup x = some .local := by
  unfold lcl at h
  split at h
  · rename_i q
    unfold locB
    rw [q]
    exact ⟨rfl, rfl⟩
  · cases h
theorem nm_slot {N : List Str} {x : Str} {p : Pos} {i : Nat} (h : trNm N sc (.Name x p) = some i) : locB sc x = true ∧ slot N x = some i := by
  unfold trNm at h
  dsimp only at h
  split at h
  · exact ⟨by assumption, h⟩
  · cases h
/-- name, tuple, o.f, o[i] = e -/
theorem asg_ok {n : Nat} {tg x : Expr} {pos : Pos} {g : T} {e : E} (so : ScOk X sc) (G : Good X W P t k) (hl : notLc x = true) (hs : swappedStores [tg] x X.env = pure none) (ht : trT t n sc tg = some g) (he : tr t n sc x = some e) :
    PS X (.Assign [tg] x pos) (liftS W (evS (cxt P k) (.asg g e))) := by
  have IH := tr_ok n X sc so G
  have pe := (IH _ _ he).1
  unfold trT at ht
  split at ht
  · obtain ⟨i, h1, rfl⟩ := Option.map_eq_some_iff.mp ht
    have pg := tg_pg (t := .nm i) G.hN G.nd G.calm so (trTg_nm h1)
    rw [G.hK] at pg
    exact ps_imp (ps_asg pe pg (sws_no hl _ _ _) hs rfl) fun D σ H h => s_asgTg (fun v e S => rfl) h
  · obtain ⟨is, h1, rfl⟩ := Option.map_eq_some_iff.mp ht
    have pg := fun kk p => tg_pg (x := .Tuple _ kk p) (t := .tp is) G.hN G.nd G.calm so (by show (trNms t.N sc _).map Tg.tp = _; rw [h1]; rfl)
    rw [G.hK] at pg
    exact ps_imp (ps_asg pe (pg _ _) (sws_no hl _ _ _) hs rfl) fun D σ H h => s_asgTg (fun v e S => rfl) h
  · split at ht
    · rename_i hf
      obtain ⟨o, h1, rfl⟩ := Option.map_eq_some_iff.mp ht
      have q := fun (f : Str) (p' : Pos) => ps_fld (pos := pos) (pos' := p') (f := f) (IH _ _ h1).1 pe (sw_no hl (some (.Attribute _ f p')) _ _)
      rw [G.hK] at q
      refine ps_imp (q _ _) fun D σ H h => s_asgFld (fun n hn => ?_) h
      rw [← G.hK]
      exact ⟨G.mts.cls n hn, G.flds _ hf n hn⟩
    · cases ht
  · split at ht
    · cases ht
    · rename_i hsl
      split at ht
      · rename_i o' i' h1 h2
        cases ht
        have pg := fun p => pg_sub (pos := p) (IH _ _ h1).1 (IH _ _ h2).1 (o_set4 G.u1) (as_sub (by simpa using hsl))
        exact ps_imp (ps_asg pe (pg _) (sws_no hl _ _ _) hs rfl) fun D σ H h => s_asgSub h
      · cases ht
  · cases ht
theorem sss_ok {C : Cxt} {f : Stmt → Option Sm} (IH : ∀ st s, f st = some s → PS X st (liftS W (evS C s))) : ∀ {ss : List Stmt} {b : Sms}, trS.trSs f ss = some b → PSs X ss (liftS W (evSs C b))
  | [], b, h => by
    cases h
    exact pss_imp pss_nil fun D σ H h => s_next h
  | s :: ss, b, h => by
    unfold trS.trSs at h
    split at h
    · rename_i s' ss' h1 h2
      cases h
      exact pss_imp (pss_cons (IH _ _ h1) (sss_ok IH h2)) fun D σ H h => s_seqs h
    · cases h
theorem lc_ok {n : Nat} {y : Str} {py pos spos : Pos} {elt : Expr} {gs : List Comprehension} {scope : Scope} {i : Nat} {e : E} (so : ScOk X sc) (G : Good X W P t k) (hy : lcl sc y = true) (hXl : X.env.scope.names.lookup y = some .local) (hl : (py.line == pos.line) = true)
    (ha : (scope.names.any fun (n, k) => n == y && (k == .local || k == .cell)) = false) (hi : slot t.N y = some i) (he : tr t n sc (.ListComp elt gs scope pos) = some e) :
    PS X (.Assign [.Name y py] (.ListComp elt gs scope pos) spos) (liftS W (evS (cxt P k) (.asg (.nm i) e))) := by
  have hiN : X.N[i]? = some y := by
    rw [G.hN]
    exact slot_ok hi
  have hnd : X.N.Nodup := by
    rw [G.hN]
    exact G.nd
  have hsw := sw_true (elt := elt) (gs := gs) (scope := scope) (pos := pos) (py := py) (y := y) (l := spos.line) so.kind hXl hl ha
  cases n with
  | zero => cases he
  | succ n =>
    obtain ⟨⟨te, q1, _, q3⟩, _⟩ := lc_parts so G (tr_ok n) he
    refine ps_imp (q3 y py spos i hiN hXl hsw) fun D σ H h => ?_
    obtain ⟨m, en, S, o, S', er, rp, h, f⟩ := h
    obtain ⟨v, S1, h1, h2⟩ := R.bind_eq h
    obtain ⟨e2, S2, h3, h4⟩ := R.bind_eq h2
    obtain ⟨rfl, rfl⟩ := ok_inj h4
    obtain ⟨h5, rfl⟩ := optR_ok h3
    refine q1 σ H _ ⟨m, en, S, v, S1, er, rp, h1, fun y H1 m1 x1 r1 v1 => ?_⟩
    exact s_tg (t := .nm i) r1 h5 v1 (er.to x1) fun σ' er' _ => f σ' H1 m1 x1 r1 er'
theorem par_ok {n : Nat} {x y : Str} {px py pt pos pt2 : Pos} {kt k2 : Nat} {a b : Expr} {i j : Nat} {ea eb : E} (so : ScOk X sc) (G : Good X W P t k) (hx : X.env.scope.names.lookup x = some .local) (hy : X.env.scope.names.lookup y = some .local) (hne : (x == y) = false) (hl : (px.line == py.line) = true)
    (h1 : ([a, b].all (foldedForSure 8)) = false) (h2 : ([a, b].all (constantsAlone 8)) = false) (hi : slot t.N x = some i) (hj : slot t.N y = some j) (hij : i ≠ j) (ha : tr t n sc a = some ea) (hb : tr t n sc b = some eb) :
    PS X (.Assign [.Tuple [.Name x px, .Name y py] kt pt] (.Tuple [a, b] k2 pt2) pos) (liftS W (evS (cxt P k) (.par i j ea eb))) := by
  have IH := tr_ok n X sc so G
  have hnd : X.N.Nodup := by
    rw [G.hN]
    exact G.nd
  have pa : PA X [a, b] (liftA W (evEs (cxt P k) (.cons ea (.cons eb .nil)))) := a_cons (IH _ _ ha).1 (a_cons (IH _ _ hb).1 a_nil (star_of hb [] X.env)) (star_of ha [b] X.env)
  have st : ([a, b].any fun | .Starred .. => true | _ => false) = false := by
    have z : ∀ {x : Expr} {e : E}, tr t n sc x = some e → (match x with | .Starred .. => true | _ => false) = false := fun {x e} h => by
      cases n with
      | zero => cases h
      | succ n => cases x <;> first | rfl | cases h
    simp only [List.any_cons, List.any_nil, Bool.or_false, z ha, z hb]
  have hw : swappedStores [.Tuple [.Name x px, .Name y py] kt pt] (.Tuple [a, b] k2 pt2) X.env = pure (some [x, y]) := by
    have kx : X.env.kindOf x = some .local := hx
    have ky : X.env.kindOf y = some .local := hy
    have hbk : X.env.blockKind = .function := by
      unfold Env.blockKind
      rw [so.kind]
      rfl
    have el : px.line = py.line := by simpa using hl
    have ene : ¬ x = y := by simpa using hne
    have hd : [x, y].eraseDups = [x, y] := by
      have hyx : (y == x) = false := by simpa using fun z : y = x => ene z.symm
      simp [List.eraseDups_cons, hyx]
    have hf : ([Expr.Name x px, Expr.Name y py].filterMap fun | .Name id pos => if X.env.kindOf id == some .local && pos.line == px.line then some id else none | _ => none) = [x, y] := by
      simp [kx, ky, el]
    unfold swappedStores
    simp only [hbk]
    refine (if_neg (fun hh => Bool.false_ne_true hh)).trans ?_
    refine (if_neg (fun hh => absurd (hh.symm.trans st) (by decide))).trans ?_
    have two : ([x, y].length != [Expr.Name x px, Expr.Name y py].length || [x, y].eraseDups.length != [x, y].length) = false := by
      rw [hd]
      rfl
    refine Eq.trans (congrArg (fun (l : List Str) => if (l.length != [Expr.Name x px, Expr.Name y py].length || l.eraseDups.length != l.length) = true then (pure none : Sem (Option (List Str))) else
      if [a, b].all (foldedForSure 8) = true then pure none else if [a, b].all (constantsAlone 8) = true then (do unsupported "assign.tuple-of-constant-expressions:order-of-the-stores"; pure (some l)) else pure (some l)) hf) ?_
    rw [two, h1, h2]
    rfl
  refine ps_imp (ps_par G.calm hnd (by rw [G.hN]; exact slot_ok hi) (by rw [G.hN]; exact slot_ok hj) hij hx hy pa hw rfl) fun D σ H h => ?_
  obtain ⟨m, e, S, o, S', er, rp, h, f⟩ := h
  obtain ⟨v, S1, h3, h⟩ := R.bind_eq h
  obtain ⟨w, S2, h4, h⟩ := R.bind_eq h
  split at h
  · obtain ⟨rfl, rfl⟩ := ok_inj h
    refine ⟨m, e, S, [v, w], S2, er, rp, ?_, fun ys H1 m1 x1 r1 v1 => ?_⟩
    · show ((ev (cxt P k) ea).v e S).bind _ = _
      rw [h3]
      show (((ev (cxt P k) eb).v e S1).bind _).bind _ = _
      rw [h4]
      rfl
    · obtain ⟨Y, Z, rfl, vy, vz⟩ := vrs2 v1
      exact ⟨Y, Z, rfl, f _ H1 m1 x1 r1 (((er.to x1).set i vy).set j vz)⟩
  · cases h
end
end Mi
set_option Elab.async false
set_option linter.all false
set_option maxRecDepth 100000
/-! M17: every statement; every def. -/
namespace Mi
open PySem PySem.Spec L2
open PyProof.Rows hiding St
section
variable {W : Wd} {P : Pr} {t : Tx} {k : Nat} {X : Cx} {sc : Scope}
theorem trS_ok (hp : PassesOwn (model X.prog X.w) X.A X.env X.xe) (so : ScOk X sc) (hlc : ∀ x, lcl sc x = true → X.env.scope.names.lookup x = some .local) (G : Good X W P t k) :
    ∀ (n : Nat) (st : Stmt) (s : Sm), trS t n sc st = some s → PS X st (liftS W (evS (cxt P k) s))
  | 0, st, s, h => by cases h
  | n + 1, st, s, h => by
    have IH := trS_ok hp so hlc G n
    have IE := tr_ok n X sc so G
    unfold trS at h
    split at h
    · cases h
      exact ps_imp ps_doc fun D σ H h => s_next h
    · split at h
      · rename_i hl
        obtain ⟨e, h1, rfl⟩ := Option.map_eq_some_iff.mp h
        exact ps_imp (ps_expr (IE _ _ h1).1 (sw_no hl _ _ _)) fun D σ H h => s_drop h
      · cases h
    · split at h
      · rename_i hc
        obtain ⟨c1, c2, c3, c4, c5, c6⟩ := hc
        split at h
        · rename_i i j a b h1 h2 h3 h4
          split at h
          · cases h
          · rename_i hij
            cases h
            exact par_ok so G (hlc _ c1) (hlc _ c2) c3 c4 c5 c6 h1 h2 hij h3 h4
        · cases h
      · cases h
    · split at h
      · rename_i hc
        obtain ⟨c1, c2, c3⟩ := hc
        split at h
        · rename_i i e h1 h2
          cases h
          exact lc_ok so G c1 (hlc _ c1) c2 c3 h1 h2
        · cases h
      · cases h
    · split at h
      · rename_i hc
        split at h
        · rename_i g e h1 h2
          cases h
          exact asg_ok so G hc.1 (ss_e hc.2 _) h1 h2
        · cases h
      · split at h
        · rename_i hc
          split at h
          · rename_i g e h1 h2
            cases h
            exact asg_ok so G hc.1 (ss_t hc.2 _) h1 h2
          · cases h
        · cases h
    · split at h
      · split at h
        · rename_i i e h1 h2
          cases h
          obtain ⟨l1, l2⟩ := nm_slot h1
          obtain ⟨l3, l4⟩ := so.loc _ l1
          exact ps_imp (ps_aug (by rw [G.hN]; exact G.nd) (by rw [G.hN]; exact slot_ok l2) l3 (IE _ _ h2).1 (p_aug _) l4) fun D σ H h => s_aug h
        · cases h
      · cases h
    · split at h
      · rename_i hc
        split at h
        · rename_i o e h1 h2
          cases h
          have q := fun (f : Str) (tp pos : Pos) (op : Operator) => ps_fldaug (f := f) (tpos := tp) (pos := pos) (IE _ _ h1).1 (IE _ _ h2).1 (show InOp X op (rAug op) from fun pins s σ H x y u v Q I r1 r2 h => p_aug op pins s σ H x y u v Q I r1 r2 h)
          rw [G.hK] at q
          refine ps_imp (q _ _ _ _) fun D σ H h => s_faug (fun n hn => ?_) h
          rw [← G.hK]
          exact ⟨G.mts.cls n hn, G.flds _ hc.2 n hn⟩
        · cases h
      · cases h
    · split at h
      · cases h
      · rename_i hi
        split at h
        · rename_i c a b h1 h2 h3
          cases h
          exact ps_imp (ps_if ((IE _ _ h1).2 (by simpa using hi)) (sss_ok IH h2) (sss_ok IH h3)) fun D σ H h => s_if h
        · cases h
    · split at h
      · cases h
      · rename_i hi
        split at h
        · rename_i c b h1 h2
          cases h
          exact ps_imp (ps_while hp ((IE _ _ h1).2 (by simpa using hi)) (sss_ok IH h2)) fun D σ H h => s_while h
        · cases h
    · split at h
      · rename_i it tg b h1 h2 h3
        cases h
        obtain ⟨pi, hf⟩ := it_ok so G IE h1
        have pg := tg_pg G.hN G.nd G.calm so h2
        rw [G.hK] at pg
        exact ps_imp (ps_for hp G.calm pi pg (sss_ok IH h3) (hf X.env)) fun D σ H h => s_for h
      · cases h
    · obtain ⟨e, h1, rfl⟩ := Option.map_eq_some_iff.mp h
      exact ps_imp (ps_ret (IE _ _ h1).1) fun D σ H h => s_ret h
    · cases h
      exact ps_imp ps_retN fun D σ H h => s_retN h
    · cases h
      exact ps_imp ps_pass fun D σ H h => s_next h
    · cases h
      exact ps_imp ps_continue fun D σ H h => s_cont h
    · cases h
      exact ps_imp ps_never fun D σ H h => s_never (fun _ _ => rfl) h
    · cases h
end
/-! ### every def -/
/-- a def of the row, read as mine -/
structure DefOk (K : PySem.W.Frag) (T : Tx) (fa : Addr) (fd : FuncData) (ps : List Str) (fn : Fn) : Prop where
  ex : ∃ (x qual : Str) (params : Arguments) (body : List Stmt) (scope : Scope) (N : List Str), FunD K x qual params body scope [] [] fa fd ∧ FnScope N ps scope ∧ trS.trSs (trS { T with N := N } 60 scope) body = some fn.body ∧ fn.np = ps.length ∧ fn.nn = N.length
  binds : Binds K fd ps []
/-- what stands around the defs -/
structure Site (prog : Program) (w : World) (K : PySem.W.Frag) (mg : Str → Option Value) (W : Wd) (P : Pr) (T : Tx) : Prop where
  hK : K = W.K
  cds : CdOk K w W fun i => P.cds.getD i []
  con : ∀ x d, x ∈ T.con → P.con.lookup x = some d → ∃ u y, mg x = some u ∧ RelV y u ∧ ∀ m H, VR W m H d y
  blt : ∀ x ∈ bltNames, mg x = none
  fns : ∀ f ∈ T.fns, ∃ fa fd ps fn, mg f = some (.ref fa) ∧ PySem.W.keepIn K (.ref fa) = true ∧ P.fns.lookup f = some fn ∧ DefOk K T fa fd ps fn
  cls : ∀ c ∈ T.cls, ∃ n fa fd ps fn, n < W.nc ∧ P.cl c = some n ∧ Mk K (W.ca n) fa ∧ mg c = some (.ref (W.ca n)) ∧ P.mt n "__init__" = some fn ∧ DefOk K T fa fd ps fn
  clsA : ∀ n, n < W.nc → Cls K (W.ca n)
  mts : ∀ n m fn, n < W.nc → P.mt n m = some fn → ∃ fa fd ps, Meth K (W.ca n) m fa ∧ DefOk K T fa fd ps fn
  flds : ∀ f ∈ T.fields, ∀ n, n < W.nc → NoAttr K (W.ca n) f
section
variable {prog : Program} {w : World} {K : PySem.W.Frag} {mg : Str → Option Value} {base : Heap} {W : Wd} {P : Pr} {T : Tx}
theorem spD_len {C : Cxt} {fn : Fn} {vs : List V} {H : Hp} {Q : VK} {E : XK} (h : spD W (runF C fn) vs H Q E) : vs.length = fn.np := by
  obtain ⟨m, S, ds, v, S', rp, r, h, f⟩ := h
  unfold runF at h
  split at h
  · rename_i hl
    rw [← r.length]
    exact hl
  · cases h
theorem fnBad {k : Nat} {fa : Addr} {fd : FuncData} {ps : List Str} {g : List D → Sto → R D} (hg : ∀ vs S, g vs S = .bad) : FnR prog w K mg base CX0 k fa fd ps (spD W g) := by
  have no : ∀ vs H Q E, ¬ spD W g vs H Q E := fun vs H Q E h => by
    obtain ⟨m, S, ds, v, S', rp, r, h, f⟩ := h
    rw [hg] at h
    cases h
  exact ⟨fun vs H Q E h => (no _ _ _ _ h).elim, fun A outer s H args us vs Q E _ _ _ _ h => (no _ _ _ _ h).elim⟩
theorem body_ok {C : Cxt} {fn : Fn} {N : List Str} {vs : List V} {H : Hp} {Q : VK} {E : XK} (hn : fn.nn = N.length) (h : spD W (runF C fn) vs H Q E) : liftS W (evSs C fn.body) { nx := fun _ H' => Q .non H', rt := Q } (L2.start N vs) H := by
  obtain ⟨m, S, ds, v, S', rp, r, h, f⟩ := h
  unfold runF at h
  split at h
  · obtain ⟨o, S1, h1, h2⟩ := R.bind_eq h
    have er : ER W m H (startE fn.nn ds) (L2.start N vs) := by
      refine ⟨?_, fun i d hd => ?_⟩
      · unfold startE L2.start
        simp only [List.length_append, List.length_map, List.length_replicate, hn, r.length]
      · unfold startE at hd
        by_cases hi : i < ds.length
        · rw [List.getElem?_append_left (by simpa using hi), List.getElem?_map] at hd
          cases q : ds[i]? with
          | none =>
            rw [q] at hd
            cases hd
          | some x =>
            rw [q] at hd
            cases hd
            obtain ⟨y, hy, vr⟩ := r.get q
            refine ⟨y, ?_, vr⟩
            unfold L2.start
            have hi' : i < vs.length := by
              rw [← r.length]
              exact hi
            rw [List.getElem?_append_left (by simpa using hi'), List.getElem?_map, hy]
            rfl
        · rw [List.getElem?_append_right (by simpa using hi), List.getElem?_replicate] at hd
          split at hd <;> cases hd
    refine ⟨m, startE fn.nn ds, S, o, S1, er, rp, h1, ?_⟩
    cases o with
    | nx e' =>
      obtain ⟨rfl, rfl⟩ := ok_inj h2
      exact fun σ' H' m' x r' _ => f _ H' m' x r' .non
    | ret u =>
      obtain ⟨rfl, rfl⟩ := ok_inj h2
      exact f
    | cnt e' => cases h2
  · cases h
theorem site_ok (Z : Site prog w K mg W P T) : ∀ (k : Nat) (fa : Addr) (fd : FuncData) (ps : List Str) (fn : Fn), DefOk K T fa fd ps fn → FnR prog w K mg base CX0 (k + 1) fa fd ps (spD W (runF (cxt P k) fn)) := by
  intro k
  induction k using Nat.strongRecOn with
  | _ k IH =>
    intro fa fd ps fn dk
    obtain ⟨⟨x, qual, params, body, scope, N, F, S, ht, hnp, hnn⟩, _⟩ := dk
    have at0 : ∀ (j : Nat), j ≤ k → ∀ (g : List D → Sto → R D) (fa : Addr) (fd : FuncData) (ps : List Str) (fn : Fn), DefOk K T fa fd ps fn → (j = 0 → ∀ vs S, g vs S = .bad) → (∀ i, j = i + 1 → g = runF (cxt P i) fn) → FnR prog w K mg base CX0 j fa fd ps (spD W g) := by
      intro j hj g fa fd ps fn d h0 h1
      cases j with
      | zero => exact fnBad (h0 rfl)
      | succ i =>
        rw [h1 i rfl]
        exact IH i (by omega) fa fd ps fn d
    refine FunD.okR F S (fun vs H Q E h => by rw [spD_len h, hnp]) fun cdv A outer s H vs Q E hr h => ⟨_, PSs.nox ?_, body_ok hnn h⟩
    have G : Good (cxOf CX0 prog w K mg base N qual scope fa cdv A outer s H E).nox W P { T with N := N } k := by
      refine ⟨Z.hK, rfl, S.nd, rfl, hr, Z.cds, Z.con, Z.blt, fun f hf => ?_, fun c hc => ?_, ⟨Z.clsA, fun n m ds S v S' hn h => ?_⟩, Z.flds⟩
      · obtain ⟨fa2, fd2, ps2, fn2, m1, m2, m3, d⟩ := Z.fns f hf
        refine ⟨fa2, fd2, ps2, m1, m2, d.binds, at0 k (Nat.le_refl _) _ _ _ _ fn2 d (fun e vs S => by subst e; rfl) fun i e => ?_⟩
        subst e
        funext vs S
        show (match P.fns.lookup f with | some fn => _ | none => _) = _
        rw [m3]
      · obtain ⟨n, fa2, fd2, ps2, fn2, l, hcl, M, m1, m2, d⟩ := Z.cls c hc
        refine ⟨n, fa2, fd2, ps2, l, hcl, M, m1, d.binds, fun j e => at0 j (by omega) _ _ _ _ fn2 d (fun e vs S => by subst e; rfl) fun i e => ?_⟩
        subst e
        funext vs S
        show (match P.mt n "__init__" with | some fn => _ | none => _) = _
        rw [m2]
      · cases k with
        | zero => cases h
        | succ i =>
          have h : (match P.mt n m with | some fn => runF (cxt P i) fn ds S | none => .bad) = .ok v S' := h
          cases q : P.mt n m with
          | none =>
            rw [q] at h
            cases h
          | some fn2 =>
            obtain ⟨fa2, fd2, ps2, me, d⟩ := Z.mts n m fn2 hn q
            refine ⟨fa2, fd2, ps2, me, d.binds, at0 (i + 1) (Nat.le_refl _) _ _ _ _ fn2 d (fun e => by cases e) fun j e => ?_⟩
            cases e
            funext vs S
            show (match P.mt n m with | some fn => _ | none => _) = _
            rw [q]
    have so : ScOk (cxOf CX0 prog w K mg base N qual scope fa cdv A outer s H E).nox scope := by
      refine ⟨fun x h => h, S.kind, fun x h => ?_, fun x h => ?_, fun x h => ?_⟩
      · unfold visB at h
        show Vis scope x
        split at h
        · exact .inl (by assumption)
        · exact .inr (.inl (by assumption))
        · exact .inr (.inr (by assumption))
        · cases h
      · unfold glB at h
        split at h
        · show scope.names.lookup x = _
          assumption
        · cases h
      · refine ⟨?_, .inl rfl⟩
        unfold locB at h
        show Loc scope x
        split at h
        · exact .inl (by assumption)
        · exact .inr (by assumption)
        · cases h
    exact sss_ok (trS_ok PassesOwn.never so (fun x h => (lcl_ok h).2) G 60) ht
end
end Mi
set_option Elab.async false
set_option linter.all false
set_option maxRecDepth 100000
/-! M18: from the head's facts to a site. -/
namespace Mi
open PySem PySem.Spec L2
open PyProof.Rows hiding St
theorem zip_lookup {α : Type} : ∀ {ps : List Str} {us : List α} {x : Str}, ps.length = us.length → x ∈ ps → ∃ u, (ps.zip us).lookup x = some u
  | [], _, x, _, h => by cases h
  | p :: ps, [], x, e, h => by cases e
  | p :: ps, u :: us, x, e, h => by
    rw [List.zip_cons_cons, List.lookup_cons]
    cases q : x == p with
    | true => exact ⟨u, rfl⟩
    | false =>
      have : x ∈ ps := by
        rcases List.mem_cons.mp h with z | z
        · subst z
          simp at q
        · exact z
      exact zip_lookup (by simpa using e) this
theorem zip_selfA {α : Type} (f : Str → Option α) : ∀ {ps : List Str} {us : List α}, ps.length = us.length → (∀ i (h : i < ps.length) (h' : i < us.length), f ps[i] = some us[i]) → ps.filterMap (fun n => (f n).map fun u => (n, u)) = ps.zip us
  | [], [], _, _ => rfl
  | [], _ :: _, e, _ => by cases e
  | p :: ps, [], e, _ => by cases e
  | p :: ps, u :: us, e, h => by
    have h0 : f p = some u := h 0 (by simp) (by simp)
    rw [List.filterMap_cons, List.zip_cons_cons, h0]
    show (p, u) :: _ = _
    rw [zip_selfA f (by simpa using e) fun i hi hi' => h (i + 1) (by simpa using hi) (by simpa using hi')]
theorem zip_at {α : Type} : ∀ {ps : List Str} {us : List α}, ps.Nodup → ∀ i (h : i < ps.length) (h' : i < us.length), (ps.zip us).lookup ps[i] = some us[i]
  | [], _, _, i, h, _ => by simp at h
  | p :: ps, [], _, i, _, h => by simp at h
  | p :: ps, u :: us, nd, 0, _, _ => by simp
  | p :: ps, u :: us, nd, i + 1, h, h' => by
    obtain ⟨n1, n2⟩ := List.nodup_cons.mp nd
    have hi : i < ps.length := by simpa using h
    have hn : (ps[i] == p) = false := by
      have : ps[i] ≠ p := fun z => n1 (z ▸ List.getElem_mem hi)
      simpa using this
    rw [List.zip_cons_cons, List.getElem_cons_succ, List.lookup_cons, hn]
    exact zip_at n2 i hi (by simpa using h')
theorem zip_self {α : Type} {ps : List Str} {us : List α} (e : ps.length = us.length) (nd : ps.Nodup) : ps.filterMap (fun n => ((ps.zip us).lookup n).map fun u => (n, u)) = ps.zip us := zip_selfA _ e (zip_at nd)
theorem binds_plain {x qual : Str} {params : Arguments} {body : List Stmt} {scope : Scope} {kV doc pm : Value} {an : Option Addr} {cdv ct : Value} {us : List Value} {ps : List Str} (h : params = ⟨[], params.args, none, [], [], none, []⟩) (hp : params.args.map (·.arg) = ps) (nd : ps.Nodup) (hl : us.length = ps.length) :
    bindArgs (PySem.W.fnOf x qual params body scope .none kV doc pm an cdv ct) ⟨us, []⟩ = pure (ps.zip us) := by
  obtain ⟨a1, a2, a3, a4, a5, a6, a7⟩ := params
  simp only [Arguments.mk.injEq] at h
  obtain ⟨rfl, _, rfl, rfl, rfl, rfl, rfl⟩ := h
  have hp : a2.map (·.arg) = ps := hp
  have nomiss : (ps.filter fun n => ((ps.zip us).lookup n).isNone) = [] := by
    rw [List.filter_eq_nil_iff]
    intro x hx
    obtain ⟨u, hu⟩ := zip_lookup hl.symm hx
    rw [hu]
    simp
  have sq : seqItems? Value.none = pure none := rfl
  unfold bindArgs
  have e1 : (PySem.W.fnOf x qual ⟨[], a2, none, [], [], none, []⟩ body scope .none kV doc pm an cdv ct).params = ⟨[], a2, none, [], [], none, []⟩ := rfl
  have e2 : (PySem.W.fnOf x qual ⟨[], a2, none, [], [], none, []⟩ body scope .none kV doc pm an cdv ct).defaults = .none := rfl
  simp only [e1, e2, hp, List.map_nil, List.nil_append, List.forIn_nil, pure_bind, sq]
  have e3 : (decide (us.length > ps.length) && (none : Option Arg).isNone) = false := by simp [hl]
  simp only [e3, Option.getD_none, List.length_nil, Nat.zero_sub, List.drop_nil, Nat.sub_zero, List.take_length, nomiss, List.drop_length, List.zip_nil_right, List.forIn_nil, pure_bind, List.append_nil]
  rw [if_neg Bool.false_ne_true]
  refine Eq.trans (b := pure (ps.filterMap fun n => ((ps.zip us).lookup n).map fun u => (n, u))) rfl ?_
  rw [zip_self hl.symm nd]
/-! ### a def's datum -/
structure FD where
  d : He.DefD
  N : List Str
  ps : List Str
  fn : Fn
def argsOk (a : Arguments) (ps : List Str) : Bool := a.posonlyargs.isEmpty && a.vararg.isNone && a.kwonlyargs.isEmpty && a.kw_defaults.isEmpty && a.kwarg.isNone && a.defaults.isEmpty && decide (a.args.map (·.arg) = ps) && decide ps.Nodup
def FD.ok (T : Tx) (x : FD) : Bool := C8.scC x.N x.ps x.d.scope && argsOk x.d.params x.ps && isTxt { T with N := x.N } x.d.scope x.d.body x.fn.body && decide (x.fn.np = x.ps.length) && decide (x.fn.nn = x.N.length) && x.d.dfl.isEmpty && x.d.kwd.isEmpty
theorem args_eq {a : Arguments} {ps : List Str} (h : argsOk a ps = true) : a = ⟨[], a.args, none, [], [], none, []⟩ ∧ a.args.map (·.arg) = ps ∧ ps.Nodup := by
  obtain ⟨a1, a2, a3, a4, a5, a6, a7⟩ := a
  unfold argsOk at h
  simp only [Bool.and_eq_true, List.isEmpty_iff, Option.isNone_iff_eq_none, decide_eq_true_eq] at h
  obtain ⟨⟨⟨⟨⟨⟨⟨rfl, rfl⟩, rfl⟩, rfl⟩, rfl⟩, rfl⟩, h1⟩, h2⟩ := h
  exact ⟨rfl, h1, h2⟩
theorem FD.defOk {K : PySem.W.Frag} {T : Tx} {x : FD} (h : x.ok T = true) {fn : List He.DefD} {fa : List He.Fa} (c : He.SaysD fa fn K) (hm : x.d ∈ fn) : ∃ fd, DefOk K T (He.fAd K x.d.at_) fd x.ps x.fn ∧ ∀ (s : Shared) (us : List Value), us.length = x.ps.length → BindsTo s fd ⟨us, []⟩ (x.ps.zip us) := by
  unfold FD.ok at h
  simp only [Bool.and_eq_true, List.isEmpty_iff, decide_eq_true_eq] at h
  obtain ⟨⟨⟨⟨⟨⟨h1, h2⟩, h3⟩, h4⟩, h5⟩, h6⟩, h7⟩ := h
  obtain ⟨fd, F⟩ := c.defs hm
  have e1 : x.d.dvs K = [] := by
    unfold He.DefD.dvs
    rw [h6]
    rfl
  have e2 : x.d.kws K = [] := by
    unfold He.DefD.kws
    rw [h7]
    rfl
  rw [e1, e2] at F
  obtain ⟨a1, a2, a3⟩ := args_eq h2
  have b := fun (kV doc pm : Value) (an : Option Addr) (cdv ct : Value) (us : List Value) (hl : us.length = x.ps.length) => binds_plain (x := x.d.name) (qual := x.d.qual) (body := x.d.body) (scope := x.d.scope) (kV := kV) (doc := doc) (pm := pm) (an := an) (cdv := cdv) (ct := ct) a1 a2 a3 hl
  exact ⟨fd, ⟨⟨_, _, _, _, _, x.N, F, C8.fnScope_by h1, isTxt_eq h3, h4, h5⟩, F.bindsN b⟩, fun s us hl => F.bindsA b s us hl⟩
end Mi
set_option Elab.async false
set_option linter.all false
set_option maxRecDepth 100000
/-! M19: a law's data, and the site that the head's facts make of it. -/
namespace Mi
open PySem PySem.Spec L2
open PyProof.Rows hiding St
structure LawD where
  P : Pr
  T : Tx
  fds : List (Str × FD)
  mds : List (Str × List (Str × FD))
  dn : List Str
def LawD.W (L : LawD) (K : PySem.W.Frag) : Wd := ⟨K, fun n => He.ga K ((L.mds.map (·.1)).getD n ""), fun i => He.ga K (L.dn.getD i ""), L.mds.length⟩
mutual
/-- a value of the written part is this data -/
def valB (K : PySem.W.Frag) (dn : List Str) : D → Value → Bool
  | .non, .none => true
  | .bl a, .bool b => a == b
  | .int i, .int j _ => decide (i = j)
  | .str x, .str y _ => decide (x = y)
  | .cd i, .ref a => decide (a = He.ga K (dn.getD i ""))
  | .tup xs, .ref a => match K.lookup a with
    | some ⟨.type c, _, .seq its _, _⟩ => decide (c = "tuple") && (decide (its.size ≤ sizeLine) && valsB2 K dn xs its.toList) && (match xs with
      | [_, .str _] => false
      | _ => true)
    | _ => false
  | _, _ => false
def valsB2 (K : PySem.W.Frag) (dn : List Str) : List D → List Value → Bool
  | [], [] => true
  | x :: xs, u :: us => valB K dn x u && valsB2 K dn xs us
  | _, _ => false
end
mutual
theorem valB_ok {L : LawD} {K : PySem.W.Frag} : ∀ (d : D) (u : Value), valB K L.dn d u = true → ∃ y, RelV y u ∧ ∀ m H, VR (L.W K) m H d y
  | .non, u, h => by
    cases u with
    | none => exact ⟨.non, rfl, fun _ _ => .non⟩
    | _ => cases h
  | .bl a, u, h => by
    cases u with
    | bool b =>
      have e : a = b := by simpa using (show (a == b) = true from h)
      subst e
      exact ⟨.bl a, rfl, fun _ _ => .bl a⟩
    | _ => cases h
  | .int i, u, h => by
    cases u with
    | int j t =>
      have e : i = j := of_decide_eq_true h
      subst e
      exact ⟨.int i, ⟨t, rfl⟩, fun _ _ => .int i⟩
    | _ => cases h
  | .str i, u, h => by
    cases u with
    | str j t =>
      have e : i = j := of_decide_eq_true h
      subst e
      exact ⟨.str i, ⟨t, rfl⟩, fun _ _ => .str i⟩
    | _ => cases h
  | .cd i, u, h => by
    cases u with
    | ref a =>
      have e : a = He.ga K (L.dn.getD i "") := of_decide_eq_true h
      subst e
      exact ⟨.ref _, rfl, fun _ _ => .cd i⟩
    | _ => cases h
  | .tup xs, u, h => by
    cases u with
    | ref a =>
      unfold valB at h
      split at h
      · rename_i c _ its n sl q
        simp only [Bool.and_eq_true, decide_eq_true_eq] at h
        obtain ⟨⟨h1, h2, h3⟩, h4⟩ := h
        obtain ⟨ys, r, vs⟩ := valsB2_ok xs its.toList h3
        refine ⟨.ref a, rfl, fun m H => .tup (ys := ys) (.inr ⟨.inr ⟨_, its, n, q, congrArg Value.type h1, rfl, h2, r⟩, ?_⟩) (vs m H)⟩
        have v := vs [] (fun _ => none)
        unfold nk
        split
        · cases v with
          | cons v1 v2 =>
            cases v2 with
            | cons v3 v4 =>
              cases v4
              cases v3
              cases h4
        · rfl
      · cases h
    | _ => cases h
  | .lit xs, u, h => by
    cases u <;> cases h
  | .ref xs, u, h => by
    cases u <;> cases h
theorem valsB2_ok {L : LawD} {K : PySem.W.Frag} : ∀ (d : List D) (u : List Value), valsB2 K L.dn d u = true → ∃ ys, Vals ys u ∧ ∀ m H, VRs (L.W K) m H d ys
  | [], u, h => by
    cases u with
    | nil => exact ⟨[], .nil, fun _ _ => .nil⟩
    | cons _ _ => cases h
  | x :: xs, u, h => by
    cases u with
    | nil => cases h
    | cons u us =>
      obtain ⟨h1, h2⟩ := He.ba (show (valB K L.dn x u && valsB2 K L.dn xs us) = true from h)
      obtain ⟨y, r, v⟩ := valB_ok x u h1
      obtain ⟨ys, rs, vs⟩ := valsB2_ok xs us h2
      exact ⟨y :: ys, .cons r rs, fun m H => .cons (v m H) (vs m H)⟩
end
def conB2 (K : PySem.W.Frag) (dn : List Str) (p : Str × D) : Bool := match PySem.W.nsIn K mainGlobals p.1 with
  | some (some u) => valB K dn p.2 u
  | _ => false
def entB (K : PySem.W.Frag) (dn : List Str) (a : Addr) (p : Str × D) : Bool := match PySem.W.nsIn K a p.1 with
  | some (some u) => valB K dn p.2 u
  | _ => false
def LawD.fa (L : LawD) : List He.Fa := L.fds.map (fun p => .glo p.1) ++ bltNames.map .free ++ L.mds.flatMap fun c => [.glo c.1, .cls c.1, .mkr c.1] ++ L.T.fields.map (.noat c.1) ++ c.2.map fun m => .meth c.1 m.1
def LawD.fn (L : LawD) : List He.DefD := L.fds.map (·.2.d) ++ L.mds.flatMap fun c => c.2.map (·.2.d)
def LawD.ts (L : LawD) : List He.Tab := (L.dn.zip L.P.cds).map fun p => (fun K => He.ga K p.1, p.2.map (·.1))
def LawD.ex (L : LawD) (K : PySem.W.Frag) : Bool := (L.P.con.all fun p => conB2 K L.dn p) && (L.dn.zip L.P.cds).all fun p => p.2.all fun q => entB K L.dn (He.ga K p.1) q
/-- what of the data itself is to be looked at -/
structure LawD.Ok (L : LawD) : Prop where
  fd : ∀ p ∈ L.fds, p.2.ok L.T = true
  md : ∀ c ∈ L.mds, ∀ p ∈ c.2, p.2.ok L.T = true
  fat : ∀ p ∈ L.fds, p.2.d.at_ = (p.1, none)
  mat : ∀ c ∈ L.mds, ∀ p ∈ c.2, p.2.d.at_ = (c.1, some p.1)
  fns : L.P.fns = L.fds.map fun p => (p.1, p.2.fn)
  cls : L.P.cls = L.mds.map fun c => (c.1, c.2.map fun p => (p.1, p.2.fn))
  tf : L.T.fns = L.fds.map (·.1)
  tc : L.T.cls = L.mds.map (·.1)
  con : ∀ x ∈ L.T.con, x ∈ L.P.con.map (·.1)
  ini : ∀ c ∈ L.mds, (c.2.lookup ("__init__" : Str)).isSome = true
  nd : (L.mds.map (·.1)).Nodup
  dn : L.dn.length = L.P.cds.length
theorem lookup_map {α β : Type} {f : α → β} : ∀ {l : List (Str × α)} {x : Str} {b : β}, (l.map fun p => (p.1, f p.2)).lookup x = some b → ∃ a, (x, a) ∈ l ∧ f a = b
  | [], _, _, h => by cases h
  | (k, a) :: l, x, b, h => by
    rw [List.map_cons, List.lookup_cons] at h
    cases q : x == k with
    | true =>
      rw [q] at h
      cases h
      have e : x = k := by simpa using q
      subst e
      exact ⟨a, List.mem_cons_self, rfl⟩
    | false =>
      rw [q] at h
      obtain ⟨a, h1, h2⟩ := lookup_map h
      exact ⟨a, List.mem_cons_of_mem _ h1, h2⟩
theorem lookup_ex {α β : Type} {f : α → β} : ∀ {l : List (Str × α)} {x : Str}, x ∈ l.map (·.1) → ∃ a, (x, a) ∈ l ∧ (l.map fun p => (p.1, f p.2)).lookup x = some (f a)
  | [], _, h => by cases h
  | (k, a) :: l, x, h => by
    rw [List.map_cons, List.lookup_cons]
    cases q : x == k with
    | true =>
      have e : x = k := by simpa using q
      subst e
      exact ⟨a, List.mem_cons_self, rfl⟩
    | false =>
      have : x ∈ l.map (·.1) := by
        rcases List.mem_cons.mp h with z | z
        · subst z
          simp at q
        · exact z
      obtain ⟨a, h1, h2⟩ := lookup_ex (f := f) this
      exact ⟨a, List.mem_cons_of_mem _ h1, h2⟩
theorem nsIn_keys {K : PySem.W.Frag} {a : Addr} {P : Params} {ks : List Str} (h : He.dicW K a = some (He.keysIn P ks)) {z : Str} (hz : z ∉ ks) : PySem.W.nsIn K a z = some none := by
  unfold He.dicW at h
  unfold PySem.W.nsIn
  split at h
  · rename_i c es n sl q
    rw [q]
    dsimp only
    split at h
    · have h := Option.some.inj h
      have hk : ∀ e ∈ es.toList, ∃ y t, e.key = .str y t ∧ y ∈ ks := by
        intro e he
        have : He.keyOf e ∈ He.keysIn P ks := by
          rw [← h]
          exact List.mem_map_of_mem he
        unfold He.keysIn at this
        obtain ⟨y, hy, e2⟩ := List.mem_map.mp this
        unfold He.keyOf at e2
        split at e2
        · rename_i x t hq
          have e3 := congrArg Prod.fst (Option.some.inj e2)
          exact ⟨x, t, hq, (show y = x from e3) ▸ hy⟩
        · cases e2
      have h1 : es.toList.find? (fun e => e.key.isStr z) = none := by
        rw [List.find?_eq_none]
        intro e he
        obtain ⟨y, t, e1, hy⟩ := hk e he
        rw [e1]
        intro w
        have w2 : (y == z) = true ∨ (z == y) = true := by
          first
            | exact .inl w
            | exact .inr w
        have : y = z := by
          rcases w2 with w2 | w2
          · simpa using w2
          · exact (by simpa using w2 : z = y).symm
        exact hz (this ▸ hy)
      have h2 : es.toList.any (·.refKey) = false := by
        rw [List.any_eq_false]
        intro e he
        obtain ⟨y, t, e1, _⟩ := hk e he
        unfold DictEntry.refKey
        rw [e1]
        simp
      rw [h1]
      dsimp only
      rw [h2]
      rfl
    · cases h
  · cases h
end Mi
set_option Elab.async false
set_option linter.all false
set_option maxRecDepth 100000
/-! M20: the site. -/
namespace Mi
open PySem PySem.Spec L2
open PyProof.Rows hiding St
section
variable {prog : Program} {w : World} {K : PySem.W.Frag} {h : Heap} {mg : Str → Option Value} {L : LawD}
theorem FD.kp {K : PySem.W.Frag} {x : FD} {fn : List He.DefD} {fa : List He.Fa} (c : He.SaysD fa fn K) (hm : x.d ∈ fn) : PySem.W.keepIn K (.ref (He.fAd K x.d.at_)) = true := by
  obtain ⟨fd, F⟩ := c.defs hm
  exact F.kp
theorem getD_at {l : List Str} {n : Nat} {x : Str} (h : l[n]? = some x) : l.getD n "" = x := by
  rw [List.getD_eq_getElem?_getD, h]
  rfl
theorem cl_of {L : LawD} (ok : L.Ok) {c : Str} (hc : c ∈ L.T.cls) : ∃ n ms, n < L.mds.length ∧ L.mds[n]? = some (c, ms) ∧ L.P.cl c = some n := by
  rw [ok.tc] at hc
  have key : ∃ n, L.P.cl c = some n := by
    unfold Pr.cl
    rw [ok.cls]
    cases q : (L.mds.map fun c => (c.1, c.2.map fun p => (p.1, p.2.fn))).findIdx? fun q => decide (q.1 = c) with
    | some n => exact ⟨n, rfl⟩
    | none =>
      rw [List.findIdx?_eq_none_iff] at q
      obtain ⟨p, hp, e⟩ := List.mem_map.mp hc
      have := q (p.1, p.2.map fun p => (p.1, p.2.fn)) (List.mem_map_of_mem (f := fun c : Str × List (Str × FD) => (c.1, c.2.map fun p => (p.1, p.2.fn))) hp)
      simp at this
      exact absurd e this
  obtain ⟨n, hn⟩ := key
  have hn2 := hn
  unfold Pr.cl at hn2
  rw [ok.cls, List.findIdx?_eq_some_iff_getElem] at hn2
  obtain ⟨h1, h2, _⟩ := hn2
  rw [List.length_map] at h1
  rw [List.getElem_map] at h2
  have e : L.mds[n].1 = c := by simpa using h2
  exact ⟨n, L.mds[n].2, h1, by rw [List.getElem?_eq_getElem h1, ← e], hn⟩
theorem site_of (ok : L.Ok) (X : K.In h) (G : h.Ns mainGlobals mg) (c : He.SaysX L.fa L.fn L.ts [] L.ex w h K) : Site prog w K mg (L.W K) L.P L.T := by
  have cd := c.t.d
  have ex := c.more
  unfold LawD.ex at ex
  obtain ⟨ex1, ex2⟩ := He.ba ex
  have faF : ∀ p ∈ L.fds, He.Fa.glo p.1 ∈ L.fa := fun p hp => List.mem_append_left _ (List.mem_append_left _ (List.mem_map_of_mem hp))
  have faB : ∀ x ∈ bltNames, He.Fa.free x ∈ L.fa := fun x hx => List.mem_append_left _ (List.mem_append_right _ (List.mem_map_of_mem hx))
  have faC : ∀ q ∈ L.mds, ∀ f ∈ ([.glo q.1, .cls q.1, .mkr q.1] ++ L.T.fields.map (.noat q.1) ++ q.2.map fun m => .meth q.1 m.1 : List He.Fa), f ∈ L.fa := fun q hq f hf => List.mem_append_right _ (List.mem_flatMap.mpr ⟨q, hq, hf⟩)
  have fnF : ∀ p ∈ L.fds, p.2.d ∈ L.fn := fun p hp => List.mem_append_left _ (List.mem_map_of_mem hp)
  have fnM : ∀ q ∈ L.mds, ∀ p ∈ q.2, p.2.d ∈ L.fn := fun q hq p hp => List.mem_append_right _ (List.mem_flatMap.mpr ⟨q, hq, List.mem_map_of_mem hp⟩)
  have tabs : ∀ i t, L.P.cds[i]? = some t → (∃ es n, KDict K w (He.ga K (L.dn.getD i "")) es n) ∧ (∀ z, t.lookup z = none → PySem.W.nsIn K (He.ga K (L.dn.getD i "")) z = some none) ∧ ∀ q ∈ t, entB K L.dn (He.ga K (L.dn.getD i "")) q = true := by
    intro i t ht
    have hi : i < L.P.cds.length := (List.getElem?_eq_some_iff.mp ht).1
    have hi' : i < L.dn.length := by
      rw [ok.dn]
      exact hi
    have hz : (L.dn.zip L.P.cds)[i]? = some (L.dn[i], t) := by
      rw [List.getElem?_zip_eq_some]
      exact ⟨List.getElem?_eq_getElem hi', ht⟩
    have hd : L.dn.getD i "" = L.dn[i] := getD_at (List.getElem?_eq_getElem hi')
    have ht2 : L.ts[i]? = some (fun K => He.ga K L.dn[i], t.map (·.1)) := by
      unfold LawD.ts
      rw [List.getElem?_map, hz]
      rfl
    rw [hd]
    refine ⟨c.t.tab i ht2, fun z hz2 => ?_, fun q hq => ?_⟩
    · have e : L.ts.map (fun t => He.dicW K (t.1 K)) = L.ts.map fun t => some (He.keysIn w.params t.2) := congrArg (fun z : He.AlT => z.2) c.t
      have e2 : (L.ts.map fun t => He.dicW K (t.1 K))[i]? = (L.ts.map fun t => some (He.keysIn w.params t.2))[i]? := by rw [e]
      rw [List.getElem?_map, List.getElem?_map, ht2] at e2
      refine nsIn_keys (Option.some.inj e2) fun hm => ?_
      obtain ⟨d, hd2, e3⟩ := lookup_ex (f := fun d : D => d) hm
      have e4 : (t.map fun p => (p.1, p.2)) = t := by simp
      rw [e4, hz2] at e3
      cases e3
    · have := List.all_eq_true.mp ex2 _ (List.mem_of_getElem? hz)
      exact List.all_eq_true.mp this q hq
  refine ⟨rfl, ⟨fun i hi => ?_, fun i z hi hz => ?_, fun i z d hz => ?_⟩, fun x d hx hd => ?_, fun x hx => He.free_ok X G (cd.facts (faB x hx)), fun f hf => ?_, fun q hq => ?_, fun n hn => ?_, fun n m fn hn hm => ?_, fun f hf n hn => ?_⟩
  · cases q : L.P.cds[i]? with
    | none =>
      rw [List.getD_eq_getElem?_getD, q] at hi
      exact absurd rfl hi
    | some t => exact (tabs i t q).1
  · cases q : L.P.cds[i]? with
    | none =>
      rw [List.getD_eq_getElem?_getD, q] at hi
      exact absurd rfl hi
    | some t =>
      rw [List.getD_eq_getElem?_getD, q] at hz
      exact (tabs i t q).2.1 z hz
  · cases q : L.P.cds[i]? with
    | none =>
      rw [List.getD_eq_getElem?_getD, q] at hz
      cases hz
    | some t =>
      rw [List.getD_eq_getElem?_getD, q] at hz
      have h1 := (tabs i t q).2.2 _ (PySem.mem_of_lookup hz)
      unfold entB at h1
      split at h1
      · rename_i u hu
        obtain ⟨y, r, v⟩ := valB_ok (L := L) _ _ h1
        exact ⟨u, y, hu, r, v⟩
      · cases h1
  · have h1 := List.all_eq_true.mp ex1 _ (PySem.mem_of_lookup hd)
    unfold conB2 at h1
    split at h1
    · rename_i u hu
      obtain ⟨y, r, v⟩ := valB_ok (L := L) _ _ h1
      exact ⟨u, y, PySem.W.mg_of X G hu, r, v⟩
    · cases h1
  · rw [ok.tf] at hf
    obtain ⟨x, hx, e⟩ := lookup_ex (f := FD.fn) hf
    obtain ⟨fd, dk, _⟩ := FD.defOk (ok.fd _ hx) cd (fnF _ hx)
    have ha := ok.fat _ hx
    have kp := FD.kp cd (fnF _ hx)
    rw [ha] at dk kp
    refine ⟨_, fd, x.ps, x.fn, He.glo_ok X G (cd.facts (faF _ hx)), kp, ?_, dk⟩
    rw [ok.fns]
    exact e
  · obtain ⟨n, ms, hn, hnm, hcl⟩ := cl_of ok hq
    have hm : (q, ms) ∈ L.mds := List.mem_of_getElem? hnm
    have hca : (L.W K).ca n = He.ga K q := by
      show He.ga K ((L.mds.map (·.1)).getD n "") = _
      rw [getD_at (by rw [List.getElem?_map, hnm]; rfl)]
    have hi := ok.ini _ hm
    obtain ⟨x, hx⟩ := Option.isSome_iff_exists.mp hi
    have hx2 := PySem.mem_of_lookup hx
    obtain ⟨fd, dk, _⟩ := FD.defOk (ok.md _ hm _ hx2) cd (fnM _ hm _ hx2)
    have ha := ok.mat _ hm _ hx2
    rw [ha] at dk
    refine ⟨n, _, fd, x.ps, x.fn, hn, hcl, ?_, ?_, ?_, dk⟩
    · rw [hca]
      exact He.mkr_ok (cd.facts (faC _ hm _ (by simp)))
    · rw [hca]
      exact He.glo_ok X G (cd.facts (faC _ hm _ (by simp)))
    · unfold Pr.mt
      rw [ok.cls, List.getElem?_map, hnm]
      show (ms.map fun p => (p.1, p.2.fn)).lookup _ = _
      have : ∀ (l : List (Str × FD)), l.lookup ("__init__" : Str) = some x → (l.map fun p => (p.1, p.2.fn)).lookup ("__init__" : Str) = some x.fn := fun l => by
        induction l with
        | nil => intro h; cases h
        | cons p l ih =>
          intro h
          rw [List.lookup_cons] at h
          rw [List.map_cons, List.lookup_cons]
          cases z : (("__init__" : Str) == p.1) with
          | true =>
            rw [z] at h
            cases h
            rfl
          | false =>
            rw [z] at h
            exact ih h
      exact this ms hx
  · have hn : n < L.mds.length := hn
    have hm := List.getElem_mem hn
    have hca : (L.W K).ca n = He.ga K L.mds[n].1 := by
      show He.ga K ((L.mds.map (·.1)).getD n "") = _
      rw [getD_at (by rw [List.getElem?_map, List.getElem?_eq_getElem hn]; rfl)]
    rw [hca]
    exact He.cls_ok (cd.facts (faC _ hm _ (by simp)))
  · have hn : n < L.mds.length := hn
    have hq := List.getElem_mem hn
    have hca : (L.W K).ca n = He.ga K L.mds[n].1 := by
      show He.ga K ((L.mds.map (·.1)).getD n "") = _
      rw [getD_at (by rw [List.getElem?_map, List.getElem?_eq_getElem hn]; rfl)]
    unfold Pr.mt at hm
    rw [ok.cls, List.getElem?_map, List.getElem?_eq_getElem hn] at hm
    obtain ⟨x, hx, e⟩ := lookup_map (f := FD.fn) (show (L.mds[n].2.map fun p => (p.1, p.2.fn)).lookup m = some fn from hm)
    obtain ⟨fd, dk, _⟩ := FD.defOk (ok.md _ hq _ hx) cd (fnM _ hq _ hx)
    have ha := ok.mat _ hq _ hx
    rw [ha] at dk
    subst e
    refine ⟨_, fd, x.ps, ?_, dk⟩
    rw [hca]
    exact He.meth_ok (cd.facts (faC _ hq _ (List.mem_append_right _ (List.mem_map_of_mem (f := fun m : Str × FD => He.Fa.meth L.mds[n].1 m.1) hx))))
  · have hn : n < L.mds.length := hn
    have hq := List.getElem_mem hn
    have hca : (L.W K).ca n = He.ga K L.mds[n].1 := by
      show He.ga K ((L.mds.map (·.1)).getD n "") = _
      rw [getD_at (by rw [List.getElem?_map, List.getElem?_eq_getElem hn]; rfl)]
    rw [hca]
    exact He.noat_ok (cd.facts (faC _ hq _ (List.mem_append_left _ (List.mem_append_right _ (List.mem_map_of_mem hf)))))
end
end Mi
set_option Elab.async false
set_option linter.all false
set_option maxRecDepth 100000
/-! M21: a law's end. -/
namespace Mi
open PySem PySem.Spec L2
open PyProof.Rows hiding St
/-- the law's def answers True at every script -/
def Says (P : Pr) (k n : Nat) : Prop := ∀ ns : List Int, ns.length ≤ n → ∃ S', (cxt P (k + 1)).call "law" [.lit (ns.map .int)] [] = .ok (.bl true) S'
theorem ints_vr {W : Wd} {m : List Addr} {H : Hp} : ∀ ns : List Int, VRs W m H (ns.map .int) (ns.map V.int)
  | [] => .nil
  | n :: ns => .cons (.int n) (ints_vr ns)
theorem rep_nil {W : Wd} {H : Hp} : Rep W [] H [] := ⟨rfl, List.nodup_nil, fun i a o h _ => by simp at h⟩
theorem law_end {l : PySem.W.OpenLaw} {n k : Nat} {q : Program} {loose : List Str} {XP : (Str → Option Value) → Heap → Prop} {d : DefRec} (L : LawD) (ok : L.Ok) {N : Nat} {p : Str}
    (hn : l.most = some n) (hn2 : n ≤ sizeLine) (hdf : d.params.defaults = []) (hr : k + 1 ≤ 697) (hname : d.name = ("law" : Str)) (hT : ("law" : Str) ∈ L.T.fns) (hps : ∀ x, (("law" : Str), x) ∈ L.fds → x.ps = [p]) (ev : Says L.P k n) :
    PySem.W.WalkO q loose XP (He.hookX N L.fa L.fn L.ts [] L.ex).says l.row.toRowW d [] (fun f vs => PySem.call f vs) := by
  refine L2.walk_ofE (l := l) (n := n) (k := 231) (x := p) (CX := L2.CX0) hn hn2 hdf room_top ?_ (fun _ _ _ _ z => z)
  intro w mg fa h Y G hmg
  obtain ⟨K, KX, c⟩ := Y
  have Z := site_of (prog := l.prog) ok KX G c
  rw [ok.tf] at hT
  obtain ⟨x, hx, hlk⟩ := lookup_ex (f := FD.fn) hT
  have hf : x.d ∈ L.fn := List.mem_append_left _ (List.mem_map_of_mem (f := fun p : Str × FD => p.2.d) hx)
  obtain ⟨fd, dk, hb⟩ := FD.defOk (ok.fd _ hx) c.t.d hf
  have ha := ok.fat _ hx
  have e1 : He.fAd K x.d.at_ = He.ga K "law" := by
    rw [ha]
    rfl
  have hg := He.glo_ok KX G (c.t.d.facts (show He.Fa.glo "law" ∈ L.fa from List.mem_append_left _ (List.mem_append_left _ (List.mem_map_of_mem (f := fun p : Str × FD => He.Fa.glo p.1) hx))))
  rw [hname, hg] at hmg
  cases hmg
  have hfn : (cxt L.P (k + 1)).call "law" = runF (cxt L.P k) x.fn := by
    funext vs S
    show (match L.P.fns.lookup ("law" : Str) with | some fn => _ | none => _) = _
    rw [ok.fns, hlk]
  have hps2 := hps x hx
  rw [e1, hps2] at dk
  rw [hps2] at hb
  refine ⟨K, fd, spD (L.W K) (runF (cxt L.P k) x.fn), KX, fun s u => hb s [u] rfl, fun H a ns hl hO hS => ?_, fun base _ _ => ((site_ok Z k _ _ _ _ dk).more hr).top⟩
  obtain ⟨S', h1⟩ := ev ns hl
  rw [hfn] at h1
  have lit : LitAt (L.W K) H a (ns.map V.int) := by
    rcases hS with (hS | ⟨o, hS⟩) | hS
    · rcases hO a with z | ⟨o, xs, z⟩
      · rw [z] at hS
        cases hS
      · rw [z] at hS
        cases hS
    · exact .inl ⟨o, hS⟩
    · exact .inr (.inr hS)
  exact ⟨[], [], _, _, S', rep_nil, .cons (.lit lit (ints_vr ns)) .nil, h1, fun y H' m' _ _ v => vr_bl v⟩
end Mi
set_option Elab.async false
set_option linter.all false
set_option maxRecDepth 100000
namespace K11
open PySem L2 Mi

/-! inner: e, kind, _, branch -/
def b_inner_1t : Sms := .cons (.ret (.lst .nil)) .nil
def b_inner_2t : Sms := .cons (.ret (.lst (.cons (.sub (.var 0) (.int 2)) (.cons (.sub (.var 0) (.int 3)) .nil)))) .nil
def b_inner_3t : Sms := .cons (.ret (.lst (.cons (.sub (.var 0) (.int 2)) (.cons (.sub (.var 0) (.int 3)) (.cons (.sub (.var 0) (.int 4)) .nil))))) .nil
def b_inner_4t : Sms := .cons (.ret (.lst (.cons (.sub (.var 0) (.int 2)) (.cons (.sub (.var 0) (.int 3)) .nil)))) .nil
def b_inner_5t : Sms := .cons (.ret (.bin .Add (.lc (.tp [2, 3]) (.seq (.sub (.var 0) (.int 2))) .nop (.var 3) [2, 3]) (.lst (.cons (.sub (.var 0) (.int 3)) .nil)))) .nil
def b_inner_6 : Sms := .cons (.ret (.lst (.cons (.sub (.var 0) (.neg (.int 1))) .nil))) .nil
def b_inner_5 : Sms := .cons (.ifs (.cmp .Eq (.var 1) (.str "switch")) b_inner_5t .nil) b_inner_6
def b_inner_4 : Sms := .cons (.ifs (.cmp .In (.var 1) (.tup (.cons (.str "let") (.cons (.str "delay") .nil)))) b_inner_4t .nil) b_inner_5
def b_inner_3 : Sms := .cons (.ifs (.cmp .Eq (.var 1) (.str "if")) b_inner_3t .nil) b_inner_4
def b_inner_2 : Sms := .cons (.ifs (.cmp .In (.var 1) (.tup (.cons (.str "call") (.cons (.str "sum") (.cons (.str "less") .nil))))) b_inner_2t .nil) b_inner_3
def b_inner_1 : Sms := .cons (.ifs (.cmp .In (.var 1) (.tup (.cons (.str "num") (.cons (.str "name") (.cons (.str "force") (.cons (.str "put") .nil)))))) b_inner_1t .nil) b_inner_2
def b_inner : Sms := .cons (.asg (.nm 1) (.sub (.var 0) (.int 0))) b_inner_1
def fn_inner : Fn := ⟨1, 4, b_inner⟩

/-! plain_size: plain, count, left, one -/
def b_plain_size_2b_2 : Sms := .cons (.exp (.bm .extend (.var 2) (.cons (.call "inner" (.cons (.var 3) .nil)) .nil))) .nil
def b_plain_size_2b_1 : Sms := .cons (.aug 1 .Add (.int 1)) b_plain_size_2b_2
def b_plain_size_2b : Sms := .cons (.asg (.nm 3) (.bm .pop (.var 2) .nil)) b_plain_size_2b_1
def b_plain_size_3 : Sms := .cons (.ret (.var 1)) .nil
def b_plain_size_2 : Sms := .cons (.whl (.var 2) b_plain_size_2b) b_plain_size_3
def b_plain_size_1 : Sms := .cons (.asg (.nm 2) (.lst (.cons (.var 0) .nil))) b_plain_size_2
def b_plain_size : Sms := .cons (.asg (.nm 1) (.int 0)) b_plain_size_1
def fn_plain_size : Fn := ⟨1, 4, b_plain_size⟩

/-! shown: value -/
def b_shown : Sms := .cons (.ret (.ife (.isi (.var 0) .int) (.var 0) (.tup (.cons (.str "fn") (.cons (.sub (.var 0) (.int 1)) .nil))))) .nil
def fn_shown : Fn := ⟨1, 1, b_shown⟩

/-! find: link, name -/
def b_find_0b : Sms := .cons (.asg (.nm 0) (.fld (.var 0) "outer")) .nil
def b_find_1 : Sms := .cons (.ret (.fld (.var 0) "value")) .nil
def b_find : Sms := .cons (.whl (.cmp .NotEq (.fld (.var 0) "name") (.var 1)) b_find_0b) b_find_1
def fn_find : Fn := ⟨2, 2, b_find⟩

/-! with_name: names, x, value -/
def b_with_name : Sms := .cons (.ret (.tup (.cons (.make "Link" (.cons (.var 1) (.cons (.var 2) (.cons (.sub (.var 0) (.int 0)) .nil)))) (.cons (.sub (.var 0) (.int 1)) .nil)))) .nil
def fn_with_name : Fn := ⟨3, 3, b_with_name⟩

/-! chosen: e, number, other, branch -/
def b_chosen_0b_0t : Sms := .cons (.ret (.var 3)) .nil
def b_chosen_0b : Sms := .cons (.ifs (.cmp .Eq (.var 2) (.var 1)) b_chosen_0b_0t .nil) .nil
def b_chosen_1 : Sms := .cons (.ret (.sub (.var 0) (.int 3))) .nil
def b_chosen : Sms := .cons (.for_ (.tp [2, 3]) (.seq (.sub (.var 0) (.int 2))) b_chosen_0b) b_chosen_1
def fn_chosen : Fn := ⟨2, 4, b_chosen⟩

/-! run_plain: plain, fuel, run -/
def b_run_plain_2 : Sms := .cons (.ret (.tup (.cons (.bf .tuple (.cons (.fld (.var 2) "outputs") .nil)) (.cons (.fld (.var 2) "end") .nil)))) .nil
def b_run_plain_1 : Sms := .cons (.exp (.meth "run" (.var 2) .nil)) b_run_plain_2
def b_run_plain : Sms := .cons (.asg (.nm 2) (.make "PlainRun" (.cons (.var 0) (.cons (.var 1) .nil)))) b_run_plain_1
def fn_run_plain : Fn := ⟨2, 3, b_run_plain⟩

/-! _law_start: _law_script, _law_cell -/
def b_law_start : Sms := .cons (.ret (.lst (.cons (.lc (.nm 1) (.seq (.slc (.var 0) .nop (.int 63))) .nop (.bf .int (.cons (.var 1) .nil)) [1]) (.cons (.int 0) (.cons (.int 0) (.cons (.int 0) (.cons (.int 20) (.cons (.lst .nil) .nil)))))))) .nil
def fn_law_start : Fn := ⟨1, 2, b_law_start⟩

/-! _law_fill: _law_c, _law_number -/
def b_law_fill_2t_2t : Sms := .cons (.asg (.nm 1) (.bin .Sub (.bin .Sub (.int 0) (.int 1)) (.var 1))) .nil
def b_law_fill_2t_3t : Sms := .cons (.ret (.var 1)) .nil
def b_law_fill_2t_3 : Sms := .cons (.ifs (.cmp .GtE (.var 1) (.bin .Pow (.int 10) (.int 18))) b_law_fill_2t_3t .nil) .nil
def b_law_fill_2t_2 : Sms := .cons (.ifs (.cmp .Lt (.var 1) (.int 0)) b_law_fill_2t_2t .nil) b_law_fill_2t_3
def b_law_fill_2t_1 : Sms := .cons (.asg (.sub (.var 0) (.int 1)) (.bin .Add (.sub (.var 0) (.int 1)) (.int 1))) b_law_fill_2t_2
def b_law_fill_2t : Sms := .cons (.asg (.nm 1) (.sub (.sub (.var 0) (.int 0)) (.sub (.var 0) (.int 1)))) b_law_fill_2t_1
def b_law_fill_3t : Sms := .cons (.asg (.nm 1) (.bin .Add (.var 1) (.bin .Mod (.bf .int (.cons (.sub (.sub (.var 0) (.int 0)) (.neg (.int 1))) .nil)) (.int 1000003)))) .nil
def b_law_fill_5 : Sms := .cons (.ret (.bin .Add (.bin .Mod (.bf .int (.cons (.bin .Add (.bin .Add (.bin .Mult (.var 1) (.var 1)) (.bin .Mult (.sub (.var 0) (.int 3)) (.int 7919))) (.int 11)) .nil)) (.int 2305843009213693951)) (.int 2305843009213693951))) .nil
def b_law_fill_4 : Sms := .cons (.asg (.nm 1) (.bin .Mod (.bf .int (.cons (.bin .Add (.bin .Mult (.var 1) (.int 48271)) (.bin .Mult (.sub (.var 0) (.int 3)) (.int 69621))) .nil)) (.int 2147483647))) b_law_fill_5
def b_law_fill_3 : Sms := .cons (.ifs (.and (.cons (.sub (.var 0) (.int 0)) (.cons (.cmp .GtE (.sub (.var 0) (.int 1)) (.bf .len (.cons (.sub (.var 0) (.int 0)) .nil))) .nil))) b_law_fill_3t .nil) b_law_fill_4
def b_law_fill_2 : Sms := .cons (.ifs (.cmp .Lt (.sub (.var 0) (.int 1)) (.bf .len (.cons (.sub (.var 0) (.int 0)) .nil))) b_law_fill_2t .nil) b_law_fill_3
def b_law_fill_1 : Sms := .cons (.asg (.nm 1) (.bin .Add (.bin .Mult (.sub (.var 0) (.int 3)) (.int 69621)) (.int 12345))) b_law_fill_2
def b_law_fill : Sms := .cons (.asg (.sub (.var 0) (.int 3)) (.bin .Add (.sub (.var 0) (.int 3)) (.int 1))) b_law_fill_1
def fn_law_fill : Fn := ⟨1, 2, b_law_fill⟩

/-! _law_take: _law_c, _law_many, _law_digit -/
def b_law_take_0t : Sms := .cons (.asg (.sub (.var 0) (.int 2)) (.call "_law_fill" (.cons (.var 0) .nil))) .nil
def b_law_take_3 : Sms := .cons (.ret (.var 2)) .nil
def b_law_take_2 : Sms := .cons (.asg (.sub (.var 0) (.int 2)) (.bin .FloorDiv (.sub (.var 0) (.int 2)) (.var 1))) b_law_take_3
def b_law_take_1 : Sms := .cons (.asg (.nm 2) (.bin .Mod (.bf .int (.cons (.sub (.var 0) (.int 2)) .nil)) (.var 1))) b_law_take_2
def b_law_take : Sms := .cons (.ifs (.cmp .Lt (.sub (.var 0) (.int 2)) (.var 1)) b_law_take_0t .nil) b_law_take_1
def fn_law_take : Fn := ⟨2, 3, b_law_take⟩

/-! _law_string: _law_c -/
def b_law_string : Sms := .cons (.ret (.sub (.lst (.cons (.str "x") (.cons (.str "y") (.cons (.str "X") (.cons (.str "x.1") (.cons (.str "v 2") (.cons (.str "") (.cons (.str " x") (.cons (.str "aaaaaaaaaaaaaaaa1") (.cons (.str "aaaaaaaaaaaaaaaa2") .nil)))))))))) (.call "_law_take" (.cons (.var 0) (.cons (.int 9) .nil))))) .nil
def fn_law_string : Fn := ⟨1, 1, b_law_string⟩

/-! _law_rank: _law_c -/
def b_law_rank : Sms := .cons (.ret (.sub (.lst (.cons (.int 0) (.cons (.int 0) (.cons (.int 1) (.cons (.int 2) (.cons (.int 0) (.cons (.int 1) (.cons (.int 2) (.cons (.bin .Add (.int 4) (.call "_law_take" (.cons (.var 0) (.cons (.bin .Pow (.int 10) (.int 6)) .nil)))) .nil))))))))) (.call "_law_take" (.cons (.var 0) (.cons (.int 8) .nil))))) .nil
def fn_law_rank : Fn := ⟨1, 1, b_law_rank⟩

/-! _law_unasked: _law_c, _law_names, _law_later, _law_depth, _law_free, _law_body -/
def b_law_unasked_2t : Sms := .cons (.ret (.tup (.cons (.str "delay") (.cons (.str "never") (.cons (.var 4) (.cons (.var 5) .nil)))))) .nil
def b_law_unasked_3t : Sms := .cons (.ret (.tup (.cons (.str "if") (.cons (.int 0) (.cons (.tup (.cons (.str "num") (.cons (.bin .Add (.int 1) (.call "_law_take" (.cons (.var 0) (.cons (.int 9) .nil)))) .nil))) (.cons (.var 5) (.cons (.var 4) .nil))))))) .nil
def b_law_unasked_4 : Sms := .cons (.ret (.tup (.cons (.str "switch") (.cons (.int 1000003) (.cons (.tup (.cons (.tup (.cons (.int 7) (.cons (.var 4) .nil))) (.cons (.tup (.cons (.int 3) (.cons (.var 4) .nil))) .nil))) (.cons (.var 5) .nil)))))) .nil
def b_law_unasked_3 : Sms := .cons (.ifs (.cmp .Eq (.call "_law_take" (.cons (.var 0) (.cons (.int 2) .nil))) (.int 0)) b_law_unasked_3t .nil) b_law_unasked_4
def b_law_unasked_2 : Sms := .cons (.ifs (.cmp .Eq (.call "_law_take" (.cons (.var 0) (.cons (.int 2) .nil))) (.int 0)) b_law_unasked_2t .nil) b_law_unasked_3
def b_law_unasked_1 : Sms := .cons (.asg (.nm 5) (.call "_law_drawn" (.cons (.var 0) (.cons (.var 1) (.cons (.var 2) (.cons (.var 3) .nil)))))) b_law_unasked_2
def b_law_unasked : Sms := .cons (.asg (.nm 4) (.sub (.lst (.cons (.tup (.cons (.str "name") (.cons (.str "free") .nil))) (.cons (.tup (.cons (.str "force") (.cons (.str "free") .nil))) (.cons (.tup (.cons (.str "sum") (.cons (.int 0) (.cons (.tup (.cons (.str "name") (.cons (.str "free") .nil))) (.cons (.tup (.cons (.str "num") (.cons (.int 1) .nil))) .nil))))) (.cons (.tup (.cons (.str "fn") (.cons (.int 1) (.cons (.str "x") (.cons (.tup (.cons (.str "force") (.cons (.str "free") .nil))) .nil))))) .nil))))) (.call "_law_take" (.cons (.var 0) (.cons (.int 4) .nil))))) b_law_unasked_1
def fn_law_unasked : Fn := ⟨4, 6, b_law_unasked⟩

/-! _law_rows: _law_c, _law_names, _law_later, _law_depth, _law_number, _law_rows_here, _law_j -/
def b_law_rows_2b_1 : Sms := .cons (.asg (.nm 4) (.bin .Add (.bin .Add (.var 4) (.int 1)) (.call "_law_take" (.cons (.var 0) (.cons (.int 2) .nil))))) .nil
def b_law_rows_2b : Sms := .cons (.exp (.bm .append (.var 5) (.cons (.tup (.cons (.var 4) (.cons (.call "_law_drawn" (.cons (.var 0) (.cons (.var 1) (.cons (.var 2) (.cons (.var 3) .nil))))) .nil))) .nil))) b_law_rows_2b_1
def b_law_rows_3t : Sms := .cons (.asg (.nm 5) (.rev (.var 5))) .nil
def b_law_rows_4 : Sms := .cons (.ret (.bf .tuple (.cons (.var 5) .nil))) .nil
def b_law_rows_3 : Sms := .cons (.ifs (.cmp .Eq (.call "_law_take" (.cons (.var 0) (.cons (.int 2) .nil))) (.int 0)) b_law_rows_3t .nil) b_law_rows_4
def b_law_rows_2 : Sms := .cons (.for_ (.nm 6) (.rng (.cons (.sub (.lst (.cons (.int 0) (.cons (.int 1) (.cons (.int 2) (.cons (.int 2) (.cons (.int 3) (.cons (.int 6) .nil))))))) (.call "_law_take" (.cons (.var 0) (.cons (.int 6) .nil)))) .nil)) b_law_rows_2b) b_law_rows_3
def b_law_rows_1 : Sms := .cons (.asg (.nm 5) (.lst .nil)) b_law_rows_2
def b_law_rows : Sms := .cons (.asg (.nm 4) (.bin .Add (.int 1) (.call "_law_take" (.cons (.var 0) (.cons (.int 2) .nil))))) b_law_rows_1
def fn_law_rows : Fn := ⟨4, 7, b_law_rows⟩

/-! _law_drawn: _law_c, _law_names, _law_later, _law_depth, _law_k, _law_value, _law_rows_here, _law_x, _law_level, _law_a, _law_b, _law_s, _law_number -/
def b_law_drawn_2t_2 : Sms := .cons (.ret (.sub (.var 6) (.call "_law_take" (.cons (.var 0) (.cons (.bf .len (.cons (.var 6) .nil)) .nil))))) .nil
def b_law_drawn_2t_1 : Sms := .cons (.asg (.nm 6) (.bin .Add (.bin .Add (.lst (.cons (.tup (.cons (.str "num") (.cons (.var 5) .nil))) .nil)) (.lc (.nm 7) (.seq (.slc (.var 1) (.neg (.int 2)) .nop)) .nop (.tup (.cons (.str "name") (.cons (.var 7) .nil))) [7])) (.lc (.nm 7) (.seq (.slc (.var 2) (.neg (.int 2)) .nop)) .nop (.tup (.cons (.str "force") (.cons (.var 7) .nil))) [7]))) b_law_drawn_2t_2
def b_law_drawn_2t : Sms := .cons (.asg (.nm 5) (.sub (.lst (.cons (.bin .Sub (.call "_law_take" (.cons (.var 0) (.cons (.int 4) .nil))) (.int 1)) (.cons (.bin .Sub (.call "_law_take" (.cons (.var 0) (.cons (.int 4) .nil))) (.int 1)) (.cons (.bin .Sub (.call "_law_take" (.cons (.var 0) (.cons (.int 2000001) .nil))) (.int 1000000)) .nil)))) (.call "_law_take" (.cons (.var 0) (.cons (.int 3) .nil))))) b_law_drawn_2t_1
def b_law_drawn_5t : Sms := .cons (.ret (.tup (.cons (.str "call") (.cons (.var 8) (.cons (.tup (.cons (.str "fn") (.cons (.var 8) (.cons (.var 7) (.cons (.call "_law_drawn" (.cons (.var 0) (.cons (.bin .Add (.var 1) (.lst (.cons (.var 7) .nil))) (.cons (.var 2) (.cons (.bin .Sub (.var 3) (.int 1)) .nil))))) .nil))))) (.cons (.call "_law_drawn" (.cons (.var 0) (.cons (.var 1) (.cons (.var 2) (.cons (.bin .Sub (.var 3) (.int 1)) .nil))))) .nil)))))) .nil
def b_law_drawn_6t_1 : Sms := .cons (.ret (.tup (.cons (.sub (.lst (.cons (.str "call") (.cons (.str "sum") (.cons (.str "less") .nil)))) (.bin .Sub (.var 4) (.int 2))) (.cons (.var 8) (.cons (.var 9) (.cons (.call "_law_drawn" (.cons (.var 0) (.cons (.var 1) (.cons (.var 2) (.cons (.bin .Sub (.var 3) (.int 1)) .nil))))) .nil)))))) .nil
def b_law_drawn_6t : Sms := .cons (.asg (.nm 9) (.call "_law_drawn" (.cons (.var 0) (.cons (.var 1) (.cons (.var 2) (.cons (.bin .Sub (.var 3) (.int 1)) .nil)))))) b_law_drawn_6t_1
def b_law_drawn_7t : Sms := .cons (.ret (.tup (.cons (.str "fn") (.cons (.var 8) (.cons (.var 7) (.cons (.call "_law_drawn" (.cons (.var 0) (.cons (.bin .Add (.var 1) (.lst (.cons (.var 7) .nil))) (.cons (.var 2) (.cons (.bin .Sub (.var 3) (.int 1)) .nil))))) .nil)))))) .nil
def b_law_drawn_8t_2 : Sms := .cons (.ret (.tup (.cons (.str "if") (.cons (.var 8) (.cons (.var 9) (.cons (.var 10) (.cons (.call "_law_drawn" (.cons (.var 0) (.cons (.var 1) (.cons (.var 2) (.cons (.bin .Sub (.var 3) (.int 1)) .nil))))) .nil))))))) .nil
def b_law_drawn_8t_1 : Sms := .cons (.asg (.nm 10) (.call "_law_drawn" (.cons (.var 0) (.cons (.var 1) (.cons (.var 2) (.cons (.bin .Sub (.var 3) (.int 1)) .nil)))))) b_law_drawn_8t_2
def b_law_drawn_8t : Sms := .cons (.asg (.nm 9) (.call "_law_drawn" (.cons (.var 0) (.cons (.var 1) (.cons (.var 2) (.cons (.bin .Sub (.var 3) (.int 1)) .nil)))))) b_law_drawn_8t_1
def b_law_drawn_9t : Sms := .cons (.ret (.tup (.cons (.str "let") (.cons (.var 7) (.cons (.call "_law_drawn" (.cons (.var 0) (.cons (.var 1) (.cons (.var 2) (.cons (.bin .Sub (.var 3) (.int 1)) .nil))))) (.cons (.call "_law_drawn" (.cons (.var 0) (.cons (.bin .Add (.var 1) (.lst (.cons (.var 7) .nil))) (.cons (.var 2) (.cons (.bin .Sub (.var 3) (.int 1)) .nil))))) .nil)))))) .nil
def b_law_drawn_10t : Sms := .cons (.ret (.tup (.cons (.str "say") (.cons (.var 8) (.cons (.call "_law_drawn" (.cons (.var 0) (.cons (.var 1) (.cons (.var 2) (.cons (.bin .Sub (.var 3) (.int 1)) .nil))))) .nil))))) .nil
def b_law_drawn_11t : Sms := .cons (.ret (.tup (.cons (.str "delay") (.cons (.var 7) (.cons (.call "_law_drawn" (.cons (.var 0) (.cons (.var 1) (.cons (.var 2) (.cons (.bin .Sub (.var 3) (.int 1)) .nil))))) (.cons (.call "_law_drawn" (.cons (.var 0) (.cons (.var 1) (.cons (.bin .Add (.var 2) (.lst (.cons (.var 7) .nil))) (.cons (.bin .Sub (.var 3) (.int 1)) .nil))))) .nil)))))) .nil
def b_law_drawn_12t : Sms := .cons (.ret (.tup (.cons (.str "tick") (.cons (.call "_law_drawn" (.cons (.var 0) (.cons (.var 1) (.cons (.var 2) (.cons (.bin .Sub (.var 3) (.int 1)) .nil))))) .nil)))) .nil
def b_law_drawn_13t : Sms := .cons (.ret (.call "_law_unasked" (.cons (.var 0) (.cons (.var 1) (.cons (.var 2) (.cons (.bin .Sub (.var 3) (.int 1)) .nil)))))) .nil
def b_law_drawn_15t_1 : Sms := .cons (.ret (.tup (.cons (.str "switch") (.cons (.var 11) (.cons (.var 6) (.cons (.call "_law_drawn" (.cons (.var 0) (.cons (.var 1) (.cons (.var 2) (.cons (.bin .Sub (.var 3) (.int 1)) .nil))))) .nil)))))) .nil
def b_law_drawn_15t : Sms := .cons (.asg (.nm 6) (.call "_law_rows" (.cons (.var 0) (.cons (.var 1) (.cons (.var 2) (.cons (.bin .Sub (.var 3) (.int 1)) .nil)))))) b_law_drawn_15t_1
def b_law_drawn_17t : Sms := .cons (.ret (.tup (.cons (.str "let") (.cons (.var 7) (.cons (.tup (.cons (.str "put") (.cons (.var 11) (.cons (.var 12) .nil)))) (.cons (.call "_law_drawn" (.cons (.var 0) (.cons (.bin .Add (.var 1) (.lst (.cons (.var 7) .nil))) (.cons (.var 2) (.cons (.bin .Sub (.var 3) (.int 1)) .nil))))) .nil)))))) .nil
def b_law_drawn_18 : Sms := .cons (.ret (.tup (.cons (.str "set") (.cons (.var 11) (.cons (.var 12) (.cons (.call "_law_drawn" (.cons (.var 0) (.cons (.var 1) (.cons (.var 2) (.cons (.bin .Sub (.var 3) (.int 1)) .nil))))) .nil)))))) .nil
def b_law_drawn_17 : Sms := .cons (.ifs (.cmp .Eq (.var 4) (.int 15)) b_law_drawn_17t .nil) b_law_drawn_18
def b_law_drawn_16 : Sms := .cons (.asg (.nm 12) (.sub (.lst (.cons (.call "_law_take" (.cons (.var 0) (.cons (.int 5) .nil))) (.cons (.call "_law_take" (.cons (.var 0) (.cons (.int 5) .nil))) (.cons (.bin .Pow (.int 10) (.int 12)) .nil)))) (.call "_law_take" (.cons (.var 0) (.cons (.int 3) .nil))))) b_law_drawn_17
def b_law_drawn_15 : Sms := .cons (.ifs (.cmp .Lt (.var 4) (.int 15)) b_law_drawn_15t .nil) b_law_drawn_16
def b_law_drawn_14 : Sms := .cons (.asg (.nm 11) (.sub (.lst (.cons (.bin .Add (.bin .Mult (.call "_law_take" (.cons (.var 0) (.cons (.int 3) .nil))) (.int 9)) (.call "_law_take" (.cons (.var 0) (.cons (.int 2) .nil)))) (.cons (.bin .Add (.bin .Pow (.int 10) (.int 9)) (.int 7)) .nil))) (.bf .int (.cons (.cmp .Eq (.call "_law_take" (.cons (.var 0) (.cons (.int 5) .nil))) (.int 0)) .nil)))) b_law_drawn_15
def b_law_drawn_13 : Sms := .cons (.ifs (.cmp .Eq (.var 4) (.int 18)) b_law_drawn_13t .nil) b_law_drawn_14
def b_law_drawn_12 : Sms := .cons (.ifs (.cmp .Eq (.var 4) (.int 12)) b_law_drawn_12t .nil) b_law_drawn_13
def b_law_drawn_11 : Sms := .cons (.ifs (.cmp .Lt (.var 4) (.int 12)) b_law_drawn_11t .nil) b_law_drawn_12
def b_law_drawn_10 : Sms := .cons (.ifs (.cmp .Eq (.var 4) (.int 9)) b_law_drawn_10t .nil) b_law_drawn_11
def b_law_drawn_9 : Sms := .cons (.ifs (.cmp .Lt (.var 4) (.int 9)) b_law_drawn_9t .nil) b_law_drawn_10
def b_law_drawn_8 : Sms := .cons (.ifs (.cmp .Eq (.var 4) (.int 6)) b_law_drawn_8t .nil) b_law_drawn_9
def b_law_drawn_7 : Sms := .cons (.ifs (.cmp .Eq (.var 4) (.int 5)) b_law_drawn_7t .nil) b_law_drawn_8
def b_law_drawn_6 : Sms := .cons (.ifs (.cmp .Lt (.var 4) (.int 5)) b_law_drawn_6t .nil) b_law_drawn_7
def b_law_drawn_5 : Sms := .cons (.ifs (.cmp .Eq (.var 4) (.int 2)) b_law_drawn_5t .nil) b_law_drawn_6
def b_law_drawn_4 : Sms := .cons (.asg (.nm 7) (.call "_law_string" (.cons (.var 0) .nil))) b_law_drawn_5
def b_law_drawn_3 : Sms := .cons (.asg (.nm 8) (.call "_law_rank" (.cons (.var 0) .nil))) b_law_drawn_4
def b_law_drawn_2 : Sms := .cons (.ifs (.or (.cons (.cmp .Lt (.var 3) (.int 1)) (.cons (.cmp .Lt (.sub (.var 0) (.int 4)) (.int 1)) (.cons (.cmp .Lt (.var 4) (.int 2)) .nil)))) b_law_drawn_2t .nil) b_law_drawn_3
def b_law_drawn_1 : Sms := .cons (.asg (.nm 4) (.call "_law_take" (.cons (.var 0) (.cons (.int 19) .nil)))) b_law_drawn_2
def b_law_drawn : Sms := .cons (.asg (.sub (.var 0) (.int 4)) (.bin .Sub (.sub (.var 0) (.int 4)) (.int 1))) b_law_drawn_1
def fn_law_drawn : Fn := ⟨4, 13, b_law_drawn⟩

/-! _law_bad: _law_value -/
def b_law_bad : Sms := .cons (.ret (.and (.cons (.isi (.var 0) .tup) (.cons (.cmp .Eq (.sub (.sub (.var 0) (.int 0)) (.int 0)) (.str "!")) .nil)))) .nil
def fn_law_bad : Fn := ⟨1, 1, b_law_bad⟩

/-! _law_shown: _law_value -/
def b_law_shown_0t : Sms := .cons (.ret (.var 0)) .nil
def b_law_shown_1 : Sms := .cons (.ret (.tup (.cons (.str "fn") (.cons (.sub (.var 0) (.int 1)) .nil)))) .nil
def b_law_shown : Sms := .cons (.ifs (.isi (.var 0) .int) b_law_shown_0t .nil) b_law_shown_1
def fn_law_shown : Fn := ⟨1, 1, b_law_shown⟩

/-! _law_with: _law_env, _law_x, _law_value, _law_made -/
def b_law_with_2 : Sms := .cons (.ret (.var 3)) .nil
def b_law_with_1 : Sms := .cons (.asg (.sub (.var 3) (.var 1)) (.var 2)) b_law_with_2
def b_law_with : Sms := .cons (.asg (.nm 3) (.bf .dict (.cons (.var 0) .nil))) b_law_with_1
def fn_law_with : Fn := ⟨3, 4, b_law_with⟩

/-! _law_walk: _law_e, _law_env, _law_later, _law_st, _law_kind, _law_one, _law_switches, _law_before, _law_value, _law_found, _law_number, _law_branch, _law_first, _law_second -/
def b_law_walk_1t : Sms := .cons (.ret (.sub (.var 0) (.int 1))) .nil
def b_law_walk_2t : Sms := .cons (.ret (.sub (.var 1) (.sub (.var 0) (.int 1)))) .nil
def b_law_walk_3t_1 : Sms := .cons (.ret (.call "_law_walk" (.cons (.sub (.var 5) (.int 0)) (.cons (.sub (.var 5) (.int 1)) (.cons (.sub (.var 5) (.int 2)) (.cons (.var 3) .nil)))))) .nil
def b_law_walk_3t : Sms := .cons (.asg (.nm 5) (.sub (.var 2) (.sub (.var 0) (.int 1)))) b_law_walk_3t_1
def b_law_walk_4t : Sms := .cons (.ret (.call "_law_walk" (.cons (.sub (.var 0) (.int 3)) (.cons (.var 1) (.cons (.call "_law_with" (.cons (.var 2) (.cons (.sub (.var 0) (.int 1)) (.cons (.tup (.cons (.sub (.var 0) (.int 2)) (.cons (.var 1) (.cons (.var 2) .nil)))) .nil)))) (.cons (.var 3) .nil)))))) .nil
def b_law_walk_5t : Sms := .cons (.ret (.tup (.cons (.str "fn") (.cons (.sub (.var 0) (.int 1)) (.cons (.sub (.var 0) (.int 2)) (.cons (.sub (.var 0) (.int 3)) (.cons (.var 1) (.cons (.var 2) .nil)))))))) .nil
def b_law_walk_7t_1 : Sms := .cons (.ret (.int 0)) .nil
def b_law_walk_7t : Sms := .cons (.asg (.sub (.var 6) (.sub (.var 0) (.int 1))) (.sub (.var 0) (.int 2))) b_law_walk_7t_1
def b_law_walk_8t_3t : Sms := .cons (.asg (.sub (.var 6) (.sub (.var 0) (.int 1))) (.var 7)) .nil
def b_law_walk_8t_4 : Sms := .cons (.ret (.var 8)) .nil
def b_law_walk_8t_3 : Sms := .cons (.ifs (.not (.call "_law_bad" (.cons (.var 8) .nil))) b_law_walk_8t_3t .nil) b_law_walk_8t_4
def b_law_walk_8t_2 : Sms := .cons (.asg (.nm 8) (.call "_law_walk" (.cons (.sub (.var 0) (.int 3)) (.cons (.var 1) (.cons (.var 2) (.cons (.var 3) .nil)))))) b_law_walk_8t_3
def b_law_walk_8t_1 : Sms := .cons (.asg (.sub (.var 6) (.sub (.var 0) (.int 1))) (.sub (.var 0) (.int 2))) b_law_walk_8t_2
def b_law_walk_8t : Sms := .cons (.asg (.nm 7) (.bm .get2 (.var 6) (.cons (.sub (.var 0) (.int 1)) (.cons (.int 0) .nil)))) b_law_walk_8t_1
def b_law_walk_9t_1 : Sms := .cons (.ret (.call "_law_walk" (.cons (.sub (.var 9) (.int 0)) (.cons (.var 1) (.cons (.var 2) (.cons (.var 3) .nil)))))) .nil
def b_law_walk_9t : Sms := .cons (.asg (.nm 9) (.bin .Add (.lc (.tp [10, 11]) (.seq (.sub (.var 0) (.int 2))) (.cmp .Eq (.var 10) (.bm .get2 (.var 6) (.cons (.sub (.var 0) (.int 1)) (.cons (.int 0) .nil)))) (.var 11) [10, 11]) (.lst (.cons (.sub (.var 0) (.int 3)) .nil)))) b_law_walk_9t_1
def b_law_walk_10t_1t : Sms := .cons (.ret (.tup (.cons (.str "!more") .nil))) .nil
def b_law_walk_10t_2 : Sms := .cons (.ret (.call "_law_walk" (.cons (.sub (.var 0) (.int 1)) (.cons (.var 1) (.cons (.var 2) (.cons (.var 3) .nil)))))) .nil
def b_law_walk_10t_1 : Sms := .cons (.ifs (.cmp .Lt (.sub (.var 3) (.int 0)) (.int 0)) b_law_walk_10t_1t .nil) b_law_walk_10t_2
def b_law_walk_10t : Sms := .cons (.asg (.sub (.var 3) (.int 0)) (.bin .Sub (.sub (.var 3) (.int 0)) (.int 1))) b_law_walk_10t_1
def b_law_walk_11t_1t : Sms := .cons (.ret (.var 8)) .nil
def b_law_walk_11t_2 : Sms := .cons (.ret (.call "_law_walk" (.cons (.sub (.var 0) (.int 3)) (.cons (.call "_law_with" (.cons (.var 1) (.cons (.sub (.var 0) (.int 1)) (.cons (.var 8) .nil)))) (.cons (.var 2) (.cons (.var 3) .nil)))))) .nil
def b_law_walk_11t_1 : Sms := .cons (.ifs (.call "_law_bad" (.cons (.var 8) .nil)) b_law_walk_11t_1t .nil) b_law_walk_11t_2
def b_law_walk_11t : Sms := .cons (.asg (.nm 8) (.call "_law_walk" (.cons (.sub (.var 0) (.int 2)) (.cons (.var 1) (.cons (.var 2) (.cons (.var 3) .nil)))))) b_law_walk_11t_1
def b_law_walk_13t : Sms := .cons (.ret (.var 12)) .nil
def b_law_walk_14t_1 : Sms := .cons (.ret (.var 12)) .nil
def b_law_walk_14t : Sms := .cons (.exp (.bm .append (.sub (.var 3) (.int 1)) (.cons (.tup (.cons (.sub (.var 0) (.int 1)) (.cons (.call "_law_shown" (.cons (.var 12) .nil)) .nil))) .nil))) b_law_walk_14t_1
def b_law_walk_15t_0t : Sms := .cons (.ret (.tup (.cons (.str "!stuck") (.cons (.sub (.var 0) (.int 1)) .nil)))) .nil
def b_law_walk_15t_1 : Sms := .cons (.ret (.call "_law_walk" (.cons (.sub (.lst (.cons (.sub (.var 0) (.int 4)) (.cons (.sub (.var 0) (.int 3)) .nil))) (.bf .int (.cons (.cmp .NotEq (.var 12) (.int 0)) .nil))) (.cons (.var 1) (.cons (.var 2) (.cons (.var 3) .nil)))))) .nil
def b_law_walk_15t : Sms := .cons (.ifs (.not (.isi (.var 12) .int)) b_law_walk_15t_0t .nil) b_law_walk_15t_1
def b_law_walk_17t : Sms := .cons (.ret (.var 13)) .nil
def b_law_walk_18t_0t : Sms := .cons (.ret (.tup (.cons (.str "!stuck") (.cons (.sub (.var 0) (.int 1)) .nil)))) .nil
def b_law_walk_18t_2t : Sms := .cons (.ret (.tup (.cons (.str "!more") .nil))) .nil
def b_law_walk_18t_3 : Sms := .cons (.ret (.call "_law_walk" (.cons (.sub (.var 12) (.int 3)) (.cons (.call "_law_with" (.cons (.sub (.var 12) (.int 4)) (.cons (.sub (.var 12) (.int 2)) (.cons (.var 13) .nil)))) (.cons (.sub (.var 12) (.int 5)) (.cons (.var 3) .nil)))))) .nil
def b_law_walk_18t_2 : Sms := .cons (.ifs (.cmp .Lt (.sub (.var 3) (.int 0)) (.int 0)) b_law_walk_18t_2t .nil) b_law_walk_18t_3
def b_law_walk_18t_1 : Sms := .cons (.asg (.sub (.var 3) (.int 0)) (.bin .Sub (.sub (.var 3) (.int 0)) (.int 1))) b_law_walk_18t_2
def b_law_walk_18t : Sms := .cons (.ifs (.or (.cons (.isi (.var 12) .int) (.cons (.cmp .NotEq (.sub (.var 12) (.int 1)) (.sub (.var 0) (.int 1))) .nil))) b_law_walk_18t_0t .nil) b_law_walk_18t_1
def b_law_walk_19t : Sms := .cons (.ret (.tup (.cons (.str "!stuck") (.cons (.sub (.var 0) (.int 1)) .nil)))) .nil
def b_law_walk_20 : Sms := .cons (.ret (.sub (.lst (.cons (.bin .Add (.var 12) (.var 13)) (.cons (.bf .int (.cons (.cmp .Lt (.var 12) (.var 13)) .nil)) .nil))) (.bf .int (.cons (.cmp .Eq (.var 4) (.str "less")) .nil)))) .nil
def b_law_walk_19 : Sms := .cons (.ifs (.or (.cons (.not (.isi (.var 12) .int)) (.cons (.not (.isi (.var 13) .int)) .nil))) b_law_walk_19t .nil) b_law_walk_20
def b_law_walk_18 : Sms := .cons (.ifs (.cmp .Eq (.var 4) (.str "call")) b_law_walk_18t .nil) b_law_walk_19
def b_law_walk_17 : Sms := .cons (.ifs (.call "_law_bad" (.cons (.var 13) .nil)) b_law_walk_17t .nil) b_law_walk_18
def b_law_walk_16 : Sms := .cons (.asg (.nm 13) (.call "_law_walk" (.cons (.sub (.var 0) (.int 3)) (.cons (.var 1) (.cons (.var 2) (.cons (.var 3) .nil)))))) b_law_walk_17
def b_law_walk_15 : Sms := .cons (.ifs (.cmp .Eq (.var 4) (.str "if")) b_law_walk_15t .nil) b_law_walk_16
def b_law_walk_14 : Sms := .cons (.ifs (.cmp .Eq (.var 4) (.str "say")) b_law_walk_14t .nil) b_law_walk_15
def b_law_walk_13 : Sms := .cons (.ifs (.call "_law_bad" (.cons (.var 12) .nil)) b_law_walk_13t .nil) b_law_walk_14
def b_law_walk_12 : Sms := .cons (.asg (.nm 12) (.call "_law_walk" (.cons (.sub (.var 0) (.int 2)) (.cons (.var 1) (.cons (.var 2) (.cons (.var 3) .nil)))))) b_law_walk_13
def b_law_walk_11 : Sms := .cons (.ifs (.cmp .Eq (.var 4) (.str "let")) b_law_walk_11t .nil) b_law_walk_12
def b_law_walk_10 : Sms := .cons (.ifs (.cmp .Eq (.var 4) (.str "tick")) b_law_walk_10t .nil) b_law_walk_11
def b_law_walk_9 : Sms := .cons (.ifs (.cmp .Eq (.var 4) (.str "switch")) b_law_walk_9t .nil) b_law_walk_10
def b_law_walk_8 : Sms := .cons (.ifs (.cmp .Eq (.var 4) (.str "set")) b_law_walk_8t .nil) b_law_walk_9
def b_law_walk_7 : Sms := .cons (.ifs (.cmp .Eq (.var 4) (.str "put")) b_law_walk_7t .nil) b_law_walk_8
def b_law_walk_6 : Sms := .cons (.asg (.nm 6) (.sub (.var 3) (.int 2))) b_law_walk_7
def b_law_walk_5 : Sms := .cons (.ifs (.cmp .Eq (.var 4) (.str "fn")) b_law_walk_5t .nil) b_law_walk_6
def b_law_walk_4 : Sms := .cons (.ifs (.cmp .Eq (.var 4) (.str "delay")) b_law_walk_4t .nil) b_law_walk_5
def b_law_walk_3 : Sms := .cons (.ifs (.cmp .Eq (.var 4) (.str "force")) b_law_walk_3t .nil) b_law_walk_4
def b_law_walk_2 : Sms := .cons (.ifs (.cmp .Eq (.var 4) (.str "name")) b_law_walk_2t .nil) b_law_walk_3
def b_law_walk_1 : Sms := .cons (.ifs (.cmp .Eq (.var 4) (.str "num")) b_law_walk_1t .nil) b_law_walk_2
def b_law_walk : Sms := .cons (.asg (.nm 4) (.sub (.var 0) (.int 0))) b_law_walk_1
def fn_law_walk : Fn := ⟨4, 14, b_law_walk⟩

/-! _law_plain_run: _law_plain, _law_fuel, _law_st, _law_value, _law_end -/
def b_law_plain_run_2t_1t : Sms := .cons (.asg (.nm 4) (.tup (.cons (.str "stuck") (.cons (.sub (.var 3) (.int 1)) .nil)))) .nil
def b_law_plain_run_2t_2 : Sms := .cons (.ret (.tup (.cons (.bf .tuple (.cons (.sub (.var 2) (.int 1)) .nil)) (.cons (.var 4) .nil)))) .nil
def b_law_plain_run_2t_1 : Sms := .cons (.ifs (.cmp .Eq (.sub (.var 3) (.int 0)) (.str "!stuck")) b_law_plain_run_2t_1t .nil) b_law_plain_run_2t_2
def b_law_plain_run_2t : Sms := .cons (.asg (.nm 4) (.tup (.cons (.str "more") .nil))) b_law_plain_run_2t_1
def b_law_plain_run_3 : Sms := .cons (.ret (.tup (.cons (.bf .tuple (.cons (.sub (.var 2) (.int 1)) .nil)) (.cons (.tup (.cons (.str "value") (.cons (.call "_law_shown" (.cons (.var 3) .nil)) .nil))) .nil)))) .nil
def b_law_plain_run_2 : Sms := .cons (.ifs (.call "_law_bad" (.cons (.var 3) .nil)) b_law_plain_run_2t .nil) b_law_plain_run_3
def b_law_plain_run_1 : Sms := .cons (.asg (.nm 3) (.call "_law_walk" (.cons (.var 0) (.cons .dK (.cons .dK (.cons (.var 2) .nil)))))) b_law_plain_run_2
def b_law_plain_run : Sms := .cons (.asg (.nm 2) (.lst (.cons (.var 1) (.cons (.lst .nil) (.cons .dK .nil))))) b_law_plain_run_1
def fn_law_plain_run : Fn := ⟨2, 5, b_law_plain_run⟩

/-! _law_whole: _law_n -/
def b_law_whole : Sms := .cons (.ret (.and (.cons (.isi (.var 0) .int) (.cons (.not (.isi (.var 0) .bool)) .nil)))) .nil
def fn_law_whole : Fn := ⟨1, 1, b_law_whole⟩

/-! _law_is_shown: _law_x -/
def b_law_is_shown : Sms := .cons (.ret (.or (.cons (.call "_law_whole" (.cons (.var 0) .nil)) (.cons (.and (.cons (.isi (.var 0) .tup) (.cons (.cmp .Eq (.bf .len (.cons (.var 0) .nil)) (.int 2)) (.cons (.cmp .Eq (.sub (.var 0) (.int 0)) (.str "fn")) (.cons (.call "_law_whole" (.cons (.sub (.var 0) (.int 1)) .nil)) .nil))))) .nil)))) .nil
def fn_law_is_shown : Fn := ⟨1, 1, b_law_is_shown⟩

/-! _law_is_run: _law_told, _law_one -/
def b_law_is_run_0t : Sms := .cons (.ret (.bl false)) .nil
def b_law_is_run_1b_0t : Sms := .cons (.ret (.bl false)) .nil
def b_law_is_run_1b : Sms := .cons (.ifs (.or (.cons (.not (.isi (.var 1) .tup)) (.cons (.cmp .NotEq (.bf .len (.cons (.var 1) .nil)) (.int 2)) (.cons (.not (.call "_law_whole" (.cons (.sub (.var 1) (.int 0)) .nil))) (.cons (.not (.call "_law_is_shown" (.cons (.sub (.var 1) (.int 1)) .nil))) .nil))))) b_law_is_run_1b_0t .nil) .nil
def b_law_is_run_2 : Sms := .cons (.ret (.or (.cons (.cmp .NotEq (.sub (.sub (.var 0) (.int 1)) (.int 0)) (.str "value")) (.cons (.call "_law_is_shown" (.cons (.sub (.sub (.var 0) (.int 1)) (.int 1)) .nil)) .nil)))) .nil
def b_law_is_run_1 : Sms := .cons (.for_ (.nm 1) (.seq (.sub (.var 0) (.int 0))) b_law_is_run_1b) b_law_is_run_2
def b_law_is_run : Sms := .cons (.ifs (.or (.cons (.not (.isi (.var 0) .tup)) (.cons (.cmp .NotEq (.bf .len (.cons (.var 0) .nil)) (.int 2)) (.cons (.not (.isi (.sub (.var 0) (.int 0)) .tup)) (.cons (.not (.isi (.sub (.var 0) (.int 1)) .tup)) .nil))))) b_law_is_run_0t .nil) b_law_is_run_1
def fn_law_is_run : Fn := ⟨1, 2, b_law_is_run⟩

/-! _law_count: _law_e, _law_left, _law_total, _law_one, _law_number, _law_branch, _law_part -/
def b_law_count_2b_2t : Sms := .cons (.asg (.nm 1) (.bin .Add (.bin .Add (.var 1) (.lc (.tp [4, 5]) (.seq (.sub (.var 3) (.int 2))) .nop (.var 5) [4, 5])) (.lst (.cons (.sub (.var 3) (.int 3)) .nil)))) .nil
def b_law_count_2b_2e : Sms := .cons (.asg (.nm 1) (.bin .Add (.var 1) (.lc (.nm 6) (.seq (.slc (.var 3) (.int 1) .nop)) (.isi (.var 6) .tup) (.var 6) [6]))) .nil
def b_law_count_2b_2 : Sms := .cons (.ifs (.cmp .Eq (.sub (.var 3) (.int 0)) (.str "switch")) b_law_count_2b_2t b_law_count_2b_2e) .nil
def b_law_count_2b_1 : Sms := .cons (.asg (.nm 2) (.bin .Add (.var 2) (.int 1))) b_law_count_2b_2
def b_law_count_2b : Sms := .cons (.asg (.nm 3) (.bm .pop (.var 1) .nil)) b_law_count_2b_1
def b_law_count_3 : Sms := .cons (.ret (.var 2)) .nil
def b_law_count_2 : Sms := .cons (.whl (.var 1) b_law_count_2b) b_law_count_3
def b_law_count_1 : Sms := .cons (.asg (.nm 2) (.int 0)) b_law_count_2
def b_law_count : Sms := .cons (.asg (.nm 1) (.lst (.cons (.var 0) .nil))) b_law_count_1
def fn_law_count : Fn := ⟨1, 7, b_law_count⟩

/-! law: _law_script, _law_c, _law_plain, _law_fuel, _law_told -/
def b_law_5 : Sms := .cons (.ret (.and (.cons (.call "_law_is_run" (.cons (.var 4) .nil)) (.cons (.cmp .Eq (.var 4) (.call "_law_plain_run" (.cons (.var 2) (.cons (.var 3) .nil)))) (.cons (.cmp .Eq (.call "plain_size" (.cons (.var 2) .nil)) (.call "_law_count" (.cons (.var 2) .nil))) .nil))))) .nil
def b_law_4 : Sms := .cons (.asg (.nm 4) (.call "run_plain" (.cons (.var 2) (.cons (.var 3) .nil)))) b_law_5
def b_law_3 : Sms := .cons (.asg (.nm 3) (.sub (.lst (.cons (.int 24) (.cons (.call "_law_take" (.cons (.var 1) (.cons (.int 25) .nil))) (.cons (.call "_law_take" (.cons (.var 1) (.cons (.int 6) .nil))) .nil)))) (.call "_law_take" (.cons (.var 1) (.cons (.int 3) .nil))))) b_law_4
def b_law_2 : Sms := .cons (.asg (.nm 2) (.call "_law_drawn" (.cons (.var 1) (.cons (.lst .nil) (.cons (.lst .nil) (.cons (.bin .Add (.int 3) (.call "_law_take" (.cons (.var 1) (.cons (.int 4) .nil)))) .nil)))))) b_law_3
def b_law_1 : Sms := .cons (.asg (.sub (.var 1) (.int 4)) (.bin .Add (.int 16) (.call "_law_take" (.cons (.var 1) (.cons (.int 10) .nil))))) b_law_2
def b_law : Sms := .cons (.asg (.nm 1) (.call "_law_start" (.cons (.var 0) .nil))) b_law_1
def fn_law : Fn := ⟨1, 5, b_law⟩

/-! Link.__init__: self, name, value, outer -/
def b_Link_init_2 : Sms := .cons (.asg (.fld (.var 0) "outer") (.var 3)) .nil
def b_Link_init_1 : Sms := .cons (.asg (.fld (.var 0) "value") (.var 2)) b_Link_init_2
def b_Link_init : Sms := .cons (.asg (.fld (.var 0) "name") (.var 1)) b_Link_init_1
def fn_Link_init : Fn := ⟨4, 4, b_Link_init⟩

/-! PlainRun.__init__: self, plain, fuel -/
def b_PlainRun_init_6 : Sms := .cons (.asg (.fld (.var 0) "end") .non) .nil
def b_PlainRun_init_5 : Sms := .cons (.asg (.fld (.var 0) "outputs") (.lst .nil)) b_PlainRun_init_6
def b_PlainRun_init_4 : Sms := .cons (.asg (.fld (.var 0) "switches") .dK) b_PlainRun_init_5
def b_PlainRun_init_3 : Sms := .cons (.asg (.fld (.var 0) "waiting") (.lst .nil)) b_PlainRun_init_4
def b_PlainRun_init_2 : Sms := .cons (.asg (.fld (.var 0) "fuel") (.var 2)) b_PlainRun_init_3
def b_PlainRun_init_1 : Sms := .cons (.asg (.fld (.var 0) "names") (.tup (.cons .non (.cons .non .nil)))) b_PlainRun_init_2
def b_PlainRun_init : Sms := .cons (.asg (.fld (.var 0) "e") (.var 1)) b_PlainRun_init_1
def fn_PlainRun_init : Fn := ⟨3, 3, b_PlainRun_init⟩

/-! PlainRun.run: self, value -/
def b_PlainRun_run_0b_1b : Sms := .cons (.asg (.nm 1) (.meth "resume" (.var 0) (.cons (.var 1) .nil))) .nil
def b_PlainRun_run_0b_1 : Sms := .cons (.whl (.and (.cons (.cmp .IsNot (.var 1) .non) (.cons (.cmp .Is (.fld (.var 0) "end") .non) .nil))) b_PlainRun_run_0b_1b) .nil
def b_PlainRun_run_0b : Sms := .cons (.asg (.nm 1) (.meth "begin" (.var 0) .nil)) b_PlainRun_run_0b_1
def b_PlainRun_run : Sms := .cons (.whl (.cmp .Is (.fld (.var 0) "end") .non) b_PlainRun_run_0b) .nil
def fn_PlainRun_run : Fn := ⟨1, 2, b_PlainRun_run⟩

/-! PlainRun.go: self, e, names -/
def b_PlainRun_go_1 : Sms := .cons (.asg (.fld (.var 0) "names") (.var 2)) .nil
def b_PlainRun_go : Sms := .cons (.asg (.fld (.var 0) "e") (.var 1)) b_PlainRun_go_1
def fn_PlainRun_go : Fn := ⟨3, 3, b_PlainRun_go⟩

/-! PlainRun.wait: self, frame -/
def b_PlainRun_wait : Sms := .cons (.exp (.bm .append (.fld (.var 0) "waiting") (.cons (.var 1) .nil))) .nil
def fn_PlainRun_wait : Fn := ⟨2, 2, b_PlainRun_wait⟩

/-! PlainRun.step: self -/
def b_PlainRun_step_0t_1 : Sms := .cons (.ret (.bl false)) .nil
def b_PlainRun_step_0t : Sms := .cons (.asg (.fld (.var 0) "end") (.tup (.cons (.str "more") .nil))) b_PlainRun_step_0t_1
def b_PlainRun_step_2 : Sms := .cons (.ret (.bl true)) .nil
def b_PlainRun_step_1 : Sms := .cons (.faug (.var 0) "fuel" .Sub (.int 1)) b_PlainRun_step_2
def b_PlainRun_step : Sms := .cons (.ifs (.cmp .Eq (.fld (.var 0) "fuel") (.int 0)) b_PlainRun_step_0t .nil) b_PlainRun_step_1
def fn_PlainRun_step : Fn := ⟨1, 1, b_PlainRun_step⟩

/-! PlainRun.stick: self, level -/
def b_PlainRun_stick : Sms := .cons (.asg (.fld (.var 0) "end") (.tup (.cons (.str "stuck") (.cons (.var 1) .nil)))) .nil
def fn_PlainRun_stick : Fn := ⟨2, 2, b_PlainRun_stick⟩

/-! PlainRun.begin: self, e, kind -/
def b_PlainRun_begin_2t : Sms := .cons (.ret (.sub (.var 1) (.int 1))) .nil
def b_PlainRun_begin_3t : Sms := .cons (.ret (.call "find" (.cons (.sub (.fld (.var 0) "names") (.int 0)) (.cons (.sub (.var 1) (.int 1)) .nil)))) .nil
def b_PlainRun_begin_4t : Sms := .cons (.ret (.tup (.cons (.str "fn") (.cons (.sub (.var 1) (.int 1)) (.cons (.sub (.var 1) (.int 2)) (.cons (.sub (.var 1) (.int 3)) (.cons (.fld (.var 0) "names") .nil))))))) .nil
def b_PlainRun_begin_5t_1 : Sms := .cons (.ret (.int 0)) .nil
def b_PlainRun_begin_5t : Sms := .cons (.asg (.sub (.fld (.var 0) "switches") (.sub (.var 1) (.int 1))) (.sub (.var 1) (.int 2))) b_PlainRun_begin_5t_1
def b_PlainRun_begin_6t_1 : Sms := .cons (.exp (.meth "go" (.var 0) (.cons (.sub (.var 1) (.int 2)) (.cons (.fld (.var 0) "names") .nil)))) .nil
def b_PlainRun_begin_6t : Sms := .cons (.exp (.meth "wait" (.var 0) (.cons (.tup (.cons (.var 2) (.cons (.var 1) (.cons (.fld (.var 0) "names") .nil)))) .nil))) b_PlainRun_begin_6t_1
def b_PlainRun_begin_6e : Sms := .cons (.exp (.meth "pass_through" (.var 0) (.cons (.var 1) (.cons (.var 2) .nil)))) .nil
def b_PlainRun_begin_7 : Sms := .cons (.ret .non) .nil
def b_PlainRun_begin_6 : Sms := .cons (.ifs (.cmp .In (.var 2) (.tup (.cons (.str "call") (.cons (.str "sum") (.cons (.str "less") (.cons (.str "if") (.cons (.str "say") (.cons (.str "let") .nil)))))))) b_PlainRun_begin_6t b_PlainRun_begin_6e) b_PlainRun_begin_7
def b_PlainRun_begin_5 : Sms := .cons (.ifs (.cmp .Eq (.var 2) (.str "put")) b_PlainRun_begin_5t .nil) b_PlainRun_begin_6
def b_PlainRun_begin_4 : Sms := .cons (.ifs (.cmp .Eq (.var 2) (.str "fn")) b_PlainRun_begin_4t .nil) b_PlainRun_begin_5
def b_PlainRun_begin_3 : Sms := .cons (.ifs (.cmp .Eq (.var 2) (.str "name")) b_PlainRun_begin_3t .nil) b_PlainRun_begin_4
def b_PlainRun_begin_2 : Sms := .cons (.ifs (.cmp .Eq (.var 2) (.str "num")) b_PlainRun_begin_2t .nil) b_PlainRun_begin_3
def b_PlainRun_begin_1 : Sms := .cons (.asg (.nm 2) (.sub (.var 1) (.int 0))) b_PlainRun_begin_2
def b_PlainRun_begin : Sms := .cons (.asg (.nm 1) (.fld (.var 0) "e")) b_PlainRun_begin_1
def fn_PlainRun_begin : Fn := ⟨1, 3, b_PlainRun_begin⟩

/-! PlainRun.pass_through: self, e, kind, body, names -/
def b_PlainRun_pass_through_0t_0t : Sms := .cons (.exp (.meth "go" (.var 0) (.cons (.sub (.var 1) (.int 1)) (.cons (.fld (.var 0) "names") .nil)))) .nil
def b_PlainRun_pass_through_0t : Sms := .cons (.ifs (.meth "step" (.var 0) .nil) b_PlainRun_pass_through_0t_0t .nil) .nil
def b_PlainRun_pass_through_0e_0t : Sms := .cons (.exp (.meth "go" (.var 0) (.cons (.sub (.var 1) (.int 3)) (.cons (.tup (.cons (.sub (.fld (.var 0) "names") (.int 0)) (.cons (.make "Link" (.cons (.sub (.var 1) (.int 1)) (.cons (.tup (.cons (.sub (.var 1) (.int 2)) (.cons (.fld (.var 0) "names") .nil))) (.cons (.sub (.fld (.var 0) "names") (.int 1)) .nil)))) .nil))) .nil)))) .nil
def b_PlainRun_pass_through_0e_0e_0t_1 : Sms := .cons (.exp (.meth "go" (.var 0) (.cons (.var 3) (.cons (.var 4) .nil)))) .nil
def b_PlainRun_pass_through_0e_0e_0t : Sms := .cons (.asg (.tp [3, 4]) (.call "find" (.cons (.sub (.fld (.var 0) "names") (.int 1)) (.cons (.sub (.var 1) (.int 1)) .nil)))) b_PlainRun_pass_through_0e_0e_0t_1
def b_PlainRun_pass_through_0e_0e_0e_0t : Sms := .cons (.exp (.meth "go" (.var 0) (.cons (.call "chosen" (.cons (.var 1) (.cons (.bm .get2 (.fld (.var 0) "switches") (.cons (.sub (.var 1) (.int 1)) (.cons (.int 0) .nil))) .nil))) (.cons (.fld (.var 0) "names") .nil)))) .nil
def b_PlainRun_pass_through_0e_0e_0e_0e_2 : Sms := .cons (.exp (.meth "go" (.var 0) (.cons (.sub (.var 1) (.int 3)) (.cons (.fld (.var 0) "names") .nil)))) .nil
def b_PlainRun_pass_through_0e_0e_0e_0e_1 : Sms := .cons (.asg (.sub (.fld (.var 0) "switches") (.sub (.var 1) (.int 1))) (.sub (.var 1) (.int 2))) b_PlainRun_pass_through_0e_0e_0e_0e_2
def b_PlainRun_pass_through_0e_0e_0e_0e : Sms := .cons (.exp (.meth "wait" (.var 0) (.cons (.tup (.cons (.str "set") (.cons (.sub (.var 1) (.int 1)) (.cons (.bm .get2 (.fld (.var 0) "switches") (.cons (.sub (.var 1) (.int 1)) (.cons (.int 0) .nil))) .nil)))) .nil))) b_PlainRun_pass_through_0e_0e_0e_0e_1
def b_PlainRun_pass_through_0e_0e_0e : Sms := .cons (.ifs (.cmp .Eq (.var 2) (.str "switch")) b_PlainRun_pass_through_0e_0e_0e_0t b_PlainRun_pass_through_0e_0e_0e_0e) .nil
def b_PlainRun_pass_through_0e_0e : Sms := .cons (.ifs (.cmp .Eq (.var 2) (.str "force")) b_PlainRun_pass_through_0e_0e_0t b_PlainRun_pass_through_0e_0e_0e) .nil
def b_PlainRun_pass_through_0e : Sms := .cons (.ifs (.cmp .Eq (.var 2) (.str "delay")) b_PlainRun_pass_through_0e_0t b_PlainRun_pass_through_0e_0e) .nil
def b_PlainRun_pass_through : Sms := .cons (.ifs (.cmp .Eq (.var 2) (.str "tick")) b_PlainRun_pass_through_0t b_PlainRun_pass_through_0e) .nil
def fn_PlainRun_pass_through : Fn := ⟨3, 5, b_PlainRun_pass_through⟩

/-! PlainRun.resume: self, value, frame, kind, e, names -/
def b_PlainRun_resume_0t_1 : Sms := .cons (.ret .non) .nil
def b_PlainRun_resume_0t : Sms := .cons (.asg (.fld (.var 0) "end") (.tup (.cons (.str "value") (.cons (.call "shown" (.cons (.var 1) .nil)) .nil)))) b_PlainRun_resume_0t_1
def b_PlainRun_resume_3t_1 : Sms := .cons (.ret (.var 1)) .nil
def b_PlainRun_resume_3t : Sms := .cons (.asg (.sub (.fld (.var 0) "switches") (.sub (.var 2) (.int 1))) (.sub (.var 2) (.int 2))) b_PlainRun_resume_3t_1
def b_PlainRun_resume_4t : Sms := .cons (.ret (.meth "operate" (.var 0) (.cons (.sub (.var 2) (.int 1)) (.cons (.sub (.var 2) (.int 2)) (.cons (.var 1) .nil))))) .nil
def b_PlainRun_resume_6t_1 : Sms := .cons (.ret (.var 1)) .nil
def b_PlainRun_resume_6t : Sms := .cons (.exp (.bm .append (.fld (.var 0) "outputs") (.cons (.tup (.cons (.sub (.var 4) (.int 1)) (.cons (.call "shown" (.cons (.var 1) .nil)) .nil))) .nil))) b_PlainRun_resume_6t_1
def b_PlainRun_resume_7t : Sms := .cons (.exp (.meth "go" (.var 0) (.cons (.sub (.var 4) (.int 3)) (.cons (.call "with_name" (.cons (.var 5) (.cons (.sub (.var 4) (.int 1)) (.cons (.var 1) .nil)))) .nil)))) .nil
def b_PlainRun_resume_7e_0t : Sms := .cons (.exp (.meth "decide" (.var 0) (.cons (.var 4) (.cons (.var 5) (.cons (.var 1) .nil))))) .nil
def b_PlainRun_resume_7e_0e_1 : Sms := .cons (.exp (.meth "go" (.var 0) (.cons (.sub (.var 4) (.int 3)) (.cons (.var 5) .nil)))) .nil
def b_PlainRun_resume_7e_0e : Sms := .cons (.exp (.meth "wait" (.var 0) (.cons (.tup (.cons (.str "second") (.cons (.var 4) (.cons (.var 1) .nil)))) .nil))) b_PlainRun_resume_7e_0e_1
def b_PlainRun_resume_7e : Sms := .cons (.ifs (.cmp .Eq (.var 3) (.str "if")) b_PlainRun_resume_7e_0t b_PlainRun_resume_7e_0e) .nil
def b_PlainRun_resume_8 : Sms := .cons (.ret .non) .nil
def b_PlainRun_resume_7 : Sms := .cons (.ifs (.cmp .Eq (.var 3) (.str "let")) b_PlainRun_resume_7t b_PlainRun_resume_7e) b_PlainRun_resume_8
def b_PlainRun_resume_6 : Sms := .cons (.ifs (.cmp .Eq (.var 3) (.str "say")) b_PlainRun_resume_6t .nil) b_PlainRun_resume_7
def b_PlainRun_resume_5 : Sms := .cons (.par 4 5 (.sub (.var 2) (.int 1)) (.sub (.var 2) (.int 2))) b_PlainRun_resume_6
def b_PlainRun_resume_4 : Sms := .cons (.ifs (.cmp .Eq (.var 3) (.str "second")) b_PlainRun_resume_4t .nil) b_PlainRun_resume_5
def b_PlainRun_resume_3 : Sms := .cons (.ifs (.cmp .Eq (.var 3) (.str "set")) b_PlainRun_resume_3t .nil) b_PlainRun_resume_4
def b_PlainRun_resume_2 : Sms := .cons (.asg (.nm 3) (.sub (.var 2) (.int 0))) b_PlainRun_resume_3
def b_PlainRun_resume_1 : Sms := .cons (.asg (.nm 2) (.bm .pop (.fld (.var 0) "waiting") .nil)) b_PlainRun_resume_2
def b_PlainRun_resume : Sms := .cons (.ifs (.not (.fld (.var 0) "waiting")) b_PlainRun_resume_0t .nil) b_PlainRun_resume_1
def fn_PlainRun_resume : Fn := ⟨2, 6, b_PlainRun_resume⟩

/-! PlainRun.decide: self, e, names, value -/
def b_PlainRun_decide_0t : Sms := .cons (.exp (.meth "stick" (.var 0) (.cons (.sub (.var 1) (.int 1)) .nil))) .nil
def b_PlainRun_decide_0e : Sms := .cons (.exp (.meth "go" (.var 0) (.cons (.ife (.cmp .NotEq (.var 3) (.int 0)) (.sub (.var 1) (.int 3)) (.sub (.var 1) (.int 4))) (.cons (.var 2) .nil)))) .nil
def b_PlainRun_decide : Sms := .cons (.ifs (.not (.isi (.var 3) .int)) b_PlainRun_decide_0t b_PlainRun_decide_0e) .nil
def fn_PlainRun_decide : Fn := ⟨4, 4, b_PlainRun_decide⟩

/-! PlainRun.operate: self, e, first, second -/
def b_PlainRun_operate_0t_1 : Sms := .cons (.ret .non) .nil
def b_PlainRun_operate_0t : Sms := .cons (.exp (.meth "enter" (.var 0) (.cons (.sub (.var 1) (.int 1)) (.cons (.var 2) (.cons (.var 3) .nil))))) b_PlainRun_operate_0t_1
def b_PlainRun_operate_1t_1 : Sms := .cons (.ret .non) .nil
def b_PlainRun_operate_1t : Sms := .cons (.exp (.meth "stick" (.var 0) (.cons (.sub (.var 1) (.int 1)) .nil))) b_PlainRun_operate_1t_1
def b_PlainRun_operate_2 : Sms := .cons (.ret (.ife (.cmp .Eq (.sub (.var 1) (.int 0)) (.str "sum")) (.bin .Add (.var 2) (.var 3)) (.bf .int (.cons (.cmp .Lt (.var 2) (.var 3)) .nil)))) .nil
def b_PlainRun_operate_1 : Sms := .cons (.ifs (.or (.cons (.not (.isi (.var 2) .int)) (.cons (.not (.isi (.var 3) .int)) .nil))) b_PlainRun_operate_1t .nil) b_PlainRun_operate_2
def b_PlainRun_operate : Sms := .cons (.ifs (.cmp .Eq (.sub (.var 1) (.int 0)) (.str "call")) b_PlainRun_operate_0t .nil) b_PlainRun_operate_1
def fn_PlainRun_operate : Fn := ⟨4, 4, b_PlainRun_operate⟩

/-! PlainRun.enter: self, level, function, argument -/
def b_PlainRun_enter_0t : Sms := .cons (.exp (.meth "stick" (.var 0) (.cons (.var 1) .nil))) .nil
def b_PlainRun_enter_0e_0t : Sms := .cons (.exp (.meth "go" (.var 0) (.cons (.sub (.var 2) (.int 3)) (.cons (.call "with_name" (.cons (.sub (.var 2) (.int 4)) (.cons (.sub (.var 2) (.int 2)) (.cons (.var 3) .nil)))) .nil)))) .nil
def b_PlainRun_enter_0e : Sms := .cons (.ifs (.meth "step" (.var 0) .nil) b_PlainRun_enter_0e_0t .nil) .nil
def b_PlainRun_enter : Sms := .cons (.ifs (.or (.cons (.isi (.var 2) .int) (.cons (.cmp .NotEq (.sub (.var 2) (.int 1)) (.var 1)) .nil))) b_PlainRun_enter_0t b_PlainRun_enter_0e) .nil
def fn_PlainRun_enter : Fn := ⟨4, 4, b_PlainRun_enter⟩

def fnsL : List (Str × Fn) := [(("inner" : Str), fn_inner), (("plain_size" : Str), fn_plain_size), (("shown" : Str), fn_shown), (("find" : Str), fn_find), (("with_name" : Str), fn_with_name), (("chosen" : Str), fn_chosen), (("run_plain" : Str), fn_run_plain), (("_law_start" : Str), fn_law_start), (("_law_fill" : Str), fn_law_fill), (("_law_take" : Str), fn_law_take), (("_law_string" : Str), fn_law_string), (("_law_rank" : Str), fn_law_rank), (("_law_unasked" : Str), fn_law_unasked), (("_law_rows" : Str), fn_law_rows), (("_law_drawn" : Str), fn_law_drawn), (("_law_bad" : Str), fn_law_bad), (("_law_shown" : Str), fn_law_shown), (("_law_with" : Str), fn_law_with), (("_law_walk" : Str), fn_law_walk), (("_law_plain_run" : Str), fn_law_plain_run), (("_law_whole" : Str), fn_law_whole), (("_law_is_shown" : Str), fn_law_is_shown), (("_law_is_run" : Str), fn_law_is_run), (("_law_count" : Str), fn_law_count), (("law" : Str), fn_law)]
def clsL : List (Str × List (Str × Fn)) := [(("Link" : Str), [(("__init__" : Str), fn_Link_init)]), (("PlainRun" : Str), [(("__init__" : Str), fn_PlainRun_init), (("run" : Str), fn_PlainRun_run), (("go" : Str), fn_PlainRun_go), (("wait" : Str), fn_PlainRun_wait), (("step" : Str), fn_PlainRun_step), (("stick" : Str), fn_PlainRun_stick), (("begin" : Str), fn_PlainRun_begin), (("pass_through" : Str), fn_PlainRun_pass_through), (("resume" : Str), fn_PlainRun_resume), (("decide" : Str), fn_PlainRun_decide), (("operate" : Str), fn_PlainRun_operate), (("enter" : Str), fn_PlainRun_enter)])]
def conL : List (Str × D) := []
def cdsL : List (List (Str × D)) := []
def P : Pr := ⟨fnsL, clsL, conL, cdsL⟩
def fieldsL : List Str := [("name" : Str), ("value" : Str), ("outer" : Str), ("e" : Str), ("names" : Str), ("fuel" : Str), ("waiting" : Str), ("switches" : Str), ("outputs" : Str), ("end" : Str)]
def T : Tx := ⟨[], fnsL.map (·.1), clsL.map (·.1), conL.map (·.1), fieldsL, []⟩
end K11
set_option Elab.async false
set_option linter.all false
set_option maxRecDepth 100000
/-! M22: the evaluator's equations as rules, and what is wanted of an evaluation. -/
namespace Mi
open PySem L2
/-- it ends well, and so -/
def Wp {α : Type} (r : R α) (Q : α → Sto → Prop) : Prop := match r with
  | .ok a s => Q a s
  | .bad => False
@[simp] theorem wp_ok {α : Type} (a : α) (s : Sto) (Q : α → Sto → Prop) : Wp (.ok a s) Q = Q a s := rfl
@[simp] theorem wp_bad {α : Type} (Q : α → Sto → Prop) : Wp (.bad : R α) Q = False := rfl
@[simp] theorem wp_bind {α β : Type} (r : R α) (f : α → Sto → R β) (Q : β → Sto → Prop) : Wp (r.bind f) Q = Wp r (fun a s => Wp (f a s) Q) := by cases r <;> rfl
theorem Wp.mono {α : Type} {r : R α} {Q Q' : α → Sto → Prop} (h : Wp r Q) (k : ∀ a s, Q a s → Q' a s) : Wp r Q' := by
  cases r with
  | ok a s => exact k a s h
  | bad => exact h
theorem Wp.ex {α : Type} {r : R α} {Q : α → Sto → Prop} (h : Wp r Q) : ∃ a s, r = .ok a s ∧ Q a s := by
  cases r with
  | ok a s => exact ⟨a, s, rfl, h⟩
  | bad => exact h.elim
theorem Wp.of {α : Type} {r : R α} {a : α} {s : Sto} {Q : α → Sto → Prop} (h : r = .ok a s) (q : Q a s) : Wp r Q := by
  rw [h]
  exact q
section
variable {C : Cxt} {e : En} {S : Sto}

def negD (x : D) (S : Sto) : R D := match x with
  | .int i => .ok (.int (-i)) S
  | _ => .bad
@[simp] theorem negD_int (i : Int) (S : Sto) : negD (.int i) S = .ok (.int (-i)) S := rfl
/-- go on if it is True -/
def thenD (z : D) (f : Sto → R D) (S : Sto) : R D := match z with
  | .bl true => f S
  | .bl false => .ok (.bl false) S
  | _ => .bad
def elseD (z : D) (f : Sto → R D) (S : Sto) : R D := match z with
  | .bl true => .ok (.bl true) S
  | .bl false => f S
  | _ => .bad
theorem thenD_bl (b : Bool) (f : Sto → R D) (S : Sto) : thenD (.bl b) f S = if b = true then f S else .ok (.bl false) S := by cases b <;> rfl
theorem elseD_bl (b : Bool) (f : Sto → R D) (S : Sto) : elseD (.bl b) f S = if b = true then .ok (.bl true) S else f S := by cases b <;> rfl
@[simp] theorem thenD_t (f : Sto → R D) (S : Sto) : thenD (.bl true) f S = f S := rfl
@[simp] theorem thenD_f (f : Sto → R D) (S : Sto) : thenD (.bl false) f S = .ok (.bl false) S := rfl
@[simp] theorem elseD_t (f : Sto → R D) (S : Sto) : elseD (.bl true) f S = .ok (.bl true) S := rfl
@[simp] theorem elseD_f (f : Sto → R D) (S : Sto) : elseD (.bl false) f S = f S := rfl
def notD (x : D) (S : Sto) : R D := match x with
  | .bl b => .ok (.bl (!b)) S
  | _ => .bad
@[simp] theorem notD_bl (b : Bool) (S : Sto) : notD (.bl b) S = .ok (.bl (!b)) S := rfl
noncomputable def methD (C : Cxt) (m : Str) (x : D) (es : Sto → R (List D)) (S1 : Sto) : R D := match x with
  | .ref a => match S1[a]? with
    | some (.ins c fs) => match fs.lookup m with
      | none => (es S1).bind fun vs S2 => C.meth c m (.ref a :: vs) S2
      | some _ => .bad
    | _ => .bad
  | _ => .bad
noncomputable def evP (C : Cxt) (a : E) (e : En) (S : Sto) : R (Option Int) := if isNop a = true then .ok none S else ((ev C a).v e S).bind fun l S2 => partR l S2
@[simp] theorem evP_nop : evP C .nop e S = .ok none S := rfl
theorem evP_some {a : E} (h : isNop a = false) : evP C a e S = ((ev C a).v e S).bind fun l S2 => partR l S2 := by
  unfold evP
  rw [h]
  rfl
@[simp] theorem evP_int (i : Int) : evP C (.int i) e S = ((ev C (.int i)).v e S).bind fun l S2 => partR l S2 := rfl
@[simp] theorem evP_var (i : Nat) : evP C (.var i) e S = ((ev C (.var i)).v e S).bind fun l S2 => partR l S2 := rfl
@[simp] theorem evP_neg (i : E) : evP C (.neg i) e S = ((ev C (.neg i)).v e S).bind fun l S2 => partR l S2 := rfl
@[simp] theorem evP_bin (op : Operator) (a b : E) : evP C (.bin op a b) e S = ((ev C (.bin op a b)).v e S).bind fun l S2 => partR l S2 := rfl
@[simp] theorem evP_bf (op : BF) (a : Es) : evP C (.bf op a) e S = ((ev C (.bf op a)).v e S).bind fun l S2 => partR l S2 := rfl
@[simp] theorem evP_sub (a b : E) : evP C (.sub a b) e S = ((ev C (.sub a b)).v e S).bind fun l S2 => partR l S2 := rfl
@[simp] theorem evP_fld (a : E) (f : Str) : evP C (.fld a f) e S = ((ev C (.fld a f)).v e S).bind fun l S2 => partR l S2 := rfl
@[simp] theorem evP_call (f : Str) (a : Es) : evP C (.call f a) e S = ((ev C (.call f a)).v e S).bind fun l S2 => partR l S2 := rfl
@[simp] theorem partR_int (i : Int) (S : Sto) : partR (.int i) S = .ok (some i) S := rfl
noncomputable def lcB (C : Cxt) (t : Tg) (own : List Nat) (c a : E) (e : En) : D → Sto → R (Option D) := fun x S2 => match setTg t x (wipeE e own) S2 with
  | none => .bad
  | some e2 => (if isNop c = true then .ok true S2 else (ev C c).t e2 S2).bind fun b S3 => if b = true then ((ev C a).v e2 S3).bind fun y S4 => .ok (some y) S4 else .ok none S3

@[simp] theorem v_var (i : Nat) : (ev C (.var i)).v e S = (optR ((e[i]?).bind id) S) := rfl
@[simp] theorem tt_var (i : Nat) : (ev C (.var i)).t e S = ((ev C (.var i)).v e S).bind fun x S1 => truthR x S1 := rfl
@[simp] theorem v_int (i : Int) : (ev C (.int i)).v e S = (.ok (.int i) S) := rfl
@[simp] theorem tt_int (i : Int) : (ev C (.int i)).t e S = ((ev C (.int i)).v e S).bind fun x S1 => truthR x S1 := rfl
@[simp] theorem v_str (s : Str) : (ev C (.str s)).v e S = (.ok (.str s) S) := rfl
@[simp] theorem tt_str (s : Str) : (ev C (.str s)).t e S = ((ev C (.str s)).v e S).bind fun x S1 => truthR x S1 := rfl
@[simp] theorem v_bl (b : Bool) : (ev C (.bl b)).v e S = (.ok (.bl b) S) := rfl
@[simp] theorem tt_bl (b : Bool) : (ev C (.bl b)).t e S = ((ev C (.bl b)).v e S).bind fun x S1 => truthR x S1 := rfl
@[simp] theorem v_non  : (ev C (.non)).v e S = (.ok .non S) := rfl
@[simp] theorem tt_non  : (ev C (.non)).t e S = ((ev C (.non)).v e S).bind fun x S1 => truthR x S1 := rfl
@[simp] theorem v_con (x : Str) : (ev C (.con x)).v e S = (optR (C.con x) S) := rfl
@[simp] theorem tt_con (x : Str) : (ev C (.con x)).t e S = ((ev C (.con x)).v e S).bind fun x S1 => truthR x S1 := rfl
@[simp] theorem v_bin (op : Operator) (a b : E) : (ev C (.bin op a b)).v e S = (((ev C a).v e S).bind fun x S1 => ((ev C b).v e S1).bind fun y S2 => binD op x y S2) := rfl
@[simp] theorem tt_bin (op : Operator) (a b : E) : (ev C (.bin op a b)).t e S = ((ev C (.bin op a b)).v e S).bind fun x S1 => truthR x S1 := rfl
@[simp] theorem v_neg (a : E) : (ev C (.neg a)).v e S = (((ev C a).v e S).bind fun x S1 => negD x S1) := rfl
@[simp] theorem tt_neg (a : E) : (ev C (.neg a)).t e S = ((ev C (.neg a)).v e S).bind fun x S1 => truthR x S1 := rfl
@[simp] theorem v_cmp (op : CmpOp) (a b : E) : (ev C (.cmp op a b)).v e S = (((ev C a).v e S).bind fun x S1 => ((ev C b).v e S1).bind fun y S2 => cmpD C.cds op x y S2) := rfl
@[simp] theorem tt_cmp (op : CmpOp) (a b : E) : (ev C (.cmp op a b)).t e S = ((ev C (.cmp op a b)).v e S).bind fun x S1 => truthR x S1 := rfl
@[simp] theorem v_chn (o1 o2 : CmpOp) (a b c : E) : (ev C (.chn o1 o2 a b c)).v e S = (((ev C a).v e S).bind fun x S1 => ((ev C b).v e S1).bind fun y S2 => (cmpD C.cds o1 x y S2).bind fun z S3 => thenD z (fun S => ((ev C c).v e S).bind fun w S4 => cmpD C.cds o2 y w S4) S3) := rfl
@[simp] theorem tt_chn (o1 o2 : CmpOp) (a b c : E) : (ev C (.chn o1 o2 a b c)).t e S = ((ev C (.chn o1 o2 a b c)).v e S).bind fun x S1 => truthR x S1 := rfl
@[simp] theorem v_ife (c a b : E) : (ev C (.ife c a b)).v e S = (((ev C c).t e S).bind fun t S1 => if t = true then (ev C a).v e S1 else (ev C b).v e S1) := rfl
@[simp] theorem tt_ife (c a b : E) : (ev C (.ife c a b)).t e S = ((ev C (.ife c a b)).v e S).bind fun x S1 => truthR x S1 := rfl
@[simp] theorem v_call (f : Str) (es : Es) : (ev C (.call f es)).v e S = ((evEs C es e S).bind fun vs S1 => C.call f vs S1) := rfl
@[simp] theorem tt_call (f : Str) (es : Es) : (ev C (.call f es)).t e S = ((ev C (.call f es)).v e S).bind fun x S1 => truthR x S1 := rfl
@[simp] theorem v_make (f : Str) (es : Es) : (ev C (.make f es)).v e S = ((evEs C es e S).bind fun vs S1 => C.make f vs S1) := rfl
@[simp] theorem tt_make (f : Str) (es : Es) : (ev C (.make f es)).t e S = ((ev C (.make f es)).v e S).bind fun x S1 => truthR x S1 := rfl
@[simp] theorem v_fld (o : E) (f : Str) : (ev C (.fld o f)).v e S = (((ev C o).v e S).bind fun x S1 => fldD x f S1) := rfl
@[simp] theorem tt_fld (o : E) (f : Str) : (ev C (.fld o f)).t e S = ((ev C (.fld o f)).v e S).bind fun x S1 => truthR x S1 := rfl
@[simp] theorem v_sub (a b : E) : (ev C (.sub a b)).v e S = (((ev C a).v e S).bind fun x S1 => ((ev C b).v e S1).bind fun y S2 => subD C.cds x y S2) := rfl
@[simp] theorem tt_sub (a b : E) : (ev C (.sub a b)).t e S = ((ev C (.sub a b)).v e S).bind fun x S1 => truthR x S1 := rfl
@[simp] theorem v_rev (a : E) : (ev C (.rev a)).v e S = (((ev C a).v e S).bind fun x S1 => revD x S1) := rfl
@[simp] theorem tt_rev (a : E) : (ev C (.rev a)).t e S = ((ev C (.rev a)).v e S).bind fun x S1 => truthR x S1 := rfl
@[simp] theorem v_tup (es : Es) : (ev C (.tup es)).v e S = ((evEs C es e S).bind fun vs S1 => .ok (.tup vs) S1) := rfl
@[simp] theorem tt_tup (es : Es) : (ev C (.tup es)).t e S = ((ev C (.tup es)).v e S).bind fun x S1 => truthR x S1 := rfl
@[simp] theorem v_lst (es : Es) : (ev C (.lst es)).v e S = ((evEs C es e S).bind fun vs S1 => .ok (.ref S1.length) (S1 ++ [.lst vs])) := rfl
@[simp] theorem tt_lst (es : Es) : (ev C (.lst es)).t e S = ((ev C (.lst es)).v e S).bind fun x S1 => truthR x S1 := rfl
@[simp] theorem v_dK  : (ev C (.dK)).v e S = (.ok (.ref S.length) (S ++ [.dK []])) := rfl
@[simp] theorem tt_dK  : (ev C (.dK)).t e S = ((ev C (.dK)).v e S).bind fun x S1 => truthR x S1 := rfl
@[simp] theorem v_dT  : (ev C (.dT)).v e S = (.ok (.ref S.length) (S ++ [.dT []])) := rfl
@[simp] theorem tt_dT  : (ev C (.dT)).t e S = ((ev C (.dT)).v e S).bind fun x S1 => truthR x S1 := rfl
@[simp] theorem v_bm (m : BM) (o : E) (es : Es) : (ev C (.bm m o es)).v e S = (((ev C o).v e S).bind fun x S1 => if bmPre m x S1 = true then (evEs C es e S1).bind fun vs S2 => bmD m x vs S2 else .bad) := rfl
@[simp] theorem tt_bm (m : BM) (o : E) (es : Es) : (ev C (.bm m o es)).t e S = ((ev C (.bm m o es)).v e S).bind fun x S1 => truthR x S1 := rfl
@[simp] theorem v_bf (f : BF) (es : Es) : (ev C (.bf f es)).v e S = ((evEs C es e S).bind fun vs S1 => bfD f vs S1) := rfl
@[simp] theorem tt_bf (f : BF) (es : Es) : (ev C (.bf f es)).t e S = ((ev C (.bf f es)).v e S).bind fun x S1 => truthR x S1 := rfl
@[simp] theorem v_isi (a : E) (ty : Ty) : (ev C (.isi a ty)).v e S = (((ev C a).v e S).bind fun x S1 => optR ((isiD ty x).map .bl) S1) := rfl
@[simp] theorem tt_isi (a : E) (ty : Ty) : (ev C (.isi a ty)).t e S = ((ev C (.isi a ty)).v e S).bind fun x S1 => truthR x S1 := rfl
@[simp] theorem v_meth (m : Str) (o : E) (es : Es) : (ev C (.meth m o es)).v e S = (((ev C o).v e S).bind fun x S1 => methD C m x (fun S => evEs C es e S) S1) := rfl
@[simp] theorem tt_meth (m : Str) (o : E) (es : Es) : (ev C (.meth m o es)).t e S = ((ev C (.meth m o es)).v e S).bind fun x S1 => truthR x S1 := rfl
@[simp] theorem v_slc (a lo hi : E) : (ev C (.slc a lo hi)).v e S = (((ev C a).v e S).bind fun x S1 => (evP C lo e S1).bind fun l S2 => (evP C hi e S2).bind fun h S3 => slcD x l h S3) := rfl
@[simp] theorem tt_slc (a lo hi : E) : (ev C (.slc a lo hi)).t e S = ((ev C (.slc a lo hi)).v e S).bind fun x S1 => truthR x S1 := rfl
@[simp] theorem v_lc (t : Tg) (it : I) (c a : E) (own : List Nat) : (ev C (.lc t it c a own)).v e S = ((evI C it e S).bind fun J S1 => (lcLoop J (lcB C t own c a e) S1.length J.items (S1 ++ [.lst []])).bind fun _ S5 => .ok (.ref S1.length) S5) := rfl
@[simp] theorem tt_lc (t : Tg) (it : I) (c a : E) (own : List Nat) : (ev C (.lc t it c a own)).t e S = ((ev C (.lc t it c a own)).v e S).bind fun x S1 => truthR x S1 := rfl
@[simp] theorem v_and2 (es : Es) : (ev C (.and es)).v e S = evAndV C es e S := rfl
@[simp] theorem t_and2 (es : Es) : (ev C (.and es)).t e S = evAnd C es e S := rfl
@[simp] theorem v_or2 (es : Es) : (ev C (.or es)).v e S = evOrV C es e S := rfl
@[simp] theorem t_or2 (es : Es) : (ev C (.or es)).t e S = evOr C es e S := rfl
@[simp] theorem v_not2 (a : E) : (ev C (.not a)).v e S = ((ev C a).v e S).bind fun x S1 => notD x S1 := rfl
@[simp] theorem t_not2 (a : E) : (ev C (.not a)).t e S = ((ev C a).t e S).bind fun b S1 => .ok (!b) S1 := rfl
@[simp] theorem es_nil : evEs C .nil e S = .ok [] S := rfl
@[simp] theorem es_cons2 (a : E) (as : Es) : evEs C (.cons a as) e S = ((ev C a).v e S).bind fun x S1 => (evEs C as e S1).bind fun xs S2 => .ok (x :: xs) S2 := rfl
@[simp] theorem and_nil : evAnd C .nil e S = .ok true S := rfl
@[simp] theorem and_cons (a : E) (as : Es) : evAnd C (.cons a as) e S = ((ev C a).t e S).bind fun b S1 => if b = true then evAnd C as e S1 else .ok false S1 := rfl
@[simp] theorem or_nil : evOr C .nil e S = .ok false S := rfl
@[simp] theorem or_cons (a : E) (as : Es) : evOr C (.cons a as) e S = ((ev C a).t e S).bind fun b S1 => if b = true then .ok true S1 else evOr C as e S1 := rfl
@[simp] theorem andV_one (a : E) : evAndV C (.cons a .nil) e S = (ev C a).v e S := rfl
@[simp] theorem andV_cons (a b : E) (as : Es) : evAndV C (.cons a (.cons b as)) e S = ((ev C a).v e S).bind fun x S1 => thenD x (fun S => evAndV C (.cons b as) e S) S1 := rfl
@[simp] theorem orV_one (a : E) : evOrV C (.cons a .nil) e S = (ev C a).v e S := rfl
@[simp] theorem orV_cons (a b : E) (as : Es) : evOrV C (.cons a (.cons b as)) e S = ((ev C a).v e S).bind fun x S1 => elseD x (fun S => evOrV C (.cons b as) e S) S1 := rfl
@[simp] theorem i_seq (a : E) : evI C (.seq a) e S = ((ev C a).v e S).bind fun x S1 => seqIt x S1 := rfl
@[simp] theorem i_rng (as : Es) : evI C (.rng as) e S = (evEs C as e S).bind fun x S1 => rngIt x S1 := rfl
@[simp] theorem i_enum (a : E) : evI C (.enum a) e S = ((ev C a).v e S).bind fun x S1 => enumIt x S1 := rfl
/-- what follows a statement -/
def goR (o : Out) (f : En → Sto → R Out) (S : Sto) : R Out := match o with
  | .nx e2 => f e2 S
  | .ret v => .ok (.ret v) S
  | .cnt e2 => .ok (.cnt e2) S
@[simp] theorem goR_nx (e2 : En) (f : En → Sto → R Out) (S : Sto) : goR (.nx e2) f S = f e2 S := rfl
@[simp] theorem goR_ret (v : D) (f : En → Sto → R Out) (S : Sto) : goR (.ret v) f S = .ok (.ret v) S := rfl
@[simp] theorem goR_cnt (e2 : En) (f : En → Sto → R Out) (S : Sto) : goR (.cnt e2) f S = .ok (.cnt e2) S := rfl
@[simp] theorem ss_nil : evSs C .nil e S = .ok (.nx e) S := rfl
theorem ss_cons (s : Sm) (ss : Sms) : evSs C (.cons s ss) e S = (evS C s e S).bind fun o S1 => goR o (fun e2 S => evSs C ss e2 S) S1 := rfl
@[simp] theorem s_exp (a : E) : evS C (.exp a) e S = ((ev C a).v e S).bind fun _ S1 => .ok (.nx e) S1 := rfl
@[simp] theorem s_asg (t : T) (a : E) : evS C (.asg t a) e S = ((ev C a).v e S).bind fun v S1 => (setT C t v e S1).bind fun e2 S2 => .ok (.nx e2) S2 := rfl
@[simp] theorem s_par (i j : Nat) (a b : E) : evS C (.par i j a b) e S = ((ev C a).v e S).bind fun x S1 => ((ev C b).v e S1).bind fun y S2 =>
      if i < e.length ∧ j < e.length then .ok (.nx ((e.set i (some x)).set j (some y))) S2 else .bad := rfl
@[simp] theorem s_augE (i : Nat) (op : Operator) (a : E) : evS C (.aug i op a) e S = (optR ((e[i]?).bind id) S).bind fun x S0 => ((ev C a).v e S0).bind fun y S1 => (augD op x y S1).bind fun z S2 => .ok (.nx (e.set i (some z))) S2 := rfl
@[simp] theorem s_faugE (o : E) (f : Str) (op : Operator) (a : E) : evS C (.faug o f op a) e S = ((ev C o).v e S).bind fun x S1 => (fldD x f S1).bind fun v S2 => ((ev C a).v e S2).bind fun y S3 =>
      (augD op v y S3).bind fun z S4 => if clsD x S4 = clsD x S2 then (setF x f z S4).bind fun _ S5 => .ok (.nx e) S5 else .bad := rfl
@[simp] theorem s_ifs (c : E) (a b : Sms) : evS C (.ifs c a b) e S = ((ev C c).t e S).bind fun t S1 => if t = true then evSs C a e S1 else evSs C b e S1 := rfl
@[simp] theorem s_whl (c : E) (b : Sms) : evS C (.whl c b) e S = whileX (ev C c).t (evSs C b) e S := rfl
@[simp] theorem s_forE (t : Tg) (it : I) (b : Sms) : evS C (.for_ t it b) e S = (evI C it e S).bind fun J S1 => forL J t (evSs C b) J.items e S1 := rfl
@[simp] theorem s_retE (a : E) : evS C (.ret a) e S = ((ev C a).v e S).bind fun v S1 => .ok (.ret v) S1 := rfl
@[simp] theorem s_retNE : evS C .retN e S = .ok (.ret .non) S := rfl
@[simp] theorem s_pasE : evS C .pas e S = .ok (.nx e) S := rfl
@[simp] theorem s_cntE : evS C .cnt e S = .ok (.cnt e) S := rfl
@[simp] theorem setT_nm (i : Nat) (v : D) : setT C (.nm i) v e S = optR (setTg (.nm i) v e S) S := rfl
@[simp] theorem setT_tp (i : List Nat) (v : D) : setT C (.tp i) v e S = optR (setTg (.tp i) v e S) S := rfl
@[simp] theorem setT_fld (o : E) (f : Str) (v : D) : setT C (.fld o f) v e S = ((ev C o).v e S).bind fun x S1 => (setF x f v S1).bind fun _ S2 => .ok e S2 := rfl
@[simp] theorem setT_sub (o i : E) (v : D) : setT C (.sub o i) v e S = ((ev C o).v e S).bind fun x S1 => ((ev C i).v e S1).bind fun y S2 => (setD x y v S2).bind fun _ S3 => .ok e S3 := rfl
@[simp] theorem setTg_nm (i : Nat) (v : D) : setTg (.nm i) v e S = if i < e.length then some (e.set i (some v)) else none := rfl
theorem wp_ss {s : Sm} {ss : Sms} {Q : Out → Sto → Prop} (h : Wp (evS C s e S) fun o S1 => Wp (goR o (fun e2 S => evSs C ss e2 S) S1) Q) : Wp (evSs C (.cons s ss) e S) Q := by
  rw [ss_cons, wp_bind]
  exact h
theorem wp_if {c : Bool} {A B : R Out} {Q : Out → Sto → Prop} (h1 : c = true → Wp A Q) (h2 : c = false → Wp B Q) : Wp (if c = true then A else B) Q := by
  cases c
  · exact h2 rfl
  · exact h1 rfl
theorem wp_ifp {c : Prop} [Decidable c] {α : Type} {A B : R α} {Q : α → Sto → Prop} (h1 : c → Wp A Q) (h2 : ¬ c → Wp B Q) : Wp (if c then A else B) Q := by
  by_cases h : c
  · rw [if_pos h]
    exact h1 h
  · rw [if_neg h]
    exact h2 h
/-! ### values -/
@[simp] theorem truthR_non : truthR .non S = .ok false S := rfl
@[simp] theorem truthR_bl (b : Bool) : truthR (.bl b) S = .ok b S := rfl
@[simp] theorem truthR_int (i : Int) : truthR (.int i) S = .ok (i != 0) S := rfl
@[simp] theorem truthR_tup (xs : List D) : truthR (.tup xs) S = .ok (!xs.isEmpty) S := rfl
@[simp] theorem truthR_lit (xs : List D) : truthR (.lit xs) S = .ok (!xs.isEmpty) S := rfl
theorem truthR_lst {i : Nat} {xs : List D} (h : S[i]? = some (.lst xs)) : truthR (.ref i) S = .ok (!xs.isEmpty) S := by
  unfold truthR truth
  simp only [h]
theorem truthR_dK {i : Nat} {xs : List (Key × D)} (h : S[i]? = some (.dK xs)) : truthR (.ref i) S = .ok (!xs.isEmpty) S := by
  unfold truthR truth
  simp only [h]
theorem truthR_str {x : Str} (h : x.length ≤ sizeLine) : truthR (.str x) S = .ok ((x.length : Int) != 0) S := by
  unfold truthR truth
  simp only [h, if_true]
@[simp] theorem add_int (i j : Int) : binD .Add (.int i) (.int j) S = .ok (.int (i + j)) S := rfl
@[simp] theorem sub_int (i j : Int) : binD .Sub (.int i) (.int j) S = .ok (.int (i - j)) S := rfl
theorem mul_int {i j : Int} (h : CMul i j) : binD .Mult (.int i) (.int j) S = .ok (.int (i * j)) S := by
  unfold binD
  simp only [h, if_true]
theorem fdiv_int {i j : Int} (h : CDiv i j) : binD .FloorDiv (.int i) (.int j) S = .ok (.int (i / j)) S := by
  unfold binD
  simp only [h, if_true]
theorem mod_int {i j : Int} (h : 0 < j) : binD .Mod (.int i) (.int j) S = .ok (.int (i % j)) S := by
  unfold binD
  simp only [h, if_true]
theorem pow_int {i j : Int} (h : CPow i j) : binD .Pow (.int i) (.int j) S = .ok (.int (i ^ j.toNat)) S := by
  unfold binD
  simp only [h, if_true]
@[simp] theorem add_tup (xs ys : List D) : binD .Add (.tup xs) (.tup ys) S = if xs.length + ys.length ≤ sizeLine then .ok (.tup (xs ++ ys)) S else .bad := rfl
@[simp] theorem add_str (xs ys : Str) : binD .Add (.str xs) (.str ys) S = if xs.length + ys.length ≤ sizeLine then .ok (.str (xs ++ ys)) S else .bad := rfl
theorem add_lst {a b : Nat} {xs ys : List D} (h : S[a]? = some (.lst xs)) (h' : S[b]? = some (.lst ys)) : binD .Add (.ref a) (.ref b) S = if xs.length + ys.length ≤ sizeLine then .ok (.ref S.length) (S ++ [.lst (xs ++ ys)]) else .bad := by
  unfold binD addD
  simp only [h, h']
variable {cds : Nat → List (Str × D)}
@[simp] theorem eq_int (i j : Int) : cmpD cds .Eq (.int i) (.int j) S = .ok (.bl (decide (i = j))) S := rfl
@[simp] theorem eq_str (i j : Str) : cmpD cds .Eq (.str i) (.str j) S = .ok (.bl (decide (i = j))) S := rfl
@[simp] theorem ne_int (i j : Int) : cmpD cds .NotEq (.int i) (.int j) S = .ok (.bl (!decide (i = j))) S := rfl
@[simp] theorem ne_str (i j : Str) : cmpD cds .NotEq (.str i) (.str j) S = .ok (.bl (!decide (i = j))) S := rfl
@[simp] theorem lt_int (i j : Int) : cmpD cds .Lt (.int i) (.int j) S = .ok (.bl (decide (i < j))) S := rfl
@[simp] theorem le_int (i j : Int) : cmpD cds .LtE (.int i) (.int j) S = .ok (.bl (decide (i ≤ j))) S := rfl
@[simp] theorem gt_int (i j : Int) : cmpD cds .Gt (.int i) (.int j) S = .ok (.bl (decide (j < i))) S := rfl
@[simp] theorem ge_int (i j : Int) : cmpD cds .GtE (.int i) (.int j) S = .ok (.bl (decide (j ≤ i))) S := rfl
theorem is_non (x : D) : cmpD cds .Is x .non S = .ok (.bl (match x with | .non => true | _ => false)) S := by cases x <;> rfl
theorem isnot_non (x : D) : cmpD cds .IsNot x .non S = .ok (.bl (match x with | .non => false | _ => true)) S := by cases x <;> rfl
@[simp] theorem is_bl (a b : Bool) : cmpD cds .Is (.bl a) (.bl b) S = .ok (.bl (decide (a = b))) S := rfl
@[simp] theorem isnot_bl (a b : Bool) : cmpD cds .IsNot (.bl a) (.bl b) S = .ok (.bl (!decide (a = b))) S := rfl
theorem in_lst {neg : Bool} {x : D} {i : Nat} {ys : List D} (h : S[i]? = some (.lst ys)) (hx : flat x = true) (hf : ys.all flat = true) : inD cds neg x (.ref i) S = .ok (.bl (if neg then !(ys.any fun y => eqF y x) else ys.any fun y => eqF y x)) S := by
  cases x with
  | str a =>
    unfold inD dget
    simp only [h]
    rw [if_pos ⟨rfl, hf⟩]
  | _ => first
    | (cases hx; done)
    | (unfold inD dget
       simp only [h]
       rw [if_pos ⟨rfl, hf⟩])
theorem sub_lst {i : Nat} {xs : List D} {j : Int} (h : S[i]? = some (.lst xs)) : subD cds (.ref i) (.int j) S = optR (atI xs j) S := by
  unfold subD itemsD
  simp only [h]
@[simp] theorem sub_tup {xs : List D} {j : Int} : subD cds (.tup xs) (.int j) S = optR (atI xs j) S := rfl
@[simp] theorem sub_lit {xs : List D} {j : Int} : subD cds (.lit xs) (.int j) S = optR (atI xs j) S := rfl
theorem len_lst {i : Nat} {xs : List D} (h : S[i]? = some (.lst xs)) : bfD .len [.ref i] S = .ok (.int xs.length) S := by
  unfold bfD
  simp only [h]
@[simp] theorem len_tup {xs : List D} : bfD .len [.tup xs] S = .ok (.int xs.length) S := rfl
@[simp] theorem int_int {i : Int} : bfD .int [.int i] S = .ok (.int i) S := rfl
@[simp] theorem int_bl {i : Bool} : bfD .int [.bl i] S = .ok (.int (if i then 1 else 0)) S := rfl
theorem atI_nat {α : Type} (xs : List α) (n : Nat) : atI xs (n : Int) = xs[n]? := by
  unfold atI ixN
  rw [if_pos (by omega)]
  by_cases h : n < xs.length
  · rw [if_pos (by omega)]
    simp
  · rw [if_neg (by omega), List.getElem?_eq_none (by omega)]
    rfl
@[simp] theorem atI_0 {α : Type} (xs : List α) : atI xs 0 = xs[0]? := atI_nat xs 0
@[simp] theorem atI_1 {α : Type} (xs : List α) : atI xs 1 = xs[1]? := atI_nat xs 1
@[simp] theorem atI_2 {α : Type} (xs : List α) : atI xs 2 = xs[2]? := atI_nat xs 2
@[simp] theorem atI_3 {α : Type} (xs : List α) : atI xs 3 = xs[3]? := atI_nat xs 3
@[simp] theorem atI_4 {α : Type} (xs : List α) : atI xs 4 = xs[4]? := atI_nat xs 4
@[simp] theorem atI_5 {α : Type} (xs : List α) : atI xs 5 = xs[5]? := atI_nat xs 5
@[simp] theorem atI_6 {α : Type} (xs : List α) : atI xs 6 = xs[6]? := atI_nat xs 6
@[simp] theorem atI_7 {α : Type} (xs : List α) : atI xs 7 = xs[7]? := atI_nat xs 7
@[simp] theorem atI_8 {α : Type} (xs : List α) : atI xs 8 = xs[8]? := atI_nat xs 8
@[simp] theorem atI_9 {α : Type} (xs : List α) : atI xs 9 = xs[9]? := atI_nat xs 9
@[simp] theorem atI_10 {α : Type} (xs : List α) : atI xs 10 = xs[10]? := atI_nat xs 10
@[simp] theorem atI_11 {α : Type} (xs : List α) : atI xs 11 = xs[11]? := atI_nat xs 11
@[simp] theorem atI_12 {α : Type} (xs : List α) : atI xs 12 = xs[12]? := atI_nat xs 12
@[simp] theorem atI_13 {α : Type} (xs : List α) : atI xs 13 = xs[13]? := atI_nat xs 13
@[simp] theorem atI_14 {α : Type} (xs : List α) : atI xs 14 = xs[14]? := atI_nat xs 14
@[simp] theorem atI_15 {α : Type} (xs : List α) : atI xs 15 = xs[15]? := atI_nat xs 15
theorem atI_pos {α : Type} {xs : List α} {i : Int} (h : 0 ≤ i) : atI xs i = xs[i.toNat]? := by
  obtain ⟨n, rfl⟩ := Int.eq_ofNat_of_zero_le h
  exact atI_nat xs n
theorem setD_at {a : Nat} {xs : List D} {n : Nat} {v : D} (h : S[a]? = some (.lst xs)) (hn : n < xs.length) : setD (.ref a) (.int (n : Int)) v S = .ok () (S.set a (.lst (xs.set n v))) := by
  have hj : ixN xs.length (n : Int) = some n := by
    unfold ixN
    rw [if_pos (by omega), if_pos (by omega)]
    simp
  unfold setD
  simp only [h, hj]
theorem setD_lst {a : Nat} {xs : List D} {j : Int} {v : D} {n : Nat} (h : S[a]? = some (.lst xs)) (hj : ixN xs.length j = some n) : setD (.ref a) (.int j) v S = .ok () (S.set a (.lst (xs.set n v))) := by
  unfold setD
  simp only [h, hj]
theorem append_lst {a : Nat} {xs : List D} {v : D} (h : S[a]? = some (.lst xs)) (hl : xs.length < sizeLine) : bmD .append (.ref a) [v] S = .ok .non (S.set a (.lst (xs ++ [v]))) := by
  unfold bmD
  simp only [h, hl, if_true]
theorem pre_lst2 {m : BM} {a : Nat} {xs : List D} (h : S[a]? = some (.lst xs)) (hm : m = .append ∨ m = .extend ∨ m = .pop ∨ m = .lindex) : bmPre m (.ref a) S = true := by
  rcases hm with rfl | rfl | rfl | rfl <;> (unfold bmPre; simp only [h])
end
/-! ### calls -/
theorem call_fn {P : Pr} {k : Nat} {f : Str} {fn : Fn} {vs : List D} {S : Sto} (h : P.fns.lookup f = some fn) : (cxt P (k + 1)).call f vs S = runF (cxt P k) fn vs S := by
  show (match P.fns.lookup f with | some fn => _ | none => _) = _
  rw [h]
def outV (o : Out) (S : Sto) : R D := match o with
  | .nx _ => .ok .non S
  | .ret v => .ok v S
  | .cnt _ => .bad
@[simp] theorem outV_nx (e : En) (S : Sto) : outV (.nx e) S = .ok .non S := rfl
@[simp] theorem outV_ret (v : D) (S : Sto) : outV (.ret v) S = .ok v S := rfl
theorem run_fn2 {C : Cxt} {fn : Fn} {vs : List D} {S : Sto} (h : vs.length = fn.np) : runF C fn vs S = (evSs C fn.body (startE fn.nn vs) S).bind fun o S1 => outV o S1 := by
  unfold runF
  rw [if_pos h]
  rfl
end Mi
set_option Elab.async false
set_option linter.all false
set_option maxRecDepth 100000
set_option maxHeartbeats 1000000
/-! M23: drawing from the script: start, fill, take. -/
namespace Mi
open PySem L2
def fillB : Sms :=
  (.cons (.asg (.sub (.var 0) (.int 3)) (.bin .Add (.sub (.var 0) (.int 3)) (.int 1)))
  (.cons (.asg (.nm 1) (.bin .Add (.bin .Mult (.sub (.var 0) (.int 3)) (.int 69621)) (.int 12345)))
  (.cons (.ifs (.cmp .Lt (.sub (.var 0) (.int 1)) (.bf .len (.cons (.sub (.var 0) (.int 0)) .nil))) (.cons (.asg (.nm 1) (.sub (.sub (.var 0) (.int 0)) (.sub (.var 0) (.int 1))))
  (.cons (.asg (.sub (.var 0) (.int 1)) (.bin .Add (.sub (.var 0) (.int 1)) (.int 1)))
  (.cons (.ifs (.cmp .Lt (.var 1) (.int 0)) (.cons (.asg (.nm 1) (.bin .Sub (.bin .Sub (.int 0) (.int 1)) (.var 1)))
  .nil) .nil)
  (.cons (.ifs (.cmp .GtE (.var 1) (.bin .Pow (.int 10) (.int 18))) (.cons (.ret (.var 1))
  .nil) .nil)
  .nil)))) .nil)
  (.cons (.ifs (.and (.cons (.sub (.var 0) (.int 0)) (.cons (.cmp .GtE (.sub (.var 0) (.int 1)) (.bf .len (.cons (.sub (.var 0) (.int 0)) .nil))) .nil))) (.cons (.asg (.nm 1) (.bin .Add (.var 1) (.bin .Mod (.bf .int (.cons (.sub (.sub (.var 0) (.int 0)) (.neg (.int 1))) .nil)) (.int 1000003))))
  .nil) .nil)
  (.cons (.asg (.nm 1) (.bin .Mod (.bf .int (.cons (.bin .Add (.bin .Mult (.var 1) (.int 48271)) (.bin .Mult (.sub (.var 0) (.int 3)) (.int 69621))) .nil)) (.int 2147483647)))
  (.cons (.ret (.bin .Add (.bin .Mod (.bf .int (.cons (.bin .Add (.bin .Add (.bin .Mult (.var 1) (.var 1)) (.bin .Mult (.sub (.var 0) (.int 3)) (.int 7919))) (.int 11)) .nil)) (.int 2305843009213693951)) (.int 2305843009213693951)))
  .nil))))))
def takeB : Sms :=
  (.cons (.ifs (.cmp .Lt (.sub (.var 0) (.int 2)) (.var 1)) (.cons (.asg (.sub (.var 0) (.int 2)) (.call "_law_fill" (.cons (.var 0) .nil)))
  .nil) .nil)
  (.cons (.asg (.nm 2) (.bin .Mod (.bf .int (.cons (.sub (.var 0) (.int 2)) .nil)) (.var 1)))
  (.cons (.asg (.sub (.var 0) (.int 2)) (.bin .FloorDiv (.sub (.var 0) (.int 2)) (.var 1)))
  (.cons (.ret (.var 2))
  .nil))))
/-- the drawing state: the list at ic, the script's list at is -/
structure Dr (S : Sto) (ic is : Nat) (xs : List Int) (pos acc cnt bud : Int) (nm : D) : Prop where
  c : S[ic]? = some (.lst [.ref is, .int pos, .int acc, .int cnt, .int bud, nm])
  s : S[is]? = some (.lst (xs.map .int))
  pos0 : 0 ≤ pos
  ne : ic ≠ is
section
variable {C : Cxt} {S : Sto} {ic is : Nat} {xs : List Int} {pos acc cnt bud : Int} {nm : D}
theorem Dr.lt (h : Dr S ic is xs pos acc cnt bud nm) : ic < S.length := (List.getElem?_eq_some_iff.mp h.c).1
theorem Dr.set (h : Dr S ic is xs pos acc cnt bud nm) {pos' acc' cnt' bud' : Int} {nm' : D} (hp : 0 ≤ pos') : Dr (S.set ic (.lst [.ref is, .int pos', .int acc', .int cnt', .int bud', nm'])) ic is xs pos' acc' cnt' bud' nm' :=
  ⟨by rw [List.getElem?_set_self h.lt], by rw [List.getElem?_set_ne h.ne]; exact h.s, hp, h.ne⟩
theorem Dr.put1 (h : Dr S ic is xs pos acc cnt bud nm) (v : D) : setD (.ref ic) (.int 1) v S = .ok () (S.set ic (.lst [.ref is, v, .int acc, .int cnt, .int bud, nm])) := setD_lst (n := 1) h.c rfl
theorem Dr.put2 (h : Dr S ic is xs pos acc cnt bud nm) (v : D) : setD (.ref ic) (.int 2) v S = .ok () (S.set ic (.lst [.ref is, .int pos, v, .int cnt, .int bud, nm])) := setD_lst (n := 2) h.c rfl
theorem Dr.put3 (h : Dr S ic is xs pos acc cnt bud nm) (v : D) : setD (.ref ic) (.int 3) v S = .ok () (S.set ic (.lst [.ref is, .int pos, .int acc, v, .int bud, nm])) := setD_lst (n := 3) h.c rfl
theorem Dr.put4 (h : Dr S ic is xs pos acc cnt bud nm) (v : D) : setD (.ref ic) (.int 4) v S = .ok () (S.set ic (.lst [.ref is, .int pos, .int acc, .int cnt, v, nm])) := setD_lst (n := 4) h.c rfl
theorem Dr.put5 (h : Dr S ic is xs pos acc cnt bud nm) (v : D) : setD (.ref ic) (.int 5) v S = .ok () (S.set ic (.lst [.ref is, .int pos, .int acc, .int cnt, .int bud, v])) := setD_lst (n := 5) h.c rfl
theorem cmul_r {i j : Int} (h : -(2 ^ 64) < j) (h2 : j < 2 ^ 64) : CMul i j := .inr ⟨h, h2⟩
theorem atI_last {xs : List Int} (h : xs ≠ []) : ∃ n, atI (xs.map D.int) (-1) = some (.int n) := by
  unfold atI ixN
  have hl : 0 < xs.length := List.length_pos_iff.mpr h
  rw [if_neg (by omega), if_pos (by simp; omega)]
  simp only [Option.bind_some, List.length_map]
  have : (-1 + (xs.length : Int)).toNat < (xs.map D.int).length := by
    simp
    omega
  rw [List.getElem?_eq_getElem this]
  exact ⟨_, by rw [List.getElem_map]⟩
/-- the last two rows of fill -/
theorem fill_last (n : Int) {Q : Out → Sto → Prop} (h : Dr S ic is xs pos acc cnt bud nm) (q : ∀ n, Q (.ret (.int n)) S) : Wp (evSs C (.cons (.asg (.nm 1) (.bin .Mod (.bf .int (.cons (.bin .Add (.bin .Mult (.var 1) (.int 48271)) (.bin .Mult (.sub (.var 0) (.int 3)) (.int 69621))) .nil)) (.int 2147483647)))
  (.cons (.ret (.bin .Add (.bin .Mod (.bf .int (.cons (.bin .Add (.bin .Add (.bin .Mult (.var 1) (.var 1)) (.bin .Mult (.sub (.var 0) (.int 3)) (.int 7919))) (.int 11)) .nil)) (.int 2305843009213693951)) (.int 2305843009213693951)))
  .nil)) [some (.ref ic), some (.int n)] S) Q := by
  refine wp_ss ?_
  simp [sub_lst h.c, mul_int (cmul_r (j := 48271) (by omega) (by omega)), mul_int (cmul_r (j := 69621) (by omega) (by omega)), mod_int (j := 2147483647) (by omega)]
  refine wp_ss ?_
  have hb := Int.emod_nonneg (n * 48271 + cnt * 69621) (b := 2147483647) (by omega)
  have hb2 := Int.emod_lt_of_pos (n * 48271 + cnt * 69621) (b := 2147483647) (by omega)
  simp [sub_lst h.c, mul_int (cmul_r (j := 7919) (by omega) (by omega)), mul_int (cmul_r (i := (n * 48271 + cnt * 69621) % 2147483647) (j := (n * 48271 + cnt * 69621) % 2147483647) (by omega) (by omega)), mod_int (j := 2305843009213693951) (by omega)]
  exact q _
/-- the last three rows -/
theorem fill_end {n : Int} {Q : Out → Sto → Prop} (h : Dr S ic is xs pos acc cnt bud nm) (q : ∀ n, Q (.ret (.int n)) S) : Wp (evSs C (.cons (.ifs (.and (.cons (.sub (.var 0) (.int 0)) (.cons (.cmp .GtE (.sub (.var 0) (.int 1)) (.bf .len (.cons (.sub (.var 0) (.int 0)) .nil))) .nil))) (.cons (.asg (.nm 1) (.bin .Add (.var 1) (.bin .Mod (.bf .int (.cons (.sub (.sub (.var 0) (.int 0)) (.neg (.int 1))) .nil)) (.int 1000003))))
  .nil) .nil)
  (.cons (.asg (.nm 1) (.bin .Mod (.bf .int (.cons (.bin .Add (.bin .Mult (.var 1) (.int 48271)) (.bin .Mult (.sub (.var 0) (.int 3)) (.int 69621))) .nil)) (.int 2147483647)))
  (.cons (.ret (.bin .Add (.bin .Mod (.bf .int (.cons (.bin .Add (.bin .Add (.bin .Mult (.var 1) (.var 1)) (.bin .Mult (.sub (.var 0) (.int 3)) (.int 7919))) (.int 11)) .nil)) (.int 2305843009213693951)) (.int 2305843009213693951)))
  .nil))) [some (.ref ic), some (.int n)] S) Q := by
  refine wp_ss ?_
  by_cases hx : xs = []
  · have hx2 : (xs.map D.int).isEmpty = true := by simp [hx]
    simp [sub_lst h.c, truthR_lst h.s, hx2]
    exact fill_last n h q
  · have hx2 : (xs.map D.int).isEmpty = false := by simpa using hx
    simp [sub_lst h.c, truthR_lst h.s, hx2, len_lst h.s]
    by_cases hp : (xs.length : Int) ≤ pos
    · obtain ⟨m, hm⟩ := atI_last hx
      simp [hp]
      refine wp_ss ?_
      simp [sub_lst h.c, sub_lst h.s, hm, mod_int (j := 1000003) (by omega)]
      exact fill_last _ h q
    · simp [hp]
      exact fill_last n h q
theorem fill_body {Q : Out → Sto → Prop} (h : Dr S ic is xs pos acc cnt bud nm) (q : ∀ n pos', 0 ≤ pos' → Q (.ret (.int n)) (S.set ic (.lst [.ref is, .int pos', .int acc, .int (cnt + 1), .int bud, nm]))) : Wp (evSs C fillB [some (.ref ic), none] S) Q := by
  unfold fillB
  refine wp_ss ?_
  simp [sub_lst h.c, h.put3]
  have h1 := h.set (pos' := pos) (acc' := acc) (cnt' := cnt + 1) (bud' := bud) (nm' := nm) h.pos0
  have q1 := fun n => q n pos h.pos0
  have e0 : ∀ (a b c d e f : D) (a' b' c' d' e' f' : D), (S.set ic (.lst [a, b, c, d, e, f])).set ic (.lst [a', b', c', d', e', f']) = S.set ic (.lst [a', b', c', d', e', f']) := fun _ _ _ _ _ _ _ _ _ _ _ _ => List.set_set ..
  have hp1 : 0 ≤ pos + 1 := by
    have := h.pos0
    omega
  have q2 := fun n => q n (pos + 1) hp1
  rw [← e0 (.ref is) (.int pos) (.int acc) (.int (cnt + 1)) (.int bud) nm] at q2
  generalize hS1 : S.set ic (.lst [.ref is, .int pos, .int acc, .int (cnt + 1), .int bud, nm]) = S1 at h1 q1 q2 ⊢
  refine wp_ss ?_
  simp [sub_lst h1.c, mul_int (cmul_r (j := 69621) (by omega) (by omega))]
  refine wp_ss ?_
  simp [sub_lst h1.c, len_lst h1.s]
  by_cases hp : pos < (xs.length : Int)
  · simp [hp]
    refine wp_ss ?_
    obtain ⟨m, hm⟩ : ∃ m, atI (xs.map D.int) pos = some (.int m) := by
      rw [atI_pos h.pos0]
      have hl : pos.toNat < (xs.map D.int).length := by
        have := h.pos0
        simp
        omega
      rw [List.getElem?_eq_getElem hl]
      exact ⟨_, by rw [List.getElem_map]⟩
    simp [sub_lst h1.c, sub_lst h1.s, hm]
    refine wp_ss ?_
    simp [sub_lst h1.c, h1.put1]
    have h2 := h1.set (pos' := pos + 1) (acc' := acc) (cnt' := cnt + 1) (bud' := bud) (nm' := nm) hp1
    generalize hS2 : S1.set ic (.lst [.ref is, .int (pos + 1), .int acc, .int (cnt + 1), .int bud, nm]) = S2 at h2 q2 ⊢
    have tail : ∀ (m : Int) (Q : Out → Sto → Prop), Q (.ret (.int m)) S2 → Q (.nx [some (.ref ic), some (.int m)]) S2 → Wp (evSs C (.cons (.ifs (.cmp .GtE (.var 1) (.bin .Pow (.int 10) (.int 18))) (.cons (.ret (.var 1)) .nil) .nil) .nil) [some (.ref ic), some (.int m)] S2) Q := by
      intro m Q q3 q4
      refine wp_ss ?_
      simp [pow_int (i := 10) (j := 18) ⟨by omega, by omega, by decide⟩]
      refine wp_ifp (fun _ => ?_) fun _ => ?_
      · refine wp_ss ?_
        simpa using q3
      · simpa using q4
    refine wp_ss ?_
    simp
    refine wp_ifp (fun _ => ?_) fun _ => ?_
    · refine wp_ss ?_
      simp
      exact tail _ _ (q2 _) (fill_end h2 q2)
    · simp
      exact tail _ _ (q2 _) (fill_end h2 q2)
  · simp [hp]
    exact fill_end h1 q1
end
end Mi
set_option Elab.async false
set_option linter.all false
set_option maxRecDepth 100000
set_option maxHeartbeats 1000000
/-! M24: a draw as its callers see it. -/
namespace Mi
open PySem L2
/-- the drawing state, its counters not told -/
def Gs (S : Sto) (ic is : Nat) (xs : List Int) (bud : Int) (nm : D) : Prop := ∃ pos acc cnt, Dr S ic is xs pos acc cnt bud nm
/-- the store has grown; what stood stands, but for the list at ic -/
structure Grow (ic : Nat) (S S' : Sto) : Prop where
  len : S.length ≤ S'.length
  same : ∀ i, i < S.length → i ≠ ic → S'[i]? = S[i]?
section
variable {ic is : Nat} {S S' S2 : Sto} {xs : List Int} {bud : Int} {nm : D}
theorem Grow.refl : Grow ic S S := ⟨Nat.le_refl _, fun _ _ _ => rfl⟩
theorem Grow.trans (a : Grow ic S S') (b : Grow ic S' S2) : Grow ic S S2 := ⟨Nat.le_trans a.len b.len, fun i h1 h2 => (b.same i (Nat.lt_of_lt_of_le h1 a.len) h2).trans (a.same i h1 h2)⟩
theorem Grow.app {o : O} : Grow ic S (S ++ [o]) := ⟨by simp, fun i h _ => List.getElem?_append_left h⟩
theorem Grow.set {o : O} : Grow ic S (S.set ic o) := ⟨by simp, fun i _ h => List.getElem?_set_ne (Ne.symm h)⟩
theorem Grow.at (g : Grow ic S S') {i : Nat} {o : O} (h : S[i]? = some o) (hi : i ≠ ic) : S'[i]? = some o := by rw [g.same i (List.getElem?_eq_some_iff.mp h).1 hi, h]
theorem lt_of {i : Nat} {o : O} (h : S[i]? = some o) : i < S.length := (List.getElem?_eq_some_iff.mp h).1
theorem Gs.lt (h : Gs S ic is xs bud nm) : ic < S.length := let ⟨_, _, _, h⟩ := h; h.lt
theorem Gs.app {o : O} (h : Gs S ic is xs bud nm) : Gs (S ++ [o]) ic is xs bud nm := by
  obtain ⟨p, a, c, h⟩ := h
  exact ⟨p, a, c, by rw [List.getElem?_append_left h.lt]; exact h.c, by rw [List.getElem?_append_left (lt_of h.s)]; exact h.s, h.pos0, h.ne⟩
theorem new_at {o : O} : (S ++ [o])[S.length]? = some o := by simp
theorem new_ne (h : Gs S ic is xs bud nm) : S.length ≠ ic := Nat.ne_of_gt h.lt
/-- the drawing defs of a law -/
structure Drawn (P : Pr) : Prop where
  fill : P.fns.lookup ("_law_fill" : Str) = some ⟨1, 2, fillB⟩
  take : P.fns.lookup ("_law_take" : Str) = some ⟨2, 3, takeB⟩
theorem take_call {P : Pr} (hD : Drawn P) {k : Nat} {many : Int} {Q : D → Sto → Prop} (h : Gs S ic is xs bud nm) (hm : 0 < many) (hm2 : many < 1073741824)
    (q : ∀ d S', 0 ≤ d → d < many → Gs S' ic is xs bud nm → Grow ic S S' → Q (.int d) S') : Wp ((cxt P (k + 2)).call "_law_take" [.ref ic, .int many] S) Q := by
  obtain ⟨pos, acc, cnt, h⟩ := h
  rw [call_fn hD.take, run_fn2 rfl, wp_bind]
  show Wp (evSs (cxt P (k + 1)) takeB [some (.ref ic), some (.int many), none] S) _
  have last : ∀ {S1 : Sto} {pos acc cnt : Int}, Dr S1 ic is xs pos acc cnt bud nm → Grow ic S S1 → Wp (evSs (cxt P (k + 1)) (.cons (.asg (.nm 2) (.bin .Mod (.bf .int (.cons (.sub (.var 0) (.int 2)) .nil)) (.var 1)))
      (.cons (.asg (.sub (.var 0) (.int 2)) (.bin .FloorDiv (.sub (.var 0) (.int 2)) (.var 1)))
      (.cons (.ret (.var 2)) .nil))) [some (.ref ic), some (.int many), none] S1) fun o S => Wp (outV o S) Q := by
    intro S1 pos acc cnt h1 g
    refine wp_ss ?_
    simp [sub_lst h1.c, mod_int hm]
    refine wp_ss ?_
    simp [sub_lst h1.c, fdiv_int (i := acc) (j := many) ⟨hm, hm2⟩, h1.put2]
    refine wp_ss ?_
    simp
    exact q _ _ (Int.emod_nonneg _ (by omega)) (Int.emod_lt_of_pos _ hm) ⟨_, _, _, h1.set (pos' := pos) (acc' := acc / many) (cnt' := cnt) (bud' := bud) (nm' := nm) h1.pos0⟩ (g.trans .set)
  unfold takeB
  refine wp_ss ?_
  simp [sub_lst h.c]
  refine wp_ifp (fun _ => ?_) fun _ => ?_
  · refine wp_ss ?_
    simp
    rw [call_fn hD.fill, run_fn2 rfl, wp_bind]
    refine fill_body h fun n pos' hp => ?_
    have h2 := h.set (pos' := pos') (acc' := acc) (cnt' := cnt + 1) (bud' := bud) (nm' := nm) hp
    simp [h2.put2]
    exact last (h.set (pos' := pos') (acc' := n) (cnt' := cnt + 1) (bud' := bud) (nm' := nm) hp) .set
  · simp
    exact last h .refl
end
end Mi
set_option Elab.async false
set_option linter.all false
set_option maxRecDepth 100000
set_option maxHeartbeats 1000000
/-! M50: plain programs, what they do (in plain Lean). -/
namespace Mi
open PySem L2
mutual
inductive Pl where
  | num (i : Int) | name (x : Str) | fn (k : Int) (x : Str) (b : Pl) | call (k : Int) (f a : Pl) | sum (k : Int) (a b : Pl) | less (k : Int) (a b : Pl) | ite (k : Int) (c a b : Pl)
  | let_ (x : Str) (a b : Pl) | say (k : Int) (a : Pl) | delay (x : Str) (a b : Pl) | force (x : Str) | tick (a : Pl) | switch (s : Int) (bs : Br) (a : Pl) | set_ (s m : Int) (a : Pl) | put (s m : Int)
inductive Br where
  | nil | cons (m : Int) (e : Pl) (r : Br)
end
mutual
def Pl.d : Pl → D
  | .num i => .tup [.str "num", .int i]
  | .name x => .tup [.str "name", .str x]
  | .fn k x b => .tup [.str "fn", .int k, .str x, b.d]
  | .call k a b => .tup [.str "call", .int k, a.d, b.d]
  | .sum k a b => .tup [.str "sum", .int k, a.d, b.d]
  | .less k a b => .tup [.str "less", .int k, a.d, b.d]
  | .ite k c a b => .tup [.str "if", .int k, c.d, a.d, b.d]
  | .let_ x a b => .tup [.str "let", .str x, a.d, b.d]
  | .say k a => .tup [.str "say", .int k, a.d]
  | .delay x a b => .tup [.str "delay", .str x, a.d, b.d]
  | .force x => .tup [.str "force", .str x]
  | .tick a => .tup [.str "tick", a.d]
  | .switch s bs a => .tup [.str "switch", .int s, .tup bs.ds, a.d]
  | .set_ s m a => .tup [.str "set", .int s, .int m, a.d]
  | .put s m => .tup [.str "put", .int s, .int m]
def Br.ds : Br → List D
  | .nil => []
  | .cons m e r => .tup [.int m, e.d] :: r.ds
end
def Br.pick (j : Int) (a : Pl) : Br → Pl
  | .nil => a
  | .cons m e r => if m = j then e else r.pick j a
mutual
inductive Val where
  | int (i : Int) | fn (k : Int) (x : Str) (b : Pl) (ns : Ns) (ds : Ds)
inductive Ns where
  | nil | cons (x : Str) (v : Val) (r : Ns)
inductive Ds where
  | nil | cons (x : Str) (e : Pl) (ns : Ns) (ds : Ds) (r : Ds)
end
def Ns.look (x : Str) : Ns → Option Val
  | .nil => none
  | .cons y v r => if y = x then some v else r.look x
def Ds.look (x : Str) : Ds → Option (Pl × Ns × Ds)
  | .nil => none
  | .cons y e ns ds r => if y = x then some (e, ns, ds) else r.look x
/-- a value as it is shown -/
def Val.sh : Val → D
  | .int i => .int i
  | .fn k _ _ _ _ => .tup [.str "fn", .int k]
structure St where
  fu : Nat
  out : List D
  sw : Int → Int
inductive Res where
  | val (v : Val) | stuck (k : Int) | more
def upS (f : Int → Int) (s m : Int) : Int → Int := fun i => if i = s then m else f i
abbrev Ans := Option (Res × St)
def Ans.then (r : Ans) (f : Val → St → Ans) : Ans := match r with
  | some (.val v, st) => f v st
  | some (.stuck k, st) => some (.stuck k, st)
  | some (.more, st) => some (.more, st)
  | none => none
/-- a step, and on -/
def stepA (st : St) (f : St → Ans) : Ans := if st.fu = 0 then some (.more, st) else f { st with fu := st.fu - 1 }
def ev2 : Nat → Pl → Ns → Ds → St → Ans
  | 0, _, _, _, _ => none
  | n + 1, e, ns, ds, st => match e with
    | .num i => some (.val (.int i), st)
    | .name x => (ns.look x).map fun v => (.val v, st)
    | .fn k x b => some (.val (.fn k x b ns ds), st)
    | .put s m => some (.val (.int 0), { st with sw := upS st.sw s m })
    | .force x => match ds.look x with
      | some (e, ns, ds) => ev2 n e ns ds st
      | none => none
    | .delay x a b => ev2 n b ns (.cons x a ns ds ds) st
    | .tick a => stepA st fun st => ev2 n a ns ds st
    | .switch s bs a => ev2 n (bs.pick (st.sw s) a) ns ds st
    | .set_ s m a => (ev2 n a ns ds { st with sw := upS st.sw s m }).then fun v st' => some (.val v, { st' with sw := upS st'.sw s (st.sw s) })
    | .let_ x a b => (ev2 n a ns ds st).then fun v st' => ev2 n b (.cons x v ns) ds st'
    | .say k a => (ev2 n a ns ds st).then fun v st' => some (.val v, { st' with out := st'.out ++ [.tup [.int k, v.sh]] })
    | .ite k c a b => (ev2 n c ns ds st).then fun v st' => match v with
      | .int i => ev2 n (if i ≠ 0 then a else b) ns ds st'
      | .fn _ _ _ _ _ => some (.stuck k, st')
    | .call k f a => (ev2 n f ns ds st).then fun vf st1 => (ev2 n a ns ds st1).then fun va st2 => match vf with
      | .int _ => some (.stuck k, st2)
      | .fn j x b ns' ds' => if j = k then stepA st2 fun st => ev2 n b (.cons x va ns') ds' st else some (.stuck k, st2)
    | .sum k a b => (ev2 n a ns ds st).then fun v st1 => (ev2 n b ns ds st1).then fun u st2 => match v, u with
      | .int i, .int j => some (.val (.int (i + j)), st2)
      | _, _ => some (.stuck k, st2)
    | .less k a b => (ev2 n a ns ds st).then fun v st1 => (ev2 n b ns ds st1).then fun u st2 => match v, u with
      | .int i, .int j => some (.val (.int (if i < j then 1 else 0)), st2)
      | _, _ => some (.stuck k, st2)
/-- a switch that nothing turns -/
def still : Int := 1000003
def Br.none0 : Br → Prop
  | .nil => True
  | .cons m _ r => m ≠ 0 ∧ r.none0
/-- a switch's number -/
def swn (s : Int) : Prop := (0 ≤ s ∧ s < 1000000) ∨ s = 1000000007
theorem swn_ne {s : Int} (h : swn s) : s ≠ still := by
  unfold swn at h
  unfold still
  omega
mutual
/-- e, among names N and delayed names L whose expressions cost at most h and print at most p, costs at most w and prints at most o; a function's body costs at most K and prints at most B -/
inductive Fit (K B : Nat) : List Str → List Str → Nat → Nat → Nat → Nat → Pl → Prop where
  | num {N L : List Str} {h p w o : Nat} (i : Int) : Fit K B N L h p (w + 1) o (.num i)
  | name {N L : List Str} {h p w o : Nat} {x : Str} (hx : x ∈ N) : Fit K B N L h p (w + 1) o (.name x)
  | fn {N L : List Str} {h p w o v u : Nat} {k : Int} {x : Str} {b : Pl} (hb : Fit K B (x :: N) L h p v u b) (hv : v ≤ K) (hu : u ≤ B) : Fit K B N L h p (w + 1) o (.fn k x b)
  | put {N L : List Str} {h p w o : Nat} {s m : Int} (hs : swn s) : Fit K B N L h p (w + 1) o (.put s m)
  | force {N L : List Str} {h p w o : Nat} {x : Str} (hx : x ∈ L) (hw : h ≤ w) (ho : p ≤ o) : Fit K B N L h p (w + 1) o (.force x)
  | delay {N L : List Str} {h p w o g u : Nat} {x : Str} {a b : Pl} (ha : Fit K B N L h p g u a) (hb : Fit K B N (x :: L) g u w o b) (hg : h ≤ g) (hu : p ≤ u) : Fit K B N L h p (w + 1) o (.delay x a b)
  | idle {N L : List Str} {h p w o : Nat} {x : Str} {a b : Pl} (hx : x ∉ L) (hb : Fit K B N L h p w o b) : Fit K B N L h p (w + 1) o (.delay x a b)
  | tick {N L : List Str} {h p w o : Nat} {a : Pl} (ha : Fit K B N L h p w o a) : Fit K B N L h p (w + 1) o (.tick a)
  | switch {N L : List Str} {h p w o : Nat} {s : Int} {bs : Br} {a : Pl} (hb : FitB K B N L h p w o bs) (ha : Fit K B N L h p w o a) : Fit K B N L h p (w + 1) o (.switch s bs a)
  | rest {N L : List Str} {h p w o : Nat} {bs : Br} {a : Pl} (hb : bs.none0) (ha : Fit K B N L h p w o a) : Fit K B N L h p (w + 1) o (.switch still bs a)
  | set_ {N L : List Str} {h p w o : Nat} {s m : Int} {a : Pl} (hs : swn s) (ha : Fit K B N L h p w o a) : Fit K B N L h p (w + 1) o (.set_ s m a)
  | let_ {N L : List Str} {h p w o u : Nat} {x : Str} {a b : Pl} (ha : Fit K B N L h p w o a) (hb : Fit K B (x :: N) L h p w u b) : Fit K B N L h p (w + 1) (o + u) (.let_ x a b)
  | say {N L : List Str} {h p w o : Nat} {k : Int} {a : Pl} (ha : Fit K B N L h p w o a) : Fit K B N L h p (w + 1) (o + 1) (.say k a)
  | ite {N L : List Str} {h p w o u : Nat} {k : Int} {c a b : Pl} (hc : Fit K B N L h p w o c) (ha : Fit K B N L h p w u a) (hb : Fit K B N L h p w u b) : Fit K B N L h p (w + 1) (o + u) (.ite k c a b)
  | yes {N L : List Str} {h p w o : Nat} {k i : Int} {a b : Pl} (hi : i ≠ 0) (ha : Fit K B N L h p (w + 1) o a) : Fit K B N L h p (w + 2) o (.ite k (.num i) a b)
  | call {N L : List Str} {h p w o u : Nat} {k : Int} {f a : Pl} (hf : Fit K B N L h p w o f) (ha : Fit K B N L h p w u a) : Fit K B N L h p (w + 1) (o + u) (.call k f a)
  | here {N L : List Str} {h p w o u : Nat} {k j : Int} {x : Str} {b a : Pl} (hb : Fit K B (x :: N) L h p (w + 1) o b) (ha : Fit K B N L h p (w + 1) u a) : Fit K B N L h p (w + 2) (o + u) (.call k (.fn j x b) a)
  | sum {N L : List Str} {h p w o u : Nat} {k : Int} {a b : Pl} (ha : Fit K B N L h p w o a) (hb : Fit K B N L h p w u b) : Fit K B N L h p (w + 1) (o + u) (.sum k a b)
  | less {N L : List Str} {h p w o u : Nat} {k : Int} {a b : Pl} (ha : Fit K B N L h p w o a) (hb : Fit K B N L h p w u b) : Fit K B N L h p (w + 1) (o + u) (.less k a b)
inductive FitB (K B : Nat) : List Str → List Str → Nat → Nat → Nat → Nat → Br → Prop where
  | nil {N L : List Str} {h p w o : Nat} : FitB K B N L h p w o .nil
  | cons {N L : List Str} {h p w o : Nat} {m : Int} {e : Pl} {r : Br} (he : Fit K B N L h p w o e) (hr : FitB K B N L h p w o r) : FitB K B N L h p w o (.cons m e r)
end
mutual
/-- values, names, delayed names that are as they should be -/
def VOk (K B : Nat) : Val → Prop
  | .int _ => True
  | .fn _ x b ns ds => ∃ N L h p w o, Fit K B (x :: N) L h p w o b ∧ w ≤ K ∧ o ≤ B ∧ NOk K B N ns ∧ DOk K B L h p ds
def NOk (K B : Nat) (N : List Str) : Ns → Prop
  | .nil => N = []
  | .cons x v r => VOk K B v ∧ ∃ N', NOk K B N' r ∧ ∀ y ∈ N, y = x ∨ y ∈ N'
def DOk (K B : Nat) (L : List Str) (h p : Nat) : Ds → Prop
  | .nil => L = []
  | .cons x e ns ds r => (x ∈ L → ∃ N L' h' p' w o, Fit K B N L' h' p' w o e ∧ w ≤ h ∧ o ≤ p ∧ NOk K B N ns ∧ DOk K B L' h' p' ds) ∧ ∃ L' h' p', DOk K B L' h' p' r ∧ h' ≤ h ∧ p' ≤ p ∧ ∀ y ∈ L, y = x ∨ y ∈ L'
end
theorem nok_look {K B : Nat} {x : Str} : ∀ {ns : Ns} {N : List Str}, NOk K B N ns → x ∈ N → ∃ v, ns.look x = some v ∧ VOk K B v
  | .nil, N, h, hx => by
    have h : N = [] := h
    subst h
    cases hx
  | .cons y v r, N, h, hx => by
    obtain ⟨h1, N', h2, h3⟩ := (h : VOk K B v ∧ ∃ N', NOk K B N' r ∧ ∀ y' ∈ N, y' = y ∨ y' ∈ N')
    show ∃ v', (if y = x then some v else r.look x) = some v' ∧ VOk K B v'
    by_cases e : y = x
    · rw [if_pos e]
      exact ⟨v, rfl, h1⟩
    · rw [if_neg e]
      rcases h3 x hx with rfl | h4
      · exact absurd rfl e
      · exact nok_look h2 h4
theorem nok_cons {K B : Nat} {x : Str} {v : Val} {N : List Str} {ns : Ns} (hv : VOk K B v) (h : NOk K B N ns) : NOk K B (x :: N) (.cons x v ns) := ⟨hv, N, h, fun y hy => List.mem_cons.mp hy⟩
theorem dok_look {K B : Nat} {x : Str} : ∀ {ds : Ds} {L : List Str} {h p : Nat}, DOk K B L h p ds → x ∈ L → ∃ e ns ds', ds.look x = some (e, ns, ds') ∧ ∃ N L' h' p' w o, Fit K B N L' h' p' w o e ∧ w ≤ h ∧ o ≤ p ∧ NOk K B N ns ∧ DOk K B L' h' p' ds'
  | .nil, L, h, p, q, hx => by
    have q : L = [] := q
    subst q
    cases hx
  | .cons y e ns ds r, L, h, p, q, hx => by
    obtain ⟨h1, L', h', p', h2, h3, h3', h4⟩ := (q : (y ∈ L → ∃ N L' h' p' w o, Fit K B N L' h' p' w o e ∧ w ≤ h ∧ o ≤ p ∧ NOk K B N ns ∧ DOk K B L' h' p' ds) ∧ ∃ L' h' p', DOk K B L' h' p' r ∧ h' ≤ h ∧ p' ≤ p ∧ ∀ z ∈ L, z = y ∨ z ∈ L')
    show ∃ e' ns' ds', (if y = x then some (e, ns, ds) else r.look x) = some (e', ns', ds') ∧ _
    by_cases e : y = x
    · subst e
      rw [if_pos rfl]
      exact ⟨_, _, _, rfl, h1 hx⟩
    · rw [if_neg e]
      rcases h4 x hx with rfl | h5
      · exact absurd rfl e
      · obtain ⟨a, b, c, d, N, L2, h6, p6, w, o, e1, e2, e2', e3, e4⟩ := dok_look h2 h5
        exact ⟨a, b, c, d, N, L2, h6, p6, w, o, e1, Nat.le_trans e2 h3, Nat.le_trans e2' h3', e3, e4⟩
theorem pick_fit {K B : Nat} {N L : List Str} {h p w o : Nat} {a : Pl} (ha : Fit K B N L h p w o a) (j : Int) : ∀ {bs : Br}, FitB K B N L h p w o bs → Fit K B N L h p w o (bs.pick j a)
  | .nil, _ => ha
  | .cons m e r, .cons he hr => by
    show Fit K B N L h p w o (if m = j then e else r.pick j a)
    by_cases q : m = j
    · rw [if_pos q]
      exact he
    · rw [if_neg q]
      exact pick_fit ha j hr
theorem pick_none {a : Pl} : ∀ {bs : Br}, bs.none0 → bs.pick 0 a = a
  | .nil, _ => rfl
  | .cons m e r, h => by
    show (if m = 0 then e else r.pick 0 a) = a
    rw [if_neg h.1]
    exact pick_none h.2
/-- what has been printed and may be printed by steps to come -/
def St.pr (B : Nat) (st : St) : Nat := st.out.length + st.fu * B
/-- a good end -/
def Good2 (K B o : Nat) (st : St) (a : Ans) : Prop := ∃ r st', a = some (r, st') ∧ st'.fu ≤ st.fu ∧ st'.sw still = 0 ∧ st'.pr B ≤ st.pr B + o ∧ ∀ v, r = .val v → VOk K B v
theorem Good2.then {K B o u : Nat} {st : St} {a : Ans} {f : Val → St → Ans} (h : Good2 K B o st a) (hf : ∀ v st', st'.fu ≤ st.fu → st'.sw still = 0 → VOk K B v → Good2 K B u st' (f v st')) : Good2 K B (o + u) st (a.then f) := by
  obtain ⟨r, st', rfl, h1, h2, h4, h3⟩ := h
  cases r with
  | val v =>
    obtain ⟨r2, st2, e2, g1, g2, g4, g3⟩ := hf v st' h1 h2 (h3 v rfl)
    exact ⟨r2, st2, e2, Nat.le_trans g1 h1, g2, by omega, g3⟩
  | stuck k => exact ⟨_, _, rfl, h1, h2, by omega, fun v e => by cases e⟩
  | more => exact ⟨_, _, rfl, h1, h2, by omega, fun v e => by cases e⟩
theorem Good2.le {K B o u : Nat} {st : St} {a : Ans} (h : Good2 K B o st a) (hl : o ≤ u) : Good2 K B u st a := by
  obtain ⟨r, st', e, h1, h2, h4, h3⟩ := h
  exact ⟨r, st', e, h1, h2, by omega, h3⟩
theorem good_val {K B o : Nat} {st : St} {v : Val} (hs : st.sw still = 0) (hv : VOk K B v) : Good2 K B o st (some (.val v, st)) := ⟨_, _, rfl, Nat.le_refl _, hs, by omega, fun u e => by cases e; exact hv⟩
theorem good_stuck {K B o : Nat} {st : St} {k : Int} (hs : st.sw still = 0) : Good2 K B o st (some (.stuck k, st)) := ⟨_, _, rfl, Nat.le_refl _, hs, by omega, fun u e => by cases e⟩
theorem good_step {K B o : Nat} {st1 : St} {f : St → Ans} (hs : st1.sw still = 0) (hf : ∀ st2 : St, st2.fu + 1 = st1.fu → st2.sw still = 0 → Good2 K B (o + B) st2 (f st2)) : Good2 K B o st1 (stepA st1 f) := by
  unfold stepA
  by_cases h : st1.fu = 0
  · rw [if_pos h]
    exact ⟨_, _, rfl, Nat.le_refl _, hs, by omega, fun u e => by cases e⟩
  · rw [if_neg h]
    obtain ⟨r, st', e, h1, h2, h4, h3⟩ := hf { st1 with fu := st1.fu - 1 } (by show st1.fu - 1 + 1 = st1.fu; omega) hs
    have h1 : st'.fu ≤ st1.fu - 1 := h1
    refine ⟨r, st', e, by omega, h2, ?_, h3⟩
    have h4 : st'.pr B ≤ st1.out.length + (st1.fu - 1) * B + (o + B) := h4
    have h5 : (st1.fu - 1) * B + B = st1.fu * B := by
      obtain ⟨m, hm⟩ : ∃ m, st1.fu = m + 1 := ⟨st1.fu - 1, by omega⟩
      rw [hm, Nat.add_sub_cancel, Nat.add_mul]
      omega
    show st'.pr B ≤ st1.out.length + st1.fu * B + o
    omega
theorem upS_still {f : Int → Int} {s m : Int} (h : f still = 0) (hs : s ≠ still) : upS f s m still = 0 := by
  unfold upS
  rw [if_neg (Ne.symm hs)]
  exact h
/-- with so much room it ends well -/
theorem ev_total {K B : Nat} : ∀ (n : Nat) (e : Pl) (ns : Ns) (ds : Ds) (st : St) (N L : List Str) (h p w o : Nat), Fit K B N L h p w o e → NOk K B N ns → DOk K B L h p ds → st.sw still = 0 → w + st.fu * K ≤ n → Good2 K B o st (ev2 n e ns ds st) := by
  intro n
  induction n with
  | zero =>
    intro e ns ds st N L h p w o q _ _ _ hn
    have : w = 0 := by omega
    subst this
    cases q
  | succ n ih =>
    intro e ns ds st N L h p w o q hN hL hs hn
    have mono : ∀ {st1 : St}, st1.fu ≤ st.fu → st1.fu * K ≤ st.fu * K := fun h => Nat.mul_le_mul_right K h
    -- the body of a function
    have app : ∀ {v : Val} {st2 : St} {k : Int} {u : Val}, st2.fu ≤ st.fu → st2.sw still = 0 → st.fu * K ≤ n → VOk K B v → VOk K B u → Good2 K B 0 st2 (match v with
        | .int _ => some (.stuck k, st2)
        | .fn j x b ns' ds' => if j = k then stepA st2 fun st => ev2 n b (.cons x u ns') ds' st else some (.stuck k, st2)) := fun {v st2 k u} hl h2 hk hv hu => by
      cases v with
      | int i => exact good_stuck h2
      | fn j x b ns' ds' =>
        dsimp only
        by_cases hj : j = k
        · rw [if_pos hj]
          obtain ⟨N', L', h', p', w', o', f1, f2, f2', f3, f4⟩ := hv
          refine good_step h2 fun st3 e3 h3 => ?_
          refine (ih b (.cons x u ns') ds' st3 (x :: N') L' h' p' w' o' f1 (nok_cons hu f3) f4 h3 ?_).le (by omega)
          have : (st3.fu + 1) * K ≤ st.fu * K := Nat.mul_le_mul_right K (by omega)
          rw [Nat.add_mul] at this
          omega
        · rw [if_neg hj]
          exact good_stuck h2
    cases q with
    | num i => exact good_val hs trivial
    | name hx =>
      obtain ⟨v, e, hv⟩ := nok_look hN hx
      show Good2 K B o st ((ns.look _).map _)
      rw [e]
      exact good_val hs hv
    | fn hb hv hu => exact good_val hs ⟨_, _, _, _, _, _, hb, hv, hu, hN, hL⟩
    | @put _ _ _ _ _ _ s m hs2 => exact ⟨_, _, rfl, Nat.le_refl _, upS_still hs (swn_ne hs2), by show _ ≤ st.out.length + st.fu * B + o; show st.out.length + st.fu * B ≤ _; omega, fun v e => by cases e; trivial⟩
    | force hx hw ho =>
      obtain ⟨e2, ns2, ds2, e, N2, L2, h2, p2, w2, o2, f1, f2, f2', f3, f4⟩ := dok_look hL hx
      show Good2 K B o st (match ds.look _ with | some (e, ns, ds) => ev2 n e ns ds st | none => none)
      rw [e]
      exact (ih e2 ns2 ds2 st N2 L2 h2 p2 w2 o2 f1 f3 f4 hs (by omega)).le (by omega)
    | @delay _ _ _ _ w _ g u x a b ha hb hg hu =>
      exact ih b ns _ st N (x :: L) g u w o hb hN ⟨fun _ => ⟨N, L, h, p, g, u, ha, Nat.le_refl _, Nat.le_refl _, hN, hL⟩, L, h, p, hL, hg, hu, fun y hy => List.mem_cons.mp hy⟩ hs (by omega)
    | @idle _ _ _ _ w _ x a b hx hb =>
      exact ih b ns _ st N L h p w o hb hN ⟨fun z => absurd z hx, L, h, p, hL, Nat.le_refl _, Nat.le_refl _, fun y hy => .inr hy⟩ hs (by omega)
    | @tick _ _ _ _ w _ a ha =>
      refine good_step hs fun st2 e2 h2 => (ih a ns ds st2 N L h p w o ha hN hL h2 ?_).le (by omega)
      have := mono (st1 := st2) (by omega)
      omega
    | @switch _ _ _ _ w _ s bs a hb ha => exact ih _ ns ds st N L h p w o (pick_fit ha _ hb) hN hL hs (by omega)
    | @rest _ _ _ _ w _ bs a hb ha =>
      show Good2 K B o st (ev2 n (bs.pick (st.sw still) a) ns ds st)
      rw [hs, pick_none hb]
      exact ih _ ns ds st N L h p w o ha hN hL hs (by omega)
    | @set_ _ _ _ _ w _ s m a hs2 ha =>
      have := Good2.then (u := 0) (f := fun v st' => some (.val v, { st' with sw := upS st'.sw s (st.sw s) })) (ih a ns ds { st with sw := upS st.sw s m } N L h p w o ha hN hL (upS_still hs (swn_ne hs2)) (by show w + st.fu * K ≤ n; omega)) fun v st' h1 h2 h3 =>
        ⟨_, _, rfl, Nat.le_refl _, upS_still h2 (swn_ne hs2), by show st'.out.length + st'.fu * B ≤ st'.out.length + st'.fu * B + 0; omega, fun v e => by cases e; exact h3⟩
      exact this
    | @let_ _ _ _ _ w _ _ x a b ha hb =>
      refine Good2.then (ih a ns ds st N L h p w _ ha hN hL hs (by omega)) fun v st' h1 h2 h3 => ?_
      have := mono h1
      exact ih b _ ds st' (x :: N) L h p w _ hb (nok_cons h3 hN) hL h2 (by omega)
    | @say _ _ _ _ w _ k a ha =>
      refine Good2.then (ih a ns ds st N L h p w _ ha hN hL hs (by omega)) fun v st' h1 h2 h3 => ?_
      refine ⟨_, _, rfl, Nat.le_refl _, h2, ?_, fun u e => by cases e; exact h3⟩
      show (st'.out ++ [_]).length + st'.fu * B ≤ st'.out.length + st'.fu * B + 1
      simp
      omega
    | @ite _ _ _ _ w _ _ k c a b hc ha hb =>
      refine Good2.then (ih c ns ds st N L h p w _ hc hN hL hs (by omega)) fun v st' h1 h2 h3 => ?_
      have := mono h1
      cases v with
      | int i =>
        refine ih _ ns ds st' N L h p w _ ?_ hN hL h2 (by omega)
        by_cases hi : i ≠ 0
        · rw [if_pos hi]
          exact ha
        · rw [if_neg hi]
          exact hb
      | fn _ _ _ _ _ => exact good_stuck h2
    | @yes _ _ _ _ w _ k i a b hi ha =>
      obtain ⟨m, rfl⟩ : ∃ m, n = m + 1 := ⟨n - 1, by omega⟩
      show Good2 K B o st (ev2 (m + 1) (if i ≠ 0 then a else b) ns ds st)
      rw [if_pos hi]
      exact ih a ns ds st N L h p (w + 1) o ha hN hL hs (by omega)
    | @call _ _ _ _ w _ _ k f a hf ha =>
      refine Good2.then (ih f ns ds st N L h p w _ hf hN hL hs (by omega)) fun v st1 h1 h2 h3 => ?_
      have m1 := mono h1
      refine (Good2.then (u := 0) (ih a ns ds st1 N L h p w _ ha hN hL h2 (by omega)) fun u st2 h4 h5 h6 => ?_).le (by omega)
      exact app (by omega) h5 (by omega) h3 h6
    | @here _ _ _ _ w o1 o2 k j x b a hb ha =>
      obtain ⟨m, rfl⟩ : ∃ m, n = m + 1 := ⟨n - 1, by omega⟩
      refine (Good2.then (u := o1) (a := ev2 (m + 1) a ns ds st) (ih a ns ds st N L h p (w + 1) _ ha hN hL hs (by omega)) fun u st2 h4 h5 h6 => ?_).le (by omega)
      show Good2 K B o1 st2 (if j = k then stepA st2 fun st => ev2 (m + 1) b (.cons x u ns) ds st else some (.stuck k, st2))
      by_cases hj : j = k
      · rw [if_pos hj]
        refine good_step h5 fun st3 e3 h7 => ?_
        have := mono (st1 := st3) (by omega)
        exact (ih b _ ds st3 (x :: N) L h p (w + 1) _ hb (nok_cons h6 hN) hL h7 (by omega)).le (by omega)
      · rw [if_neg hj]
        exact good_stuck h5
    | @sum _ _ _ _ w _ _ k a b ha hb =>
      refine Good2.then (ih a ns ds st N L h p w _ ha hN hL hs (by omega)) fun v st1 h1 h2 h3 => ?_
      have m1 := mono h1
      refine (Good2.then (u := 0) (ih b ns ds st1 N L h p w _ hb hN hL h2 (by omega)) fun u st2 h4 h5 h6 => ?_).le (by omega)
      cases v <;> cases u <;> first | exact good_val h5 trivial | exact good_stuck h5
    | @less _ _ _ _ w _ _ k a b ha hb =>
      refine Good2.then (ih a ns ds st N L h p w _ ha hN hL hs (by omega)) fun v st1 h1 h2 h3 => ?_
      have m1 := mono h1
      refine (Good2.then (u := 0) (ih b ns ds st1 N L h p w _ hb hN hL h2 (by omega)) fun u st2 h4 h5 h6 => ?_).le (by omega)
      cases v <;> cases u <;> first | exact good_val h5 trivial | exact good_stuck h5
end Mi
set_option Elab.async false
set_option linter.all false
set_option maxRecDepth 100000
set_option maxHeartbeats 1000000
/-! M25: the programs that are drawn. -/
namespace Mi
open PySem L2
namespace Gen
def kindsB : Sms := .cons (.ret (.lst (.cons (.str "num") (.cons (.str "name") (.cons (.str "fn") (.cons (.str "call") (.cons (.str "sum") (.cons (.str "less") (.cons (.str "if") (.cons (.str "let") (.cons (.str "say") .nil))))))))))) .nil
def kindsF : Fn := ⟨0, 0, kindsB⟩
def partsB : Sms := .cons (.ret (.sub (.lst (.cons (.int 0) (.cons (.int 0) (.cons (.int 0) (.cons (.int 2) (.cons (.int 2) (.cons (.int 2) (.cons (.int 3) (.cons (.int 1) (.cons (.int 1) .nil)))))))))) (.bm .lindex (.call "_law_kinds" .nil) (.cons (.var 0) .nil)))) .nil
def partsF : Fn := ⟨1, 1, partsB⟩
def namesB_2b : Sms := .cons (.asg (.nm 2) (.bin .Add (.var 2) (.sub (.var 1) (.call "_law_take" (.cons (.var 0) (.cons (.sub (.lst (.cons (.int 62) (.cons (.int 52) .nil))) (.bf .int (.cons (.cmp .Eq (.var 2) (.str "")) .nil))) .nil)))))) .nil
def namesB_6b_1t : Sms := .cons (.exp (.bm .append (.var 6) (.cons (.var 7) .nil))) .nil
def namesB_6b_1 : Sms := .cons (.ifs (.and (.cons (.cmp .NotIn (.sub (.var 7) (.int 0)) (.str "0123456789")) (.cons (.cmp .NotIn (.var 7) (.var 6)) (.cons (.call "_law_free" (.cons (.var 7) .nil)) .nil)))) namesB_6b_1t .nil) .nil
def namesB_6b : Sms := .cons (.asg (.nm 7) (.bin .Add (.var 2) (.sub (.var 1) (.bin .Mod (.bf .int (.cons (.bin .Add (.var 4) (.bin .Mult (.var 3) (.var 5))) .nil)) (.int 62))))) namesB_6b_1
def namesB_7 : Sms := .cons (.ret (.slc (.var 6) .nop (.int 10))) .nil
def namesB_6 : Sms := .cons (.for_ (.nm 3) (.rng (.cons (.int 62) .nil)) namesB_6b) namesB_7
def namesB_5 : Sms := .cons (.asg (.nm 6) (.lst .nil)) namesB_6
def namesB_4 : Sms := .cons (.asg (.nm 5) (.bin .Add (.int 1) (.call "_law_take" (.cons (.var 0) (.cons (.int 5) .nil))))) namesB_5
def namesB_3 : Sms := .cons (.asg (.nm 4) (.call "_law_take" (.cons (.var 0) (.cons (.int 62) .nil)))) namesB_4
def namesB_2 : Sms := .cons (.for_ (.nm 3) (.rng (.cons (.sub (.lst (.cons (.int 0) (.cons (.int 0) (.cons (.int 1) (.cons (.int 3) (.cons (.int 6) .nil)))))) (.call "_law_take" (.cons (.var 0) (.cons (.int 5) .nil)))) .nil)) namesB_2b) namesB_3
def namesB_1 : Sms := .cons (.asg (.nm 2) (.str "")) namesB_2
def namesB : Sms := .cons (.asg (.nm 1) (.str "abcdefghijklmnopqrstuvwxyzABCDEFGHIJKLMNOPQRSTUVWXYZ0123456789")) namesB_1
def namesF : Fn := ⟨1, 8, namesB⟩
def freeB : Sms := .cons (.ret (.cmp .NotIn (.var 0) (.bin .Add (.call "_law_kinds" .nil) (.lst (.cons (.str "rule") (.cons (.str "keep") (.cons (.str "part") (.cons (.str "with") (.cons (.str "usual") (.cons (.str "do") .nil)))))))))) .nil
def freeF : Fn := ⟨1, 1, freeB⟩
def integerB : Sms := .cons (.ret (.sub (.lst (.cons (.bin .Sub (.call "_law_take" (.cons (.var 0) (.cons (.int 5) .nil))) (.int 1)) (.cons (.bin .Sub (.call "_law_take" (.cons (.var 0) (.cons (.int 5) .nil))) (.int 1)) (.cons (.call "_law_take" (.cons (.var 0) (.cons (.int 100) .nil))) (.cons (.bin .Sub (.call "_law_take" (.cons (.var 0) (.cons (.int 2000001) .nil))) (.int 1000000)) .nil))))) (.call "_law_take" (.cons (.var 0) (.cons (.int 4) .nil))))) .nil
def integerF : Fn := ⟨1, 1, integerB⟩
def leafB_1t : Sms := .cons (.ret (.tup (.cons (.str "name") (.cons (.sub (.var 1) (.call "_law_take" (.cons (.var 0) (.cons (.bf .len (.cons (.var 1) .nil)) .nil)))) .nil)))) .nil
def leafB_2t_0t : Sms := .cons (.ret (.tup (.cons (.str "part") (.cons (.call "_law_take" (.cons (.var 0) (.cons (.call "_law_parts" (.cons (.var 2) .nil)) .nil))) .nil)))) .nil
def leafB_2t_1 : Sms := .cons (.ret (.tup (.cons (.str "usual") .nil))) .nil
def leafB_2t : Sms := .cons (.ifs (.and (.cons (.cmp .Gt (.call "_law_parts" (.cons (.var 2) .nil)) (.int 0)) (.cons (.cmp .Lt (.var 3) (.int 2)) .nil))) leafB_2t_0t .nil) leafB_2t_1
def leafB_3 : Sms := .cons (.ret (.tup (.cons (.str "num") (.cons (.call "_law_integer" (.cons (.var 0) .nil)) .nil)))) .nil
def leafB_2 : Sms := .cons (.ifs (.and (.cons (.cmp .IsNot (.var 2) .non) (.cons (.cmp .Lt (.var 3) (.int 3)) .nil))) leafB_2t .nil) leafB_3
def leafB_1 : Sms := .cons (.ifs (.and (.cons (.var 1) (.cons (.cmp .Gt (.var 3) (.int 1)) .nil))) leafB_1t .nil) leafB_2
def leafB : Sms := .cons (.asg (.nm 3) (.call "_law_take" (.cons (.var 0) (.cons (.int 4) .nil)))) leafB_1
def leafF : Fn := ⟨3, 4, leafB⟩
def ruleB_1t : Sms := .cons (.ret (.tup (.cons (.str "usual") .nil))) .nil
def ruleB_2t : Sms := .cons (.ret (.tup (.cons (.str "say") (.cons (.tup (.cons (.str "usual") .nil)) .nil)))) .nil
def ruleB_3t_2 : Sms := .cons (.ret (.tup (.cons (.str "let") (.cons (.var 5) (.cons (.tup (.cons (.str "num") (.cons (.call "_law_take" (.cons (.var 0) (.cons (.int 9) .nil))) .nil))) (.cons (.tup (.cons (.str "let") (.cons (.var 6) (.cons (.tup (.cons (.str "say") (.cons (.tup (.cons (.str "name") (.cons (.var 5) .nil))) .nil))) (.cons (.tup (.cons (.str "usual") .nil)) .nil))))) .nil)))))) .nil
def ruleB_3t_1 : Sms := .cons (.asg (.tp [5, 6]) (.slc (.sub (.var 0) (.int 5)) (.int 7) (.int 9))) ruleB_3t_2
def ruleB_3t : Sms := .cons (.asg (.sub (.var 0) (.int 4)) (.bin .Sub (.sub (.var 0) (.int 4)) (.int 5))) ruleB_3t_1
def ruleB_4 : Sms := .cons (.ret (.call "_law_expression" (.cons (.var 0) (.cons (.bin .Add (.var 1) (.int 1)) (.cons (.lst .nil) (.cons (.var 2) (.cons (.var 3) .nil))))))) .nil
def ruleB_3 : Sms := .cons (.ifs (.cmp .Eq (.var 4) (.int 2)) ruleB_3t .nil) ruleB_4
def ruleB_2 : Sms := .cons (.ifs (.cmp .Eq (.var 4) (.int 1)) ruleB_2t .nil) ruleB_3
def ruleB_1 : Sms := .cons (.ifs (.cmp .Eq (.var 4) (.int 0)) ruleB_1t .nil) ruleB_2
def ruleB : Sms := .cons (.asg (.nm 4) (.call "_law_take" (.cons (.var 0) (.cons (.int 6) .nil)))) ruleB_1
def ruleF : Fn := ⟨4, 7, ruleB⟩
def askB_0t : Sms := .cons (.ret (.tup (.cons (.str "do") (.cons (.tup (.cons (.call "_law_expression" (.cons (.var 0) (.cons (.var 1) (.cons (.var 2) (.cons (.var 3) (.cons (.var 4) .nil)))))) (.cons (.call "_law_expression" (.cons (.var 0) (.cons (.var 1) (.cons (.var 2) (.cons (.var 3) (.cons (.var 4) .nil)))))) .nil))) .nil)))) .nil
def askB_1t : Sms := .cons (.ret (.tup (.cons (.str "do") (.cons (.tup (.cons (.call "_law_expression" (.cons (.var 0) (.cons (.var 1) (.cons (.var 2) (.cons (.var 3) (.cons (.var 4) .nil)))))) .nil)) .nil)))) .nil
def askB_2t : Sms := .cons (.ret (.tup (.cons (.str "with") (.cons (.call "_law_expression" (.cons (.var 0) (.cons (.var 1) (.cons (.var 2) (.cons (.var 3) (.cons (.var 4) .nil)))))) .nil)))) .nil
def askB_3 : Sms := .cons (.ret (.call "_law_leaf" (.cons (.var 0) (.cons (.lst .nil) (.cons (.var 3) .nil))))) .nil
def askB_2 : Sms := .cons (.ifs (.and (.cons (.cmp .Eq (.var 3) (.str "let")) (.cons (.cmp .Eq (.call "_law_take" (.cons (.var 0) (.cons (.int 2) .nil))) (.int 0)) .nil))) askB_2t .nil) askB_3
def askB_1 : Sms := .cons (.ifs (.and (.cons (.cmp .Eq (.var 3) (.str "say")) (.cons (.cmp .Eq (.call "_law_take" (.cons (.var 0) (.cons (.int 2) .nil))) (.int 0)) .nil))) askB_1t .nil) askB_2
def askB : Sms := .cons (.ifs (.and (.cons (.cmp .In (.var 3) (.lst (.cons (.str "call") (.cons (.str "sum") (.cons (.str "less") .nil))))) (.cons (.cmp .Eq (.call "_law_take" (.cons (.var 0) (.cons (.int 2) .nil))) (.int 0)) .nil))) askB_0t .nil) askB_1
def askF : Fn := ⟨5, 5, askB⟩
def bindingB_2t : Sms := .cons (.ret (.tup (.cons (.str "fn") (.cons (.var 6) (.cons (.var 7) .nil))))) .nil
def bindingB_3t : Sms := .cons (.ret (.tup (.cons (.str "call") (.cons (.tup (.cons (.str "fn") (.cons (.var 6) (.cons (.var 7) .nil)))) (.cons (.call "_law_expression" (.cons (.var 0) (.cons (.var 2) (.cons (.var 3) (.cons (.var 4) (.cons (.bin .Sub (.var 5) (.int 1)) .nil)))))) .nil))))) .nil
def bindingB_6 : Sms := .cons (.ret (.tup (.cons (.str "let") (.cons (.var 8) (.cons (.tup (.cons (.str "fn") (.cons (.var 6) (.cons (.var 7) .nil)))) (.cons (.sub (.lst (.cons (.var 9) (.cons (.tup (.cons (.str "call") (.cons (.tup (.cons (.str "name") (.cons (.var 8) .nil))) (.cons (.var 9) .nil)))) .nil))) (.call "_law_take" (.cons (.var 0) (.cons (.int 2) .nil)))) .nil)))))) .nil
def bindingB_5 : Sms := .cons (.asg (.nm 9) (.call "_law_expression" (.cons (.var 0) (.cons (.var 2) (.cons (.bin .Add (.var 3) (.lst (.cons (.var 8) .nil))) (.cons (.var 4) (.cons (.bin .Sub (.var 5) (.int 1)) .nil))))))) bindingB_6
def bindingB_4 : Sms := .cons (.asg (.nm 8) (.sub (.sub (.var 0) (.int 5)) (.bin .Add (.int 3) (.call "_law_take" (.cons (.var 0) (.cons (.int 3) .nil)))))) bindingB_5
def bindingB_3 : Sms := .cons (.ifs (.cmp .Eq (.call "_law_take" (.cons (.var 0) (.cons (.int 2) .nil))) (.int 0)) bindingB_3t .nil) bindingB_4
def bindingB_2 : Sms := .cons (.ifs (.cmp .Eq (.var 1) (.int 16)) bindingB_2t .nil) bindingB_3
def bindingB_1 : Sms := .cons (.asg (.nm 7) (.call "_law_expression" (.cons (.var 0) (.cons (.var 2) (.cons (.bin .Add (.var 3) (.lst (.cons (.var 6) .nil))) (.cons (.var 4) (.cons (.bin .Sub (.var 5) (.int 1)) .nil))))))) bindingB_2
def bindingB : Sms := .cons (.asg (.nm 6) (.sub (.sub (.var 0) (.int 5)) (.call "_law_take" (.cons (.var 0) (.cons (.int 3) .nil))))) bindingB_1
def bindingF : Fn := ⟨6, 10, bindingB⟩
def changeB_2t : Sms := .cons (.ret (.tup (.cons (.str "let") (.cons (.sub (.sub (.var 0) (.int 5)) (.int 9)) (.cons (.tup (.cons (.str "keep") (.cons (.var 6) (.cons (.var 7) .nil)))) (.cons (.call "_law_expression" (.cons (.var 0) (.cons (.var 2) (.cons (.bin .Add (.var 3) (.lst (.cons (.sub (.sub (.var 0) (.int 5)) (.int 9)) .nil))) (.cons (.var 4) (.cons (.bin .Sub (.var 5) (.int 1)) .nil)))))) .nil)))))) .nil
def changeB_3t : Sms := .cons (.ret (.tup (.cons (.str "keep") (.cons (.var 6) (.cons (.var 7) .nil))))) .nil
def changeB_4 : Sms := .cons (.ret (.tup (.cons (.str "rule") (.cons (.var 6) (.cons (.var 7) (.cons (.call "_law_expression" (.cons (.var 0) (.cons (.var 2) (.cons (.var 3) (.cons (.var 4) (.cons (.bin .Sub (.var 5) (.int 1)) .nil)))))) .nil)))))) .nil
def changeB_3 : Sms := .cons (.ifs (.cmp .Eq (.var 1) (.int 17)) changeB_3t .nil) changeB_4
def changeB_2 : Sms := .cons (.ifs (.cmp .Eq (.var 1) (.int 13)) changeB_2t .nil) changeB_3
def changeB_1 : Sms := .cons (.asg (.nm 7) (.call "_law_rule" (.cons (.var 0) (.cons (.var 2) (.cons (.var 6) (.cons (.bin .Sub (.var 5) (.int 1)) .nil)))))) changeB_2
def changeB : Sms := .cons (.asg (.nm 6) (.sub (.call "_law_kinds" .nil) (.call "_law_take" (.cons (.var 0) (.cons (.int 9) .nil))))) changeB_1
def changeF : Fn := ⟨6, 8, changeB⟩
def expressionB_2t : Sms := .cons (.ret (.call "_law_leaf" (.cons (.var 0) (.cons (.var 2) (.cons (.var 3) .nil))))) .nil
def expressionB_3t : Sms := .cons (.ret (.call "_law_ask" (.cons (.var 0) (.cons (.var 1) (.cons (.var 2) (.cons (.var 3) (.cons (.bin .Sub (.var 4) (.int 1)) .nil))))))) .nil
def expressionB_4t : Sms := .cons (.ret (.call "_law_binding" (.cons (.var 0) (.cons (.var 5) (.cons (.var 1) (.cons (.var 2) (.cons (.var 3) (.cons (.var 4) .nil)))))))) .nil
def expressionB_5t : Sms := .cons (.ret (.call "_law_change" (.cons (.var 0) (.cons (.var 5) (.cons (.var 1) (.cons (.var 2) (.cons (.var 3) (.cons (.var 4) .nil)))))))) .nil
def expressionB_7t : Sms := .cons (.ret (.tup (.cons (.sub (.lst (.cons (.str "sum") (.cons (.str "less") (.cons (.str "sum") .nil)))) (.bin .Sub (.var 5) (.int 5))) (.cons (.var 6) (.cons (.call "_law_expression" (.cons (.var 0) (.cons (.var 1) (.cons (.var 2) (.cons (.var 3) (.cons (.bin .Sub (.var 4) (.int 1)) .nil)))))) .nil))))) .nil
def expressionB_8t_1 : Sms := .cons (.ret (.tup (.cons (.str "if") (.cons (.var 6) (.cons (.var 7) (.cons (.call "_law_expression" (.cons (.var 0) (.cons (.var 1) (.cons (.var 2) (.cons (.var 3) (.cons (.bin .Sub (.var 4) (.int 1)) .nil)))))) .nil)))))) .nil
def expressionB_8t : Sms := .cons (.asg (.nm 7) (.call "_law_expression" (.cons (.var 0) (.cons (.var 1) (.cons (.var 2) (.cons (.var 3) (.cons (.bin .Sub (.var 4) (.int 1)) .nil))))))) expressionB_8t_1
def expressionB_9t_1 : Sms := .cons (.ret (.tup (.cons (.str "let") (.cons (.var 8) (.cons (.var 6) (.cons (.call "_law_expression" (.cons (.var 0) (.cons (.var 1) (.cons (.bin .Add (.var 2) (.lst (.cons (.var 8) .nil))) (.cons (.var 3) (.cons (.bin .Sub (.var 4) (.int 1)) .nil)))))) .nil)))))) .nil
def expressionB_9t : Sms := .cons (.asg (.nm 8) (.sub (.sub (.var 0) (.int 5)) (.sub (.lst (.cons (.int 0) (.cons (.int 1) (.cons (.int 2) (.cons (.int 6) .nil))))) (.call "_law_take" (.cons (.var 0) (.cons (.int 4) .nil)))))) expressionB_9t_1
def expressionB_10t : Sms := .cons (.ret (.tup (.cons (.str "say") (.cons (.var 6) .nil)))) .nil
def expressionB_11 : Sms := .cons (.ret (.tup (.cons (.str "call") (.cons (.var 6) (.cons (.call "_law_expression" (.cons (.var 0) (.cons (.var 1) (.cons (.var 2) (.cons (.var 3) (.cons (.bin .Sub (.var 4) (.int 1)) .nil)))))) .nil))))) .nil
def expressionB_10 : Sms := .cons (.ifs (.cmp .Eq (.var 5) (.int 11)) expressionB_10t .nil) expressionB_11
def expressionB_9 : Sms := .cons (.ifs (.cmp .Lt (.var 5) (.int 11)) expressionB_9t .nil) expressionB_10
def expressionB_8 : Sms := .cons (.ifs (.cmp .Eq (.var 5) (.int 8)) expressionB_8t .nil) expressionB_9
def expressionB_7 : Sms := .cons (.ifs (.cmp .Lt (.var 5) (.int 8)) expressionB_7t .nil) expressionB_8
def expressionB_6 : Sms := .cons (.asg (.nm 6) (.call "_law_expression" (.cons (.var 0) (.cons (.var 1) (.cons (.var 2) (.cons (.var 3) (.cons (.bin .Sub (.var 4) (.int 1)) .nil))))))) expressionB_7
def expressionB_5 : Sms := .cons (.ifs (.and (.cons (.cmp .In (.var 5) (.lst (.cons (.int 13) (.cons (.int 14) (.cons (.int 15) (.cons (.int 17) .nil)))))) (.cons (.cmp .Lt (.var 1) (.int 3)) .nil))) expressionB_5t .nil) expressionB_6
def expressionB_4 : Sms := .cons (.ifs (.or (.cons (.cmp .Lt (.var 5) (.int 5)) (.cons (.cmp .Eq (.var 5) (.int 16)) .nil))) expressionB_4t .nil) expressionB_5
def expressionB_3 : Sms := .cons (.ifs (.and (.cons (.cmp .In (.var 5) (.lst (.cons (.int 2) (.cons (.int 3) .nil)))) (.cons (.cmp .IsNot (.var 3) .non) .nil))) expressionB_3t .nil) expressionB_4
def expressionB_2 : Sms := .cons (.ifs (.or (.cons (.cmp .Lt (.var 4) (.int 1)) (.cons (.cmp .Lt (.sub (.var 0) (.int 4)) (.int 1)) (.cons (.cmp .Lt (.var 5) (.int 2)) .nil)))) expressionB_2t .nil) expressionB_3
def expressionB_1 : Sms := .cons (.asg (.nm 5) (.call "_law_take" (.cons (.var 0) (.cons (.int 18) .nil)))) expressionB_2
def expressionB : Sms := .cons (.asg (.sub (.var 0) (.int 4)) (.bin .Sub (.sub (.var 0) (.int 4)) (.int 1))) expressionB_1
def expressionF : Fn := ⟨5, 9, expressionB⟩
def innerB_0t : Sms := .cons (.ret (.sub (.var 0) (.int 1))) .nil
def innerB_1 : Sms := .cons (.ret (.lc (.nm 1) (.seq (.slc (.var 0) (.int 1) .nop)) (.isi (.var 1) .tup) (.var 1) [1])) .nil
def innerB : Sms := .cons (.ifs (.cmp .Eq (.sub (.var 0) (.int 0)) (.str "do")) innerB_0t .nil) innerB_1
def innerF : Fn := ⟨1, 2, innerB⟩
def depthB : Sms := .cons (.ret (.bin .Add (.int 1) (.bf .max (.cons (.bin .Add (.lst (.cons (.int 0) .nil)) (.lc (.nm 1) (.seq (.call "_law_inner" (.cons (.var 0) .nil))) .nop (.call "_law_depth" (.cons (.var 1) .nil)) [1])) .nil)))) .nil
def depthF : Fn := ⟨1, 2, depthB⟩
def sizeB : Sms := .cons (.ret (.bin .Add (.int 1) (.bf .sum (.cons (.lc (.nm 1) (.seq (.call "_law_inner" (.cons (.var 0) .nil))) .nop (.call "_law_size" (.cons (.var 1) .nil)) [1]) .nil)))) .nil
def sizeF : Fn := ⟨1, 2, sizeB⟩
def programB_3t : Sms := .cons (.ret (.tup (.cons (.str "say") (.cons (.tup (.cons (.str "num") (.cons (.call "_law_integer" (.cons (.var 0) .nil)) .nil))) .nil)))) .nil
def programB_4 : Sms := .cons (.ret (.var 1)) .nil
def programB_3 : Sms := .cons (.ifs (.or (.cons (.cmp .Gt (.call "_law_depth" (.cons (.var 1) .nil)) (.int 10)) (.cons (.cmp .Gt (.call "_law_size" (.cons (.var 1) .nil)) (.int 60)) .nil))) programB_3t .nil) programB_4
def programB_2 : Sms := .cons (.asg (.nm 1) (.call "_law_expression" (.cons (.var 0) (.cons (.int 0) (.cons (.lst .nil) (.cons .non (.cons (.bin .Add (.int 3) (.call "_law_take" (.cons (.var 0) (.cons (.int 4) .nil)))) .nil))))))) programB_3
def programB_1 : Sms := .cons (.asg (.sub (.var 0) (.int 4)) (.bin .Add (.int 14) (.call "_law_take" (.cons (.var 0) (.cons (.int 10) .nil))))) programB_2
def programB : Sms := .cons (.asg (.sub (.var 0) (.int 5)) (.call "_law_names" (.cons (.var 0) .nil))) programB_1
def programF : Fn := ⟨1, 2, programB⟩
end Gen
/-- the defs that draw a program -/
structure Gens (P : Pr) : Prop extends Drawn P where
  kinds : P.fns.lookup ("_law_kinds" : Str) = some Gen.kindsF
  parts : P.fns.lookup ("_law_parts" : Str) = some Gen.partsF
  names : P.fns.lookup ("_law_names" : Str) = some Gen.namesF
  free : P.fns.lookup ("_law_free" : Str) = some Gen.freeF
  integer : P.fns.lookup ("_law_integer" : Str) = some Gen.integerF
  leaf : P.fns.lookup ("_law_leaf" : Str) = some Gen.leafF
  rule : P.fns.lookup ("_law_rule" : Str) = some Gen.ruleF
  ask : P.fns.lookup ("_law_ask" : Str) = some Gen.askF
  binding : P.fns.lookup ("_law_binding" : Str) = some Gen.bindingF
  change : P.fns.lookup ("_law_change" : Str) = some Gen.changeF
  expression : P.fns.lookup ("_law_expression" : Str) = some Gen.expressionF
  inner : P.fns.lookup ("_law_inner" : Str) = some Gen.innerF
  depth : P.fns.lookup ("_law_depth" : Str) = some Gen.depthF
  size : P.fns.lookup ("_law_size" : Str) = some Gen.sizeF
  program : P.fns.lookup ("_law_program" : Str) = some Gen.programF
/-! ### programs -/
inductive Ex where
  | num (n : Int) | name (x : Str) | fn (x : Str) (b : Ex) | call (a b : Ex) | sum (a b : Ex) | less (a b : Ex) | ite (a b c : Ex) | let_ (x : Str) (a b : Ex) | say (a : Ex)
  | rule (k : Str) (a b : Ex) | keep (k : Str) (a : Ex) | part (i : Int) | with_ (a : Ex) | usual | do1 (a : Ex) | do2 (a b : Ex)
def Ex.d : Ex → D
  | .num n => .tup [.str "num", .int n]
  | .name x => .tup [.str "name", .str x]
  | .fn x b => .tup [.str "fn", .str x, b.d]
  | .call a b => .tup [.str "call", a.d, b.d]
  | .sum a b => .tup [.str "sum", a.d, b.d]
  | .less a b => .tup [.str "less", a.d, b.d]
  | .ite a b c => .tup [.str "if", a.d, b.d, c.d]
  | .let_ x a b => .tup [.str "let", .str x, a.d, b.d]
  | .say a => .tup [.str "say", a.d]
  | .rule k a b => .tup [.str "rule", .str k, a.d, b.d]
  | .keep k a => .tup [.str "keep", .str k, a.d]
  | .part i => .tup [.str "part", .int i]
  | .with_ a => .tup [.str "with", a.d]
  | .usual => .tup [.str "usual"]
  | .do1 a => .tup [.str "do", .tup [a.d]]
  | .do2 a b => .tup [.str "do", .tup [a.d, b.d]]
def kindsS : List Str := ["num", "name", "fn", "call", "sum", "less", "if", "let", "say"]
def partsN (k : Str) : Int := if k = "call" ∨ k = "sum" ∨ k = "less" then 2 else if k = "if" then 3 else if k = "let" ∨ k = "say" then 1 else 0
def wordsS : List Str := ["num", "name", "fn", "call", "sum", "less", "if", "let", "say", "rule", "keep", "part", "with", "usual", "do"]
def lettersS : List Nat := "abcdefghijklmnopqrstuvwxyzABCDEFGHIJKLMNOPQRSTUVWXYZ".toList.map (·.toNat)
def digitsS : List Nat := "0123456789".toList.map (·.toNat)
/-- a name's form -/
def word (x : Str) : Prop := 1 ≤ x.length ∧ x.length ≤ 8 ∧ x ∉ wordsS ∧ (∃ c, x.cps[0]? = some c ∧ c ∈ lettersS) ∧ ∀ c ∈ x.cps.toList, c ∈ lettersS ∨ c ∈ digitsS
def Ex.ok : List Str → Option Str → Ex → Prop
  | _, _, .num n => -1000000 ≤ n ∧ n ≤ 1000000
  | N, _, .name x => word x ∧ x ∈ N
  | N, A, .fn x b => word x ∧ b.ok (N ++ [x]) A
  | N, A, .call a b => a.ok N A ∧ b.ok N A
  | N, A, .sum a b => a.ok N A ∧ b.ok N A
  | N, A, .less a b => a.ok N A ∧ b.ok N A
  | N, A, .ite a b c => a.ok N A ∧ b.ok N A ∧ c.ok N A
  | N, A, .let_ x a b => word x ∧ a.ok N A ∧ b.ok (N ++ [x]) A
  | N, A, .say a => a.ok N A
  | N, A, .rule k a b => k ∈ kindsS ∧ a.ok [] (some k) ∧ b.ok N A
  | _, _, .keep k a => k ∈ kindsS ∧ a.ok [] (some k)
  | _, A, .part i => ∃ k, A = some k ∧ 0 ≤ i ∧ i < partsN k
  | N, A, .with_ a => A = some ("let" : Str) ∧ a.ok N A
  | _, A, .usual => A ≠ none
  | N, A, .do1 a => A = some ("say" : Str) ∧ a.ok N A
  | N, A, .do2 a b => (A = some ("call" : Str) ∨ A = some ("sum" : Str) ∨ A = some ("less" : Str)) ∧ a.ok N A ∧ b.ok N A
/-- how deep -/
def Ex.dp : Ex → Nat
  | .num _ => 1
  | .name _ => 1
  | .fn _ b => b.dp + 1
  | .call a b => max a.dp b.dp + 1
  | .sum a b => max a.dp b.dp + 1
  | .less a b => max a.dp b.dp + 1
  | .ite a b c => max a.dp (max b.dp c.dp) + 1
  | .let_ _ a b => max a.dp b.dp + 1
  | .say a => a.dp + 1
  | .rule _ a b => max a.dp b.dp + 1
  | .keep _ a => a.dp + 1
  | .part _ => 1
  | .with_ a => a.dp + 1
  | .usual => 1
  | .do1 a => a.dp + 1
  | .do2 a b => max a.dp b.dp + 1
def aD : Option Str → D
  | none => .non
  | some k => .str k
/-- of a kind, or of none -/
def aOk (A : Option Str) : Prop := ∀ k, A = some k → k ∈ kindsS
end Mi
set_option Elab.async false
set_option linter.all false
set_option maxRecDepth 100000
set_option maxHeartbeats 1000000
/-! M26: small defs of the generator. -/
namespace Mi
open PySem L2
theorem lindex_lst {S : Sto} {i : Nat} {ys : List D} {y : D} {j : Nat} (h : S[i]? = some (.lst ys)) (hf : flat y = true ∧ ys.all flat = true) (hj : idxF y ys = some j) : bmD .lindex (.ref i) [y] S = .ok (.int (j : Nat)) S := by
  unfold bmD lstOf
  simp only [h]
  rw [if_pos hf, hj]
  rfl
section
variable {P : Pr} {k : Nat} {S : Sto} {ic is nmr : Nat} {xs : List Int} {Wn : List Str} {Q : D → Sto → Prop}
/-- the drawing state with the names -/
structure Cxn (S : Sto) (ic is nmr : Nat) (xs : List Int) (Wn : List Str) : Prop where
  g : ∃ bud, Gs S ic is xs bud (.ref nmr)
  n : S[nmr]? = some (.lst (Wn.map .str))
  ne : nmr ≠ ic
theorem Cxn.app (h : Cxn S ic is nmr xs Wn) {o : O} : Cxn (S ++ [o]) ic is nmr xs Wn := by
  obtain ⟨⟨b, g⟩, n, ne⟩ := h
  exact ⟨⟨b, g.app⟩, by rw [List.getElem?_append_left (lt_of n)]; exact n, ne⟩
theorem Cxn.lt (h : Cxn S ic is nmr xs Wn) : ic < S.length := let ⟨⟨_, g⟩, _, _⟩ := h; g.lt
theorem Cxn.new (h : Cxn S ic is nmr xs Wn) : S.length ≠ ic := Nat.ne_of_gt h.lt
theorem take_cx (G : Gens P) {many : Int} (h : Cxn S ic is nmr xs Wn) (hm : 0 < many) (hm2 : many < 1073741824)
    (q : ∀ d S', 0 ≤ d → d < many → Cxn S' ic is nmr xs Wn → Grow ic S S' → Q (.int d) S') : Wp ((cxt P (k + 2)).call "_law_take" [.ref ic, .int many] S) Q := by
  obtain ⟨⟨b, g⟩, n, ne⟩ := h
  exact take_call G.toDrawn g hm hm2 fun d S' h1 h2 h3 h4 => q d S' h1 h2 ⟨⟨b, h3⟩, h4.at n ne, ne⟩ h4
theorem kinds_ok (G : Gens P) (q : Q (.ref S.length) (S ++ [.lst (kindsS.map .str)])) : Wp ((cxt P (k + 1)).call "_law_kinds" [] S) Q := by
  rw [call_fn G.kinds, run_fn2 rfl, wp_bind]
  unfold Gen.kindsF Gen.kindsB
  refine wp_ss ?_
  simp [startE]
  exact q
theorem idx_kinds {kd : Str} (h : kd ∈ kindsS) : ∃ j, idxF (.str kd) (kindsS.map .str) = some j ∧ ([.int 0, .int 0, .int 0, .int 2, .int 2, .int 2, .int 3, .int 1, .int 1] : List D)[j]? = some (.int (partsN kd)) := by
  have key : ∀ kd ∈ kindsS, ∃ j, idxF (.str kd) (kindsS.map .str) = some j ∧ ([.int 0, .int 0, .int 0, .int 2, .int 2, .int 2, .int 3, .int 1, .int 1] : List D)[j]? = some (.int (partsN kd)) := by
    intro kd h
    simp only [kindsS, List.mem_cons, List.not_mem_nil, or_false] at h
    rcases h with rfl | rfl | rfl | rfl | rfl | rfl | rfl | rfl | rfl
    · exact ⟨0, by rfl, by rfl⟩
    · exact ⟨1, by rfl, by rfl⟩
    · exact ⟨2, by rfl, by rfl⟩
    · exact ⟨3, by rfl, by rfl⟩
    · exact ⟨4, by rfl, by rfl⟩
    · exact ⟨5, by rfl, by rfl⟩
    · exact ⟨6, by rfl, by rfl⟩
    · exact ⟨7, by rfl, by rfl⟩
    · exact ⟨8, by rfl, by rfl⟩
  exact key kd h
theorem flat_strs (l : List Str) : (l.map D.str).all flat = true := by
  rw [List.all_eq_true]
  intro x hx
  obtain ⟨s, _, rfl⟩ := List.mem_map.mp hx
  rfl
theorem parts_ok (G : Gens P) {kd : Str} (hk : kd ∈ kindsS) (q : ∀ o1 o2, Q (.int (partsN kd)) (S ++ [o1] ++ [o2])) : Wp ((cxt P (k + 2)).call "_law_parts" [.str kd] S) Q := by
  rw [call_fn G.parts, run_fn2 rfl, wp_bind]
  unfold Gen.partsF Gen.partsB
  refine wp_ss ?_
  simp [startE, -List.append_assoc, -List.length_append]
  refine kinds_ok G ?_
  obtain ⟨j, h1, h2⟩ := idx_kinds hk
  rw [pre_lst2 new_at (by simp), if_pos rfl]
  try simp [-List.append_assoc, -List.length_append]
  rw [lindex_lst new_at ⟨rfl, flat_strs _⟩ h1]
  try simp [-List.append_assoc, -List.length_append]
  rw [sub_lst (xs := [D.int 0, D.int 0, D.int 0, D.int 2, D.int 2, D.int 2, D.int 3, D.int 1, D.int 1]) (by rw [List.getElem?_append_left (by simp), new_at]), atI_nat, h2]
  exact q _ _
theorem four {α : Type} {a b c d : α} {i : Int} (h0 : 0 ≤ i) (h1 : i < 4) : ∃ y, atI [a, b, c, d] i = some y ∧ (y = a ∨ y = b ∨ y = c ∨ y = d) := by
  have : i = 0 ∨ i = 1 ∨ i = 2 ∨ i = 3 := by omega
  rcases this with rfl | rfl | rfl | rfl
  · exact ⟨a, rfl, by simp⟩
  · exact ⟨b, rfl, by simp⟩
  · exact ⟨c, rfl, by simp⟩
  · exact ⟨d, rfl, by simp⟩
theorem integer_ok (G : Gens P) (h : Cxn S ic is nmr xs Wn) (q : ∀ n S', -1000000 ≤ n → n ≤ 1000000 → Cxn S' ic is nmr xs Wn → Grow ic S S' → Q (.int n) S') : Wp ((cxt P (k + 3)).call "_law_integer" [.ref ic] S) Q := by
  rw [call_fn G.integer, run_fn2 rfl, wp_bind]
  unfold Gen.integerF Gen.integerB
  refine wp_ss ?_
  simp [startE]
  refine take_cx G h (by omega) (by omega) fun d1 S1 a1 b1 c1 g1 => ?_
  simp
  refine take_cx G c1 (by omega) (by omega) fun d2 S2 a2 b2 c2 g2 => ?_
  simp
  refine take_cx G c2 (by omega) (by omega) fun d3 S3 a3 b3 c3 g3 => ?_
  refine take_cx G c3 (by omega) (by omega) fun d4 S4 a4 b4 c4 g4 => ?_
  simp
  refine take_cx G c4.app (by omega) (by omega) fun d5 S5 a5 b5 c5 g5 => ?_
  rw [sub_lst (g5.at new_at c4.new)]
  obtain ⟨y, e, hy⟩ := four (a := D.int (d1 - 1)) (b := .int (d2 - 1)) (c := .int d3) (d := .int (d4 - 1000000)) a5 b5
  rw [e]
  have g := ((g1.trans g2).trans (g3.trans g4)).trans (Grow.app.trans g5)
  rcases hy with rfl | rfl | rfl | rfl
  · simpa using q (d1 - 1) S5 (by omega) (by omega) c5 g
  · simpa using q (d2 - 1) S5 (by omega) (by omega) c5 g
  · simpa using q d3 S5 (by omega) (by omega) c5 g
  · simpa using q (d4 - 1000000) S5 (by omega) (by omega) c5 g
end
end Mi
set_option Elab.async false
set_option linter.all false
set_option maxRecDepth 100000
set_option maxHeartbeats 2000000
/-! M27: leaves, rules, asks, bindings, changes, expressions. -/
namespace Mi
open PySem L2
theorem sizeBig {n m : Nat} (h : n ≤ 1000) (h' : m ≤ 1000) : n + m ≤ sizeLine := by
  rw [sizeLine_eq]
  omega
section
variable {P : Pr} {k : Nat} {S : Sto} {ic is nmr : Nat} {xs : List Int} {Wn : List Str} {Q : D → Sto → Prop} {N : List Str} {A : Option Str} {j : Nat}
theorem str_at {N : List Str} {i : Int} (h0 : 0 ≤ i) (h1 : i < N.length) : ∃ x, x ∈ N ∧ atI (N.map D.str) i = some (.str x) := by
  rw [atI_pos h0]
  have hl : i.toNat < N.length := by omega
  refine ⟨N[i.toNat], List.getElem_mem hl, ?_⟩
  rw [List.getElem?_map, List.getElem?_eq_getElem hl]
  rfl
theorem aD_isnot {cds : Nat → List (Str × D)} (A : Option Str) (S : Sto) : cmpD cds .IsNot (aD A) .non S = .ok (.bl A.isSome) S := by cases A <;> rfl
theorem leaf_ok (G : Gens P) (h : Cxn S ic is nmr xs Wn) (hj : S[j]? = some (.lst (N.map .str))) (hne : j ≠ ic) (hN : N.length ≤ 1000) (hw : ∀ x ∈ N, word x) (hA : aOk A)
    (q : ∀ (x : Ex) S', x.ok N A → x.dp = 1 → Cxn S' ic is nmr xs Wn → Grow ic S S' → Q x.d S') : Wp ((cxt P (k + 4)).call "_law_leaf" [.ref ic, .ref j, aD A] S) Q := by
  rw [call_fn G.leaf, run_fn2 rfl, wp_bind]
  unfold Gen.leafF Gen.leafB
  refine wp_ss ?_
  simp [startE]
  refine take_cx G h (by omega) (by omega) fun d1 S1 a1 b1 c1 g1 => ?_
  try simp
  have hj1 := g1.at hj hne
  -- the number
  have fin : ∀ S2, Cxn S2 ic is nmr xs Wn → Grow ic S S2 → Wp (evSs (cxt P (k + 3)) (.cons (.ret (.tup (.cons (.str "num") (.cons (.call "_law_integer" (.cons (.var 0) .nil)) .nil)))) .nil) [some (.ref ic), some (.ref j), some (aD A), some (.int d1)] S2) fun o S => Wp (outV o S) Q := fun S2 c2 g2 => by
    refine wp_ss ?_
    try simp
    refine integer_ok G c2 fun n S3 l1 l2 c3 g3 => ?_
    try simp
    exact q (.num n) S3 ⟨l1, l2⟩ rfl c3 (g2.trans g3)
  have mid : ∀ S2, Cxn S2 ic is nmr xs Wn → Grow ic S S2 → Wp (evSs (cxt P (k + 3)) (.cons (.ifs (.and (.cons (.cmp .IsNot (.var 2) .non) (.cons (.cmp .Lt (.var 3) (.int 3)) .nil))) (.cons (.ifs (.and (.cons (.cmp .Gt (.call "_law_parts" (.cons (.var 2) .nil)) (.int 0)) (.cons (.cmp .Lt (.var 3) (.int 2)) .nil))) (.cons (.ret (.tup (.cons (.str "part") (.cons (.call "_law_take" (.cons (.var 0) (.cons (.call "_law_parts" (.cons (.var 2) .nil)) .nil))) .nil)))) .nil) .nil)
      (.cons (.ret (.tup (.cons (.str "usual") .nil))) .nil)) .nil) (.cons (.ret (.tup (.cons (.str "num") (.cons (.call "_law_integer" (.cons (.var 0) .nil)) .nil)))) .nil)) [some (.ref ic), some (.ref j), some (aD A), some (.int d1)] S2) fun o S => Wp (outV o S) Q := fun S2 c2 g2 => by
    refine wp_ss ?_
    cases A with
    | none =>
      simp [aD_isnot]
      exact fin S2 c2 g2
    | some kd =>
      have hk := hA kd rfl
      simp [aD_isnot]
      refine wp_ifp (fun _ => ?_) fun _ => ?_
      · refine wp_ss ?_
        simp [aD]
        refine parts_ok G hk fun o1 o2 => ?_
        have c3 := (c2.app (o := o1)).app (o := o2)
        have g3 := (g2.trans (Grow.app (o := o1))).trans (Grow.app (o := o2))
        generalize S2 ++ [o1] ++ [o2] = S3 at c3 g3 ⊢
        have us : Wp (evSs (cxt P (k + 3)) (.cons (.ret (.tup (.cons (.str "usual") .nil))) .nil) [some (.ref ic), some (.ref j), some (.str kd), some (.int d1)] S3) fun o S => Wp (goR o (fun e2 S => evSs (cxt P (k + 3)) (.cons (.ret (.tup (.cons (.str "num") (.cons (.call "_law_integer" (.cons (.var 0) .nil)) .nil)))) .nil) e2 S) S) fun o S => Wp (outV o S) Q := by
          refine wp_ss ?_
          try simp
          exact q .usual S3 (fun e => by cases e) rfl c3 g3
        try simp
        by_cases hp : 0 < partsN kd
        · simp [hp]
          refine wp_ifp (fun _ => ?_) fun _ => us
          refine wp_ss ?_
          try simp
          refine parts_ok G hk fun o1 o2 => ?_
          have c4 := (c3.app (o := o1)).app (o := o2)
          have g4 := (g3.trans (Grow.app (o := o1))).trans (Grow.app (o := o2))
          generalize S3 ++ [o1] ++ [o2] = S4 at c4 g4 ⊢
          try simp
          have hlt : partsN kd < 1073741824 := by
            unfold partsN
            split
            · omega
            · split
              · omega
              · split <;> omega
          refine take_cx G c4 hp hlt fun d5 S5 a5 b5 c5 g5 => ?_
          try simp
          exact q (.part d5) S5 ⟨kd, rfl, a5, b5⟩ rfl c5 (g4.trans g5)
        · simp [hp]
          exact us
      · exact fin S2 c2 g2
  refine wp_ss ?_
  simp [truthR_lst hj1]
  by_cases hN0 : N = []
  · simp [hN0]
    exact mid S1 c1 g1
  · have hl : 0 < N.length := List.length_pos_iff.mpr hN0
    simp [hN0]
    refine wp_ifp (fun _ => ?_) fun _ => mid S1 c1 g1
    refine wp_ss ?_
    simp [len_lst hj1]
    refine take_cx G c1 (by omega) (by omega) fun d2 S2 a2 b2 c2 g2 => ?_
    rw [sub_lst (g2.at hj1 hne)]
    obtain ⟨x, hx, e⟩ := str_at a2 b2
    rw [e]
    try simp
    exact q (.name x) S2 ⟨hw x hx, hx⟩ rfl c2 (g1.trans g2)
end
end Mi
set_option Elab.async false
set_option linter.all false
set_option maxRecDepth 100000
set_option maxHeartbeats 2000000
/-! M28: expressions. -/
namespace Mi
open PySem L2
section
variable {P : Pr} {k n : Nat} {S : Sto} {ic is nmr : Nat} {xs : List Int} {Wn : List Str} {Q : D → Sto → Prop} {N : List Str} {A : Option Str} {j : Nat}
theorem cx_nm {cds : Nat → List (Str × D)} (h : Cxn S ic is nmr xs Wn) : subD cds (.ref ic) (.int 5) S = .ok (.ref nmr) S := by
  obtain ⟨⟨b, _, _, _, g⟩, _, _⟩ := h
  rw [sub_lst g.c]
  rfl
theorem cx_bud (h : Cxn S ic is nmr xs Wn) : ∃ bud, (∀ cds, subD cds (.ref ic) (.int 4) S = .ok (.int bud) S) ∧ ∀ b', ∃ S', setD (.ref ic) (.int 4) (.int b') S = .ok () S' ∧ Cxn S' ic is nmr xs Wn ∧ Grow ic S S' := by
  obtain ⟨⟨b, p, a, c, g⟩, h1, h2⟩ := h
  refine ⟨b, fun cds => by rw [sub_lst g.c]; rfl, fun b' => ⟨_, g.put4 _, ⟨⟨b', p, a, c, g.set g.pos0⟩, ?_, h2⟩, .set⟩⟩
  exact (Grow.set (ic := ic)).at h1 h2
theorem setTg_two {i p q : Nat} {a b : D} {e : En} (h : S[i]? = some (.lst [a, b])) : setTg (.tp [p, q]) (.ref i) e S = if p < e.length ∧ q < e.length then some ((e.set p (some a)).set q (some b)) else none := by
  unfold setTg unpD
  simp only [h]
  by_cases hp : p < e.length ∧ q < e.length
  · rw [if_pos hp, if_pos ⟨rfl, by intro i hi; rcases List.mem_cons.mp hi with rfl | hi; exact hp.1; rcases List.mem_cons.mp hi with rfl | hi; exact hp.2; cases hi⟩]
    rfl
  · rw [if_neg hp, if_neg fun z => hp ⟨z.2 p (by simp), z.2 q (by simp)⟩]
theorem slc_lst {i : Nat} {ys : List D} {lo hi : Option Int} (h : S[i]? = some (.lst ys)) : slcD (.ref i) lo hi S = .ok (.ref S.length) (S ++ [.lst (cutL ys lo hi)]) := by
  unfold slcD
  simp only [h]
theorem len10 {W : List Str} (h : W.length = 10) : ∃ a b c d e f g i j l, W = [a, b, c, d, e, f, g, i, j, l] := by
  rcases W with _ | ⟨a, _ | ⟨b, _ | ⟨c, _ | ⟨d, _ | ⟨e, _ | ⟨f, _ | ⟨g, _ | ⟨i, _ | ⟨j, _ | ⟨l, _ | ⟨_, _⟩⟩⟩⟩⟩⟩⟩⟩⟩⟩⟩ <;> first
    | (simp at h; done)
    | exact ⟨_, _, _, _, _, _, _, _, _, _, rfl⟩
/-- what an expression's drawing promises -/
def EOk (P : Pr) (ic is nmr : Nat) (xs : List Int) (Wn : List Str) (k n : Nat) : Prop := ∀ (S : Sto) (N : List Str) (A : Option Str) (d lvl : Int) (j : Nat) (Q : D → Sto → Prop), Cxn S ic is nmr xs Wn → S[j]? = some (.lst (N.map .str)) → j ≠ ic → d ≤ (n : Int) → N.length + n ≤ 100 → (∀ x ∈ N, word x) → aOk A →
  (∀ (x : Ex) S', x.ok N A → x.dp ≤ 6 + 2 * n → Cxn S' ic is nmr xs Wn → Grow ic S S' → Q x.d S') → Wp ((cxt P k).call "_law_expression" [.ref ic, .int lvl, .ref j, aD A, .int d] S) Q
theorem rule_ok (G : Gens P) (hW : Wn.length = 10) (hWw : ∀ x ∈ Wn, word x) (E : EOk P ic is nmr xs Wn (k + 2) n) (hn : n ≤ 90) (h : Cxn S ic is nmr xs Wn) {kd : Str} (hk : kd ∈ kindsS) {d lvl : Int} (hd : d ≤ (n : Int))
    (q : ∀ (x : Ex) S', x.ok [] (some kd) → x.dp ≤ 6 + 2 * n → Cxn S' ic is nmr xs Wn → Grow ic S S' → Q x.d S') : Wp ((cxt P (k + 3)).call "_law_rule" [.ref ic, .int lvl, .str kd, .int d] S) Q := by
  rw [call_fn G.rule, run_fn2 rfl, wp_bind]
  unfold Gen.ruleF Gen.ruleB
  refine wp_ss ?_
  simp [startE]
  refine take_cx G h (by omega) (by omega) fun d1 S1 a1 b1 c1 g1 => ?_
  try simp
  have aok : aOk (some kd) := fun z e => by
    cases e
    exact hk
  refine wp_ss ?_
  simp
  refine wp_ifp (fun _ => ?_) fun _ => ?_
  · refine wp_ss ?_
    simp
    exact q .usual S1 (fun e => by cases e) (by show 1 ≤ _; omega) c1 g1
  try simp
  refine wp_ss ?_
  simp
  refine wp_ifp (fun _ => ?_) fun _ => ?_
  · refine wp_ss ?_
    simp
    exact q (.say .usual) S1 (fun e => by cases e) (by show 2 ≤ _; omega) c1 g1
  try simp
  refine wp_ss ?_
  simp
  refine wp_ifp (fun _ => ?_) fun _ => ?_
  · obtain ⟨w0, w1, w2, w3, w4, w5, w6, w7, w8, w9, rfl⟩ := len10 hW
    obtain ⟨bud, e1, e2⟩ := cx_bud c1
    obtain ⟨S2, e3, c2, g2⟩ := e2 (bud - 5)
    refine wp_ss ?_
    simp [e1, e3]
    refine wp_ss ?_
    simp [cx_nm c2, slc_lst c2.n, -List.append_assoc, -List.length_append]
    rw [setTg_two (S := S2 ++ [O.lst (cutL [D.str w0, D.str w1, D.str w2, D.str w3, D.str w4, D.str w5, D.str w6, D.str w7, D.str w8, D.str w9] (some 7) (some 9))]) (a := .str w7) (b := .str w8) (by rw [new_at]; rfl)]
    simp [-List.append_assoc, -List.length_append]
    have c3 := c2.app (o := .lst (cutL [D.str w0, D.str w1, D.str w2, D.str w3, D.str w4, D.str w5, D.str w6, D.str w7, D.str w8, D.str w9] (some 7) (some 9)))
    have g3 := (g1.trans g2).trans (Grow.app (o := .lst (cutL [D.str w0, D.str w1, D.str w2, D.str w3, D.str w4, D.str w5, D.str w6, D.str w7, D.str w8, D.str w9] (some 7) (some 9))))
    generalize S2 ++ [O.lst (cutL [D.str w0, D.str w1, D.str w2, D.str w3, D.str w4, D.str w5, D.str w6, D.str w7, D.str w8, D.str w9] (some 7) (some 9))] = S3 at c3 g3 ⊢
    refine wp_ss ?_
    simp
    refine take_cx G c3 (by omega) (by omega) fun d4 S4 a4 b4 c4 g4 => ?_
    try simp
    refine q (.let_ w7 (.num d4) (.let_ w8 (.say (.name w7)) .usual)) S4 ⟨hWw _ (by simp), ⟨by omega, by omega⟩, hWw _ (by simp), ⟨hWw _ (by simp), by simp⟩, fun e => by cases e⟩ (by show 4 ≤ _; omega) c4 (g3.trans g4)
  try simp
  refine wp_ss ?_
  simp [-List.append_assoc, -List.length_append]
  refine E _ [] (some kd) d (lvl + 1) _ _ c1.app new_at c1.new hd (by simp; omega) (fun x hx => by cases hx) aok fun x S2 h1 h2 c2 g2 => ?_
  try simp
  exact q x S2 h1 h2 c2 ((g1.trans .app).trans g2)
theorem eqF_str (a b : Str) : eqF (.str a) (.str b) = decide (b = a) := by
  show (a == b) = _
  by_cases h : b = a
  · subst h
    simp
  · have : ¬ a = b := fun z => h z.symm
    simp [h, this]
theorem in3 {cds : Nat → List (Str × D)} {S : Sto} {i : Nat} {a b c kd : Str} (h : S[i]? = some (.lst [.str a, .str b, .str c])) : cmpD cds .In (.str kd) (.ref i) S = .ok (.bl (decide (kd = a) || (decide (kd = b) || decide (kd = c)))) S := by
  show inD cds false (.str kd) (.ref i) S = _
  rw [in_lst h rfl rfl]
  simp only [List.any_cons, List.any_nil, Bool.or_false, eqF_str]
  rfl
theorem ok_sub : ∀ {x : Ex} {N N' : List Str} {A : Option Str}, x.ok N A → (∀ y ∈ N, y ∈ N') → x.ok N' A
  | .num _, _, _, _, h, _ => h
  | .name _, _, _, _, h, s => ⟨h.1, s _ h.2⟩
  | .fn _ b, _, _, _, h, s => ⟨h.1, ok_sub h.2 fun y hy => by
      rcases List.mem_append.mp hy with z | z
      · exact List.mem_append_left _ (s y z)
      · exact List.mem_append_right _ z⟩
  | .call _ _, _, _, _, h, s => ⟨ok_sub h.1 s, ok_sub h.2 s⟩
  | .sum _ _, _, _, _, h, s => ⟨ok_sub h.1 s, ok_sub h.2 s⟩
  | .less _ _, _, _, _, h, s => ⟨ok_sub h.1 s, ok_sub h.2 s⟩
  | .ite _ _ _, _, _, _, h, s => ⟨ok_sub h.1 s, ok_sub h.2.1 s, ok_sub h.2.2 s⟩
  | .let_ _ _ b, _, _, _, h, s => ⟨h.1, ok_sub h.2.1 s, ok_sub h.2.2 fun y hy => by
      rcases List.mem_append.mp hy with z | z
      · exact List.mem_append_left _ (s y z)
      · exact List.mem_append_right _ z⟩
  | .say a, _, _, _, h, s => ok_sub (x := a) h s
  | .rule _ _ _, _, _, _, h, s => ⟨h.1, h.2.1, ok_sub h.2.2 s⟩
  | .keep _ _, _, _, _, h, _ => h
  | .part _, _, _, _, h, _ => h
  | .with_ _, _, _, _, h, s => ⟨h.1, ok_sub h.2 s⟩
  | .usual, _, _, _, h, _ => h
  | .do1 _, _, _, _, h, s => ⟨h.1, ok_sub h.2 s⟩
  | .do2 _ _, _, _, _, h, s => ⟨h.1, ok_sub h.2.1 s, ok_sub h.2.2 s⟩
theorem ask_ok (G : Gens P) (E : EOk P ic is nmr xs Wn (k + 4) n) (h : Cxn S ic is nmr xs Wn) (hj : S[j]? = some (.lst (N.map .str))) (hne : j ≠ ic) {d lvl : Int} (hd : d ≤ (n : Int)) (hN : N.length + n ≤ 100) (hw : ∀ x ∈ N, word x) (hA : aOk A)
    (q : ∀ (x : Ex) S', x.ok N A → x.dp ≤ 7 + 2 * n → Cxn S' ic is nmr xs Wn → Grow ic S S' → Q x.d S') {kd : Str} (hkd : A = some kd) : Wp ((cxt P (k + 5)).call "_law_ask" [.ref ic, .int lvl, .ref j, aD A, .int d] S) Q := by
  rw [call_fn G.ask, run_fn2 rfl, wp_bind]
  unfold Gen.askF Gen.askB
  subst hkd
  have hk := hA kd rfl
  have r1 : ∀ {S2 : Sto}, Cxn S2 ic is nmr xs Wn → Grow ic S S2 → ∀ {Q' : D → Sto → Prop}, (∀ (x : Ex) S', x.ok N (some kd) → x.dp ≤ 6 + 2 * n → Cxn S' ic is nmr xs Wn → Grow ic S S' → Q' x.d S') → Wp ((cxt P (k + 4)).call "_law_expression" [.ref ic, .int lvl, .ref j, .str kd, .int d] S2) Q' :=
    fun {S2} c2 g2 {Q'} q' => E S2 N (some kd) d lvl j Q' c2 (g2.at hj hne) hne hd hN hw hA fun x S' h1 h2 h3 h4 => q' x S' h1 h2 h3 (g2.trans h4)
  have s4 : ∀ {S2 : Sto}, Cxn S2 ic is nmr xs Wn → Grow ic S S2 → Wp (evSs (cxt P (k + 4)) (.cons (.ret (.call "_law_leaf" (.cons (.var 0) (.cons (.lst .nil) (.cons (.var 3) .nil))))) .nil) [some (.ref ic), some (.int lvl), some (.ref j), some (.str kd), some (.int d)] S2) fun o S => Wp (outV o S) Q := fun {S2} c2 g2 => by
    refine wp_ss ?_
    simp [-List.append_assoc, -List.length_append]
    refine leaf_ok (N := []) (A := some kd) G c2.app new_at c2.new (by simp) (fun x hx => by cases hx) hA fun x S3 h1 h2 c3 g3 => ?_
    try simp
    exact q x S3 (ok_sub h1 fun y hy => by cases hy) (by omega) c3 ((g2.trans .app).trans g3)
  refine wp_ss ?_
  simp [startE, aD, -List.append_assoc, -List.length_append]
  rw [in3 new_at]
  have c1 := h.app (o := .lst [.str "call", .str "sum", .str "less"])
  have g1 := Grow.app (ic := ic) (S := S) (o := .lst [.str "call", .str "sum", .str "less"])
  generalize S ++ [O.lst [.str "call", .str "sum", .str "less"]] = S1 at c1 g1 ⊢
  have s3 : ∀ {S2 : Sto}, Cxn S2 ic is nmr xs Wn → Grow ic S S2 → Wp (evSs (cxt P (k + 4)) (.cons (.ifs (.and (.cons (.cmp .Eq (.var 3) (.str "let")) (.cons (.cmp .Eq (.call "_law_take" (.cons (.var 0) (.cons (.int 2) .nil))) (.int 0)) .nil))) (.cons (.ret (.tup (.cons (.str "with") (.cons (.call "_law_expression" (.cons (.var 0) (.cons (.var 1) (.cons (.var 2) (.cons (.var 3) (.cons (.var 4) .nil)))))) .nil)))) .nil) .nil) (.cons (.ret (.call "_law_leaf" (.cons (.var 0) (.cons (.lst .nil) (.cons (.var 3) .nil))))) .nil)) [some (.ref ic), some (.int lvl), some (.ref j), some (.str kd), some (.int d)] S2) fun o S => Wp (outV o S) Q := fun {S2} c2 g2 => by
    refine wp_ss ?_
    simp
    refine wp_ifp (fun e => ?_) fun _ => s4 c2 g2
    try simp
    refine take_cx G c2 (by omega) (by omega) fun d3 S3 a3 b3 c3 g3 => ?_
    simp
    refine wp_ifp (fun _ => ?_) fun _ => s4 c3 (g2.trans g3)
    refine wp_ss ?_
    simp
    refine r1 c3 (g2.trans g3) fun x S4 h1 h2 c4 g4 => ?_
    try simp
    exact q (.with_ x) S4 ⟨by rw [e], h1⟩ (by show x.dp + 1 ≤ _; omega) c4 g4
  have s2 : ∀ {S2 : Sto}, Cxn S2 ic is nmr xs Wn → Grow ic S S2 → Wp (evSs (cxt P (k + 4)) (.cons (.ifs (.and (.cons (.cmp .Eq (.var 3) (.str "say")) (.cons (.cmp .Eq (.call "_law_take" (.cons (.var 0) (.cons (.int 2) .nil))) (.int 0)) .nil))) (.cons (.ret (.tup (.cons (.str "do") (.cons (.tup (.cons (.call "_law_expression" (.cons (.var 0) (.cons (.var 1) (.cons (.var 2) (.cons (.var 3) (.cons (.var 4) .nil)))))) .nil)) .nil)))) .nil) .nil) (.cons (.ifs (.and (.cons (.cmp .Eq (.var 3) (.str "let")) (.cons (.cmp .Eq (.call "_law_take" (.cons (.var 0) (.cons (.int 2) .nil))) (.int 0)) .nil))) (.cons (.ret (.tup (.cons (.str "with") (.cons (.call "_law_expression" (.cons (.var 0) (.cons (.var 1) (.cons (.var 2) (.cons (.var 3) (.cons (.var 4) .nil)))))) .nil)))) .nil) .nil) (.cons (.ret (.call "_law_leaf" (.cons (.var 0) (.cons (.lst .nil) (.cons (.var 3) .nil))))) .nil))) [some (.ref ic), some (.int lvl), some (.ref j), some (.str kd), some (.int d)] S2) fun o S => Wp (outV o S) Q := fun {S2} c2 g2 => by
    refine wp_ss ?_
    simp
    refine wp_ifp (fun e => ?_) fun _ => s3 c2 g2
    try simp
    refine take_cx G c2 (by omega) (by omega) fun d3 S3 a3 b3 c3 g3 => ?_
    simp
    refine wp_ifp (fun _ => ?_) fun _ => s3 c3 (g2.trans g3)
    refine wp_ss ?_
    simp
    refine r1 c3 (g2.trans g3) fun x S4 h1 h2 c4 g4 => ?_
    try simp
    exact q (.do1 x) S4 ⟨by rw [e], h1⟩ (by show x.dp + 1 ≤ _; omega) c4 g4
  simp
  refine wp_ifp (fun e => ?_) fun _ => s2 c1 g1
  try simp
  refine take_cx G c1 (by omega) (by omega) fun d3 S3 a3 b3 c3 g3 => ?_
  simp
  refine wp_ifp (fun _ => ?_) fun _ => s2 c3 (g1.trans g3)
  refine wp_ss ?_
  simp
  refine r1 c3 (g1.trans g3) fun x S4 h1 h2 c4 g4 => ?_
  try simp
  refine r1 c4 g4 fun y S5 h3 h4 c5 g5 => ?_
  try simp
  exact q (.do2 x y) S5 ⟨by rcases e with e | e | e <;> simp [e], h1, h3⟩ (by show max x.dp y.dp + 1 ≤ _; omega) c5 g5
end
end Mi
set_option Elab.async false
set_option linter.all false
set_option maxRecDepth 100000
set_option maxHeartbeats 4000000
/-! M29: bindings, changes, expressions. -/
namespace Mi
open PySem L2
section
variable {P : Pr} {k n : Nat} {S : Sto} {ic is nmr : Nat} {xs : List Int} {Wn : List Str} {Q : D → Sto → Prop} {N : List Str} {A : Option Str} {j : Nat}
/-- names + [x] -/
theorem cat_one {x : Str} (h : Cxn S ic is nmr xs Wn) (hj : S[j]? = some (.lst (N.map .str))) (hN : N.length ≤ 1000) : binD .Add (.ref j) (.ref S.length) (S ++ [.lst [.str x]]) = .ok (.ref (S ++ [O.lst [.str x]]).length) (S ++ [.lst [.str x]] ++ [.lst ((N ++ [x]).map .str)]) := by
  rw [add_lst (xs := N.map .str) (ys := [.str x]) (by rw [List.getElem?_append_left (lt_of hj)]; exact hj) new_at, if_pos (sizeBig (by simpa using hN) (by simp)), List.map_append]
  rfl
theorem nm_at (hW : Wn.length = 10) (h : Cxn S ic is nmr xs Wn) {i : Int} (h0 : 0 ≤ i) (h1 : i < 10) : ∃ x, x ∈ Wn ∧ ∀ cds, subD cds (.ref nmr) (.int i) S = .ok (.str x) S := by
  obtain ⟨x, hx, e⟩ := str_at (N := Wn) h0 (by omega)
  exact ⟨x, hx, fun cds => by rw [sub_lst h.n, e]; rfl⟩
theorem binding_ok (G : Gens P) (hW : Wn.length = 10) (hWw : ∀ x ∈ Wn, word x) (E : EOk P ic is nmr xs Wn (k + 4) n) (h : Cxn S ic is nmr xs Wn) (hj : S[j]? = some (.lst (N.map .str))) (hne : j ≠ ic) {d lvl kk : Int} (hd : d ≤ (n : Int) + 1) (hN : N.length + n + 1 ≤ 100) (hw : ∀ x ∈ N, word x) (hA : aOk A)
    (q : ∀ (x : Ex) S', x.ok N A → x.dp ≤ 8 + 2 * n → Cxn S' ic is nmr xs Wn → Grow ic S S' → Q x.d S') : Wp ((cxt P (k + 5)).call "_law_binding" [.ref ic, .int kk, .int lvl, .ref j, aD A, .int d] S) Q := by
  rw [call_fn G.binding, run_fn2 rfl, wp_bind]
  unfold Gen.bindingF Gen.bindingB
  have r1 : ∀ {S2 : Sto}, Cxn S2 ic is nmr xs Wn → Grow ic S S2 → ∀ {Q' : D → Sto → Prop}, (∀ (x : Ex) S', x.ok N A → x.dp ≤ 6 + 2 * n → Cxn S' ic is nmr xs Wn → Grow ic S S' → Q' x.d S') → Wp ((cxt P (k + 4)).call "_law_expression" [.ref ic, .int lvl, .ref j, aD A, .int (d - 1)] S2) Q' :=
    fun {S2} c2 g2 {Q'} q' => E S2 N A (d - 1) lvl j Q' c2 (g2.at hj hne) hne (by omega) (by omega) hw hA fun x S' h1 h2 h3 h4 => q' x S' h1 h2 h3 (g2.trans h4)
  have r2 : ∀ {S2 : Sto} {i : Nat} {y : Str}, word y → Cxn S2 ic is nmr xs Wn → Grow ic S S2 → S2[i]? = some (.lst ((N ++ [y]).map .str)) → i ≠ ic → ∀ {Q' : D → Sto → Prop}, (∀ (x : Ex) S', x.ok (N ++ [y]) A → x.dp ≤ 6 + 2 * n → Cxn S' ic is nmr xs Wn → Grow ic S S' → Q' x.d S') → Wp ((cxt P (k + 4)).call "_law_expression" [.ref ic, .int lvl, .ref i, aD A, .int (d - 1)] S2) Q' :=
    fun {S2 i y} hy c2 g2 hi hie {Q'} q' => E S2 (N ++ [y]) A (d - 1) lvl i Q' c2 hi hie (by omega) (by simp; omega) (fun x hx => by
      rcases List.mem_append.mp hx with z | z
      · exact hw x z
      · rcases List.mem_singleton.mp z with rfl
        exact hy) hA fun x S' h1 h2 h3 h4 => q' x S' h1 h2 h3 (g2.trans h4)
  refine wp_ss ?_
  simp [startE, cx_nm h]
  refine take_cx G h (by omega) (by omega) fun d1 S1 a1 b1 c1 g1 => ?_
  obtain ⟨x, hx, ex⟩ := nm_at hW c1 a1 (by omega)
  simp [ex]
  refine wp_ss ?_
  simp [-List.append_assoc, -List.length_append, -List.map_append]
  rw [cat_one c1 (g1.at hj hne) (by omega)]
  simp [-List.append_assoc, -List.length_append, -List.map_append]
  have c2 := (c1.app (o := .lst [.str x])).app (o := .lst ((N ++ [x]).map .str))
  refine r2 (hWw x hx) c2 ((g1.trans .app).trans .app) new_at c1.app.new fun y S3 h1 h2 c3 g3 => ?_
  try simp
  refine wp_ss ?_
  simp
  refine wp_ifp (fun _ => ?_) fun _ => ?_
  · refine wp_ss ?_
    simp
    exact q (.fn x y) S3 ⟨hWw x hx, h1⟩ (by show y.dp + 1 ≤ _; omega) c3 g3
  try simp
  refine wp_ss ?_
  simp
  refine take_cx G c3 (by omega) (by omega) fun d4 S4 a4 b4 c4 g4 => ?_
  simp
  refine wp_ifp (fun _ => ?_) fun _ => ?_
  · refine wp_ss ?_
    simp
    refine r1 c4 (g3.trans g4) fun z S5 h3 h4 c5 g5 => ?_
    try simp
    exact q (.call (.fn x y) z) S5 ⟨⟨hWw x hx, h1⟩, h3⟩ (by show max (y.dp + 1) z.dp + 1 ≤ _; omega) c5 g5
  try simp
  refine wp_ss ?_
  simp [cx_nm c4]
  refine take_cx G c4 (by omega) (by omega) fun d5 S5 a5 b5 c5 g5 => ?_
  obtain ⟨f, hf, ef⟩ := nm_at hW c5 (i := 3 + d5) (by omega) (by omega)
  simp [ef]
  refine wp_ss ?_
  simp [-List.append_assoc, -List.length_append, -List.map_append]
  have g05 := (g3.trans g4).trans g5
  rw [cat_one c5 (g05.at hj hne) (by omega)]
  simp [-List.append_assoc, -List.length_append, -List.map_append]
  have c6 := (c5.app (o := .lst [.str f])).app (o := .lst ((N ++ [f]).map .str))
  refine r2 (hWw f hf) c6 ((g05.trans .app).trans .app) new_at c5.app.new fun u S7 h5 h6 c7 g7 => ?_
  try simp
  refine wp_ss ?_
  simp [-List.append_assoc, -List.length_append, -List.map_append]
  refine take_cx G c7.app (by omega) (by omega) fun d8 S8 a8 b8 c8 g8 => ?_
  rw [sub_lst (g8.at new_at c7.new)]
  have : d8 = 0 ∨ d8 = 1 := by omega
  have g9 := (g7.trans .app).trans g8
  rcases this with rfl | rfl
  · simp
    exact q (.let_ f (.fn x y) u) S8 ⟨hWw f hf, ⟨hWw x hx, h1⟩, h5⟩ (by show max (y.dp + 1) u.dp + 1 ≤ _; omega) c8 g9
  · simp
    exact q (.let_ f (.fn x y) (.call (.name f) u)) S8 ⟨hWw f hf, ⟨hWw x hx, h1⟩, ⟨hWw f hf, by simp⟩, h5⟩ (by show max (y.dp + 1) (max 1 u.dp + 1) + 1 ≤ _; omega) c8 g9
theorem kind_at {i : Nat} (h : S[i]? = some (.lst (kindsS.map .str))) {d : Int} (h0 : 0 ≤ d) (h1 : d < 9) : ∃ kd, kd ∈ kindsS ∧ ∀ cds, subD cds (.ref i) (.int d) S = .ok (.str kd) S := by
  obtain ⟨x, hx, e⟩ := str_at (N := kindsS) h0 (by show d < 9; exact h1)
  exact ⟨x, hx, fun cds => by rw [sub_lst h, e]; rfl⟩
theorem change_ok (G : Gens P) (hW : Wn.length = 10) (hWw : ∀ x ∈ Wn, word x) (E : EOk P ic is nmr xs Wn (k + 4) n) (E2 : EOk P ic is nmr xs Wn (k + 3) n) (hn : n ≤ 90) (h : Cxn S ic is nmr xs Wn) (hj : S[j]? = some (.lst (N.map .str))) (hne : j ≠ ic) {d lvl kk : Int} (hd : d ≤ (n : Int) + 1) (hN : N.length + n + 1 ≤ 100) (hw : ∀ x ∈ N, word x) (hA : aOk A)
    (q : ∀ (x : Ex) S', x.ok N A → x.dp ≤ 8 + 2 * n → Cxn S' ic is nmr xs Wn → Grow ic S S' → Q x.d S') : Wp ((cxt P (k + 5)).call "_law_change" [.ref ic, .int kk, .int lvl, .ref j, aD A, .int d] S) Q := by
  rw [call_fn G.change, run_fn2 rfl, wp_bind]
  unfold Gen.changeF Gen.changeB
  refine wp_ss ?_
  simp [startE]
  refine kinds_ok G ?_
  refine take_cx G h.app (by omega) (by omega) fun d1 S1 a1 b1 c1 g1 => ?_
  obtain ⟨kd, hk, ek⟩ := kind_at (g1.at new_at h.new) a1 b1
  simp [ek]
  have g1 := Grow.trans (.app (o := .lst (kindsS.map .str))) g1
  refine wp_ss ?_
  simp
  refine rule_ok G hW hWw E2 hn c1 hk (d := d - 1) (by omega) fun r S2 h1 h2 c2 g2 => ?_
  try simp
  have g02 := g1.trans g2
  refine wp_ss ?_
  simp
  refine wp_ifp (fun _ => ?_) fun _ => ?_
  · refine wp_ss ?_
    obtain ⟨x, hx, ex⟩ := nm_at hW c2 (i := 9) (by omega) (by omega)
    simp [cx_nm c2, ex, -List.append_assoc, -List.length_append, -List.map_append]
    rw [cat_one c2 (g02.at hj hne) (by omega)]
    simp [-List.append_assoc, -List.length_append, -List.map_append]
    have c3 := (c2.app (o := .lst [.str x])).app (o := .lst ((N ++ [x]).map .str))
    refine E _ (N ++ [x]) A (d - 1) lvl _ _ c3 new_at c2.app.new (by omega) (by simp; omega) (fun z hz => by
      rcases List.mem_append.mp hz with y | y
      · exact hw z y
      · rcases List.mem_singleton.mp y with rfl
        exact hWw _ hx) hA fun u S4 h3 h4 c4 g4 => ?_
    try simp
    exact q (.let_ x (.keep kd r) u) S4 ⟨hWw x hx, ⟨hk, h1⟩, h3⟩ (by show max (r.dp + 1) u.dp + 1 ≤ _; omega) c4 (((g02.trans .app).trans .app).trans g4)
  try simp
  refine wp_ss ?_
  simp
  refine wp_ifp (fun _ => ?_) fun _ => ?_
  · refine wp_ss ?_
    simp
    exact q (.keep kd r) S2 ⟨hk, h1⟩ (by show r.dp + 1 ≤ _; omega) c2 g02
  try simp
  refine wp_ss ?_
  simp
  refine E _ N A (d - 1) lvl j _ c2 (g02.at hj hne) hne (by omega) (by omega) hw hA fun u S4 h3 h4 c4 g4 => ?_
  try simp
  exact q (.rule kd r u) S4 ⟨hk, h1, h3⟩ (by show max r.dp u.dp + 1 ≤ _; omega) c4 (g02.trans g4)
end
end Mi
set_option Elab.async false
set_option linter.all false
set_option maxRecDepth 100000
set_option maxHeartbeats 4000000
/-! M30: the drawing of an expression. -/
namespace Mi
open PySem L2
section
variable {P : Pr} {k n : Nat} {ic is nmr : Nat} {xs : List Int} {Wn : List Str}
theorem in_ints {cds : Nat → List (Str × D)} {S : Sto} {i : Nat} {ys : List D} {d : Int} (h : S[i]? = some (.lst ys)) (hf : ys.all flat = true) : cmpD cds .In (.int d) (.ref i) S = .ok (.bl (ys.any fun y => eqF y (.int d))) S := by
  show inD cds false (.int d) (.ref i) S = _
  rw [in_lst h rfl hf]
  rfl
theorem expr_step (G : Gens P) (hW : Wn.length = 10) (hWw : ∀ x ∈ Wn, word x) (hn : n ≤ 90) (E5 : EOk P ic is nmr xs Wn (k + 5) n) (E4 : EOk P ic is nmr xs Wn (k + 4) n) (E3 : EOk P ic is nmr xs Wn (k + 3) n) : EOk P ic is nmr xs Wn (k + 6) (n + 1) := by
  intro S0 N A d lvl j Q h hj hne hd hN hw hA q
  rw [call_fn G.expression, run_fn2 rfl, wp_bind]
  unfold Gen.expressionF Gen.expressionB
  obtain ⟨bud, e1, e2⟩ := cx_bud h
  obtain ⟨S1, e3, c1, g1⟩ := e2 (bud - 1)
  refine wp_ss ?_
  simp [startE, e1, e3]
  refine wp_ss ?_
  simp
  refine take_cx G c1 (by omega) (by omega) fun kk S2 a2 b2 c2 g2 => ?_
  have g02 := g1.trans g2
  have hj2 := g02.at hj hne
  obtain ⟨bud2, f1, f2⟩ := cx_bud c2
  have r1 : ∀ {S2 : Sto}, Cxn S2 ic is nmr xs Wn → Grow ic S0 S2 → ∀ {Q' : D → Sto → Prop}, (∀ (x : Ex) S', x.ok N A → x.dp ≤ 6 + 2 * n → Cxn S' ic is nmr xs Wn → Grow ic S0 S' → Q' x.d S') → Wp ((cxt P (k + 5)).call "_law_expression" [.ref ic, .int lvl, .ref j, aD A, .int (d - 1)] S2) Q' :=
    fun {S2} c2 g2 {Q'} q' => E5 S2 N A (d - 1) lvl j Q' c2 (g2.at hj hne) hne (by omega) (by omega) hw hA fun x S' h1 h2 h3 h4 => q' x S' h1 h2 h3 (g2.trans h4)
  try simp
  -- the last rows
  have l11 : ∀ {S : Sto} {a : Ex}, Cxn S ic is nmr xs Wn → Grow ic S0 S → a.ok N A → a.dp ≤ 6 + 2 * n → ∀ u v, Wp (evSs (cxt P (k + 5)) Gen.expressionB_11 [some (.ref ic), some (.int lvl), some (.ref j), some (aD A), some (.int d), some (.int kk), some a.d, u, v] S) fun o S => Wp (outV o S) Q := fun {S a} c g oa da u v => by
    refine wp_ss ?_
    simp
    refine r1 c g fun b S' h1 h2 c' g' => ?_
    try simp
    exact q (.call a b) S' ⟨oa, h1⟩ (by show max a.dp b.dp + 1 ≤ _; omega) c' g'
  have l10 : ∀ {S : Sto} {a : Ex}, Cxn S ic is nmr xs Wn → Grow ic S0 S → a.ok N A → a.dp ≤ 6 + 2 * n → ∀ u v, Wp (evSs (cxt P (k + 5)) Gen.expressionB_10 [some (.ref ic), some (.int lvl), some (.ref j), some (aD A), some (.int d), some (.int kk), some a.d, u, v] S) fun o S => Wp (outV o S) Q := fun {S a} c g oa da u v => by
    refine wp_ss ?_
    simp
    refine wp_ifp (fun _ => ?_) fun _ => ?_
    · refine wp_ss ?_
      simp
      exact q (.say a) S oa (by show a.dp + 1 ≤ _; omega) c g
    · try simp
      exact l11 c g oa da u v
  have l9 : ∀ {S : Sto} {a : Ex}, Cxn S ic is nmr xs Wn → Grow ic S0 S → a.ok N A → a.dp ≤ 6 + 2 * n → ∀ u v, Wp (evSs (cxt P (k + 5)) Gen.expressionB_9 [some (.ref ic), some (.int lvl), some (.ref j), some (aD A), some (.int d), some (.int kk), some a.d, u, v] S) fun o S => Wp (outV o S) Q := fun {S a} c g oa da u v => by
    refine wp_ss ?_
    simp
    refine wp_ifp (fun _ => ?_) fun _ => ?_
    · refine wp_ss ?_
      simp [cx_nm c, -List.append_assoc, -List.length_append, -List.map_append]
      refine take_cx G c.app (by omega) (by omega) fun d3 S3 a3 b3 c3 g3 => ?_
      rw [sub_lst (g3.at new_at c.new)]
      obtain ⟨y, ey, hy⟩ := four (a := D.int 0) (b := .int 1) (c := .int 2) (d := .int 6) a3 b3
      have hy2 : ∃ m : Int, y = .int m ∧ 0 ≤ m ∧ m < 10 := by
        rcases hy with rfl | rfl | rfl | rfl
        · exact ⟨0, rfl, by omega, by omega⟩
        · exact ⟨1, rfl, by omega, by omega⟩
        · exact ⟨2, rfl, by omega, by omega⟩
        · exact ⟨6, rfl, by omega, by omega⟩
      obtain ⟨m, rfl, m0, m1⟩ := hy2
      obtain ⟨x, hx, ex⟩ := nm_at hW c3 m0 m1
      have g3 := g.trans ((Grow.app).trans g3)
      simp [ey, ex, -List.append_assoc, -List.length_append, -List.map_append]
      refine wp_ss ?_
      simp [-List.append_assoc, -List.length_append, -List.map_append]
      rw [cat_one c3 (g3.at hj hne) (by omega)]
      simp [-List.append_assoc, -List.length_append, -List.map_append]
      have c4 := (c3.app (o := .lst [.str x])).app (o := .lst ((N ++ [x]).map .str))
      refine E5 _ (N ++ [x]) A (d - 1) lvl _ _ c4 new_at c3.app.new (by omega) (by simp; omega) (fun z hz => by
        rcases List.mem_append.mp hz with y | y
        · exact hw z y
        · rcases List.mem_singleton.mp y with rfl
          exact hWw _ hx) hA fun b S5 h1 h2 c5 g5 => ?_
      try simp
      exact q (.let_ x a b) S5 ⟨hWw x hx, oa, h1⟩ (by show max a.dp b.dp + 1 ≤ _; omega) c5 (((g3.trans .app).trans .app).trans g5)
    · try simp
      exact l10 c g oa da u v
  have l8 : ∀ {S : Sto} {a : Ex}, Cxn S ic is nmr xs Wn → Grow ic S0 S → a.ok N A → a.dp ≤ 6 + 2 * n → ∀ u v, Wp (evSs (cxt P (k + 5)) Gen.expressionB_8 [some (.ref ic), some (.int lvl), some (.ref j), some (aD A), some (.int d), some (.int kk), some a.d, u, v] S) fun o S => Wp (outV o S) Q := fun {S a} c g oa da u v => by
    refine wp_ss ?_
    simp
    refine wp_ifp (fun _ => ?_) fun _ => ?_
    · refine wp_ss ?_
      simp
      refine r1 c g fun b S' h1 h2 c' g' => ?_
      try simp
      refine wp_ss ?_
      simp
      refine r1 c' g' fun b2 S'' h3 h4 c'' g'' => ?_
      try simp
      exact q (.ite a b b2) S'' ⟨oa, h1, h3⟩ (by show max a.dp (max b.dp b2.dp) + 1 ≤ _; omega) c'' g''
    · try simp
      exact l9 c g oa da u v
  have l6 : ∀ {S : Sto}, 5 ≤ kk → Cxn S ic is nmr xs Wn → Grow ic S0 S → Wp (evSs (cxt P (k + 5)) Gen.expressionB_6 [some (.ref ic), some (.int lvl), some (.ref j), some (aD A), some (.int d), some (.int kk), none, none, none] S) fun o S => Wp (outV o S) Q := fun {S} hk5 c g => by
    refine wp_ss ?_
    simp
    refine r1 c g fun a S3 h1 h2 c3 g3 => ?_
    try simp
    refine wp_ss ?_
    simp
    refine wp_ifp (fun hk8 => ?_) fun _ => ?_
    · refine wp_ss ?_
      simp [-List.append_assoc, -List.length_append, -List.map_append]
      obtain ⟨y, ey, oy⟩ : ∃ y, atI ([.str "sum", .str "less", .str "sum"] : List D) (kk - 5) = some (.str y) ∧ (y = "sum" ∨ y = "less") := by
        have : kk - 5 = 0 ∨ kk - 5 = 1 ∨ kk - 5 = 2 := by omega
        rcases this with e | e | e <;> rw [e]
        · exact ⟨"sum", rfl, .inl rfl⟩
        · exact ⟨"less", rfl, .inr rfl⟩
        · exact ⟨"sum", rfl, .inl rfl⟩
      rw [sub_lst new_at, ey]
      simp [-List.append_assoc, -List.length_append, -List.map_append]
      refine r1 c3.app (g3.trans .app) fun b S4 h3 h4 c4 g4 => ?_
      try simp
      rcases oy with rfl | rfl
      · exact q (.sum a b) S4 ⟨h1, h3⟩ (by show max a.dp b.dp + 1 ≤ _; omega) c4 g4
      · exact q (.less a b) S4 ⟨h1, h3⟩ (by show max a.dp b.dp + 1 ≤ _; omega) c4 g4
    · try simp
      exact l8 c3 g3 h1 h2 none none
  have l5 : ∀ {S : Sto}, 5 ≤ kk → 1 ≤ d → Cxn S ic is nmr xs Wn → Grow ic S0 S → Wp (evSs (cxt P (k + 5)) Gen.expressionB_5 [some (.ref ic), some (.int lvl), some (.ref j), some (aD A), some (.int d), some (.int kk), none, none, none] S) fun o S => Wp (outV o S) Q := fun {S} hk5 hd1 c g => by
    refine wp_ss ?_
    simp [-List.append_assoc, -List.length_append, -List.map_append]
    rw [in_ints new_at rfl]
    have c4 := c.app (o := .lst [.int 13, .int 14, .int 15, .int 17])
    have g4 := g.trans (Grow.app (o := .lst [.int 13, .int 14, .int 15, .int 17]))
    generalize S ++ [O.lst [.int 13, .int 14, .int 15, .int 17]] = S4 at c4 g4 ⊢
    generalize ([D.int 13, .int 14, .int 15, .int 17].any fun y => eqF y (.int kk)) = bb
    have ch : ∀ K : Out → Sto → Prop, (∀ (x : Ex) S', x.ok N A → x.dp ≤ 6 + 2 * (n + 1) → Cxn S' ic is nmr xs Wn → Grow ic S0 S' → K (.ret x.d) S') → Wp (evSs (cxt P (k + 5)) Gen.expressionB_5t [some (.ref ic), some (.int lvl), some (.ref j), some (aD A), some (.int d), some (.int kk), none, none, none] S4) K := fun K q' => by
      refine wp_ss ?_
      simp
      refine change_ok G hW hWw E4 E3 hn c4 (g4.at hj hne) hne (by omega) (by omega) hw hA fun x S' h1 h2 c' g' => ?_
      try simp
      exact q' x S' h1 (by omega) c' (g4.trans g')
    cases bb
    · simp
      exact l6 hk5 c4 g4
    · simp
      refine wp_ifp (fun _ => ?_) fun _ => ?_
      · exact ch _ fun x S' h1 h2 c' g' => by
          simp
          exact q x S' h1 h2 c' g'
      · exact l6 hk5 c4 g4
  have l4 : ∀ {S : Sto}, 1 ≤ d → Cxn S ic is nmr xs Wn → Grow ic S0 S → Wp (evSs (cxt P (k + 5)) Gen.expressionB_4 [some (.ref ic), some (.int lvl), some (.ref j), some (aD A), some (.int d), some (.int kk), none, none, none] S) fun o S => Wp (outV o S) Q := fun {S} hd1 c g => by
    refine wp_ss ?_
    have bd : ∀ K : Out → Sto → Prop, (∀ (x : Ex) S', x.ok N A → x.dp ≤ 6 + 2 * (n + 1) → Cxn S' ic is nmr xs Wn → Grow ic S0 S' → K (.ret x.d) S') → Wp (evSs (cxt P (k + 5)) Gen.expressionB_4t [some (.ref ic), some (.int lvl), some (.ref j), some (aD A), some (.int d), some (.int kk), none, none, none] S) K := fun K q' => by
      refine wp_ss ?_
      simp
      refine binding_ok G hW hWw E4 c (g.at hj hne) hne (by omega) (by omega) hw hA fun x S' h1 h2 c' g' => ?_
      try simp
      exact q' x S' h1 (by omega) c' (g.trans g')
    by_cases h5 : kk < 5
    · simp [h5]
      exact bd _ fun x S' h1 h2 c' g' => by
        simp
        exact q x S' h1 h2 c' g'
    · by_cases h16 : kk = 16
      · simp [h16]
        subst h16
        exact bd _ fun x S' h1 h2 c' g' => by
          simp
          exact q x S' h1 h2 c' g'
      · simp [h5, h16]
        exact l5 (by omega) hd1 c g
  have l3 : ∀ {S : Sto}, 1 ≤ d → Cxn S ic is nmr xs Wn → Grow ic S0 S → Wp (evSs (cxt P (k + 5)) Gen.expressionB_3 [some (.ref ic), some (.int lvl), some (.ref j), some (aD A), some (.int d), some (.int kk), none, none, none] S) fun o S => Wp (outV o S) Q := fun {S} hd1 c g => by
    refine wp_ss ?_
    simp [-List.append_assoc, -List.length_append, -List.map_append]
    rw [in_ints new_at rfl]
    have c4 := c.app (o := .lst [.int 2, .int 3])
    have g4 := g.trans (Grow.app (o := .lst [.int 2, .int 3]))
    generalize S ++ [O.lst [.int 2, .int 3]] = S4 at c4 g4 ⊢
    generalize ([D.int 2, .int 3].any fun y => eqF y (.int kk)) = bb
    cases bb
    · simp
      exact l4 hd1 c4 g4
    · cases A with
      | none =>
        simp [aD_isnot]
        exact l4 hd1 c4 g4
      | some kd =>
        simp [aD_isnot]
        refine wp_ss ?_
        simp
        refine ask_ok G E4 c4 (g4.at hj hne) hne (by omega) (by omega) hw hA (fun x S' h1 h2 c' g' => ?_) rfl
        try simp
        exact q x S' h1 (by omega) c' (g4.trans g')
  -- the leaf's row
  have lf : ∀ K : Out → Sto → Prop, (∀ (x : Ex) S', x.ok N A → x.dp ≤ 6 + 2 * (n + 1) → Cxn S' ic is nmr xs Wn → Grow ic S0 S' → K (.ret x.d) S') → Wp (evSs (cxt P (k + 5)) Gen.expressionB_2t [some (.ref ic), some (.int lvl), some (.ref j), some (aD A), some (.int d), some (.int kk), none, none, none] S2) K := fun K q' => by
    refine wp_ss ?_
    simp
    refine leaf_ok G c2 hj2 hne (by omega) hw hA fun x S' h1 h2 c' g' => ?_
    try simp
    exact q' x S' h1 (by omega) c' (g02.trans g')
  have lf2 := lf (fun o S1 => Wp (goR o (fun e2 S => evSs (cxt P (k + 5)) Gen.expressionB_3 e2 S) S1) fun o S => Wp (outV o S) Q) fun x S' h1 h2 c' g' => by
    simp
    exact q x S' h1 h2 c' g'
  refine wp_ss ?_
  by_cases h1 : d < 1
  · simp [h1]
    exact lf2
  · by_cases h2 : bud2 < 1
    · simp [h1, f1, h2]
      exact lf2
    · by_cases h3 : kk < 2
      · simp [h1, f1, h2, h3]
        exact lf2
      · simp [h1, f1, h2, h3]
        exact l3 (by omega) c2 g02
/-- at depth 0 -/
theorem expr_zero (G : Gens P) (k : Nat) : EOk P ic is nmr xs Wn (k + 6) 0 := by
  intro S0 N A d lvl j Q h hj hne hd hN hw hA q
  rw [call_fn G.expression, run_fn2 rfl, wp_bind]
  unfold Gen.expressionF Gen.expressionB
  obtain ⟨bud, e1, e2⟩ := cx_bud h
  obtain ⟨S1, e3, c1, g1⟩ := e2 (bud - 1)
  refine wp_ss ?_
  simp [startE, e1, e3]
  refine wp_ss ?_
  simp
  refine take_cx G c1 (by omega) (by omega) fun kk S2 a2 b2 c2 g2 => ?_
  have g02 := g1.trans g2
  have hj2 := g02.at hj hne
  try simp
  refine wp_ss ?_
  have h1 : d < 1 := by
    have : d ≤ 0 := hd
    omega
  simp [h1]
  refine wp_ss ?_
  simp
  refine leaf_ok G c2 hj2 hne (by omega) hw hA fun x S' h1 h2 c' g' => ?_
  try simp
  exact q x S' h1 (by omega) c' (g02.trans g')
theorem expr_ok (G : Gens P) (hW : Wn.length = 10) (hWw : ∀ x ∈ Wn, word x) : ∀ (n : Nat), n ≤ 90 → ∀ k, 3 * n + 6 ≤ k → EOk P ic is nmr xs Wn k n
  | 0, _, k, hk => by
    obtain ⟨m, rfl⟩ : ∃ m, k = m + 6 := ⟨k - 6, by omega⟩
    exact expr_zero G m
  | n + 1, hn, k, hk => by
    obtain ⟨m, rfl⟩ : ∃ m, k = m + 6 := ⟨k - 6, by omega⟩
    exact expr_step G hW hWw (by omega) (expr_ok G hW hWw n (by omega) _ (by omega)) (expr_ok G hW hWw n (by omega) _ (by omega)) (expr_ok G hW hWw n (by omega) _ (by omega))
end
end Mi
set_option Elab.async false
set_option linter.all false
set_option maxRecDepth 100000
/-! M31: loops, by invariants. -/
namespace Mi
open PySem L2
/-- on or out -/
def Out.on (o : Out) (f : En → Prop) (g : D → Prop) : Prop := match o with
  | .nx e => f e
  | .cnt e => f e
  | .ret v => g v
@[simp] theorem on_nx (e : En) (f : En → Prop) (g : D → Prop) : (Out.nx e).on f g = f e := rfl
@[simp] theorem on_cnt (e : En) (f : En → Prop) (g : D → Prop) : (Out.cnt e).on f g = f e := rfl
@[simp] theorem on_ret (v : D) (f : En → Prop) (g : D → Prop) : (Out.ret v).on f g = g v := rfl
theorem wp_for {it : It} {t : Tg} {b : En → Sto → R Out} {Q : Out → Sto → Prop} (I : Nat → En → Sto → Prop) (st : ∀ i e S, I i e S → it.still S = true)
    (step : ∀ i x e S, it.items[i]? = some x → I i e S → ∃ e1, setTg t x e S = some e1 ∧ Wp (b e1 S) fun o S' => o.on (fun e2 => I (i + 1) e2 S') fun v => Q (.ret v) S') (fin : ∀ e S, I it.items.length e S → Q (.nx e) S) {e : En} {S : Sto} (h0 : I 0 e S) :
    Wp (forL it t b it.items e S) Q := by
  have key : ∀ (n i : Nat) (e : En) (S : Sto), n = it.items.length - i → i ≤ it.items.length → I i e S → Wp (forL it t b (it.items.drop i) e S) Q := by
    intro n
    induction n with
    | zero =>
      intro i e S hn hi h
      have e1 : i = it.items.length := by omega
      subst e1
      rw [List.drop_length]
      unfold forL
      rw [if_pos (st _ _ _ h)]
      exact fin e S h
    | succ n ih =>
      intro i e S hn hi h
      have hlt : i < it.items.length := by omega
      rw [List.drop_eq_getElem_cons hlt]
      unfold forL
      rw [if_pos (st _ _ _ h)]
      obtain ⟨e1, h1, h2⟩ := step i _ e S (List.getElem?_eq_getElem hlt) h
      rw [h1]
      dsimp only
      rw [wp_bind]
      refine h2.mono fun o S' h3 => ?_
      cases o with
      | nx e2 => exact ih (i + 1) e2 S' (by omega) hlt h3
      | cnt e2 => exact ih (i + 1) e2 S' (by omega) hlt h3
      | ret v => exact h3
  have := key _ 0 e S rfl (Nat.zero_le _) h0
  rwa [List.drop_zero] at this
theorem wp_lc {it : It} {b : D → Sto → R (Option D)} {p : Nat} {Q : Unit → Sto → Prop} (I : Nat → Sto → Prop) (st : ∀ i S, I i S → it.still S = true)
    (step : ∀ i x S, it.items[i]? = some x → I i S → Wp (b x S) fun y S1 => (y = none ∧ I (i + 1) S1) ∨ ∃ z acc, y = some z ∧ S1[p]? = some (.lst acc) ∧ acc.length < sizeLine ∧ I (i + 1) (S1.set p (.lst (acc ++ [z])))) (fin : ∀ S, I it.items.length S → Q () S) {S : Sto} (h0 : I 0 S) :
    Wp (lcLoop it b p it.items S) Q := by
  have key : ∀ (n i : Nat) (S : Sto), n = it.items.length - i → i ≤ it.items.length → I i S → Wp (lcLoop it b p (it.items.drop i) S) Q := by
    intro n
    induction n with
    | zero =>
      intro i S hn hi h
      have e1 : i = it.items.length := by omega
      subst e1
      rw [List.drop_length]
      unfold lcLoop
      rw [if_pos (st _ _ h)]
      exact fin S h
    | succ n ih =>
      intro i S hn hi h
      have hlt : i < it.items.length := by omega
      rw [List.drop_eq_getElem_cons hlt]
      unfold lcLoop
      rw [if_pos (st _ _ h), wp_bind]
      refine (step i _ S (List.getElem?_eq_getElem hlt) h).mono fun y S1 h3 => ?_
      rcases h3 with ⟨rfl, h3⟩ | ⟨z, acc, rfl, h4, h5, h6⟩
      · exact ih (i + 1) S1 (by omega) hlt h3
      · dsimp only
        simp only [h4]
        rw [if_pos h5]
        exact ih (i + 1) _ (by omega) hlt h6
  have := key _ 0 S rfl (Nat.zero_le _) h0
  rwa [List.drop_zero] at this
theorem wp_whl {t : En → Sto → R Bool} {b : En → Sto → R Out} {Q : Out → Sto → Prop} (I : Nat → En → Sto → Prop)
    (step : ∀ m e S, I m e S → Wp (t e S) fun c S1 => if c = true then Wp (b e S1) fun o S2 => o.on (fun e2 => ∃ m', m' < m ∧ I m' e2 S2) fun v => Q (.ret v) S2 else Q (.nx e) S1) {m : Nat} {e : En} {S : Sto} (h0 : I m e S) :
    Wp (whileX t b e S) Q := by
  have key : ∀ (m : Nat) (e : En) (S : Sto), I m e S → ∃ n o S', whileN t b n e S = .ok o S' ∧ Q o S' := by
    intro m
    induction m using Nat.strongRecOn with
    | _ m ih =>
      intro e S h
      obtain ⟨c, S1, h1, h2⟩ := (step m e S h).ex
      cases c with
      | false => exact ⟨1, .nx e, S1, by unfold whileN; rw [h1]; rfl, h2⟩
      | true =>
        rw [if_pos rfl] at h2
        obtain ⟨o, S2, h3, h4⟩ := h2.ex
        have go : ∀ e2, (∃ m', m' < m ∧ I m' e2 S2) → (o = .nx e2 ∨ o = .cnt e2) → ∃ n o S', whileN t b n e S = .ok o S' ∧ Q o S' := fun e2 ⟨m', hm, hi⟩ ho => by
          obtain ⟨n, o', S', h5, h6⟩ := ih m' hm e2 S2 hi
          refine ⟨n + 1, o', S', ?_, h6⟩
          unfold whileN
          rw [h1]
          show (b e S1).bind _ = _
          rw [h3]
          rcases ho with rfl | rfl <;> exact h5
        cases o with
        | nx e2 => exact go e2 h4 (.inl rfl)
        | cnt e2 => exact go e2 h4 (.inr rfl)
        | ret v => exact ⟨1, .ret v, S2, by unfold whileN; rw [h1]; show (b e S1).bind _ = _; rw [h3]; rfl, h4⟩
  obtain ⟨n, o, S', h1, h2⟩ := key m e S h0
  rw [whileX_of h1]
  exact h2
@[simp] theorem still_none {xs : List D} {S : Sto} : It.still ⟨xs, none⟩ S = true := rfl
theorem still_lst {xs its : List D} {i : Nat} {S : Sto} (h : S[i]? = some (.lst xs)) : It.still ⟨its, some (i, xs)⟩ S = true := by
  unfold It.still
  simpa using h
theorem rng_at {n i : Nat} {x : D} (h : (rngL 0 n)[i]? = some x) : i < n ∧ x = .int (i : Nat) := by
  unfold rngL at h
  rw [List.getElem?_map] at h
  cases q : (List.range n)[i]? with
  | none =>
    rw [q] at h
    cases h
  | some j =>
    rw [q] at h
    cases h
    obtain ⟨h1, h2⟩ := List.getElem?_eq_some_iff.mp q
    rw [List.getElem_range] at h2
    subst h2
    exact ⟨by simpa using h1, by simp⟩
theorem rng_len {n : Nat} : (rngL 0 n).length = n := by simp [rngL]
theorem rngIt1 {j : Int} {S : Sto} (h : 0 ≤ j) (h' : j < 4611686018427387904) : rngIt [.int j] S = .ok ⟨rngL 0 j.toNat, none⟩ S := by
  have hr : Rch j := ⟨by omega, h'⟩
  unfold rngIt
  simp only [hr, if_true]
theorem rngItS {j : Int} {S : Sto} (h : 0 ≤ j) (h' : j ≤ 1000000) : rngIt [.int j] S = .ok ⟨rngL 0 j.toNat, none⟩ S := rngIt1 h (by omega)
theorem seqIt_lst {i : Nat} {xs : List D} {S : Sto} (h : S[i]? = some (.lst xs)) : seqIt (.ref i) S = .ok ⟨xs, some (i, xs)⟩ S := by
  unfold seqIt
  simp only [h]
@[simp] theorem seqIt_tup {xs : List D} {S : Sto} : seqIt (.tup xs) S = .ok ⟨xs, none⟩ S := rfl
@[simp] theorem seqIt_lit {xs : List D} {S : Sto} : seqIt (.lit xs) S = .ok ⟨xs, none⟩ S := rfl
end Mi
set_option Elab.async false
set_option linter.all false
set_option maxRecDepth 100000
set_option maxHeartbeats 2000000
/-! M51: the laws' own evaluator of plain programs: its defs, printed by wip/gen/share.py. -/
namespace Mi
open PySem L2
namespace Wk
def law_badB : Sms := .cons (.ret (.and (.cons (.isi (.var 0) .tup) (.cons (.cmp .Eq (.sub (.sub (.var 0) (.int 0)) (.int 0)) (.str "!")) .nil)))) .nil
def law_badF : Fn := ⟨1, 1, law_badB⟩
def law_shown_0tB : Sms := .cons (.ret (.var 0)) .nil
def law_shown_1B : Sms := .cons (.ret (.tup (.cons (.str "fn") (.cons (.sub (.var 0) (.int 1)) .nil)))) .nil
def law_shownB : Sms := .cons (.ifs (.isi (.var 0) .int) law_shown_0tB .nil) law_shown_1B
def law_shownF : Fn := ⟨1, 1, law_shownB⟩
def law_with_2B : Sms := .cons (.ret (.var 3)) .nil
def law_with_1B : Sms := .cons (.asg (.sub (.var 3) (.var 1)) (.var 2)) law_with_2B
def law_withB : Sms := .cons (.asg (.nm 3) (.bf .dict (.cons (.var 0) .nil))) law_with_1B
def law_withF : Fn := ⟨3, 4, law_withB⟩
def law_walk_1tB : Sms := .cons (.ret (.sub (.var 0) (.int 1))) .nil
def law_walk_2tB : Sms := .cons (.ret (.sub (.var 1) (.sub (.var 0) (.int 1)))) .nil
def law_walk_3t_1B : Sms := .cons (.ret (.call "_law_walk" (.cons (.sub (.var 5) (.int 0)) (.cons (.sub (.var 5) (.int 1)) (.cons (.sub (.var 5) (.int 2)) (.cons (.var 3) .nil)))))) .nil
def law_walk_3tB : Sms := .cons (.asg (.nm 5) (.sub (.var 2) (.sub (.var 0) (.int 1)))) law_walk_3t_1B
def law_walk_4tB : Sms := .cons (.ret (.call "_law_walk" (.cons (.sub (.var 0) (.int 3)) (.cons (.var 1) (.cons (.call "_law_with" (.cons (.var 2) (.cons (.sub (.var 0) (.int 1)) (.cons (.tup (.cons (.sub (.var 0) (.int 2)) (.cons (.var 1) (.cons (.var 2) .nil)))) .nil)))) (.cons (.var 3) .nil)))))) .nil
def law_walk_5tB : Sms := .cons (.ret (.tup (.cons (.str "fn") (.cons (.sub (.var 0) (.int 1)) (.cons (.sub (.var 0) (.int 2)) (.cons (.sub (.var 0) (.int 3)) (.cons (.var 1) (.cons (.var 2) .nil)))))))) .nil
def law_walk_7t_1B : Sms := .cons (.ret (.int 0)) .nil
def law_walk_7tB : Sms := .cons (.asg (.sub (.var 6) (.sub (.var 0) (.int 1))) (.sub (.var 0) (.int 2))) law_walk_7t_1B
def law_walk_8t_3tB : Sms := .cons (.asg (.sub (.var 6) (.sub (.var 0) (.int 1))) (.var 7)) .nil
def law_walk_8t_4B : Sms := .cons (.ret (.var 8)) .nil
def law_walk_8t_3B : Sms := .cons (.ifs (.not (.call "_law_bad" (.cons (.var 8) .nil))) law_walk_8t_3tB .nil) law_walk_8t_4B
def law_walk_8t_2B : Sms := .cons (.asg (.nm 8) (.call "_law_walk" (.cons (.sub (.var 0) (.int 3)) (.cons (.var 1) (.cons (.var 2) (.cons (.var 3) .nil)))))) law_walk_8t_3B
def law_walk_8t_1B : Sms := .cons (.asg (.sub (.var 6) (.sub (.var 0) (.int 1))) (.sub (.var 0) (.int 2))) law_walk_8t_2B
def law_walk_8tB : Sms := .cons (.asg (.nm 7) (.bm .get2 (.var 6) (.cons (.sub (.var 0) (.int 1)) (.cons (.int 0) .nil)))) law_walk_8t_1B
def law_walk_9t_1B : Sms := .cons (.ret (.call "_law_walk" (.cons (.sub (.var 9) (.int 0)) (.cons (.var 1) (.cons (.var 2) (.cons (.var 3) .nil)))))) .nil
def law_walk_9tB : Sms := .cons (.asg (.nm 9) (.bin .Add (.lc (.tp [10, 11]) (.seq (.sub (.var 0) (.int 2))) (.cmp .Eq (.var 10) (.bm .get2 (.var 6) (.cons (.sub (.var 0) (.int 1)) (.cons (.int 0) .nil)))) (.var 11) [10, 11]) (.lst (.cons (.sub (.var 0) (.int 3)) .nil)))) law_walk_9t_1B
def law_walk_10t_1tB : Sms := .cons (.ret (.tup (.cons (.str "!more") .nil))) .nil
def law_walk_10t_2B : Sms := .cons (.ret (.call "_law_walk" (.cons (.sub (.var 0) (.int 1)) (.cons (.var 1) (.cons (.var 2) (.cons (.var 3) .nil)))))) .nil
def law_walk_10t_1B : Sms := .cons (.ifs (.cmp .Lt (.sub (.var 3) (.int 0)) (.int 0)) law_walk_10t_1tB .nil) law_walk_10t_2B
def law_walk_10tB : Sms := .cons (.asg (.sub (.var 3) (.int 0)) (.bin .Sub (.sub (.var 3) (.int 0)) (.int 1))) law_walk_10t_1B
def law_walk_11t_1tB : Sms := .cons (.ret (.var 8)) .nil
def law_walk_11t_2B : Sms := .cons (.ret (.call "_law_walk" (.cons (.sub (.var 0) (.int 3)) (.cons (.call "_law_with" (.cons (.var 1) (.cons (.sub (.var 0) (.int 1)) (.cons (.var 8) .nil)))) (.cons (.var 2) (.cons (.var 3) .nil)))))) .nil
def law_walk_11t_1B : Sms := .cons (.ifs (.call "_law_bad" (.cons (.var 8) .nil)) law_walk_11t_1tB .nil) law_walk_11t_2B
def law_walk_11tB : Sms := .cons (.asg (.nm 8) (.call "_law_walk" (.cons (.sub (.var 0) (.int 2)) (.cons (.var 1) (.cons (.var 2) (.cons (.var 3) .nil)))))) law_walk_11t_1B
def law_walk_13tB : Sms := .cons (.ret (.var 12)) .nil
def law_walk_14t_1B : Sms := .cons (.ret (.var 12)) .nil
def law_walk_14tB : Sms := .cons (.exp (.bm .append (.sub (.var 3) (.int 1)) (.cons (.tup (.cons (.sub (.var 0) (.int 1)) (.cons (.call "_law_shown" (.cons (.var 12) .nil)) .nil))) .nil))) law_walk_14t_1B
def law_walk_15t_0tB : Sms := .cons (.ret (.tup (.cons (.str "!stuck") (.cons (.sub (.var 0) (.int 1)) .nil)))) .nil
def law_walk_15t_1B : Sms := .cons (.ret (.call "_law_walk" (.cons (.sub (.lst (.cons (.sub (.var 0) (.int 4)) (.cons (.sub (.var 0) (.int 3)) .nil))) (.bf .int (.cons (.cmp .NotEq (.var 12) (.int 0)) .nil))) (.cons (.var 1) (.cons (.var 2) (.cons (.var 3) .nil)))))) .nil
def law_walk_15tB : Sms := .cons (.ifs (.not (.isi (.var 12) .int)) law_walk_15t_0tB .nil) law_walk_15t_1B
def law_walk_17tB : Sms := .cons (.ret (.var 13)) .nil
def law_walk_18t_0tB : Sms := .cons (.ret (.tup (.cons (.str "!stuck") (.cons (.sub (.var 0) (.int 1)) .nil)))) .nil
def law_walk_18t_2tB : Sms := .cons (.ret (.tup (.cons (.str "!more") .nil))) .nil
def law_walk_18t_3B : Sms := .cons (.ret (.call "_law_walk" (.cons (.sub (.var 12) (.int 3)) (.cons (.call "_law_with" (.cons (.sub (.var 12) (.int 4)) (.cons (.sub (.var 12) (.int 2)) (.cons (.var 13) .nil)))) (.cons (.sub (.var 12) (.int 5)) (.cons (.var 3) .nil)))))) .nil
def law_walk_18t_2B : Sms := .cons (.ifs (.cmp .Lt (.sub (.var 3) (.int 0)) (.int 0)) law_walk_18t_2tB .nil) law_walk_18t_3B
def law_walk_18t_1B : Sms := .cons (.asg (.sub (.var 3) (.int 0)) (.bin .Sub (.sub (.var 3) (.int 0)) (.int 1))) law_walk_18t_2B
def law_walk_18tB : Sms := .cons (.ifs (.or (.cons (.isi (.var 12) .int) (.cons (.cmp .NotEq (.sub (.var 12) (.int 1)) (.sub (.var 0) (.int 1))) .nil))) law_walk_18t_0tB .nil) law_walk_18t_1B
def law_walk_19tB : Sms := .cons (.ret (.tup (.cons (.str "!stuck") (.cons (.sub (.var 0) (.int 1)) .nil)))) .nil
def law_walk_20B : Sms := .cons (.ret (.sub (.lst (.cons (.bin .Add (.var 12) (.var 13)) (.cons (.bf .int (.cons (.cmp .Lt (.var 12) (.var 13)) .nil)) .nil))) (.bf .int (.cons (.cmp .Eq (.var 4) (.str "less")) .nil)))) .nil
def law_walk_19B : Sms := .cons (.ifs (.or (.cons (.not (.isi (.var 12) .int)) (.cons (.not (.isi (.var 13) .int)) .nil))) law_walk_19tB .nil) law_walk_20B
def law_walk_18B : Sms := .cons (.ifs (.cmp .Eq (.var 4) (.str "call")) law_walk_18tB .nil) law_walk_19B
def law_walk_17B : Sms := .cons (.ifs (.call "_law_bad" (.cons (.var 13) .nil)) law_walk_17tB .nil) law_walk_18B
def law_walk_16B : Sms := .cons (.asg (.nm 13) (.call "_law_walk" (.cons (.sub (.var 0) (.int 3)) (.cons (.var 1) (.cons (.var 2) (.cons (.var 3) .nil)))))) law_walk_17B
def law_walk_15B : Sms := .cons (.ifs (.cmp .Eq (.var 4) (.str "if")) law_walk_15tB .nil) law_walk_16B
def law_walk_14B : Sms := .cons (.ifs (.cmp .Eq (.var 4) (.str "say")) law_walk_14tB .nil) law_walk_15B
def law_walk_13B : Sms := .cons (.ifs (.call "_law_bad" (.cons (.var 12) .nil)) law_walk_13tB .nil) law_walk_14B
def law_walk_12B : Sms := .cons (.asg (.nm 12) (.call "_law_walk" (.cons (.sub (.var 0) (.int 2)) (.cons (.var 1) (.cons (.var 2) (.cons (.var 3) .nil)))))) law_walk_13B
def law_walk_11B : Sms := .cons (.ifs (.cmp .Eq (.var 4) (.str "let")) law_walk_11tB .nil) law_walk_12B
def law_walk_10B : Sms := .cons (.ifs (.cmp .Eq (.var 4) (.str "tick")) law_walk_10tB .nil) law_walk_11B
def law_walk_9B : Sms := .cons (.ifs (.cmp .Eq (.var 4) (.str "switch")) law_walk_9tB .nil) law_walk_10B
def law_walk_8B : Sms := .cons (.ifs (.cmp .Eq (.var 4) (.str "set")) law_walk_8tB .nil) law_walk_9B
def law_walk_7B : Sms := .cons (.ifs (.cmp .Eq (.var 4) (.str "put")) law_walk_7tB .nil) law_walk_8B
def law_walk_6B : Sms := .cons (.asg (.nm 6) (.sub (.var 3) (.int 2))) law_walk_7B
def law_walk_5B : Sms := .cons (.ifs (.cmp .Eq (.var 4) (.str "fn")) law_walk_5tB .nil) law_walk_6B
def law_walk_4B : Sms := .cons (.ifs (.cmp .Eq (.var 4) (.str "delay")) law_walk_4tB .nil) law_walk_5B
def law_walk_3B : Sms := .cons (.ifs (.cmp .Eq (.var 4) (.str "force")) law_walk_3tB .nil) law_walk_4B
def law_walk_2B : Sms := .cons (.ifs (.cmp .Eq (.var 4) (.str "name")) law_walk_2tB .nil) law_walk_3B
def law_walk_1B : Sms := .cons (.ifs (.cmp .Eq (.var 4) (.str "num")) law_walk_1tB .nil) law_walk_2B
def law_walkB : Sms := .cons (.asg (.nm 4) (.sub (.var 0) (.int 0))) law_walk_1B
def law_walkF : Fn := ⟨4, 14, law_walkB⟩
end Wk
structure Walks (P : Pr) : Prop where
  bad : P.fns.lookup ("_law_bad" : Str) = some Wk.law_badF
  shown : P.fns.lookup ("_law_shown" : Str) = some Wk.law_shownF
  with_ : P.fns.lookup ("_law_with" : Str) = some Wk.law_withF
  walk : P.fns.lookup ("_law_walk" : Str) = some Wk.law_walkF
end Mi
set_option Elab.async false
set_option linter.all false
set_option maxRecDepth 100000
set_option maxHeartbeats 1000000
/-! M32: texts; the check of a name. -/
namespace Mi
open PySem L2
theorem cps_app (a b : Str) : (a ++ b).cps = a.cps ++ b.cps := rfl
theorem inStr_one (z : Str) (c : Nat) : inStr ⟨#[c]⟩ z = decide (c ∈ z.cps.toList) := StrLaws.found_one z c
theorem sub_str {cds : Nat → List (Str × D)} {z : Str} {i : Int} {S : Sto} (h : z.length ≤ sizeLine) : subD cds (.str z) (.int i) S = optR ((atI z.cps.toList i).map fun c => D.str ⟨#[c]⟩) S := by
  show (if z.length ≤ sizeLine then _ else _) = _
  rw [if_pos h]
theorem len_str {z : Str} {S : Sto} (h : z.length ≤ sizeLine) : bfD .len [.str z] S = .ok (.int z.length) S := by
  show (if z.length ≤ sizeLine then _ else _) = _
  rw [if_pos h]
section
variable {P : Pr} {k : Nat} {S : Sto} {Q : D → Sto → Prop} {cds : Nat → List (Str × D)}
theorem notin_lst {i : Nat} {ys : List Str} {x : Str} (h : S[i]? = some (.lst (ys.map .str))) : cmpD cds .NotIn (.str x) (.ref i) S = .ok (.bl (decide (x ∉ ys))) S := by
  show inD cds true (.str x) (.ref i) S = _
  rw [in_lst h rfl (flat_strs ys), if_pos rfl]
  congr 2
  have : ((ys.map D.str).any fun y => eqF y (.str x)) = decide (x ∈ ys) := by
    rw [List.any_map, Bool.eq_iff_iff, List.any_eq_true, decide_eq_true_eq]
    constructor
    · rintro ⟨y, hy, e⟩
      have e : eqF (.str y) (.str x) = true := e
      rw [eqF_str, decide_eq_true_eq] at e
      exact e ▸ hy
    · intro hx
      exact ⟨x, hx, by show eqF (.str x) (.str x) = true; rw [eqF_str]; simp⟩
  rw [this]
  by_cases hx : x ∈ ys <;> simp [hx]
theorem isin_lst {i : Nat} {ys : List Str} {x : Str} (h : S[i]? = some (.lst (ys.map .str))) : cmpD cds .In (.str x) (.ref i) S = .ok (.bl (decide (x ∈ ys))) S := by
  show inD cds false (.str x) (.ref i) S = _
  rw [in_lst h rfl (flat_strs ys), if_neg Bool.false_ne_true]
  congr 2
  rw [List.any_map, Bool.eq_iff_iff, List.any_eq_true, decide_eq_true_eq]
  constructor
  · rintro ⟨y, hy, e⟩
    have e : eqF (.str y) (.str x) = true := e
    rw [eqF_str, decide_eq_true_eq] at e
    exact e ▸ hy
  · intro hx
    exact ⟨x, hx, by show eqF (.str x) (.str x) = true; rw [eqF_str]; simp⟩
theorem free_ok (G : Gens P) {x : Str} (q : ∀ o1 o2 o3, Q (.bl (decide (x ∉ wordsS))) (S ++ [o1] ++ [o2] ++ [o3])) : Wp ((cxt P (k + 2)).call "_law_free" [.str x] S) Q := by
  rw [call_fn G.free, run_fn2 rfl, wp_bind]
  unfold Gen.freeF Gen.freeB
  refine wp_ss ?_
  simp [startE, -List.append_assoc, -List.length_append]
  refine kinds_ok G ?_
  simp only [kindsS, List.map_cons, List.map_nil]
  rw [add_lst (by rw [List.getElem?_append_left (by simp), new_at]) new_at, if_pos (sizeBig (by simp) (by simp))]
  simp [-List.append_assoc, -List.length_append]
  rw [notin_lst (ys := wordsS) (by rw [new_at]; rfl)]
  simp only [wp_ok, goR_ret, outV_ret, R.bind_ok]
  exact q _ _ _
end
/-! ### names -/
theorem sub_len {α : Type} [DecidableEq α] : ∀ {l m : List α}, l.Nodup → (∀ x ∈ l, x ∈ m) → l.length ≤ m.length
  | [], _, _, _ => Nat.zero_le _
  | x :: l, m, nd, h => by
    obtain ⟨n1, n2⟩ := List.nodup_cons.mp nd
    have hx := h x List.mem_cons_self
    have : l.length ≤ (m.erase x).length := sub_len n2 fun y hy => by
      have hne : y ≠ x := fun e => by
        subst e
        exact n1 hy
      exact (List.mem_erase_of_ne hne).mpr (h y (List.mem_cons_of_mem _ hy))
    rw [List.length_erase_of_mem hx] at this
    have := List.length_pos_of_mem hx
    simp only [List.length_cons]
    omega
def signsS : Str := "abcdefghijklmnopqrstuvwxyzABCDEFGHIJKLMNOPQRSTUVWXYZ0123456789"
def signsL : List Nat := signsS.cps.toList
theorem signs_eq : signsL = lettersS ++ digitsS := by decide +kernel
theorem signs_len : signsL.length = 62 := by decide +kernel
theorem sign_at {i : Int} (h0 : 0 ≤ i) (h1 : i < 62) : ∃ c, atI signsL i = some c ∧ signsL[i.toNat]? = some c ∧ (c ∈ lettersS ∨ c ∈ digitsS) ∧ (i < 52 → c ∈ lettersS) := by
  rw [atI_pos h0]
  have hl : i.toNat < signsL.length := by rw [signs_len]; omega
  refine ⟨signsL[i.toNat], List.getElem?_eq_getElem hl, List.getElem?_eq_getElem hl, ?_, fun h => ?_⟩
  · have h2 : signsL[i.toNat] ∈ lettersS ++ digitsS := by
      have h3 := List.getElem_mem hl
      generalize signsL[i.toNat] = z at h3 ⊢
      rw [signs_eq] at h3
      exact h3
    exact List.mem_append.mp h2
  · have e : signsL[i.toNat]? = (lettersS ++ digitsS)[i.toNat]? := by rw [signs_eq]
    have hl2 : i.toNat < lettersS.length := by
      have : lettersS.length = 52 := by decide +kernel
      omega
    rw [List.getElem?_append_left hl2, List.getElem?_eq_getElem hl, List.getElem?_eq_getElem hl2] at e
    rw [Option.some.inj e]
    exact List.getElem_mem hl2
end Mi
set_option Elab.async false
set_option linter.all false
set_option maxRecDepth 100000
set_option maxHeartbeats 4000000
/-! M33: the drawn names. -/
namespace Mi
open PySem L2
structure Stem (x : Str) (i : Nat) : Prop where
  len : x.length = i
  all : ∀ c ∈ x.cps.toList, c ∈ lettersS ∨ c ∈ digitsS
  first : 0 < i → ∃ c, x.cps[0]? = some c ∧ c ∈ lettersS
theorem Stem.app {x : Str} {i c : Nat} (h : Stem x i) (hc : c ∈ lettersS ∨ c ∈ digitsS) (h0 : i = 0 → c ∈ lettersS) : Stem (x ++ ⟨#[c]⟩) (i + 1) := by
  have hs : x.cps.size = i := h.len
  refine ⟨?_, fun d hd => ?_, fun _ => ?_⟩
  · show (x.cps ++ #[c]).size = _
    rw [Array.size_append, hs]
    rfl
  · rw [cps_app, Array.toList_append] at hd
    rcases List.mem_append.mp hd with z | z
    · exact h.all d z
    · have : d = c := by simpa using z
      exact this ▸ hc
  · rw [cps_app]
    by_cases hi : i = 0
    · refine ⟨c, ?_, h0 hi⟩
      rw [Array.getElem?_append_right (by omega), hs, hi]
      rfl
    · obtain ⟨d, h1, h2⟩ := h.first (by omega)
      exact ⟨d, by rw [Array.getElem?_append_left (by omega)]; exact h1, h2⟩
/-- the k-th sign, the k-th name -/
def idxK (a s k : Nat) : Nat := (a + k * s) % 62
def nameK (stem : Str) (a s k : Nat) : Str := stem ++ ⟨#[signsL.getD (idxK a s k) 0]⟩
def accK (stem : Str) (a s k : Nat) : Prop := (∃ c, (nameK stem a s k).cps[0]? = some c ∧ c ∉ digitsS) ∧ nameK stem a s k ∉ wordsS
theorem name_eq {stem : Str} {a s k m : Nat} (h : nameK stem a s k = nameK stem a s m) : idxK a s k = idxK a s m := by
  have e : (stem.cps ++ #[signsL.getD (idxK a s k) 0]) = (stem.cps ++ #[signsL.getD (idxK a s m) 0]) := congrArg Str.cps h
  have e2 := Array.append_right_inj stem.cps |>.mp e
  have e3 : signsL.getD (idxK a s k) 0 = signsL.getD (idxK a s m) 0 := by simpa using e2
  have key : ∀ i < 62, ∀ j < 62, signsL.getD i 0 = signsL.getD j 0 → i = j := by decide +kernel
  exact key _ (Nat.mod_lt _ (by omega)) _ (Nat.mod_lt _ (by omega)) e3
theorem idx_inj {a s k m : Nat} (hk : k * s < 62) (hm : m * s < 62) (hs : 0 < s) (h : idxK a s k = idxK a s m) : k = m := by
  unfold idxK at h
  have : k * s = m * s := by omega
  exact Nat.eq_of_mul_eq_mul_right hs this
theorem words_alike : ∀ w ∈ wordsS, ∀ v ∈ wordsS, w.cps.toList.dropLast = v.cps.toList.dropLast → w = v := by decide +kernel
theorem words_two : ∀ w ∈ wordsS, 2 ≤ w.length := by decide +kernel
theorem digs_not : ∀ c ∈ lettersS, c ∉ digitsS := by decide +kernel
theorem few_digs : ∀ a < 62, ∀ s < 6, 0 < s → 10 ≤ ((List.range (61 / s + 1)).filter fun k => decide (idxK a s k < 52)).length := by decide +kernel
theorem nodup_map {α β : Type} {f : α → β} : ∀ {l : List α}, l.Nodup → (∀ x ∈ l, ∀ y ∈ l, f x = f y → x = y) → (l.map f).Nodup
  | [], _, _ => List.nodup_nil
  | x :: l, nd, h => by
    obtain ⟨n1, n2⟩ := List.nodup_cons.mp nd
    rw [List.map_cons, List.nodup_cons]
    refine ⟨fun hm => ?_, nodup_map n2 fun a ha b hb e => h a (List.mem_cons_of_mem _ ha) b (List.mem_cons_of_mem _ hb) e⟩
    obtain ⟨y, hy, e⟩ := List.mem_map.mp hm
    have := h y (List.mem_cons_of_mem _ hy) x List.mem_cons_self e
    subst this
    exact n1 hy
/-- ten of them stand -/
theorem ten {stem : Str} {n a s : Nat} {F : List Str} (hst : Stem stem n) (ha : a < 62) (hs : 0 < s) (hs2 : s < 6) (hF : ∀ k < 62, accK stem a s k → nameK stem a s k ∈ F) : 10 ≤ F.length := by
  -- a list of places whose names are accepted, with different signs
  have go : ∀ (l : List Nat), l.Nodup → (∀ k ∈ l, k * s < 62 ∧ accK stem a s k) → l.length ≤ F.length := by
    intro l nd hl
    have hk62 : ∀ k ∈ l, k < 62 := fun k hk => Nat.lt_of_le_of_lt (Nat.le_mul_of_pos_right k hs) (hl k hk).1
    have h1 : (l.map (nameK stem a s)).Nodup := nodup_map nd fun x hx y hy e => idx_inj (hl x hx).1 (hl y hy).1 hs (name_eq e)
    have h2 := sub_len h1 (m := F) fun x hx => by
      obtain ⟨k, hk, rfl⟩ := List.mem_map.mp hx
      exact hF k (hk62 k hk) (hl k hk).2
    rwa [List.length_map] at h2
  by_cases hn : n = 0
  · -- single signs: letters
    have h1 := few_digs a ha s hs2 hs
    refine Nat.le_trans h1 (go _ ((List.nodup_range).sublist List.filter_sublist) fun k hk => ?_)
    obtain ⟨h2, h3⟩ := List.mem_filter.mp hk
    have h3 : idxK a s k < 52 := by simpa using h3
    have h2 : k < 61 / s + 1 := by simpa using h2
    have hks : k * s < 62 := by
      have : k ≤ 61 / s := by omega
      have := (Nat.le_div_iff_mul_le hs).mp this
      omega
    have hsz : stem.cps.size = 0 := by
      have := hst.len
      rw [hn] at this
      exact this
    obtain ⟨c, _, hc, _, hl⟩ := sign_at (i := (idxK a s k : Nat)) (by omega) (by omega)
    have hg : signsL.getD (idxK a s k) 0 = c := by
      rw [List.getD_eq_getElem?_getD]
      rw [Int.toNat_natCast] at hc
      rw [hc]
      rfl
    refine ⟨hks, ⟨c, ?_, digs_not c (hl (by omega))⟩, fun hw => ?_⟩
    · show (stem.cps ++ #[signsL.getD (idxK a s k) 0])[0]? = _
      rw [Array.getElem?_append_right (by omega), hsz, hg]
      rfl
    · have := words_two _ hw
      have hl2 : (nameK stem a s k).length = stem.cps.size + 1 := by
        show (stem.cps ++ #[_]).size = _
        rw [Array.size_append]
        rfl
      omega
  · -- at most one is a word of the language
    obtain ⟨c0, f1, f2⟩ := hst.first (by omega)
    have hsz : stem.cps.size = n := hst.len
    have first : ∀ k, ∃ c, (nameK stem a s k).cps[0]? = some c ∧ c ∉ digitsS := fun k => ⟨c0, by
      show (stem.cps ++ #[_])[0]? = _
      rw [Array.getElem?_append_left (by omega)]
      exact f1, digs_not c0 f2⟩
    have one : ∀ k m, nameK stem a s k ∈ wordsS → nameK stem a s m ∈ wordsS → nameK stem a s k = nameK stem a s m := fun k m h1 h2 => words_alike _ h1 _ h2 (by
      show (stem.cps ++ #[_]).toList.dropLast = (stem.cps ++ #[_]).toList.dropLast
      rw [Array.toList_append, Array.toList_append]
      show (stem.cps.toList ++ [_]).dropLast = (stem.cps.toList ++ [_]).dropLast
      rw [List.dropLast_concat, List.dropLast_concat])
    have lt12 : ∀ k, k < 12 → k * s < 62 := fun k hk => by
      have : k * s ≤ 11 * 5 := Nat.mul_le_mul (by omega) (by omega)
      omega
    by_cases hex : ∃ k0, k0 < 12 ∧ nameK stem a s k0 ∈ wordsS
    · obtain ⟨k0, hk0, hw0⟩ := hex
      have h1 : 11 ≤ ((List.range 12).erase k0).length := by
        rw [List.length_erase_of_mem (by simpa using hk0)]
        simp
      refine Nat.le_trans (by omega) (Nat.le_trans h1 (go _ (List.Nodup.erase k0 List.nodup_range) fun k hk => ?_))
      have hk12 : k < 12 := by simpa using List.mem_of_mem_erase hk
      have hne : k ≠ k0 := fun e => by
        subst e
        exact absurd hk (List.Nodup.not_mem_erase List.nodup_range)
      refine ⟨lt12 k hk12, first k, fun hw => hne ?_⟩
      exact idx_inj (lt12 k hk12) (lt12 k0 hk0) hs (name_eq (one k k0 hw hw0))
    · refine Nat.le_trans (by decide : 10 ≤ (List.range 12).length) (go _ List.nodup_range fun k hk => ?_)
      have hk12 : k < 12 := by simpa using hk
      exact ⟨lt12 k hk12, first k, fun hw => hex ⟨k, hk12, hw⟩⟩
end Mi
set_option Elab.async false
set_option linter.all false
set_option maxRecDepth 100000
set_option maxHeartbeats 4000000
/-! M34: the drawing of the names. -/
namespace Mi
open PySem L2
theorem small {n : Nat} (h : n ≤ 1000) : n ≤ sizeLine := by
  rw [sizeLine_eq]
  omega
theorem str_len_app (a b : Str) : (a ++ b).length = a.length + b.length := by
  show (a.cps ++ b.cps).size = _
  rw [Array.size_append]
  rfl
theorem one_len (c : Nat) : (⟨#[c]⟩ : Str).length = 1 := rfl
section
variable {P : Pr} {k : Nat} {S : Sto} {ic is : Nat} {xs : List Int} {bud : Int} {nm : D} {Q : D → Sto → Prop}
theorem stem0 : Stem "" 0 := by
  have h : ("" : Str).cps.toList = [] := by decide +kernel
  refine ⟨by decide +kernel, fun c hc => ?_, fun h => absurd h (by omega)⟩
  rw [h] at hc
  cases hc
theorem take_gs (G : Gens P) {many : Int} (h : Gs S ic is xs bud nm) (hm : 0 < many) (hm2 : many < 1073741824)
    (q : ∀ d S', 0 ≤ d → d < many → Gs S' ic is xs bud nm → Grow ic S S' → Q (.int d) S') : Wp ((cxt P (k + 2)).call "_law_take" [.ref ic, .int many] S) Q := take_call G.toDrawn h hm hm2 q
/-- behind i turns of the names' loop -/
structure Ni (S0 : Sto) (ic is : Nat) (xs : List Int) (bud : Int) (nm : D) (stem : Str) (a s : Int) (r : Nat) (F : List Str) (i : Nat) (S : Sto) : Prop where
  at_ : S[r]? = some (.lst (F.map .str))
  wd : ∀ x ∈ F, word x
  len : F.length ≤ i
  le : i ≤ 62
  all : ∀ k, k < i → accK stem a.toNat s.toNat k → nameK stem a.toNat s.toNat k ∈ F
  g : Gs S ic is xs bud nm
  w : Grow ic S0 S
def Ne (ic : Nat) (stem : Str) (a s : Int) (r : Nat) (e : En) : Prop := ∃ (v3 v7 : Option D), e = [some (.ref ic), some (.str signsS), some (.str stem), v3, some (.int a), some (.int s), some (.ref r), v7]
theorem names_ok (G : Gens P) (h : Gs S ic is xs bud nm) (q : ∀ (r : Nat) (W : List Str) S', W.length = 10 → (∀ x ∈ W, word x) → S'[r]? = some (.lst (W.map .str)) → r ≠ ic → Gs S' ic is xs bud nm → Grow ic S S' → Q (.ref r) S') : Wp ((cxt P (k + 3)).call "_law_names" [.ref ic] S) Q := by
  rw [call_fn G.names, run_fn2 rfl, wp_bind]
  unfold Gen.namesF Gen.namesB
  have hsg : signsS.length ≤ sizeLine := small (by decide +kernel)
  -- the names from the stem on
  have loop2 : ∀ {S1 : Sto} {stem : Str} {n r : Nat} {a s : Int} {v3 : Option D}, Stem stem n → n ≤ 6 → 0 ≤ a → a < 62 → 0 < s → s < 6 → Gs S1 ic is xs bud nm → Grow ic S S1 → S1[r]? = some (.lst []) → S.length ≤ r →
      Wp (evSs (cxt P (k + 2)) Gen.namesB_6 [some (.ref ic), some (.str signsS), some (.str stem), v3, some (.int a), some (.int s), some (.ref r), none] S1) fun o S => Wp (outV o S) Q := by
    intro S1 stem n r a s v3 hst hn a0 a1 s0 s1 g1 w1 hr hrn
    have hne : r ≠ ic := fun e => by
      have := h.lt
      omega
    have hns : r ≠ is := fun e => by
      obtain ⟨_, _, _, h⟩ := h
      have := lt_of h.s
      omega
    refine wp_ss ?_
    simp [rngItS]
    refine wp_for (it := ⟨rngL 0 62, none⟩) (fun i e S2 => Ne ic stem a s r e ∧ ∃ F, Ni S ic is xs bud nm stem a s r F i S2)
      (fun i e S2 _ => rfl) ?_ ?_ ⟨⟨v3, none, rfl⟩, [], hr, fun x hx => absurd hx (by simp), Nat.le_refl _, by omega, fun k hk => absurd hk (by omega), g1, w1⟩
    · rintro i x e S2 hx ⟨⟨v3, v7, rfl⟩, F, hF, hw, hl, hi, hc, g2, w2⟩
      obtain ⟨hi62, rfl⟩ := rng_at hx
      refine ⟨_, rfl, ?_⟩
      unfold Gen.namesB_6b
      refine wp_ss ?_
      have hb : (0 : Int) ≤ (a + (i : Int) * s) % 62 := Int.emod_nonneg _ (by omega)
      have hb2 : (a + (i : Int) * s) % 62 < 62 := Int.emod_lt_of_pos _ (by omega)
      obtain ⟨c, hc1, hc2, hc3, _⟩ := sign_at hb hb2
      have hidx : ((a + (i : Int) * s) % 62).toNat = idxK a.toNat s.toNat i := by
        unfold idxK
        have e1 : a = (a.toNat : Int) := by omega
        have e2 : s = (s.toNat : Int) := by omega
        rw [e1, e2]
        rw [← Int.natCast_mul, ← Int.natCast_add]
        show (((a.toNat + i * s.toNat : Nat) : Int) % ((62 : Nat) : Int)).toNat = _
        rw [← Int.natCast_emod, Int.toNat_natCast]
        rfl
      have hname : stem ++ ⟨#[c]⟩ = nameK stem a.toNat s.toNat i := by
        unfold nameK
        rw [List.getD_eq_getElem?_getD, ← hidx, hc2]
        rfl
      have hlen : stem.length + (⟨#[c]⟩ : Str).length ≤ sizeLine := by
        rw [hst.len, one_len]
        exact small (by omega)
      simp [mul_int (cmul_r (i := (i : Int)) (j := s) (by omega) (by omega)), mod_int (j := 62) (by omega), sub_str hsg, show atI signsS.cps.toList ((a + (i : Int) * s) % 62) = some c from hc1, hlen]
      unfold Gen.namesB_6b_1
      refine wp_ss ?_
      have hx7 : (stem ++ ⟨#[c]⟩ : Str).length = n + 1 := by rw [str_len_app, hst.len, one_len]
      have hs7 : (stem ++ ⟨#[c]⟩ : Str).length ≤ sizeLine := small (by omega)
      obtain ⟨c0, hc0⟩ : ∃ c0, (stem ++ ⟨#[c]⟩ : Str).cps.toList[0]? = some c0 := by
        have : 0 < (stem ++ ⟨#[c]⟩ : Str).cps.toList.length := by
          have h3 : (stem ++ ⟨#[c]⟩ : Str).cps.size = n + 1 := hx7
          rw [Array.length_toList, h3]
          omega
        exact ⟨_, List.getElem?_eq_getElem this⟩
      have hc0' : (stem ++ ⟨#[c]⟩ : Str).cps[0]? = some c0 := by simpa using hc0
      have hcps : ∀ d ∈ (stem ++ ⟨#[c]⟩ : Str).cps.toList, d ∈ lettersS ∨ d ∈ digitsS := fun d hd => by
        rw [cps_app, Array.toList_append] at hd
        rcases List.mem_append.mp hd with z | z
        · exact hst.all d z
        · have : d = c := by simpa using z
          exact this ▸ hc3
      have notin_s : ∀ cds S, cmpD cds .NotIn (.str ⟨#[c0]⟩) (.str "0123456789") S = .ok (D.bl (decide (c0 ∉ digitsS))) S := fun cds S => by
        show R.ok (D.bl (!inStr _ _)) S = _
        rw [inStr_one]
        have : (("0123456789" : Str).cps.toList) = digitsS := by decide +kernel
        rw [this]
        by_cases hd : c0 ∈ digitsS <;> simp [hd]
      have skip : ∀ {S3 : Sto}, S3[r]? = some (.lst (F.map .str)) → Gs S3 ic is xs bud nm → Grow ic S S3 → (accK stem a.toNat s.toNat i → nameK stem a.toNat s.toNat i ∈ F) →
          Ne ic stem a s r [some (.ref ic), some (.str signsS), some (.str stem), some (.int (i : Nat)), some (.int a), some (.int s), some (.ref r), some (.str (stem ++ ⟨#[c]⟩))] ∧ ∃ F, Ni S ic is xs bud nm stem a s r F (i + 1) S3 :=
        fun {S3} h1 h2 h3 h4 => ⟨⟨_, _, rfl⟩, F, h1, hw, by omega, by omega, fun k hk ha => by
          by_cases e : k = i
          · subst e
            exact h4 ha
          · exact hc k (by omega) ha, h2, h3⟩
      simp [sub_str hs7, hc0, notin_s]
      refine wp_ifp (fun hd => ?_) fun hd => ?_
      · simp
        exact skip hF g2 w2 fun ⟨⟨c', h1, h2⟩, _⟩ => by
          rw [← hname, hc0'] at h1
          cases h1
          exact absurd hd h2
      · rw [notin_lst hF]
        simp
        refine wp_ifp (fun hin => ?_) fun hin => ?_
        · simp
          exact skip hF g2 w2 fun _ => by rw [← hname]; exact hin
        · simp only [wp_bind]
          refine free_ok G fun o1 o2 o3 => ?_
          have g3 := ((g2.app (o := o1)).app (o := o2)).app (o := o3)
          have w3 := ((w2.trans (Grow.app (o := o1))).trans (Grow.app (o := o2))).trans (Grow.app (o := o3))
          have hF3 : (S2 ++ [o1] ++ [o2] ++ [o3])[r]? = some (.lst (F.map .str)) := (((Grow.app (ic := ic) (o := o1)).trans (Grow.app (o := o2))).trans (Grow.app (o := o3))).at hF hne
          generalize S2 ++ [o1] ++ [o2] ++ [o3] = S3 at g3 w3 hF3 ⊢
          simp
          refine wp_ifp (fun hf => ?_) fun hf => ?_
          · simp
            exact skip hF3 g3 w3 fun ⟨_, h2⟩ => absurd (hname ▸ hf) h2
          · unfold Gen.namesB_6b_1t
            refine wp_ss ?_
            simp [pre_lst2 hF3, append_lst hF3 (show (F.map D.str).length < sizeLine by rw [List.length_map, sizeLine_eq]; omega)]
            have hr3 := lt_of hF3
            have hcw : c0 ∈ lettersS := (hcps c0 (by
              rw [List.mem_iff_getElem?]
              exact ⟨0, hc0⟩)).elim id fun z => absurd z hd
            refine ⟨⟨_, _, rfl⟩, F ++ [stem ++ ⟨#[c]⟩], ?_, fun y hy => ?_, by simp; omega, by omega, fun k hk ha => ?_, ?_, ?_⟩
            · rw [List.getElem?_set_self hr3, List.map_append]
              rfl
            · rcases List.mem_append.mp hy with z | z
              · exact hw y z
              · rcases List.mem_singleton.mp z with rfl
                exact ⟨by omega, by omega, hf, ⟨c0, hc0', hcw⟩, hcps⟩
            · by_cases e : k = i
              · subst e
                rw [← hname]
                simp
              · exact List.mem_append_left _ (hc k (by omega) ha)
            · obtain ⟨p, ac, ct, g⟩ := g3
              exact ⟨p, ac, ct, by rw [List.getElem?_set_ne hne]; exact g.c, by rw [List.getElem?_set_ne hns]; exact g.s, g.pos0, g.ne⟩
            · exact ⟨by simp; exact w3.len, fun i hi hi2 => by rw [List.getElem?_set_ne (by omega)]; exact w3.same i hi hi2⟩
    · rintro e S2 ⟨⟨v3, v7, rfl⟩, F, hF, hw, hl, hi, hc, g2, w2⟩
      simp
      unfold Gen.namesB_7
      refine wp_ss ?_
      simp [slc_lst hF, -List.append_assoc, -List.length_append]
      have h62 : (rngL 0 62).length = 62 := rng_len
      have hten := ten hst (a := a.toNat) (s := s.toNat) (F := F) (by omega) (by omega) (by omega) fun k hk ha => hc k (by show k < (rngL 0 62).length; omega) ha
      have hcut : cutL (F.map D.str) none (some 10) = ((F.take 10).map .str) := by
        unfold cutL
        show ((F.map D.str).drop 0).take (min 10 (F.map D.str).length - 0) = _
        rw [List.drop_zero, List.length_map, Nat.sub_zero, Nat.min_eq_left hten, List.map_take]
      rw [hcut]
      exact q _ (F.take 10) _ (by rw [List.length_take]; omega) (fun x hx => hw x (List.mem_of_mem_take hx)) new_at (Nat.ne_of_gt g2.lt) g2.app (w2.trans .app)
  refine wp_ss ?_
  simp [startE]
  unfold Gen.namesB_1
  refine wp_ss ?_
  simp
  unfold Gen.namesB_2
  refine wp_ss ?_
  simp [-List.append_assoc, -List.length_append]
  refine take_gs G h.app (by omega) (by omega) fun d1 S1 a1 b1 g1 w1 => ?_
  have hne0 : S.length ≠ ic := Nat.ne_of_gt h.lt
  rw [sub_lst (w1.at new_at hne0)]
  have w1 := Grow.trans (.app (o := .lst [.int 0, .int 0, .int 1, .int 3, .int 6])) w1
  obtain ⟨n, hn, en⟩ : ∃ n : Nat, n ≤ 6 ∧ atI ([.int 0, .int 0, .int 1, .int 3, .int 6] : List D) d1 = some (.int (n : Int)) := by
    have : d1 = 0 ∨ d1 = 1 ∨ d1 = 2 ∨ d1 = 3 ∨ d1 = 4 := by omega
    rcases this with rfl | rfl | rfl | rfl | rfl
    · exact ⟨0, by omega, rfl⟩
    · exact ⟨0, by omega, rfl⟩
    · exact ⟨1, by omega, rfl⟩
    · exact ⟨3, by omega, rfl⟩
    · exact ⟨6, by omega, rfl⟩
  rw [en]
  have hn2 : (n : Int) ≤ 1000000 := by omega
  refine Wp.of (optR_some _ _) ?_
  refine Wp.of (rngItS (Int.natCast_nonneg n) hn2) ?_
  rw [Int.toNat_natCast]
  refine wp_for (it := ⟨rngL 0 n, none⟩) (fun i e S2 => ∃ (stem : Str) (v3 : Option D), e = [some (.ref ic), some (.str signsS), some (.str stem), v3, none, none, none, none] ∧ Stem stem i ∧ i ≤ n ∧ Gs S2 ic is xs bud nm ∧ Grow ic S S2)
    (fun i e S2 _ => rfl) ?_ ?_ ⟨"", none, rfl, stem0, by omega, g1, w1⟩
  · rintro i x e S2 hx ⟨stem, v3, rfl, hst, hi, g2, w2⟩
    obtain ⟨hin, rfl⟩ := rng_at hx
    refine ⟨_, rfl, ?_⟩
    unfold Gen.namesB_2b
    refine wp_ss ?_
    simp [-List.append_assoc, -List.length_append]
    rw [sub_lst new_at]
    have step : ∀ (many : Int) (c0 : Int), 52 ≤ many → many ≤ 62 → (i = 0 → many = 52) → Wp ((cxt P (k + 2)).call "_law_take" [.ref ic, .int many] (S2 ++ [O.lst [.int 62, .int 52]])) fun a s => Wp (subD (cxt P (k + 2)).cds (.str signsS) a s) fun a s => Wp (binD .Add (.str stem) a s) fun a s => (fun e2 => ∃ (stem : Str) (v3 : Option D), e2 = [some (.ref ic), some (.str signsS), some (.str stem), v3, none, none, none, none] ∧ Stem stem (i + 1) ∧ i + 1 ≤ n ∧ Gs s ic is xs bud nm ∧ Grow ic S s) [some (.ref ic), some (.str signsS), some a, some (.int (i : Nat)), none, none, none, none] := by
      intro many _ m0 m1 m2
      refine take_gs G g2.app (by omega) (by omega) fun d3 S3 a3 b3 g3 w3 => ?_
      obtain ⟨c, hc1, hc2, hc3, hc4⟩ := sign_at (i := d3) a3 (by omega)
      have hlen : stem.length + (⟨#[c]⟩ : Str).length ≤ sizeLine := by
        rw [hst.len, one_len]
        exact small (by omega)
      simp [sub_str hsg, show atI signsS.cps.toList d3 = some c from hc1, hlen]
      exact ⟨hst.app hc3 fun h0 => hc4 (by have := m2 h0; omega), by omega, g3, (w2.trans .app).trans w3⟩
    by_cases hs : stem = ""
    · have hi0 : i = 0 := by
        rw [← hst.len, hs]
        rfl
      have := step 52 0 (by omega) (by omega) fun _ => rfl
      simp [hs] at this ⊢
      simpa using this
    · have hi0 : i ≠ 0 := fun e => hs (by
        have := hst.len
        rw [e] at this
        have h2 : stem.cps.size = 0 := this
        have h3 : stem.cps = #[] := Array.size_eq_zero_iff.mp h2
        cases stem
        simp at h3
        subst h3
        rfl)
      have := step 62 0 (by omega) (by omega) fun e => absurd e hi0
      simp [hs] at this ⊢
      simpa using this
  · rintro e S2 ⟨stem, v3, rfl, hst, hi, g2, w2⟩
    have hst : Stem stem n := by
      have e : (rngL 0 n).length = n := rng_len
      have hst : Stem stem (rngL 0 n).length := hst
      rwa [e] at hst
    simp
    unfold Gen.namesB_3
    refine wp_ss ?_
    simp
    refine take_gs G g2 (by omega) (by omega) fun d3 S3 a3 b3 g3 w3 => ?_
    try simp
    unfold Gen.namesB_4
    refine wp_ss ?_
    simp
    refine take_gs G g3 (by omega) (by omega) fun d4 S4 a4 b4 g4 w4 => ?_
    try simp
    unfold Gen.namesB_5
    refine wp_ss ?_
    simp [-List.append_assoc, -List.length_append]
    have w := (w2.trans w3).trans w4
    exact loop2 hst hn a3 b3 (by omega) (by omega) g4.app (w.trans .app) new_at w.len
end
end Mi
set_option Elab.async false
set_option linter.all false
set_option maxRecDepth 100000
set_option maxHeartbeats 2000000
/-! M35: parts, depth and size of a program, as the laws count them. -/
namespace Mi
open PySem L2
def Ex.kids : Ex → List Ex
  | .num _ => []
  | .name _ => []
  | .fn _ b => [b]
  | .call a b => [a, b]
  | .sum a b => [a, b]
  | .less a b => [a, b]
  | .ite a b c => [a, b, c]
  | .let_ _ a b => [a, b]
  | .say a => [a]
  | .rule _ a b => [a, b]
  | .keep _ a => [a]
  | .part _ => []
  | .with_ a => [a]
  | .usual => []
  | .do1 a => [a]
  | .do2 a b => [a, b]
def Ex.sz : Ex → Nat
  | .num _ => 1
  | .name _ => 1
  | .fn _ b => b.sz + 1
  | .call a b => a.sz + b.sz + 1
  | .sum a b => a.sz + b.sz + 1
  | .less a b => a.sz + b.sz + 1
  | .ite a b c => a.sz + b.sz + c.sz + 1
  | .let_ _ a b => a.sz + b.sz + 1
  | .say a => a.sz + 1
  | .rule _ a b => a.sz + b.sz + 1
  | .keep _ a => a.sz + 1
  | .part _ => 1
  | .with_ a => a.sz + 1
  | .usual => 1
  | .do1 a => a.sz + 1
  | .do2 a b => a.sz + b.sz + 1
def isTupD : D → Bool
  | .tup _ => true
  | _ => false
/-- flat or a tuple -/
def plainD : D → Bool
  | .ref _ => false
  | .cd _ => false
  | .lit _ => false
  | _ => true
theorem isi_tup {x : D} (h : plainD x = true) : isiD .tup x = some (isTupD x) := by cases x <;> first | rfl | cases h
@[simp] theorem plain_str (x : Str) : plainD (.str x) = true := rfl
@[simp] theorem plain_int (x : Int) : plainD (.int x) = true := rfl
@[simp] theorem plain_tup (x : List D) : plainD (.tup x) = true := rfl
@[simp] theorem plain_non : plainD .non = true := rfl
@[simp] theorem plain_bl (b : Bool) : plainD (.bl b) = true := rfl
@[simp] theorem isTup_str (x : Str) : isTupD (.str x) = false := rfl
@[simp] theorem isTup_int (x : Int) : isTupD (.int x) = false := rfl
@[simp] theorem isTup_tup (x : List D) : isTupD (.tup x) = true := rfl
@[simp] theorem d_tup (x : Ex) : isTupD x.d = true := by cases x <;> rfl
section
variable {P : Pr} {k : Nat} {S : Sto} {Q : D → Sto → Prop}
theorem slc_tup {ys : List D} {lo hi : Option Int} : slcD (.tup ys) lo hi S = .ok (.tup (cutL ys lo hi)) S := rfl
theorem cut_one {a : D} {ys : List D} : cutL (a :: ys) (some 1) none = ys := by
  show ((a :: ys).drop (min 1 (a :: ys).length)).take ((a :: ys).length - min 1 (a :: ys).length) = ys
  have h : min 1 (a :: ys).length = 1 := by simp
  rw [h, List.drop_succ_cons, List.drop_zero]
  simp
theorem inner_gen (G : Gens P) {a : Str} {ys : List D} (hp : ys.all plainD = true) (hl : ys.length ≤ 1000) (h1 : a = "do" → ∀ z zs, ys = z :: zs → Q z S) (hn : a = "do" → ys ≠ []) (h2 : a ≠ "do" → Q (.ref S.length) (S ++ [.lst (ys.filter isTupD)])) : Wp ((cxt P (k + 1)).call "_law_inner" [.tup (.str a :: ys)] S) Q := by
  rw [call_fn G.inner, run_fn2 rfl, wp_bind]
  unfold Gen.innerF Gen.innerB
  refine wp_ss ?_
  simp [startE]
  refine wp_ifp (fun e => ?_) fun e => ?_
  · unfold Gen.innerB_0t
    refine wp_ss ?_
    cases ys with
    | nil => exact absurd rfl (hn e)
    | cons z zs =>
      simp
      exact h1 e z zs rfl
  · try simp
    unfold Gen.innerB_1
    refine wp_ss ?_
    simp [slc_tup, cut_one]
    refine wp_lc (it := ⟨ys, none⟩) (fun i S' => S' = S ++ [.lst ((ys.take i).filter isTupD)]) (fun _ _ _ => rfl) ?_ ?_ (by simp)
    · rintro i x S' hx rfl
      have hpx : plainD x = true := List.all_eq_true.mp hp _ (List.mem_of_getElem? hx)
      have ht : ys.take (i + 1) = ys.take i ++ [x] := by
        rw [List.take_succ, hx]
        rfl
      unfold lcB
      simp [wipeE, isNop, isi_tup hpx, -List.append_assoc, -List.length_append]
      cases hb : isTupD x with
      | true =>
        simp [hb, ht, List.filter_append]
        have h3 : ((ys.take i).filter isTupD).length ≤ (ys.take i).length := List.length_filter_le ..
        rw [List.length_take] at h3
        rw [sizeLine_eq]
        omega
      | false =>
        simp [hb, ht, List.filter_append]
    · rintro S' rfl
      simp
      exact h2 e
/-- the parts of a program, however they come -/
theorem inner_ex (G : Gens P) (x : Ex) (h1 : Q (.tup (x.kids.map Ex.d)) S) (h2 : Q (.ref S.length) (S ++ [.lst (x.kids.map Ex.d)])) : Wp ((cxt P (k + 1)).call "_law_inner" [x.d] S) Q := by
  have pl : ∀ y : Ex, plainD y.d = true := fun y => by cases y <;> rfl
  cases x <;> refine inner_gen G ?_ ?_ ?_ ?_ ?_ <;> first
    | (simp [pl]; done)
    | (simp; done)
    | (intro e; exact absurd e (by decide +kernel))
    | (intro _; simpa [List.filter_cons, Ex.kids] using h2)
    | (intro _ z zs e; simp at e; obtain ⟨rfl, _⟩ := e; simpa [Ex.kids] using h1)
    | (intro _; simp)
end
end Mi
set_option Elab.async false
set_option linter.all false
set_option maxRecDepth 100000
set_option maxHeartbeats 2000000
/-! M36: depth and size. -/
namespace Mi
open PySem L2
section
variable {P : Pr} {k : Nat} {S : Sto} {Q : D → Sto → Prop}
theorem kids_len (x : Ex) : x.kids.length ≤ 3 := by cases x <;> simp [Ex.kids]
/-- [f(p) for p in inner(e)] -/
theorem kids_lc (G : Gens P) (x : Ex) {f : Str} {g : Ex → Int} (hf : ∀ y ∈ x.kids, ∀ (S : Sto) (Q : D → Sto → Prop), (∀ T, Q (.int (g y)) (S ++ T)) → Wp ((cxt P (k + 1)).call f [y.d] S) Q)
    (q : ∀ (p : Nat) (T : List O), (S ++ T)[p]? = some (.lst (x.kids.map fun y => .int (g y))) → Q (.ref p) (S ++ T)) :
    Wp ((ev (cxt P (k + 1)) (.lc (.nm 1) (.seq (.call "_law_inner" (.cons (.var 0) .nil))) .nop (.call f (.cons (.var 1) .nil)) [1])).v [some x.d, none] S) Q := by
  simp [-List.append_assoc, -List.length_append, -List.map_take]
  have body : ∀ (S1 : Sto) (it : It), it.items = x.kids.map Ex.d → (∀ T, it.still (S1 ++ T) = true) → (∃ T, S1 = S ++ T) → Wp (lcLoop it (lcB (cxt P (k + 1)) (.nm 1) [1] .nop (.call f (.cons (.var 1) .nil)) [some x.d, none]) S1.length it.items (S1 ++ [.lst []])) fun _ S5 => Q (.ref S1.length) S5 := by
    rintro S1 it hit hst ⟨T0, rfl⟩
    refine wp_lc (fun i S' => ∃ T, S' = S ++ T0 ++ [.lst ((x.kids.take i).map fun y => .int (g y))] ++ T) ?_ ?_ ?_ ⟨[], by simp⟩
    · rintro i S' ⟨T, rfl⟩
      rw [List.append_assoc (S ++ T0)]
      exact hst _
    · rintro i y S' hx ⟨T, rfl⟩
      rw [hit, List.getElem?_map] at hx
      cases hk : x.kids[i]? with
      | none =>
        rw [hk] at hx
        cases hx
      | some z =>
        rw [hk] at hx
        cases hx
        have hz : z ∈ x.kids := List.mem_of_getElem? hk
        have ht : x.kids.take (i + 1) = x.kids.take i ++ [z] := by
          rw [List.take_succ, hk]
          rfl
        unfold lcB
        simp [wipeE, isNop, -List.append_assoc, -List.length_append, -List.map_take]
        refine hf z hz _ _ fun T2 => ?_
        try simp [-List.append_assoc, -List.length_append, -List.map_take]
        have hp : (S ++ T0 ++ [O.lst ((x.kids.take i).map fun y => .int (g y))] ++ T ++ T2)[(S ++ T0).length]? = some (.lst ((x.kids.take i).map fun y => .int (g y))) := by
          rw [List.append_assoc, List.append_assoc (S ++ T0), List.getElem?_append_right (Nat.le_refl _), Nat.sub_self]
          rfl
        refine ⟨_, by first | exact hp | (rw [← List.map_take]; exact hp), ?_, T ++ T2, ?_⟩
        · rw [List.length_map, List.length_take, sizeLine_eq]
          have := kids_len x
          omega
        · rw [ht, List.map_append, List.append_assoc, List.append_assoc (S ++ T0), List.set_append_right _ _ (Nat.le_refl _), Nat.sub_self]
          simp
    · rintro S' ⟨T, rfl⟩
      have hl : it.items.length = x.kids.length := by rw [hit, List.length_map]
      rw [hl, List.take_length]
      have := q (S ++ T0).length (T0 ++ [.lst (x.kids.map fun y => .int (g y))] ++ T) (by
        rw [← List.append_assoc, ← List.append_assoc, List.append_assoc (S ++ T0), List.getElem?_append_right (Nat.le_refl _), Nat.sub_self]
        rfl)
      rw [← List.append_assoc, ← List.append_assoc] at this
      exact this
  refine inner_ex G x ?_ ?_
  · simp [-List.append_assoc, -List.length_append, -List.map_take]
    exact body S ⟨x.kids.map Ex.d, none⟩ rfl (fun _ => rfl) ⟨[], by simp⟩
  · rw [seqIt_lst new_at]
    simp only [wp_ok]
    refine body (S ++ [.lst (x.kids.map Ex.d)]) ⟨x.kids.map Ex.d, some (S.length, x.kids.map Ex.d)⟩ rfl (fun T => ?_) ⟨_, rfl⟩
    exact still_lst (by rw [List.getElem?_append_left (by simp), new_at])
theorem ints_map (l : List Ex) (g : Ex → Int) : intsOf (l.map fun y => D.int (g y)) = some (l.map g) := by
  induction l with
  | nil => rfl
  | cons a l ih =>
    show (intsOf (l.map fun y => D.int (g y))).map _ = _
    rw [ih]
    rfl
theorem size_ok (G : Gens P) : ∀ (x : Ex) (k : Nat), x.dp + 1 ≤ k → ∀ (S : Sto) (Q : D → Sto → Prop), (∀ T, Q (.int (x.sz : Int)) (S ++ T)) → Wp ((cxt P k).call "_law_size" [x.d] S) Q := by
  intro x
  have key : ∀ (n : Nat) (x : Ex), x.dp ≤ n → ∀ (k : Nat), x.dp + 1 ≤ k → ∀ (S : Sto) (Q : D → Sto → Prop), (∀ T, Q (.int (x.sz : Int)) (S ++ T)) → Wp ((cxt P k).call "_law_size" [x.d] S) Q := by
    intro n
    induction n with
    | zero => intro x hx; cases x <;> simp [Ex.dp] at hx
    | succ n ih =>
      intro x hx k hk S Q q
      have hd : 1 ≤ x.dp := by cases x <;> simp [Ex.dp]
      obtain ⟨m, rfl⟩ : ∃ m, k = m + 2 := ⟨k - 2, by omega⟩
      rw [call_fn G.size, run_fn2 rfl, wp_bind]
      unfold Gen.sizeF Gen.sizeB
      refine wp_ss ?_
      have hlt : ∀ y ∈ x.kids, y.dp + 1 ≤ x.dp := fun y hy => by
        cases x <;> simp [Ex.kids, Ex.dp] at hy ⊢ <;> (try rcases hy with rfl | rfl | rfl) <;> (try rcases hy with rfl | rfl) <;> (try subst hy) <;> omega
      simp only [s_retE, v_bin, v_int, v_bf, es_cons2, es_nil, R.bind_ok, wp_bind, startE]
      refine kids_lc G x (fun y hy S Q q => ih y (by have := hlt y hy; omega) (m + 1) (by have := hlt y hy; omega) S Q q) fun p T hp => ?_
      have hs : bfD .sum [.ref p] (S ++ T) = .ok (.int ((x.kids.map fun y => (y.sz : Int)).sum)) (S ++ T) := by
        unfold bfD lstOf
        simp only [hp, Option.bind_some, ints_map]
      simp only [wp_ok, hs, add_int, goR_ret, outV_ret]
      have hsum : 1 + (x.kids.map fun y => (y.sz : Int)).sum = (x.sz : Int) := by
        cases x <;> simp [Ex.kids, Ex.sz] <;> omega
      rw [hsum]
      exact q T
  exact key x.dp x (Nat.le_refl _)
theorem kid_lt {x y : Ex} (hy : y ∈ x.kids) : y.dp + 1 ≤ x.dp := by
  cases x <;> simp [Ex.kids, Ex.dp] at hy ⊢ <;> (try rcases hy with rfl | rfl | rfl) <;> (try rcases hy with rfl | rfl) <;> (try subst hy) <;> omega
theorem max_dp (x : Ex) : 1 + maxL ((0 : Int) :: x.kids.map fun y => (y.dp : Int)) = (x.dp : Int) := by
  cases x <;> simp [Ex.kids, Ex.dp, maxL] <;> omega
theorem depth_ok (G : Gens P) : ∀ (n : Nat) (x : Ex), x.dp ≤ n → ∀ (k : Nat), x.dp + 1 ≤ k → ∀ (S : Sto) (Q : D → Sto → Prop), (∀ T, Q (.int (x.dp : Int)) (S ++ T)) → Wp ((cxt P k).call "_law_depth" [x.d] S) Q := by
  intro n
  induction n with
  | zero => intro x hx; cases x <;> simp [Ex.dp] at hx
  | succ n ih =>
    intro x hx k hk S Q q
    have hd : 1 ≤ x.dp := by cases x <;> simp [Ex.dp]
    obtain ⟨m, rfl⟩ : ∃ m, k = m + 2 := ⟨k - 2, by omega⟩
    rw [call_fn G.depth, run_fn2 rfl, wp_bind]
    unfold Gen.depthF Gen.depthB
    refine wp_ss ?_
    simp only [s_retE, v_bin, v_int, v_lst, v_bf, es_cons2, es_nil, R.bind_ok, wp_bind, wp_ok, startE]
    refine kids_lc G x (fun y hy S Q q => ih y (by have := kid_lt hy; omega) (m + 1) (by have := kid_lt hy; omega) S Q q) fun p T hp => ?_
    have h0 : (S ++ [O.lst [.int 0]] ++ T)[S.length]? = some (.lst [.int 0]) := by
      rw [List.getElem?_append_left (by simp), new_at]
    rw [add_lst h0 hp, if_pos (sizeBig (by simp) (by rw [List.length_map]; have := kids_len x; omega))]
    have hs : bfD .max [.ref (S ++ [O.lst [.int 0]] ++ T).length] (S ++ [O.lst [.int 0]] ++ T ++ [.lst ([.int 0] ++ x.kids.map fun y => .int (y.dp : Int))]) = .ok (.int (maxL ((0 : Int) :: x.kids.map fun y => (y.dp : Int)))) (S ++ [O.lst [.int 0]] ++ T ++ [.lst ([.int 0] ++ x.kids.map fun y => .int (y.dp : Int))]) := by
      unfold bfD lstOf
      have hi : intsOf ([D.int 0] ++ x.kids.map fun y => D.int (y.dp : Int)) = some ((0 : Int) :: x.kids.map fun y => (y.dp : Int)) := by
        show (intsOf (x.kids.map fun y => D.int (y.dp : Int))).map _ = _
        rw [ints_map]
        rfl
      simp only [new_at, Option.bind_some, hi]
    simp only [wp_ok, hs, add_int, goR_ret, outV_ret, max_dp]
    have := q ([.lst [.int 0]] ++ T ++ [.lst ([.int 0] ++ x.kids.map fun y => .int (y.dp : Int))])
    rw [← List.append_assoc, ← List.append_assoc] at this
    exact this
end
end Mi
set_option Elab.async false
set_option linter.all false
set_option maxRecDepth 100000
set_option maxHeartbeats 2000000
/-! M37: the drawn program. -/
namespace Mi
open PySem L2
section
variable {P : Pr} {k : Nat} {S : Sto} {ic is : Nat} {xs : List Int} {bud : Int} {nm : D} {Q : D → Sto → Prop}
theorem Grow.appT {T : List O} : Grow ic S (S ++ T) := ⟨by simp, fun i h _ => List.getElem?_append_left h⟩
theorem Cxn.appT {nmr : Nat} {Wn : List Str} (h : Cxn S ic is nmr xs Wn) {T : List O} : Cxn (S ++ T) ic is nmr xs Wn := by
  obtain ⟨⟨b, p, a, c, g⟩, n, ne⟩ := h
  exact ⟨⟨b, p, a, c, by rw [List.getElem?_append_left g.lt]; exact g.c, by rw [List.getElem?_append_left (lt_of g.s)]; exact g.s, g.pos0, g.ne⟩, by rw [List.getElem?_append_left (lt_of n)]; exact n, ne⟩
theorem program_ok (G : Gens P) (h : Gs S ic is xs bud nm)
    (q : ∀ (x : Ex) S' nmr W, x.ok [] none → x.dp ≤ 10 → x.sz ≤ 60 → Cxn S' ic is nmr xs W → W.length = 10 → (∀ y ∈ W, word y) → Grow ic S S' → Q x.d S') : Wp ((cxt P (k + 41)).call "_law_program" [.ref ic] S) Q := by
  rw [call_fn G.program, run_fn2 rfl, wp_bind]
  unfold Gen.programF Gen.programB
  refine wp_ss ?_
  simp [startE]
  refine names_ok (k := k + 37) G h fun r W S1 hW hw hr hne g1 w1 => ?_
  obtain ⟨p, a, c, g⟩ := g1
  simp [g.put5]
  have g2 := g.set (pos' := p) (acc' := a) (cnt' := c) (bud' := bud) (nm' := .ref r) g.pos0
  have w2 := w1.trans (Grow.set (o := .lst [.ref is, .int p, .int a, .int c, .int bud, .ref r]))
  have hr2 : (S1.set ic (.lst [.ref is, .int p, .int a, .int c, .int bud, .ref r]))[r]? = some (.lst (W.map .str)) := by
    rw [List.getElem?_set_ne (Ne.symm hne)]
    exact hr
  generalize S1.set ic (.lst [.ref is, .int p, .int a, .int c, .int bud, .ref r]) = S2 at g2 w2 hr2 ⊢
  have c2 : Cxn S2 ic is r xs W := ⟨⟨bud, p, a, c, g2⟩, hr2, hne⟩
  unfold Gen.programB_1
  refine wp_ss ?_
  simp
  refine take_cx G c2 (by omega) (by omega) fun d3 S3 a3 b3 c3 w3 => ?_
  obtain ⟨bd, e1, e2⟩ := cx_bud c3
  obtain ⟨S4, e4, c4, w4⟩ := e2 (14 + d3)
  simp [e4]
  have w04 := (w2.trans w3).trans w4
  unfold Gen.programB_2
  refine wp_ss ?_
  simp [-List.append_assoc, -List.length_append]
  refine take_cx G c4.app (by omega) (by omega) fun d5 S5 a5 b5 c5 w5 => ?_
  simp
  have w05 := (w04.trans .app).trans w5
  refine expr_ok G hW hw 6 (by omega) (k + 40) (by omega) S5 [] none (3 + d5) 0 S4.length _ c5 (w5.at new_at c4.new) c4.new (by omega) (by simp) (fun x hx => absurd hx (by simp)) (fun k e => by cases e) fun x S6 h1 h2 c6 w6 => ?_
  try simp
  have w06 := w05.trans w6
  unfold Gen.programB_3
  refine wp_ss ?_
  simp [-List.append_assoc, -List.length_append]
  refine depth_ok G x.dp x (Nat.le_refl _) (k + 40) (by omega) S6 _ fun T => ?_
  simp [-List.append_assoc, -List.length_append]
  have alt : ∀ {S7 : Sto}, Cxn S7 ic is r xs W → Grow ic S S7 → Wp (evSs (cxt P (k + 40)) Gen.programB_3t [some (.ref ic), some x.d] S7) fun o S1 => Wp (goR o (fun e2 S => evSs (cxt P (k + 40)) Gen.programB_4 e2 S) S1) fun a s => Wp (outV a s) Q := fun {S7} c7 w7 => by
    unfold Gen.programB_3t
    refine wp_ss ?_
    simp
    refine integer_ok G c7 fun n S8 l1 l2 c8 w8 => ?_
    try simp
    exact q (.say (.num n)) S8 r W ⟨l1, l2⟩ (by show 2 ≤ 10; omega) (by show 2 ≤ 60; omega) c8 hW hw (w7.trans w8)
  refine wp_ifp (fun _ => ?_) fun hd => ?_
  · try simp
    exact alt c6.appT (w06.trans .appT)
  · try simp only [wp_bind]
    refine size_ok G x (k + 40) (by omega) _ _ fun T2 => ?_
    simp [-List.append_assoc, -List.length_append]
    refine wp_ifp (fun _ => ?_) fun hs => ?_
    · simp only [wp_ok, if_true]
      exact alt c6.appT.appT ((w06.trans .appT).trans .appT)
    · rw [wp_ok, if_neg Bool.false_ne_true]
      simp only [wp_ok, goR_nx]
      unfold Gen.programB_4
      refine wp_ss ?_
      simp [-List.append_assoc, -List.length_append]
      exact q x _ r W h1 (by omega) (by omega) c6.appT.appT hW hw ((w06.trans .appT).trans .appT)
end
end Mi
set_option Elab.async false
set_option linter.all false
set_option maxRecDepth 100000
set_option maxHeartbeats 2000000
/-! M38: what is well formed, on data. -/
namespace Mi
open PySem L2
mutual
/-- no object within; no tuple and no text longer than b -/
def pureD (b : Nat) : D → Bool
  | .tup xs => decide (xs.length ≤ b) && pureDs b xs
  | .str x => decide (x.length ≤ b)
  | .ref _ => false
  | .cd _ => false
  | .lit _ => false
  | _ => true
def pureDs (b : Nat) : List D → Bool
  | [] => true
  | x :: xs => pureD b x && pureDs b xs
end
mutual
/-- how deep tuples stand in one another -/
def dn : D → Nat
  | .tup xs => dns xs + 1
  | _ => 0
def dns : List D → Nat
  | [] => 0
  | x :: xs => max (dn x) (dns xs)
end
theorem pure_mem {b : Nat} : ∀ {xs : List D}, pureDs b xs = true → ∀ x ∈ xs, pureD b x = true
  | [], _, x, h => by cases h
  | y :: ys, hp, x, h => by
    have hp : (pureD b y && pureDs b ys) = true := hp
    rw [Bool.and_eq_true] at hp
    rcases List.mem_cons.mp h with rfl | h
    · exact hp.1
    · exact pure_mem hp.2 x h
theorem dn_mem : ∀ {xs : List D} {x : D}, x ∈ xs → dn x ≤ dns xs
  | [], x, h => by cases h
  | y :: ys, x, h => by
    show dn x ≤ max (dn y) (dns ys)
    rcases List.mem_cons.mp h with rfl | h
    · omega
    · have := dn_mem h
      omega
theorem pure_plain {b : Nat} {x : D} (h : pureD b x = true) : plainD x = true := by cases x <;> first | rfl | cases h
theorem pure_all {b : Nat} {xs : List D} (h : pureDs b xs = true) : xs.all plainD = true := List.all_eq_true.mpr fun x hx => pure_plain (pure_mem h x hx)
/-- a name's form, looked at -/
def wordB (x : Str) : Bool := decide (1 ≤ x.length) && decide (x.length ≤ 8) && decide (x ∉ wordsS) && (match x.cps[0]? with
  | some c => decide (c ∈ lettersS)
  | none => false) && x.cps.toList.all fun c => decide (c ∈ lettersS) || decide (c ∈ digitsS)
theorem wordB_iff {x : Str} : wordB x = true ↔ word x := by
  unfold wordB word
  simp only [Bool.and_eq_true, decide_eq_true_eq, List.all_eq_true, Bool.or_eq_true]
  constructor
  · rintro ⟨⟨⟨⟨h1, h2⟩, h3⟩, h4⟩, h5⟩
    refine ⟨h1, h2, h3, ?_, h5⟩
    split at h4
    · exact ⟨_, by assumption, by simpa using h4⟩
    · cases h4
  · rintro ⟨h1, h2, h3, ⟨c, h4, h6⟩, h5⟩
    refine ⟨⟨⟨⟨h1, h2⟩, h3⟩, ?_⟩, h5⟩
    rw [h4]
    simpa using h6
/-- well formed: names N bound, within a rule about A -/
def gd : Nat → List Str → Option Str → D → Bool
  | 0, _, _, _ => false
  | n + 1, N, A, v => match v with
    | .tup (.str k :: r) =>
      if k = ("num" : Str) then (match r with | [.int i] => decide (-1000000 ≤ i ∧ i ≤ 1000000) | _ => false)
      else if k = ("name" : Str) then (match r with | [.str x] => wordB x && decide (x ∈ N) | _ => false)
      else if k = ("fn" : Str) then (match r with | [.str x, b] => wordB x && gd n (N ++ [x]) A b | _ => false)
      else if k = ("let" : Str) then (match r with | [.str x, a, b] => wordB x && (gd n N A a && gd n (N ++ [x]) A b) | _ => false)
      else if k = ("call" : Str) ∨ k = ("sum" : Str) ∨ k = ("less" : Str) ∨ k = ("if" : Str) ∨ k = ("say" : Str) then decide ((r.length : Int) = partsN k) && r.all (gd n N A)
      else if k = ("rule" : Str) then (match r with | [.str q, a, b] => decide (q ∈ kindsS) && (gd n [] (some q) a && gd n N A b) | _ => false)
      else if k = ("keep" : Str) then (match r with | [.str q, a] => decide (q ∈ kindsS) && gd n [] (some q) a | _ => false)
      else match A with
        | none => false
        | some q =>
          if k = ("part" : Str) then (match r with | [.int i] => decide (0 ≤ i ∧ i < partsN q) | _ => false)
          else if k = ("with" : Str) then decide (q = ("let" : Str)) && (match r with | [a] => gd n N A a | _ => false)
          else if k = ("usual" : Str) then r.isEmpty
          else if k = ("do" : Str) then (match r with | [.tup es] => decide (q = ("call" : Str) ∨ q = ("sum" : Str) ∨ q = ("less" : Str) ∨ q = ("say" : Str)) && (decide ((es.length : Int) = partsN q) && es.all (gd n N A)) | _ => false)
          else false
    | _ => false
theorem gd_ex : ∀ (x : Ex) (n : Nat) (N : List Str) (A : Option Str), x.ok N A → x.dp ≤ n → gd n N A x.d = true
  | x, 0, N, A, h, hd => by cases x <;> simp [Ex.dp] at hd
  | .num i, n + 1, N, A, h, hd => by
    show decide _ = true
    exact decide_eq_true h
  | .name x, n + 1, N, A, h, hd => by
    show (wordB x && decide (x ∈ N)) = true
    rw [wordB_iff.mpr h.1, decide_eq_true h.2]
    rfl
  | .fn x b, n + 1, N, A, h, hd => by
    show (wordB x && gd n (N ++ [x]) A b.d) = true
    have hd : b.dp + 1 ≤ n + 1 := hd
    rw [wordB_iff.mpr h.1, gd_ex b n _ A h.2 (by omega)]
    rfl
  | .let_ x a b, n + 1, N, A, h, hd => by
    show (wordB x && (gd n N A a.d && gd n (N ++ [x]) A b.d)) = true
    have hd : max a.dp b.dp + 1 ≤ n + 1 := hd
    rw [wordB_iff.mpr h.1, gd_ex a n _ A h.2.1 (by omega), gd_ex b n _ A h.2.2 (by omega)]
    rfl
  | .call a b, n + 1, N, A, h, hd => by
    show (true && (gd n N A a.d && (gd n N A b.d && true))) = true
    have hd : max a.dp b.dp + 1 ≤ n + 1 := hd
    rw [gd_ex a n _ A h.1 (by omega), gd_ex b n _ A h.2 (by omega)]
    rfl
  | .sum a b, n + 1, N, A, h, hd => by
    show (true && (gd n N A a.d && (gd n N A b.d && true))) = true
    have hd : max a.dp b.dp + 1 ≤ n + 1 := hd
    rw [gd_ex a n _ A h.1 (by omega), gd_ex b n _ A h.2 (by omega)]
    rfl
  | .less a b, n + 1, N, A, h, hd => by
    show (true && (gd n N A a.d && (gd n N A b.d && true))) = true
    have hd : max a.dp b.dp + 1 ≤ n + 1 := hd
    rw [gd_ex a n _ A h.1 (by omega), gd_ex b n _ A h.2 (by omega)]
    rfl
  | .ite a b c, n + 1, N, A, h, hd => by
    show (true && (gd n N A a.d && (gd n N A b.d && (gd n N A c.d && true)))) = true
    have hd : max a.dp (max b.dp c.dp) + 1 ≤ n + 1 := hd
    rw [gd_ex a n _ A h.1 (by omega), gd_ex b n _ A h.2.1 (by omega), gd_ex c n _ A h.2.2 (by omega)]
    rfl
  | .say a, n + 1, N, A, h, hd => by
    show (true && (gd n N A a.d && true)) = true
    have hd : a.dp + 1 ≤ n + 1 := hd
    rw [gd_ex a n _ A h (by omega)]
    rfl
  | .rule k a b, n + 1, N, A, h, hd => by
    show (decide (k ∈ kindsS) && (gd n [] (some k) a.d && gd n N A b.d)) = true
    have hd : max a.dp b.dp + 1 ≤ n + 1 := hd
    rw [decide_eq_true h.1, gd_ex a n _ _ h.2.1 (by omega), gd_ex b n _ A h.2.2 (by omega)]
    rfl
  | .keep k a, n + 1, N, A, h, hd => by
    show (decide (k ∈ kindsS) && gd n [] (some k) a.d) = true
    have hd : a.dp + 1 ≤ n + 1 := hd
    rw [decide_eq_true h.1, gd_ex a n _ _ h.2 (by omega)]
    rfl
  | .part i, n + 1, N, A, h, hd => by
    obtain ⟨k, rfl, h1, h2⟩ := h
    show decide _ = true
    exact decide_eq_true ⟨h1, h2⟩
  | .with_ a, n + 1, N, A, h, hd => by
    obtain ⟨rfl, h2⟩ := h
    have hd : a.dp + 1 ≤ n + 1 := hd
    show (true && gd n N (some _) a.d) = true
    rw [gd_ex a n _ _ h2 (by omega)]
    rfl
  | .usual, n + 1, N, A, h, hd => by
    cases A with
    | none => exact absurd rfl h
    | some k => rfl
  | .do1 a, n + 1, N, A, h, hd => by
    obtain ⟨rfl, h2⟩ := h
    have hd : a.dp + 1 ≤ n + 1 := hd
    show (true && (true && (gd n N (some _) a.d && true))) = true
    rw [gd_ex a n _ _ h2 (by omega)]
    rfl
  | .do2 a b, n + 1, N, A, h, hd => by
    obtain ⟨h1, h2, h3⟩ := h
    have hd : max a.dp b.dp + 1 ≤ n + 1 := hd
    rcases h1 with rfl | rfl | rfl <;>
    · show (true && (true && (gd n N (some _) a.d && (gd n N (some _) b.d && true)))) = true
      rw [gd_ex a n _ _ h2 (by omega), gd_ex b n _ _ h3 (by omega)]
      rfl
end Mi
set_option Elab.async false
set_option linter.all false
set_option maxRecDepth 100000
set_option maxHeartbeats 2000000
/-! M39: shorter steps. -/
namespace Mi
open PySem L2
@[simp] theorem ofString_inj {a b : String} : (Str.ofString a = Str.ofString b) = (a = b) := by
  refine propext ⟨fun h => ?_, fun h => h ▸ rfl⟩
  rw [Str.ofString_eq_toList, Str.ofString_eq_toList] at h
  have h2 : a.toList.map Char.toNat = b.toList.map Char.toNat := by
    have := congrArg (fun z => z.cps.toList) h
    simpa using this
  have inj : ∀ {x y : Char}, x.toNat = y.toNat → x = y := fun {x y} e => Char.ext (UInt32.toNat_inj.mp e)
  have h3 : a.toList = b.toList := by
    generalize a.toList = l at h2
    generalize b.toList = m at h2
    induction l generalizing m with
    | nil =>
      cases m with
      | nil => rfl
      | cons y m => cases h2
    | cons x l ih =>
      cases m with
      | nil => cases h2
      | cons y m =>
        rw [List.map_cons, List.map_cons] at h2
        injection h2 with e1 e2
        rw [inj e1, ih m e2]
  exact String.toList_inj.mp h3
section
variable {C : Cxt} {e : En} {S S' : Sto} {c a : E} {t rest : Sms} {Q : Out → Sto → Prop}
theorem if_no (hc : (ev C c).t e S = .ok false S') (h : Wp (evSs C rest e S') Q) : Wp (evSs C (.cons (.ifs c t .nil) rest) e S) Q := by
  refine wp_ss ?_
  rw [s_ifs, hc]
  exact h
theorem if_yes (hc : (ev C c).t e S = .ok true S') (h : Wp (evSs C t e S') fun o S1 => Wp (goR o (fun e2 S => evSs C rest e2 S) S1) Q) : Wp (evSs C (.cons (.ifs c t .nil) rest) e S) Q := by
  refine wp_ss ?_
  rw [s_ifs, hc]
  exact h
theorem ret_wp (h : Wp ((ev C a).v e S) fun v S1 => Q (.ret v) S1) : Wp (evSs C (.cons (.ret a) rest) e S) Q := by
  refine wp_ss ?_
  rw [s_retE, wp_bind]
  exact h.mono fun v S1 q => q
/-- if c: return a -/
theorem if_ret (hc : (ev C c).t e S = .ok true S') (h : Wp ((ev C a).v e S') fun v S1 => Q (.ret v) S1) : Wp (evSs C (.cons (.ifs c (.cons (.ret a) .nil) .nil) rest) e S) Q :=
  if_yes hc (ret_wp (h.mono fun v S1 q => q))
end
/-- what stands still stands -/
theorem pre_at {S S' : Sto} (h : S <+: S') {i : Nat} {o : O} (hi : S[i]? = some o) : S'[i]? = some o := by
  obtain ⟨T, rfl⟩ := h
  rw [List.getElem?_append_left (lt_of hi)]
  exact hi
theorem pre_app {S S' : Sto} (h : S <+: S') (T : Sto) : S <+: S' ++ T := h.trans (List.prefix_append _ _)
theorem pre_self (S T : Sto) : S <+: S ++ T := List.prefix_append _ _
theorem pre_set {S S' : Sto} (h : S <+: S') {i : Nat} {o : O} (hi : S.length ≤ i) : S <+: S'.set i o := by
  obtain ⟨T, rfl⟩ := h
  exact ⟨_, (List.set_append_right _ _ hi).symm⟩
theorem pre_len {S S' : Sto} (h : S <+: S') : S.length ≤ S'.length := h.length_le
theorem mid_at {S T : Sto} {o : O} : (S ++ [o] ++ T)[S.length]? = some o := by
  rw [List.append_assoc, List.getElem?_append_right (Nat.le_refl _), Nat.sub_self]
  rfl
theorem mid_set {S T : Sto} {o o' : O} : (S ++ [o] ++ T).set S.length o' = S ++ [o'] ++ T := by
  rw [List.append_assoc, List.set_append_right _ _ (Nat.le_refl _), Nat.sub_self]
  simp
theorem app_at {S T : Sto} {i : Nat} {o : O} (h : S[i]? = some o) : (S ++ T)[i]? = some o := by
  rw [List.getElem?_append_left (lt_of h)]
  exact h
theorem still_pre {S S' : Sto} {it : It} (p : S <+: S') (h : it.still S = true) : it.still S' = true := by
  obtain ⟨its, own⟩ := it
  cases own with
  | none => rfl
  | some q =>
    obtain ⟨i, xs⟩ := q
    have h2 : S[i]? = some (.lst xs) := by
      unfold It.still at h
      simpa using h
    exact still_lst (pre_at p h2)
/-- a comprehension whose item only makes new objects -/
theorem lcP {C : Cxt} {i : Nat} {own : List Nat} {a : E} {e : En} {S : Sto} {it : It} (g : D → D) {Q : Unit → Sto → Prop} (hi : i < (wipeE e own).length) (hl : it.items.length ≤ 1000000) (hst : it.still S = true)
    (step : ∀ x ∈ it.items, ∀ (S1 : Sto) (K : D → Sto → Prop), S <+: S1 → (∀ S2, S1 <+: S2 → K (g x) S2) → Wp ((ev C a).v ((wipeE e own).set i (some x)) S1) K)
    (fin : ∀ S', S <+: S' → S'[S.length]? = some (.lst (it.items.map g)) → Q () S') : Wp (lcLoop it (lcB C (.nm i) own .nop a e) S.length it.items (S ++ [.lst []])) Q := by
  refine wp_lc (fun n S' => S <+: S' ∧ S'[S.length]? = some (.lst ((it.items.take n).map g))) ?_ ?_ ?_ ⟨pre_self _ _, by simp⟩
  · rintro n S' ⟨p, _⟩
    exact still_pre p hst
  · rintro n y S' hx ⟨p, h1⟩
    have hy : y ∈ it.items := List.mem_of_getElem? hx
    have ht : it.items.take (n + 1) = it.items.take n ++ [y] := by
      rw [List.take_succ, hx]
      rfl
    unfold lcB
    simp only [setTg_nm, hi, if_true, isNop, R.bind_ok, wp_bind]
    refine step y hy _ _ p fun S2 p2 => ?_
    simp only [wp_ok]
    refine .inr ⟨_, _, rfl, pre_at p2 h1, ?_, ?_, ?_⟩
    · rw [List.length_map, List.length_take, sizeLine_eq]
      omega
    · exact pre_set (p.trans p2) (Nat.le_refl _)
    · rw [List.getElem?_set_self (lt_of (pre_at p2 h1)), ht, List.map_append]
      rfl
  · rintro S' ⟨p, h1⟩
    rw [List.take_length] at h1
    exact fin S' p h1
theorem bls_D (l : List D) (g : D → Bool) : blsOf (l.map fun y => D.bl (g y)) = some (l.map g) := by
  induction l with
  | nil => rfl
  | cons a l ih =>
    show (blsOf (l.map fun y => D.bl (g y))).map _ = _
    rw [ih]
    rfl
theorem all_lst {S : Sto} {i : Nat} {l : List D} {g : D → Bool} (h : S[i]? = some (.lst (l.map fun y => .bl (g y)))) : bfD .all [.ref i] S = .ok (.bl (l.all g)) S := by
  unfold bfD lstOf
  simp only [h, Option.bind_some, bls_D]
  rw [List.all_map]
  rfl
end Mi
set_option Elab.async false
set_option linter.all false
set_option maxRecDepth 100000
set_option maxHeartbeats 2000000
/-! M52: dicts. -/
namespace Mi
open PySem L2
section
variable {κ : Type} [DecidableEq κ]
theorem lookK_nil (k : κ) : lookK ([] : List (κ × D)) k = none := rfl
theorem lookK_cons (k k' : κ) (v : D) (kvs : List (κ × D)) : lookK ((k', v) :: kvs) k = if k' = k then some v else lookK kvs k := by
  unfold lookK
  rw [List.find?_cons]
  by_cases h : k' = k
  · rw [if_pos h]
    simp [h]
  · rw [if_neg h]
    simp [h]
theorem lookK_app (k k' : κ) (v : D) : ∀ kvs : List (κ × D), lookK (kvs ++ [(k', v)]) k = match lookK kvs k with
    | some u => some u
    | none => if k' = k then some v else none
  | [] => by
    rw [List.nil_append, lookK_cons]
    rfl
  | (k2, v2) :: kvs => by
    rw [List.cons_append, lookK_cons, lookK_cons, lookK_app k k' v kvs]
    by_cases h : k2 = k
    · rw [if_pos h, if_pos h]
    · rw [if_neg h, if_neg h]
theorem any_key (k : κ) : ∀ kvs : List (κ × D), (kvs.any fun kv => decide (kv.1 = k)) = decide (k ∈ kvs.map (·.1))
  | [] => by simp
  | (k2, v2) :: kvs => by
    rw [List.any_cons, any_key k kvs]
    by_cases h : k2 = k
    · simp [h]
    · have h2 : ¬ k = k2 := fun e => h e.symm
      simp [h, h2]
theorem lookK_map (k k' : κ) (v : D) : ∀ kvs : List (κ × D), lookK (kvs.map fun kv => if kv.1 = k' then (kv.1, v) else kv) k = if k' = k ∧ k ∈ kvs.map (·.1) then some v else lookK kvs k
  | [] => by simp [lookK_nil]
  | (k2, v2) :: kvs => by
    have ih := lookK_map k k' v kvs
    rw [List.map_cons]
    by_cases h : k2 = k'
    · subst h
      simp only [if_true]
      rw [lookK_cons, lookK_cons, ih]
      by_cases h2 : k2 = k
      · subst h2
        simp
      · simp [h2]
    · simp only [h, if_false]
      rw [lookK_cons, lookK_cons, ih]
      by_cases h2 : k2 = k
      · subst h2
        have h3 : ¬ k' = k2 := fun e => h e.symm
        simp [h3]
      · have h3 : ¬ k = k2 := fun e => h2 e.symm
        rw [if_neg h2, if_neg h2, List.map_cons]
        by_cases h4 : k' = k ∧ k ∈ kvs.map (·.1)
        · rw [if_pos h4, if_pos ⟨h4.1, List.mem_cons_of_mem _ h4.2⟩]
        · rw [if_neg h4, if_neg fun z => h4 ⟨z.1, (List.mem_cons.mp z.2).resolve_left h3⟩]
theorem lookK_none {k : κ} : ∀ {kvs : List (κ × D)}, k ∉ kvs.map (·.1) → lookK kvs k = none
  | [], _ => rfl
  | (k2, v2) :: kvs, h => by
    rw [lookK_cons, if_neg (fun e => h (by simp [e])), lookK_none (fun z => h (by simp at z ⊢; exact .inr z))]
/-- a store in a dict -/
theorem look_put (k k' : κ) (v : D) (kvs : List (κ × D)) : lookK (putKD kvs k' v) k = if k' = k then some v else lookK kvs k := by
  unfold putKD
  rw [any_key]
  by_cases h : k' ∈ kvs.map (·.1)
  · rw [if_pos (by simpa using h), lookK_map]
    by_cases h2 : k' = k
    · subst h2
      rw [if_pos ⟨rfl, h⟩, if_pos rfl]
    · rw [if_neg (fun z => h2 z.1), if_neg h2]
  · rw [if_neg (by simpa using h), lookK_app]
    by_cases h2 : k' = k
    · subst h2
      rw [lookK_none h, if_pos rfl]
    · simp only [h2, if_false]
      cases lookK kvs k <;> rfl
theorem keys_put (k' : κ) (v : D) (kvs : List (κ × D)) : (putKD kvs k' v).map (·.1) = if k' ∈ kvs.map (·.1) then kvs.map (·.1) else kvs.map (·.1) ++ [k'] := by
  unfold putKD
  rw [any_key]
  by_cases h : k' ∈ kvs.map (·.1)
  · rw [if_pos (by simpa using h), if_pos h, List.map_map]
    apply List.map_congr_left
    intro kv _
    by_cases e : kv.1 = k' <;> simp [e]
  · rw [if_neg (by simpa using h), if_neg h]
    simp
/-- keys of a kind, each once -/
structure Keyed (p : κ → Prop) (kvs : List (κ × D)) : Prop where
  nd : (kvs.map (·.1)).Nodup
  al : ∀ k ∈ kvs.map (·.1), p k
theorem Keyed.put {p : κ → Prop} {kvs : List (κ × D)} (h : Keyed p kvs) {k : κ} {v : D} (hk : p k) : Keyed p (putKD kvs k v) := by
  refine ⟨?_, ?_⟩
  · rw [keys_put]
    by_cases e : k ∈ kvs.map (·.1)
    · rw [if_pos e]
      exact h.nd
    · rw [if_neg e]
      rw [List.nodup_append]
      exact ⟨h.nd, by simp, fun a ha b hb => by
        rcases List.mem_singleton.mp hb with rfl
        exact fun z => e (z ▸ ha)⟩
  · rw [keys_put]
    intro a ha
    by_cases e : k ∈ kvs.map (·.1)
    · rw [if_pos e] at ha
      exact h.al a ha
    · rw [if_neg e] at ha
      rcases List.mem_append.mp ha with ha | ha
      · exact h.al a ha
      · rcases List.mem_singleton.mp ha with rfl
        exact hk
theorem Keyed.len {p : κ → Prop} {kvs : List (κ × D)} (h : Keyed p kvs) {l : List κ} (hl : ∀ k, p k → k ∈ l) : kvs.length ≤ l.length := by
  have := sub_len h.nd (m := l) fun k hk => hl k (h.al k hk)
  rwa [List.length_map] at this
theorem Keyed.nil {p : κ → Prop} : Keyed p ([] : List (κ × D)) := ⟨by simp, fun k hk => by cases hk⟩
end
/-- at most a million -/
def Few {κ : Type} (p : κ → Prop) : Prop := ∃ l : List κ, l.length ≤ 2000000 ∧ ∀ k, p k → k ∈ l
theorem Keyed.lt {κ : Type} [DecidableEq κ] {p : κ → Prop} {kvs : List (κ × D)} (h : Keyed p kvs) (f : Few p) : kvs.length < sizeLine := by
  obtain ⟨l, h1, h2⟩ := f
  have := h.len h2
  rw [sizeLine_eq]
  omega
theorem few_swn : Few fun k : Key => ∃ s : Int, k = .inl s ∧ swn s := by
  refine ⟨((List.range 1000000).map fun (i : Nat) => (Sum.inl (i : Int) : Key)) ++ [.inl 1000000007], by simp, ?_⟩
  rintro k ⟨s, rfl, h⟩
  rcases h with ⟨h0, h1⟩ | rfl
  · refine List.mem_append_left _ (List.mem_map.mpr ⟨s.toNat, by simp; omega, ?_⟩)
    congr 1
    omega
  · simp
theorem setTg_tps {S : Sto} {is : List Nat} {xs : List D} {e : En} (h : xs.length = is.length ∧ ∀ i ∈ is, i < e.length) : setTg (.tp is) (.tup xs) e S = some ((is.zip xs).foldl (fun e p => e.set p.1 (some p.2)) e) := by
  unfold setTg unpD
  dsimp only
  rw [if_pos h]
section
variable {S : Sto} {a : Nat} {kvs : List (Key × D)}
theorem get2_dK {k z : D} {kk : Key} (h : S[a]? = some (.dK kvs)) (hk : keyD k = some kk) : bmD .get2 (.ref a) [k, z] S = .ok ((lookK kvs kk).getD z) S := by
  unfold bmD dget
  simp only [h, hk, Option.map_some]
theorem sub_dK {k : D} {kk : Key} {v : D} {cds : Nat → List (Str × D)} (h : S[a]? = some (.dK kvs)) (hk : keyD k = some kk) (hv : lookK kvs kk = some v) : subD cds (.ref a) k S = .ok v S := by
  cases k with
  | int i =>
    cases hk
    unfold subD itemsD
    simp only [h]
    unfold dget
    simp only [h, keyD, Option.map_some, hv]
  | str x =>
    cases hk
    unfold subD
    dsimp only
    unfold dget
    simp only [h, keyD, Option.map_some, hv]
  | _ => cases hk
theorem setD_dK {k v : D} {kk : Key} (h : S[a]? = some (.dK kvs)) (hk : keyD k = some kk) (hl : kvs.length < sizeLine) : setD (.ref a) k v S = .ok () (S.set a (.dK (putKD kvs kk v))) := by
  unfold setD
  simp only [h, hk, hl, if_true]
theorem pre_dK {m : BM} (h : S[a]? = some (.dK kvs)) (hm : m = .get1 ∨ m = .get2 ∨ m = .pop2 ∨ m = .setd) : bmPre m (.ref a) S = true := by
  rcases hm with rfl | rfl | rfl | rfl <;> (unfold bmPre; simp only [h])
theorem dict_dK (h : S[a]? = some (.dK kvs)) : bfD .dict [.ref a] S = .ok (.ref S.length) (S ++ [.dK kvs]) := by
  unfold bfD
  simp only [h]
end
end Mi
set_option Elab.async false
set_option linter.all false
set_option maxRecDepth 100000
set_option maxHeartbeats 2000000
/-! M53: values in the laws' own evaluator's store. -/
namespace Mi
open PySem L2
def Br.cnt : Br → Nat
  | .nil => 0
  | .cons _ _ r => r.cnt + 1
section
variable (NM : Str → Prop)
mutual
/-- names and switches of a kind -/
def Pl.nms : Pl → Prop
  | .num _ => True
  | .name _ => True
  | .fn _ x b => NM x ∧ b.nms
  | .call _ f a => f.nms ∧ a.nms
  | .sum _ a b => a.nms ∧ b.nms
  | .less _ a b => a.nms ∧ b.nms
  | .ite _ c a b => c.nms ∧ a.nms ∧ b.nms
  | .let_ x a b => NM x ∧ a.nms ∧ b.nms
  | .say _ a => a.nms
  | .delay x a b => NM x ∧ a.nms ∧ b.nms
  | .force _ => True
  | .tick a => a.nms
  | .switch _ bs a => bs.cnt ≤ 1000000 ∧ bs.nms ∧ a.nms
  | .set_ s _ a => swn s ∧ a.nms
  | .put s _ => swn s
def Br.nms : Br → Prop
  | .nil => True
  | .cons _ e r => e.nms ∧ r.nms
end
/-- keys that are names -/
def nmk (k : Key) : Prop := ∃ x, k = .inr x ∧ NM x
def swk (k : Key) : Prop := ∃ s : Int, k = .inl s ∧ swn s
mutual
/-- a value in the store; X: the objects that change -/
def Wv (S : Sto) (X : List Nat) : Val → D → Prop
  | .int i, d => d = .int i
  | .fn k x b ns ds, d => b.nms NM ∧ NM x ∧ ∃ i j kn kd, d = .tup [.str "fn", .int k, .str x, b.d, .ref i, .ref j] ∧ (i ∉ X ∧ S[i]? = some (.dK kn) ∧ Keyed (nmk NM) kn ∧ Wn S X kn [] ns) ∧ (j ∉ X ∧ S[j]? = some (.dK kd) ∧ Keyed (nmk NM) kd ∧ We S X kd [] ds)
def Wn (S : Sto) (X : List Nat) (kvs : List (Key × D)) (sh : List Str) : Ns → Prop
  | .nil => True
  | .cons x v r => (x ∉ sh → ∃ d, lookK kvs (.inr x) = some d ∧ Wv S X v d) ∧ Wn S X kvs (x :: sh) r
def We (S : Sto) (X : List Nat) (kvs : List (Key × D)) (sh : List Str) : Ds → Prop
  | .nil => True
  | .cons x e ns ds r => (x ∉ sh → e.nms NM ∧ ∃ i j kn kd, lookK kvs (.inr x) = some (.tup [e.d, .ref i, .ref j]) ∧ (i ∉ X ∧ S[i]? = some (.dK kn) ∧ Keyed (nmk NM) kn ∧ Wn S X kn [] ns) ∧ (j ∉ X ∧ S[j]? = some (.dK kd) ∧ Keyed (nmk NM) kd ∧ We S X kd [] ds)) ∧ We S X kvs (x :: sh) r
end
def WN (S : Sto) (X : List Nat) (ns : Ns) (d : D) : Prop := ∃ i kn, d = .ref i ∧ (i ∉ X ∧ S[i]? = some (.dK kn) ∧ Keyed (nmk NM) kn ∧ Wn NM S X kn [] ns)
def WD (S : Sto) (X : List Nat) (ds : Ds) (d : D) : Prop := ∃ i kn, d = .ref i ∧ (i ∉ X ∧ S[i]? = some (.dK kn) ∧ Keyed (nmk NM) kn ∧ We NM S X kn [] ds)
end
/-- but for X all stands as it stood -/
structure Frm (X : List Nat) (S S' : Sto) : Prop where
  len : S.length ≤ S'.length
  same : ∀ i, i < S.length → i ∉ X → S'[i]? = S[i]?
theorem Frm.refl {X : List Nat} {S : Sto} : Frm X S S := ⟨Nat.le_refl _, fun _ _ _ => rfl⟩
theorem Frm.trans {X : List Nat} {S S' S2 : Sto} (a : Frm X S S') (b : Frm X S' S2) : Frm X S S2 := ⟨Nat.le_trans a.len b.len, fun i h1 h2 => (b.same i (Nat.lt_of_lt_of_le h1 a.len) h2).trans (a.same i h1 h2)⟩
theorem Frm.pre {X : List Nat} {S S' : Sto} (p : S <+: S') : Frm X S S' := ⟨pre_len p, fun i h _ => by rw [pre_at p (List.getElem?_eq_getElem h), List.getElem?_eq_getElem h]⟩
theorem Frm.set {X : List Nat} {S : Sto} {i : Nat} {o : O} (h : i ∈ X) : Frm X S (S.set i o) := ⟨by simp, fun j _ hj => List.getElem?_set_ne fun (e : i = j) => hj (e ▸ h)⟩
theorem Frm.at {X : List Nat} {S S' : Sto} (g : Frm X S S') {i : Nat} {o : O} (h : S[i]? = some o) (hi : i ∉ X) : S'[i]? = some o := by rw [g.same i (lt_of h) hi, h]
section
variable {NM : Str → Prop} {S S' : Sto} {X : List Nat}
mutual
theorem Wv.mono (g : Frm X S S') : ∀ (v : Val) {d : D}, Wv NM S X v d → Wv NM S' X v d
  | .int i, d, h => h
  | .fn k x b ns ds, d, h => by
    obtain ⟨h0, hx, i, j, kn, kd, e, ⟨a1, a2, a3, a4⟩, b1, b2, b3, b4⟩ := h
    exact ⟨h0, hx, i, j, kn, kd, e, ⟨a1, g.at a2 a1, a3, Wn.mono g ns a4⟩, b1, g.at b2 b1, b3, We.mono g ds b4⟩
theorem Wn.mono (g : Frm X S S') : ∀ (ns : Ns) {kvs : List (Key × D)} {sh : List Str}, Wn NM S X kvs sh ns → Wn NM S' X kvs sh ns
  | .nil, _, _, _ => trivial
  | .cons x v r, kvs, sh, h => ⟨fun hx => by
      obtain ⟨d, h1, h2⟩ := h.1 hx
      exact ⟨d, h1, Wv.mono g v h2⟩, Wn.mono g r h.2⟩
theorem We.mono (g : Frm X S S') : ∀ (ds : Ds) {kvs : List (Key × D)} {sh : List Str}, We NM S X kvs sh ds → We NM S' X kvs sh ds
  | .nil, _, _, _ => trivial
  | .cons x e ns ds r, kvs, sh, h => ⟨fun hx => by
      obtain ⟨h0, i, j, kn, kd, q, ⟨a1, a2, a3, a4⟩, b1, b2, b3, b4⟩ := h.1 hx
      exact ⟨h0, i, j, kn, kd, q, ⟨a1, g.at a2 a1, a3, Wn.mono g ns a4⟩, b1, g.at b2 b1, b3, We.mono g ds b4⟩, We.mono g r h.2⟩
end
theorem WN.mono (g : Frm X S S') {ns : Ns} {d : D} (h : WN NM S X ns d) : WN NM S' X ns d := by
  obtain ⟨i, kn, e, a1, a2, a3, a4⟩ := h
  exact ⟨i, kn, e, a1, g.at a2 a1, a3, Wn.mono g ns a4⟩
theorem WD.mono (g : Frm X S S') {ds : Ds} {d : D} (h : WD NM S X ds d) : WD NM S' X ds d := by
  obtain ⟨i, kn, e, a1, a2, a3, a4⟩ := h
  exact ⟨i, kn, e, a1, g.at a2 a1, a3, We.mono g ds a4⟩
theorem ne_look {x : Str} {v : Val} {kvs : List (Key × D)} : ∀ {ns : Ns} {sh : List Str}, Wn NM S X kvs sh ns → x ∉ sh → ns.look x = some v → ∃ d, lookK kvs (.inr x) = some d ∧ Wv NM S X v d
  | .nil, _, _, _, h => by cases h
  | .cons y u r, sh, hn, hx, h => by
    have h : (if y = x then some u else r.look x) = some v := h
    by_cases e : y = x
    · subst e
      rw [if_pos rfl] at h
      cases h
      exact hn.1 hx
    · rw [if_neg e] at h
      exact ne_look hn.2 (fun z => (List.mem_cons.mp z).elim (fun q => e q.symm) hx) h
theorem de_look {x : Str} {q : Pl × Ns × Ds} {kvs : List (Key × D)} : ∀ {ds : Ds} {sh : List Str}, We NM S X kvs sh ds → x ∉ sh → ds.look x = some q → q.1.nms NM ∧ ∃ dn dd, lookK kvs (.inr x) = some (.tup [q.1.d, dn, dd]) ∧ WN NM S X q.2.1 dn ∧ WD NM S X q.2.2 dd
  | .nil, _, _, _, h => by cases h
  | .cons y e ns ds r, sh, hn, hx, h => by
    have h : (if y = x then some (e, ns, ds) else r.look x) = some q := h
    by_cases e : y = x
    · subst e
      rw [if_pos rfl] at h
      cases h
      obtain ⟨h0, i, j, kn, kd, q, a, b⟩ := hn.1 hx
      exact ⟨h0, _, _, q, ⟨i, kn, rfl, a⟩, ⟨j, kd, rfl, b⟩⟩
    · rw [if_neg e] at h
      exact de_look hn.2 (fun z => (List.mem_cons.mp z).elim (fun q => e q.symm) hx) h
theorem ne_put {x : Str} {d : D} {kvs : List (Key × D)} : ∀ {ns : Ns} {sh sh' : List Str}, (∀ y ∈ sh, y ∈ sh') → x ∈ sh' → Wn NM S X kvs sh ns → Wn NM S X (putKD kvs (.inr x) d) sh' ns
  | .nil, _, _, _, _, _ => trivial
  | .cons y u r, sh, sh', hs, hx, hn => ⟨fun hy => by
      obtain ⟨d', h1, h2⟩ := hn.1 fun z => hy (hs y z)
      refine ⟨d', ?_, h2⟩
      rw [look_put, if_neg fun e => hy ?_]
      · exact h1
      · injection e with e
        exact e ▸ hx, ne_put (fun z hz => (List.mem_cons.mp hz).elim (fun q => by simp [q]) fun q => List.mem_cons_of_mem _ (hs z q)) (List.mem_cons_of_mem _ hx) hn.2⟩
theorem de_put {x : Str} {d : D} {kvs : List (Key × D)} : ∀ {ds : Ds} {sh sh' : List Str}, (∀ y ∈ sh, y ∈ sh') → x ∈ sh' → We NM S X kvs sh ds → We NM S X (putKD kvs (.inr x) d) sh' ds
  | .nil, _, _, _, _, _ => trivial
  | .cons y e ns ds r, sh, sh', hs, hx, hn => ⟨fun hy => by
      obtain ⟨h0, i, j, kn, kd, q, ab⟩ := hn.1 fun z => hy (hs y z)
      refine ⟨h0, i, j, kn, kd, ?_, ab⟩
      rw [look_put, if_neg fun e => hy ?_]
      · exact q
      · injection e with e
        exact e ▸ hx, de_put (fun z hz => (List.mem_cons.mp hz).elim (fun q => by simp [q]) fun q => List.mem_cons_of_mem _ (hs z q)) (List.mem_cons_of_mem _ hx) hn.2⟩
end
section
variable {P : Pr} {k : Nat} {S : Sto} {Q : D → Sto → Prop} {NM : Str → Prop} {X : List Nat}
theorem with_ok (F : Walks P) {i : Nat} {kvs : List (Key × D)} {x : Str} {d : D} (hi : S[i]? = some (.dK kvs)) (hl : kvs.length < sizeLine) (q : Q (.ref S.length) (S ++ [.dK (putKD kvs (.inr x) d)])) : Wp ((cxt P (k + 1)).call "_law_with" [.ref i, .str x, d] S) Q := by
  rw [call_fn F.with_, run_fn2 rfl, wp_bind]
  show Wp (evSs (cxt P k) Wk.law_withB [some (.ref i), some (.str x), some d, none] S) _
  unfold Wk.law_withB
  refine wp_ss ?_
  simp [dict_dK hi]
  unfold Wk.law_with_1B
  refine wp_ss ?_
  have e : setD (.ref S.length) (.str x) d (S ++ [O.dK kvs]) = .ok () (S ++ [.dK (putKD kvs (.inr x) d)]) := by
    rw [setD_dK (kk := .inr x) (k := .str x) new_at rfl hl]
    simp
  simp [e]
  unfold Wk.law_with_2B
  refine ret_wp ?_
  simp
  exact q
theorem with_ns (F : Walks P) (few : Few (nmk NM)) {ns : Ns} {dn d : D} {x : Str} {v : Val} (hn : WN NM S X ns dn) (hv : Wv NM S X v d) (hx : NM x) (hX : S.length ∉ X) (q : ∀ dn' S', S <+: S' → WN NM S' X (.cons x v ns) dn' → Q dn' S') : Wp ((cxt P (k + 1)).call "_law_with" [dn, .str x, d] S) Q := by
  obtain ⟨i, kn, rfl, a1, a2, a3, a4⟩ := hn
  refine with_ok F a2 (a3.lt few) (q _ _ (pre_self _ _) ⟨S.length, _, rfl, hX, new_at, a3.put ⟨x, rfl, hx⟩, ?_⟩)
  have g : Frm X S (S ++ [O.dK (putKD kn (.inr x) d)]) := .pre (pre_self _ _)
  exact ⟨fun _ => ⟨d, by rw [look_put, if_pos rfl], hv.mono g⟩, ne_put (fun y hy => by cases hy) (by simp) (Wn.mono g ns a4)⟩
theorem with_ds (F : Walks P) (few : Few (nmk NM)) {ns : Ns} {ds : Ds} {dn dd : D} {x : Str} {e : Pl} (hn : WN NM S X ns dn) (hd : WD NM S X ds dd) (he : e.nms NM) (hx : NM x) (hX : S.length ∉ X) (q : ∀ dd' S', S <+: S' → WD NM S' X (.cons x e ns ds ds) dd' → Q dd' S') : Wp ((cxt P (k + 1)).call "_law_with" [dd, .str x, .tup [e.d, dn, dd]] S) Q := by
  obtain ⟨i, kn, rfl, a1, a2, a3, a4⟩ := hn
  obtain ⟨j, kd, rfl, b1, b2, b3, b4⟩ := hd
  refine with_ok F b2 (b3.lt few) (q _ _ (pre_self _ _) ⟨S.length, _, rfl, hX, new_at, b3.put ⟨x, rfl, hx⟩, ?_⟩)
  have g : Frm X S (S ++ [O.dK (putKD kd (.inr x) (.tup [e.d, .ref i, .ref j]))]) := .pre (pre_self _ _)
  exact ⟨fun _ => ⟨he, i, j, kn, kd, by rw [look_put, if_pos rfl], ⟨a1, g.at a2 a1, a3, Wn.mono g ns a4⟩, b1, g.at b2 b1, b3, We.mono g ds b4⟩, de_put (fun y hy => by cases hy) (by simp) (We.mono g ds b4)⟩
theorem first_eq {w : Str} {c : Nat} (hl : w.length ≤ sizeLine) (hc : w.cps.toList[0]? = some c) {cds : Nat → List (Str × D)} : subD cds (.str w) (.int 0) S = .ok (.str ⟨#[c]⟩) S := by
  rw [sub_str hl]
  simp [hc]
theorem bad_val (F : Walks P) {v : Val} {d : D} (hv : Wv NM S X v d) (q : Q (.bl false) S) : Wp ((cxt P (k + 1)).call "_law_bad" [d] S) Q := by
  rw [call_fn F.bad, run_fn2 rfl, wp_bind]
  show Wp (evSs (cxt P k) Wk.law_badB [some d] S) _
  unfold Wk.law_badB
  refine ret_wp ?_
  cases v with
  | int i =>
    cases hv
    simp [isiD]
    exact q
  | fn k x b ns ds =>
    obtain ⟨_, _, i, j, kn, kd, rfl, _⟩ := hv
    have h1 : ("fn" : Str).length ≤ sizeLine := small (by decide +kernel)
    have h2 : ("fn" : Str).cps.toList[0]? = some 102 := by decide +kernel
    have h3 : ¬ ((⟨#[102]⟩ : Str) = Str.ofString "!") := by decide +kernel
    simp [isiD, first_eq h1 h2, h3]
    exact q
theorem bad_yes (F : Walks P) {w : Str} {r : List D} (hw : w = "!stuck" ∨ w = "!more") (q : Q (.bl true) S) : Wp ((cxt P (k + 1)).call "_law_bad" [.tup (.str w :: r)] S) Q := by
  rw [call_fn F.bad, run_fn2 rfl, wp_bind]
  show Wp (evSs (cxt P k) Wk.law_badB [some (.tup (.str w :: r))] S) _
  unfold Wk.law_badB
  refine ret_wp ?_
  have h1 : w.length ≤ sizeLine := by rcases hw with rfl | rfl <;> exact small (by decide +kernel)
  have h2 : w.cps.toList[0]? = some 33 := by rcases hw with rfl | rfl <;> decide +kernel
  have h3 : ((⟨#[33]⟩ : Str) = Str.ofString "!") := by decide +kernel
  simp [isiD, first_eq h1 h2, h3]
  exact q
theorem shown_ok (F : Walks P) {v : Val} {d : D} (hv : Wv NM S X v d) (q : Q v.sh S) : Wp ((cxt P (k + 1)).call "_law_shown" [d] S) Q := by
  rw [call_fn F.shown, run_fn2 rfl, wp_bind]
  show Wp (evSs (cxt P k) Wk.law_shownB [some d] S) _
  unfold Wk.law_shownB
  cases v with
  | int i =>
    cases hv
    refine if_ret (S' := S) (by simp [isiD]) ?_
    simp
    exact q
  | fn k x b ns ds =>
    obtain ⟨_, _, i, j, kn, kd, rfl, _⟩ := hv
    refine if_no (S' := S) (by simp [isiD]) ?_
    unfold Wk.law_shown_1B
    refine ret_wp ?_
    simp
    exact q
end
end Mi
set_option Elab.async false
set_option linter.all false
set_option maxRecDepth 100000
set_option maxHeartbeats 2000000
/-! M54: the laws' own evaluator does what the plain semantics says. -/
namespace Mi
open PySem L2
theorem then_eq {a : Ans} {f : Val → St → Ans} {q : Res × St} (h : a.then f = some q) : (∃ v st1, a = some (.val v, st1) ∧ f v st1 = some q) ∨ (a = some q ∧ ∀ v, q.1 ≠ .val v) := by
  unfold Ans.then at h
  split at h
  · exact .inl ⟨_, _, rfl, h⟩
  · cases h
    exact .inr ⟨rfl, fun v e => by cases e⟩
  · cases h
    exact .inr ⟨rfl, fun v e => by cases e⟩
  · cases h
theorem step_eq {st : St} {f : St → Ans} {q : Res × St} (h : stepA st f = some q) : (st.fu = 0 ∧ q = (.more, st)) ∨ ∃ m, st.fu = m + 1 ∧ f { st with fu := m } = some q := by
  unfold stepA at h
  by_cases e : st.fu = 0
  · rw [if_pos e] at h
    cases h
    exact .inl ⟨e, rfl⟩
  · rw [if_neg e] at h
    exact .inr ⟨st.fu - 1, by omega, h⟩
/-- outputs only grow -/
theorem ev_out : ∀ (n : Nat) (e : Pl) (ns : Ns) (ds : Ds) (st : St) (r : Res) (st' : St), ev2 n e ns ds st = some (r, st') → st.out.length ≤ st'.out.length
  | 0, _, _, _, _, _, _, h => by cases h
  | n + 1, e, ns, ds, st, r, st', h => by
    have ih := ev_out n
    have th : ∀ {a : Ans} {f : Val → St → Ans}, (∀ r1 s1, a = some (r1, s1) → st.out.length ≤ s1.out.length) → (∀ v s1 r2 s2, f v s1 = some (r2, s2) → s1.out.length ≤ s2.out.length) → a.then f = some (r, st') → st.out.length ≤ st'.out.length := fun {a f} h1 h2 h => by
      rcases then_eq h with ⟨v, s1, e1, e2⟩ | ⟨e1, _⟩
      · exact Nat.le_trans (h1 _ _ e1) (h2 _ _ _ _ e2)
      · exact h1 _ _ e1
    cases e with
    | num i => cases h; exact Nat.le_refl _
    | name x =>
      obtain ⟨v, _, e⟩ := Option.map_eq_some_iff.mp (show (ns.look x).map (fun v => (Res.val v, st)) = some (r, st') from h)
      cases e
      exact Nat.le_refl _
    | fn k x b => cases h; exact Nat.le_refl _
    | put s m => cases h; exact Nat.le_refl _
    | force x =>
      have h : (match ds.look x with | some (e, ns, ds) => ev2 n e ns ds st | none => none) = some (r, st') := h
      split at h
      · exact ih _ _ _ _ _ _ h
      · cases h
    | delay x a b => exact ih _ _ _ _ _ _ h
    | tick a =>
      rcases step_eq h with ⟨_, e⟩ | ⟨m, _, e⟩
      · cases e
        exact Nat.le_refl _
      · exact ih _ _ _ { st with fu := m } _ _ e
    | switch s bs a => exact ih _ _ _ _ _ _ h
    | set_ s m a =>
      have h : (ev2 n a ns ds { st with sw := upS st.sw s m }).then (fun v st' => some (.val v, { st' with sw := upS st'.sw s (st.sw s) })) = some (r, st') := h
      exact th (fun r1 s1 e => ih _ _ _ { st with sw := upS st.sw s m } _ _ e) (fun v s1 r2 s2 e => by cases e; exact Nat.le_refl _) h
    | let_ x a b => exact th (fun r1 s1 e => ih _ _ _ _ _ _ e) (fun v s1 r2 s2 e => ih _ _ _ _ _ _ e) h
    | say k a => exact th (fun r1 s1 e => ih _ _ _ _ _ _ e) (fun v s1 r2 s2 e => by cases e; simp) h
    | ite k c a b => exact th (fun r1 s1 e => ih _ _ _ _ _ _ e) (fun v s1 r2 s2 e => by
        cases v with
        | int i => exact ih _ _ _ _ _ _ e
        | fn _ _ _ _ _ => cases e; exact Nat.le_refl _) h
    | call k f a =>
      refine th (fun r1 s1 e => ih _ _ _ _ _ _ e) (fun v s1 r2 s2 e => ?_) h
      rcases then_eq e with ⟨u, s3, e1, e2⟩ | ⟨e1, _⟩
      · refine Nat.le_trans (ih _ _ _ _ _ _ e1) ?_
        cases v with
        | int i => cases e2; exact Nat.le_refl _
        | fn j x b ns' ds' =>
          dsimp only at e2
          split at e2
          · rcases step_eq e2 with ⟨_, e⟩ | ⟨m, _, e⟩
            · cases e
              exact Nat.le_refl _
            · exact ih _ _ _ { s3 with fu := m } _ _ e
          · cases e2
            exact Nat.le_refl _
      · exact ih _ _ _ _ _ _ e1
    | sum k a b =>
      refine th (fun r1 s1 e => ih _ _ _ _ _ _ e) (fun v s1 r2 s2 e => ?_) h
      rcases then_eq e with ⟨u, s3, e1, e2⟩ | ⟨e1, _⟩
      · refine Nat.le_trans (ih _ _ _ _ _ _ e1) ?_
        cases v <;> cases u <;> cases e2 <;> exact Nat.le_refl _
      · exact ih _ _ _ _ _ _ e1
    | less k a b =>
      refine th (fun r1 s1 e => ih _ _ _ _ _ _ e) (fun v s1 r2 s2 e => ?_) h
      rcases then_eq e with ⟨u, s3, e1, e2⟩ | ⟨e1, _⟩
      · refine Nat.le_trans (ih _ _ _ _ _ _ e1) ?_
        cases v <;> cases u <;> cases e2 <;> exact Nat.le_refl _
      · exact ih _ _ _ _ _ _ e1
structure StW (S : Sto) (a o w : Nat) (st : St) : Prop where
  fc : S[a]? = some (.lst [.int (st.fu : Int), .ref o, .ref w])
  fo : S[o]? = some (.lst st.out)
  fw : ∃ kvs, S[w]? = some (.dK kvs) ∧ Keyed swk kvs ∧ ∀ i : Int, (lookK kvs (.inl i)).getD (.int 0) = .int (st.sw i)
  ne : a ≠ o
def OutW (S : Sto) (a o w : Nat) (out : List D) : Prop := ∃ x, S[a]? = some (.lst [x, .ref o, .ref w]) ∧ S[o]? = some (.lst out)
section
variable {S S' : Sto} {a o w : Nat} {st : St}
theorem StW.aw (h : StW S a o w st) : a ≠ w := fun e => by
  obtain ⟨kvs, q, _⟩ := h.fw
  rw [← e, h.fc] at q
  cases q
theorem StW.ow (h : StW S a o w st) : o ≠ w := fun e => by
  obtain ⟨kvs, q, _⟩ := h.fw
  rw [← e, h.fo] at q
  cases q
theorem StW.out (h : StW S a o w st) : OutW S a o w st.out := ⟨_, h.fc, h.fo⟩
theorem StW.pre (h : StW S a o w st) (p : S <+: S') : StW S' a o w st := by
  obtain ⟨c, oo, ⟨kvs, q1, q2, q3⟩, ne⟩ := h
  exact ⟨pre_at p c, pre_at p oo, ⟨kvs, pre_at p q1, q2, q3⟩, ne⟩
theorem StW.put (h : StW S a o w st) {s m : Int} (hs : swn s) : ∃ S', setD (.ref w) (.int s) (.int m) S = .ok () S' ∧ StW S' a o w { st with sw := upS st.sw s m } ∧ Frm [a, o, w] S S' := by
  have aw := h.aw
  have ow := h.ow
  obtain ⟨c, oo, ⟨kvs, q1, q2, q3⟩, ne⟩ := h
  refine ⟨_, setD_dK q1 rfl (q2.lt few_swn), ⟨?_, ?_, ⟨_, by rw [List.getElem?_set_self (lt_of q1)], q2.put ⟨s, rfl, hs⟩, fun i => ?_⟩, ne⟩, .set (by simp)⟩
  · rw [List.getElem?_set_ne (Ne.symm aw)]
    exact c
  · rw [List.getElem?_set_ne (Ne.symm ow)]
    exact oo
  · rw [look_put]
    show _ = D.int (if i = s then m else st.sw i)
    by_cases e : i = s
    · subst e
      rw [if_pos rfl, if_pos rfl]
      rfl
    · rw [if_neg (fun z => e (by injection z with z; exact z.symm)), if_neg e]
      exact q3 i
theorem StW.get (h : StW S a o w st) (s : Int) : bmD .get2 (.ref w) [.int s, .int 0] S = .ok (.int (st.sw s)) S := by
  obtain ⟨kvs, q1, q2, q3⟩ := h.fw
  rw [get2_dK q1 rfl, q3]
theorem StW.fuel (h : StW S a o w st) (m : Int) : ∃ S', setD (.ref a) (.int 0) (.int m) S = .ok () S' ∧ S'[a]? = some (.lst [.int m, .ref o, .ref w]) ∧ Frm [a, o, w] S S' ∧ (∀ i : Nat, i ≠ a → S'[i]? = S[i]?) := by
  refine ⟨_, setD_lst (n := 0) h.fc rfl, ?_, .set (by simp), fun i hi => List.getElem?_set_ne (Ne.symm hi)⟩
  rw [List.getElem?_set_self (lt_of h.fc)]
  rfl
theorem StW.say (h : StW S a o w st) {d : D} (hl : st.out.length < sizeLine) : ∃ S', bmD .append (.ref o) [d] S = .ok .non S' ∧ StW S' a o w { st with out := st.out ++ [d] } ∧ Frm [a, o, w] S S' := by
  have ow := h.ow
  obtain ⟨c, oo, ⟨kvs, q1, q2, q3⟩, ne⟩ := h
  refine ⟨_, append_lst oo hl, ⟨?_, ?_, ⟨kvs, ?_, q2, q3⟩, ne⟩, .set (by simp)⟩
  · rw [List.getElem?_set_ne (Ne.symm ne)]
    exact c
  · rw [List.getElem?_set_self (lt_of oo)]
  · rw [List.getElem?_set_ne ow]
    exact q1
end
/-- what the evaluator hands back -/
def PostW (NM : Str → Prop) (S : Sto) (a o w : Nat) (r : Res) (st : St) (d : D) : Prop := match r with
  | .val v => Wv NM S [a, o, w] v d ∧ StW S a o w st
  | .stuck k => d = .tup [.str "!stuck", .int k] ∧ OutW S a o w st.out
  | .more => d = .tup [.str "!more"] ∧ OutW S a o w st.out
/-- the evaluator's promise, so deep -/
def WkOk (P : Pr) (NM : Str → Prop) (n : Nat) : Prop := ∀ (e : Pl) (ns : Ns) (ds : Ds) (st : St) (r : Res) (st' : St), ev2 n e ns ds st = some (r, st') → st'.out.length ≤ 10000000 → e.nms NM → ∀ (k : Nat), n + 1 ≤ k → ∀ (S : Sto) (a o w : Nat) (dn dd : D) (Q : D → Sto → Prop),
  StW S a o w st → WN NM S [a, o, w] ns dn → WD NM S [a, o, w] ds dd → (∀ S' d, Frm [a, o, w] S S' → PostW NM S' a o w r st' d → Q d S') → Wp ((cxt P k).call "_law_walk" [e.d, dn, dd, .ref a] S) Q
end Mi
set_option Elab.async false
set_option linter.all false
set_option maxRecDepth 100000
set_option maxHeartbeats 4000000
/-! M66: what a drawn plain program costs. -/
namespace Mi
open PySem L2
section
variable {K B : Nat}
theorem Fit.mono {N L : List Str} {h p w o w' o' : Nat} {e : Pl} (q : Fit K B N L h p w o e) (hw : w ≤ w') (ho : o ≤ o') : Fit K B N L h p w' o' e := by
  have up : ∀ {v w : Nat}, v + 1 ≤ w → ∃ u, w = u + 1 ∧ v ≤ u := fun {v w} h => ⟨w - 1, by omega, by omega⟩
  have up2 : ∀ {v w : Nat}, v + 2 ≤ w → ∃ u, w = u + 2 ∧ v ≤ u := fun {v w} h => ⟨w - 2, by omega, by omega⟩
  have sp : ∀ {a b c : Nat}, a + b ≤ c → ∃ d, c = a + d ∧ b ≤ d := fun {a b c} h => ⟨c - a, by omega, by omega⟩
  refine Fit.rec (motive_1 := fun N L h p w o e _ => ∀ w' o', w ≤ w' → o ≤ o' → Fit K B N L h p w' o' e) (motive_2 := fun N L h p w o bs _ => ∀ w' o', w ≤ w' → o ≤ o' → FitB K B N L h p w' o' bs)
    ?_ ?_ ?_ ?_ ?_ ?_ ?_ ?_ ?_ ?_ ?_ ?_ ?_ ?_ ?_ ?_ ?_ ?_ ?_ ?_ ?_ q w' o' hw ho
  · intro N L h p w o i w' o' hw ho
    obtain ⟨u, rfl, _⟩ := up hw
    exact .num i
  · intro N L h p w o x hx w' o' hw ho
    obtain ⟨u, rfl, _⟩ := up hw
    exact .name hx
  · intro N L h p w o v u k x b hb hv hu _ w' o' hw ho
    obtain ⟨u, rfl, _⟩ := up hw
    exact .fn hb hv hu
  · intro N L h p w o s m hs w' o' hw ho
    obtain ⟨u, rfl, _⟩ := up hw
    exact .put hs
  · intro N L h p w o x hx h1 h2 w' o' hw ho
    obtain ⟨u, rfl, _⟩ := up hw
    exact .force hx (by omega) (by omega)
  · intro N L h p w o g u x a b ha hb hg hu _ ib w' o' hw ho
    obtain ⟨v, rfl, _⟩ := up hw
    exact .delay ha (ib _ _ (by omega) ho) hg hu
  · intro N L h p w o x a b hx hb ib w' o' hw ho
    obtain ⟨v, rfl, _⟩ := up hw
    exact .idle hx (ib _ _ (by omega) ho)
  · intro N L h p w o a _ ib w' o' hw ho
    obtain ⟨v, rfl, _⟩ := up hw
    exact .tick (ib _ _ (by omega) ho)
  · intro N L h p w o s bs a _ _ ia ib w' o' hw ho
    obtain ⟨v, rfl, _⟩ := up hw
    exact .switch (ia _ _ (by omega) ho) (ib _ _ (by omega) ho)
  · intro N L h p w o bs a hb _ ib w' o' hw ho
    obtain ⟨v, rfl, _⟩ := up hw
    exact .rest hb (ib _ _ (by omega) ho)
  · intro N L h p w o s m a hs _ ib w' o' hw ho
    obtain ⟨v, rfl, _⟩ := up hw
    exact .set_ hs (ib _ _ (by omega) ho)
  · intro N L h p w o u x a b _ _ ia ib w' o' hw ho
    obtain ⟨v, rfl, _⟩ := up hw
    obtain ⟨d, rfl, _⟩ := sp ho
    exact .let_ (ia _ _ (by omega) (Nat.le_refl _)) (ib _ _ (by omega) (by omega))
  · intro N L h p w o k a _ ia w' o' hw ho
    obtain ⟨v, rfl, _⟩ := up hw
    obtain ⟨d, rfl, _⟩ := up ho
    exact .say (ia _ _ (by omega) (by omega))
  · intro N L h p w o u k c a b _ _ _ ic ia ib w' o' hw ho
    obtain ⟨v, rfl, _⟩ := up hw
    obtain ⟨d, rfl, _⟩ := sp ho
    exact .ite (ic _ _ (by omega) (Nat.le_refl _)) (ia _ _ (by omega) (by omega)) (ib _ _ (by omega) (by omega))
  · intro N L h p w o k i a b hi _ ia w' o' hw ho
    obtain ⟨v, rfl, _⟩ := up2 hw
    exact .yes hi (ia _ _ (by omega) ho)
  · intro N L h p w o u k f a _ _ ia ib w' o' hw ho
    obtain ⟨v, rfl, _⟩ := up hw
    obtain ⟨d, rfl, _⟩ := sp ho
    exact .call (ia _ _ (by omega) (Nat.le_refl _)) (ib _ _ (by omega) (by omega))
  · intro N L h p w o u k j x b a _ _ ia ib w' o' hw ho
    obtain ⟨v, rfl, _⟩ := up2 hw
    obtain ⟨d, rfl, _⟩ := sp ho
    exact .here (ia _ _ (by omega) (Nat.le_refl _)) (ib _ _ (by omega) (by omega))
  · intro N L h p w o u k a b _ _ ia ib w' o' hw ho
    obtain ⟨v, rfl, _⟩ := up hw
    obtain ⟨d, rfl, _⟩ := sp ho
    exact .sum (ia _ _ (by omega) (Nat.le_refl _)) (ib _ _ (by omega) (by omega))
  · intro N L h p w o u k a b _ _ ia ib w' o' hw ho
    obtain ⟨v, rfl, _⟩ := up hw
    obtain ⟨d, rfl, _⟩ := sp ho
    exact .less (ia _ _ (by omega) (Nat.le_refl _)) (ib _ _ (by omega) (by omega))
  · intro N L h p w o w' o' hw ho
    exact .nil
  · intro N L h p w o m e r _ _ ia ib w' o' hw ho
    exact .cons (ia _ _ hw ho) (ib _ _ hw ho)
end
def Br.of : List (Int × Pl) → Br
  | [] => .nil
  | p :: l => .cons p.1 p.2 (Br.of l)
theorem of_ds : ∀ l : List (Int × Pl), (Br.of l).ds = l.map fun p => D.tup [.int p.1, p.2.d]
  | [] => rfl
  | p :: l => by
    show D.tup [.int p.1, p.2.d] :: (Br.of l).ds = _
    rw [of_ds l]
    rfl
theorem of_fit {K B : Nat} {N L : List Str} {h p w o : Nat} : ∀ {l : List (Int × Pl)}, (∀ x ∈ l, Fit K B N L h p w o x.2) → FitB K B N L h p w o (Br.of l)
  | [], _ => .nil
  | x :: l, q => .cons (q x (List.mem_cons_self)) (of_fit fun y hy => q y (List.mem_cons_of_mem _ hy))
theorem of_nms {NM : Str → Prop} : ∀ {l : List (Int × Pl)}, (∀ x ∈ l, x.2.nms NM) → (Br.of l).nms NM
  | [], _ => trivial
  | x :: l, q => ⟨q x (List.mem_cons_self), of_nms fun y hy => q y (List.mem_cons_of_mem _ hy)⟩
theorem of_cnt : ∀ l : List (Int × Pl), (Br.of l).cnt = l.length
  | [] => rfl
  | x :: l => by
    show (Br.of l).cnt + 1 = _
    rw [of_cnt l]
    rfl
def Pl.isFn : Pl → Prop
  | .fn _ _ _ => True
  | _ => False
theorem pw {a b c m n : Nat} (ha : a ^ 3 ≤ 3 ^ m) (hb : b ^ 3 ≤ 3 ^ n) (hc : c ≤ a * b) : c ^ 3 ≤ 3 ^ (m + n) := by
  refine Nat.le_trans (Nat.pow_le_pow_left hc 3) ?_
  rw [Nat.mul_pow, Nat.pow_add]
  exact Nat.mul_le_mul ha hb
theorem pw1 {a c m n : Nat} (ha : a ^ 3 ≤ 3 ^ m) (hc : c ≤ a) (hn : m ≤ n) : c ^ 3 ≤ 3 ^ n := Nat.le_trans (Nat.pow_le_pow_left hc 3) (Nat.le_trans ha (Nat.pow_le_pow_right (by omega) hn))
/-- what is around: names and delays, what these cost and print -/
structure Env (ns ls N L : List Str) (h ho n0 m0 : Nat) : Prop where
  n : ∀ y ∈ ns, y ∈ N
  l : ∀ y ∈ ls, y ∈ L
  nv : ("never" : Str) ∉ L
  hh : h ≤ n0
  hp : (ho + 1) ^ 3 ≤ 3 ^ m0
section
variable {ns ls N L : List Str} {h ho n0 m0 : Nat}
theorem Env.name (E : Env ns ls N L h ho n0 m0) {x : Str} : Env (ns ++ [x]) ls (x :: N) L h ho n0 m0 := by
  obtain ⟨a, b, c, d, e⟩ := E
  refine ⟨fun y hy => ?_, b, c, d, e⟩
  rcases List.mem_append.mp hy with q | q
  · exact List.mem_cons_of_mem _ (a y q)
  · rcases List.mem_singleton.mp q with rfl
    exact List.mem_cons_self
theorem Env.later (E : Env ns ls N L h ho n0 m0) {x : Str} {n r : Nat} (hx : x ≠ "never") (hr : (r + 1) ^ 3 ≤ 3 ^ (n + 1)) : Env ns (ls ++ [x]) N (x :: L) (h + n) (r * (ho + 1)) (n0 + n) (m0 + n + 1) := by
  obtain ⟨a, b, c, d, e⟩ := E
  refine ⟨a, fun y hy => ?_, ?_, by omega, ?_⟩
  · rcases List.mem_append.mp hy with q | q
    · exact List.mem_cons_of_mem _ (b y q)
    · rcases List.mem_singleton.mp q with rfl
      exact List.mem_cons_self
  · intro q
    rcases List.mem_cons.mp q with q | q
    · exact hx q.symm
    · exact c q
  · rw [Nat.add_assoc]
    refine pw e hr ?_
    rw [Nat.mul_comm r, Nat.mul_add, Nat.mul_one]
    omega
end
/-- a drawn expression: n nodes, which print at most r times -/
def Dn0 (ns ls : List Str) (c c' : Int) (d : Nat) (e : Pl) : Prop := ∃ n r : Nat, 1 ≤ n ∧ (n : Int) ≤ c - c' ∧ (n : Int) ≤ max 1 c + d ∧ (c ≤ 1 → n = 1) ∧ 1 ≤ r ∧ (r + 1) ^ 3 ≤ 3 ^ (n + 1) ∧
  ∀ (N L : List Str) (h ho n0 m0 : Nat), Env ns ls N L h ho n0 m0 → (2 ≤ c → (n0 : Int) + c + d ≤ 31 ∧ (m0 : Int) + c + d ≤ 31) → (2 ≤ c → e.isFn → (n0 : Int) + c + d ≤ 29) → Fit 27 200000 N L h ho (h + n) (r * (ho + 1)) e
/-- drawn branches -/
def Rn0 (ns ls : List Str) (c c' : Int) (d : Nat) (l : List (Int × Pl)) : Prop := ∃ n r : Nat, (n : Int) ≤ c - c' ∧ (n : Int) ≤ c + d ∧ (r + 1) ^ 3 ≤ 3 ^ (n + 1) ∧
  ∀ (N L : List Str) (h ho n0 m0 : Nat), Env ns ls N L h ho n0 m0 → (2 ≤ c → (n0 : Int) + c + d ≤ 29 ∧ (m0 : Int) + c + d ≤ 31) → ∀ x ∈ l, Fit 27 200000 N L h ho (h + n) (r * (ho + 1)) x.2
section
variable {ns ls : List Str} {c c1 c2 c' : Int} {d : Nat} {a b e : Pl}
theorem dn0_leaf (hc : c' = c - 1) (q : ∀ (N L : List Str) (h ho : Nat), (∀ y ∈ ns, y ∈ N) → (∀ y ∈ ls, y ∈ L) → Fit 27 200000 N L h ho (h + 1) (1 * (ho + 1)) e) : Dn0 ns ls c c' d e :=
  ⟨1, 1, by omega, by omega, by omega, fun _ => rfl, by omega, by decide, fun N L h ho n0 m0 E _ _ => q N L h ho E.n E.l⟩
theorem dn0_num {i : Int} : Dn0 ns ls c (c - 1) d (.num i) := dn0_leaf rfl fun N L h ho _ _ => .num i
theorem dn0_name {x : Str} (hx : x ∈ ns) : Dn0 ns ls c (c - 1) d (.name x) := dn0_leaf rfl fun N L h ho hn _ => .name (hn x hx)
theorem dn0_force {x : Str} (hx : x ∈ ls) : Dn0 ns ls c (c - 1) d (.force x) := dn0_leaf rfl fun N L h ho _ hl => .force (hl x hx) (Nat.le_refl _) (by omega)
/-- around one part -/
theorem dn0_one (hc : 2 ≤ c) (ha : Dn0 ns ls (c - 1) c' d a) (q : ∀ (N L : List Str) (h ho w o n0 m0 : Nat), Env ns ls N L h ho n0 m0 → Fit 27 200000 N L h ho (w + 1) o a → Fit 27 200000 N L h ho (w + 2) o e) : Dn0 ns ls c c' (d + 1) e := by
  obtain ⟨n, r, h1, h2, h3, h4, h5, h6, h7⟩ := ha
  refine ⟨n + 1, r, by omega, by omega, by omega, by omega, h5, pw1 h6 (Nat.le_refl _) (by omega), fun N L h ho n0 m0 E e1 e2 => ?_⟩
  have f := h7 N L h ho n0 m0 E (by intro; omega) (by intro _ _; omega)
  obtain ⟨m, hm⟩ : ∃ m, h + n = m + 1 := ⟨h + n - 1, by omega⟩
  rw [hm] at f
  rw [show h + (n + 1) = m + 2 by omega]
  exact q N L h ho m _ n0 m0 E f
theorem dn0_tick (hc : 2 ≤ c) (ha : Dn0 ns ls (c - 1) c' d a) : Dn0 ns ls c c' (d + 1) (.tick a) := dn0_one hc ha fun _ _ _ _ _ _ _ _ _ f => .tick f
theorem dn0_set {s m : Int} (hs : swn s) (hc : 2 ≤ c) (ha : Dn0 ns ls (c - 1) c' d a) : Dn0 ns ls c c' (d + 1) (.set_ s m a) := dn0_one hc ha fun _ _ _ _ _ _ _ _ _ f => .set_ hs f
theorem dn0_idle (hc : 2 ≤ c) (ha : Dn0 ns ls (c - 1) c' d a) : Dn0 ns ls c c' (d + 1) (.delay "never" b a) := dn0_one hc ha fun _ _ _ _ _ _ _ _ E f => .idle E.nv f
theorem dn0_yes {k i : Int} (hi : i ≠ 0) (hc : 2 ≤ c) (ha : Dn0 ns ls (c - 1) c' d a) : Dn0 ns ls c c' (d + 1) (.ite k (.num i) a b) := dn0_one hc ha fun _ _ _ _ _ _ _ _ _ f => .yes hi f
theorem dn0_rest {bs : Br} (hb : bs.none0) (hc : 2 ≤ c) (ha : Dn0 ns ls (c - 1) c' d a) : Dn0 ns ls c c' (d + 1) (.switch still bs a) := dn0_one hc ha fun _ _ _ _ _ _ _ _ _ f => .rest hb f
theorem dn0_say {k : Int} (hc : 2 ≤ c) (ha : Dn0 ns ls (c - 1) c' d a) : Dn0 ns ls c c' (d + 1) (.say k a) := by
  obtain ⟨n, r, h1, h2, h3, h4, h5, h6, h7⟩ := ha
  refine ⟨n + 1, r + 1, by omega, by omega, by omega, by omega, by omega, ?_, fun N L h ho n0 m0 E e1 e2 => ?_⟩
  · by_cases e : r = 1
    · subst e
      exact Nat.le_trans (show (1 + 1 + 1) ^ 3 ≤ 3 ^ 3 by decide) (Nat.pow_le_pow_right (by omega) (by omega))
    · have h8 : (r + 1 + 1) ^ 3 ≤ 3 * (r + 1) ^ 3 := by
        obtain ⟨t, rfl⟩ : ∃ t, r = t + 2 := ⟨r - 2, by omega⟩
        simp only [Nat.pow_succ, Nat.pow_zero, Nat.mul_add, Nat.add_mul, Nat.one_mul, Nat.mul_one]
        have : t * 2 = 2 * t := Nat.mul_comm _ _
        have : t * t * 2 = 2 * (t * t) := Nat.mul_comm _ _
        generalize t * t * t = x at *
        generalize t * t = y at *
        omega
      refine Nat.le_trans h8 ?_
      rw [Nat.pow_succ 3 (n + 1), Nat.mul_comm]
      exact Nat.mul_le_mul_right 3 h6
  · have f := h7 N L h ho n0 m0 E (by intro; omega) (by intro _ _; omega)
    refine (Fit.say f).mono (by omega) ?_
    rw [Nat.add_mul]
    omega
theorem dn0_fn {k : Int} {x : Str} (hc : 2 ≤ c) (ha : Dn0 (ns ++ [x]) ls (c - 1) c' d a) : Dn0 ns ls c c' (d + 1) (.fn k x a) := by
  obtain ⟨n, r, h1, h2, h3, h4, h5, h6, h7⟩ := ha
  refine ⟨n + 1, r, by omega, by omega, by omega, by omega, h5, pw1 h6 (Nat.le_refl _) (by omega), fun N L h ho n0 m0 E e1 e2 => ?_⟩
  have f := h7 (x :: N) L h ho n0 m0 E.name (by intro; omega) (by intro _ _; omega)
  have e3 := e2 hc trivial
  have hh := E.hh
  refine Fit.mono (w := h + n + 1) (o := 0) (.fn f (by omega) ?_) (by omega) (by omega)
  have h8 : (r * (ho + 1)) ^ 3 ≤ 3 ^ ((n + 1) + m0) := pw (pw1 h6 (Nat.le_refl _) (Nat.le_refl _)) E.hp (Nat.mul_le_mul_right _ (by omega))
  have h9 : 3 ^ ((n + 1) + m0) ≤ 3 ^ 30 := Nat.pow_le_pow_right (by omega) (by omega)
  refine Nat.le_of_not_lt fun h10 => ?_
  have h11 : 200000 ^ 3 ≤ (r * (ho + 1)) ^ 3 := Nat.pow_le_pow_left (by omega) 3
  have : (3 : Nat) ^ 30 < 200000 ^ 3 := by decide
  omega
theorem dn0_put {k m : Int} {x : Str} (hs : swn k) (hc : 2 ≤ c) (ha : Dn0 (ns ++ [x]) ls (c - 1) c' d a) : Dn0 ns ls c c' (d + 1) (.let_ x (.put k m) a) := by
  obtain ⟨n, r, h1, h2, h3, h4, h5, h6, h7⟩ := ha
  refine ⟨n + 1, r, by omega, by omega, by omega, by omega, h5, pw1 h6 (Nat.le_refl _) (by omega), fun N L h ho n0 m0 E e1 e2 => ?_⟩
  have f := h7 (x :: N) L h ho n0 m0 E.name (by intro; omega) (by intro _ _; omega)
  obtain ⟨v, hv⟩ : ∃ v, h + n = v + 1 := ⟨h + n - 1, by omega⟩
  rw [hv] at f
  exact Fit.mono (o := 0 + r * (ho + 1)) (.let_ (.put hs) f) (by omega) (by omega)
/-- around two parts -/
theorem dn0_two {x : Bool} {z : Str} (hc : 2 ≤ c) (ha : Dn0 (if x then ns ++ [z] else ns) ls (c - 1) c1 d a) {y : Bool} (hb : Dn0 (if y then ns ++ [z] else ns) ls c1 c' d b)
    (q : ∀ (N L : List Str) (h ho w o u n0 m0 : Nat), Env ns ls N L h ho n0 m0 → Fit 27 200000 (if x then z :: N else N) L h ho (w + 1) o a → Fit 27 200000 (if y then z :: N else N) L h ho (w + 1) u b → Fit 27 200000 N L h ho (w + 2) (o + u) e) : Dn0 ns ls c c' (d + 1) e := by
  obtain ⟨n, r, h1, h2, h3, h4, h5, h6, h7⟩ := ha
  obtain ⟨m, t, g1, g2, g3, g4, g5, g6, g7⟩ := hb
  refine ⟨n + m + 1, r + t, by omega, by omega, ?_, by omega, by omega, ?_, fun N L h ho n0 m0 E e1 e2 => ?_⟩
  · by_cases hl : c1 ≤ 1
    · have := g4 hl
      omega
    · omega
  · rw [show n + m + 1 + 1 = (n + 1) + (m + 1) by omega]
    refine pw h6 g6 ?_
    rw [Nat.mul_add, Nat.add_mul]
    omega
  · have E' : ∀ x : Bool, Env (if x then ns ++ [z] else ns) ls (if x then z :: N else N) L h ho n0 m0 := fun x => by
      cases x
      · exact E
      · exact E.name
    have f := h7 _ L h ho n0 m0 (E' x) (by intro; omega) (by intro _ _; omega)
    have f2 := g7 _ L h ho n0 m0 (E' y) (by intro; omega) (by intro _ _; omega)
    rw [Nat.add_mul]
    obtain ⟨v, hv⟩ : ∃ v, h + (n + m + 1) = v + 2 := ⟨h + (n + m + 1) - 2, by omega⟩
    rw [hv]
    exact q N L h ho v _ _ n0 m0 E (f.mono (by omega) (Nat.le_refl _)) (f2.mono (by omega) (Nat.le_refl _))
theorem dn0_call {k : Int} (hc : 2 ≤ c) (ha : Dn0 ns ls (c - 1) c1 d a) (hb : Dn0 ns ls c1 c' d b) : Dn0 ns ls c c' (d + 1) (.call k a b) := dn0_two (x := false) (y := false) (z := "") hc ha hb fun _ _ _ _ _ _ _ _ _ _ f g => .call f g
theorem dn0_sum {k : Int} (hc : 2 ≤ c) (ha : Dn0 ns ls (c - 1) c1 d a) (hb : Dn0 ns ls c1 c' d b) : Dn0 ns ls c c' (d + 1) (.sum k a b) := dn0_two (x := false) (y := false) (z := "") hc ha hb fun _ _ _ _ _ _ _ _ _ _ f g => .sum f g
theorem dn0_less {k : Int} (hc : 2 ≤ c) (ha : Dn0 ns ls (c - 1) c1 d a) (hb : Dn0 ns ls c1 c' d b) : Dn0 ns ls c c' (d + 1) (.less k a b) := dn0_two (x := false) (y := false) (z := "") hc ha hb fun _ _ _ _ _ _ _ _ _ _ f g => .less f g
theorem dn0_here {j k : Int} {x : Str} (hc : 2 ≤ c) (ha : Dn0 (ns ++ [x]) ls (c - 1) c1 d a) (hb : Dn0 ns ls c1 c' d b) : Dn0 ns ls c c' (d + 1) (.call k (.fn j x a) b) := dn0_two (x := true) (y := false) (z := x) hc ha hb fun _ _ _ _ _ _ _ _ _ _ f g => .here f g
theorem dn0_let {x : Str} (hc : 2 ≤ c) (ha : Dn0 ns ls (c - 1) c1 d a) (hb : Dn0 (ns ++ [x]) ls c1 c' d b) : Dn0 ns ls c c' (d + 1) (.let_ x a b) := dn0_two (x := false) (y := true) (z := x) hc ha hb fun _ _ _ _ _ _ _ _ _ _ f g => .let_ f g
theorem dn0_ite {k : Int} {e : Pl} (hc : 2 ≤ c) (he : Dn0 ns ls (c - 1) c1 d e) (ha : Dn0 ns ls c1 c2 d a) (hb : Dn0 ns ls c2 c' d b) : Dn0 ns ls c c' (d + 1) (.ite k e a b) := by
  obtain ⟨n, r, h1, h2, h3, h4, h5, h6, h7⟩ := he
  obtain ⟨m, t, g1, g2, g3, g4, g5, g6, g7⟩ := ha
  obtain ⟨l, s, f1, f2, f3, f4, f5, f6, f7⟩ := hb
  refine ⟨n + max m l + 1, r + max t s, by omega, by omega, ?_, by omega, by omega, ?_, fun N L h ho n0 m0 E e1 e2 => ?_⟩
  · by_cases hl : c1 ≤ 1
    · have := g4 hl
      have := f4 (by omega)
      omega
    · omega
  · rw [show n + max m l + 1 + 1 = (n + 1) + (max m l + 1) by omega]
    refine pw h6 (b := max t s + 1) ?_ ?_
    · by_cases e : t ≤ s
      · rw [Nat.max_eq_right e]
        exact pw1 f6 (Nat.le_refl _) (by omega)
      · rw [Nat.max_eq_left (by omega)]
        exact pw1 g6 (Nat.le_refl _) (by omega)
    · rw [Nat.mul_add, Nat.add_mul]
      omega
  · have i1 := h7 _ L h ho n0 m0 E (by intro; omega) (by intro _ _; omega)
    have i2 := g7 _ L h ho n0 m0 E (by intro; omega) (by intro _ _; omega)
    have i3 := f7 _ L h ho n0 m0 E (by intro; omega) (by intro _ _; omega)
    rw [Nat.add_mul]
    obtain ⟨v, hv⟩ : ∃ v, h + (n + max m l + 1) = v + 1 := ⟨h + (n + max m l), by omega⟩
    rw [hv]
    exact .ite (i1.mono (by omega) (Nat.le_refl _)) (i2.mono (by omega) (Nat.mul_le_mul_right _ (by omega))) (i3.mono (by omega) (Nat.mul_le_mul_right _ (by omega)))
theorem dn0_delay {x : Str} (hx : x ≠ "never") (hc : 2 ≤ c) (ha : Dn0 ns ls (c - 1) c1 d a) (hb : Dn0 ns (ls ++ [x]) c1 c' d b) : Dn0 ns ls c c' (d + 1) (.delay x a b) := by
  obtain ⟨n, r, h1, h2, h3, h4, h5, h6, h7⟩ := ha
  obtain ⟨m, t, g1, g2, g3, g4, g5, g6, g7⟩ := hb
  refine ⟨n + m + 1, r * t + r + t, by omega, by omega, ?_, by omega, by omega, ?_, fun N L h ho n0 m0 E e1 e2 => ?_⟩
  · by_cases hl : c1 ≤ 1
    · have := g4 hl
      omega
    · omega
  · rw [show n + m + 1 + 1 = (n + 1) + (m + 1) by omega]
    refine pw h6 g6 ?_
    rw [Nat.mul_add, Nat.add_mul]
    omega
  · have f := h7 _ L h ho n0 m0 E (by intro; omega) (by intro _ _; omega)
    have f2 := g7 _ _ _ _ _ _ (E.later hx h6) (by intro; omega) (by intro _ _; omega)
    have k1 : ho + 1 ≤ r * (ho + 1) := Nat.le_mul_of_pos_left _ (by omega)
    refine Fit.mono (w := h + n + m + 1) (o := t * (r * (ho + 1) + 1)) (.delay f f2 (by omega) (by omega)) (by omega) ?_
    rw [Nat.add_mul, Nat.add_mul, Nat.mul_add, Nat.mul_one, ← Nat.mul_assoc, Nat.mul_comm t r]
    have k2 : t ≤ t * (ho + 1) := Nat.le_mul_of_pos_right _ (by omega)
    omega
theorem rn0_nil (hc : 1 ≤ c) : Rn0 ns ls c c d [] := ⟨0, 0, by omega, by omega, by decide, fun _ _ _ _ _ _ _ _ x hx => by cases hx⟩
theorem rn0_snoc {l : List (Int × Pl)} {m : Int} (hc : 1 ≤ c) (ha : Rn0 ns ls c c1 d l) (hb : Dn0 ns ls c1 c2 d e) : Rn0 ns ls c c2 d (l ++ [(m, e)]) := by
  obtain ⟨n, r, h2, h3, h6, h7⟩ := ha
  obtain ⟨m, t, g1, g2, g3, g4, g5, g6, g7⟩ := hb
  refine ⟨max n m, max r t, by omega, by omega, ?_, fun N L h ho n0 m0 E e1 x hx => ?_⟩
  · by_cases e : r ≤ t
    · rw [Nat.max_eq_right e]
      exact pw1 g6 (Nat.le_refl _) (by omega)
    · rw [Nat.max_eq_left (by omega)]
      exact pw1 h6 (Nat.le_refl _) (by omega)
  · rcases List.mem_append.mp hx with q | q
    · exact (h7 N L h ho n0 m0 E e1 x q).mono (by omega) (Nat.mul_le_mul_right _ (by omega))
    · rcases List.mem_singleton.mp q with rfl
      exact (g7 N L h ho n0 m0 E (by intro; omega) (by intro _ _; omega)).mono (by omega) (Nat.mul_le_mul_right _ (by omega))
theorem rn0_rev {l l2 : List (Int × Pl)} (hl : ∀ x ∈ l2, x ∈ l) (ha : Rn0 ns ls c c1 d l) : Rn0 ns ls c c1 d l2 := by
  obtain ⟨n, r, h2, h3, h6, h7⟩ := ha
  exact ⟨n, r, h2, h3, h6, fun N L h ho n0 m0 E e1 x hx => h7 N L h ho n0 m0 E e1 x (hl x hx)⟩
theorem dn0_switch {s : Int} {l : List (Int × Pl)} (hc : 2 ≤ c) (ha : Rn0 ns ls (c - 1) c1 d l) (hb : Dn0 ns ls c1 c' d b) : Dn0 ns ls c c' (d + 1) (.switch s (Br.of l) b) := by
  obtain ⟨n, r, h2, h3, h6, h7⟩ := ha
  obtain ⟨m, t, g1, g2, g3, g4, g5, g6, g7⟩ := hb
  refine ⟨max n m + 1, max r t, by omega, by omega, by omega, by omega, by omega, ?_, fun N L h ho n0 m0 E e1 e2 => ?_⟩
  · by_cases e : r ≤ t
    · rw [Nat.max_eq_right e]
      exact pw1 g6 (Nat.le_refl _) (by omega)
    · rw [Nat.max_eq_left (by omega)]
      exact pw1 h6 (Nat.le_refl _) (by omega)
  · obtain ⟨v, hv⟩ : ∃ v, h + (max n m + 1) = v + 1 := ⟨h + max n m, by omega⟩
    rw [hv]
    exact .switch (of_fit fun x hx => (h7 N L h ho n0 m0 E (by intro; omega) x hx).mono (by omega) (Nat.mul_le_mul_right _ (by omega))) ((g7 N L h ho n0 m0 E (by intro; omega) (by intro _ _; omega)).mono (by omega) (Nat.mul_le_mul_right _ (by omega)))
end
/-! ### the number of nodes -/
mutual
def Pl.sz : Pl → Nat
  | .num _ => 1
  | .name _ => 1
  | .fn _ _ b => b.sz + 1
  | .call _ a b => a.sz + b.sz + 1
  | .sum _ a b => a.sz + b.sz + 1
  | .less _ a b => a.sz + b.sz + 1
  | .ite _ c a b => c.sz + a.sz + b.sz + 1
  | .let_ _ a b => a.sz + b.sz + 1
  | .say _ a => a.sz + 1
  | .delay _ a b => a.sz + b.sz + 1
  | .force _ => 1
  | .tick a => a.sz + 1
  | .switch _ bs a => bs.sz + a.sz + 1
  | .set_ _ _ a => a.sz + 1
  | .put _ _ => 1
def Br.sz : Br → Nat
  | .nil => 0
  | .cons _ e r => e.sz + r.sz
end
def szB : Nat → Nat
  | 0 => 1
  | d + 1 => 8 * szB d + 12
theorem szB_pos : ∀ d, 1 ≤ szB d
  | 0 => Nat.le_refl _
  | d + 1 => by
    show 1 ≤ 8 * szB d + 12
    omega
theorem of_sz {m : Nat} : ∀ {l : List (Int × Pl)}, (∀ x ∈ l, x.2.sz ≤ m) → (Br.of l).sz ≤ l.length * m
  | [], _ => Nat.zero_le _
  | x :: l, h => by
    have h1 := h x List.mem_cons_self
    have h2 := of_sz (l := l) fun y hy => h y (List.mem_cons_of_mem _ hy)
    show x.2.sz + (Br.of l).sz ≤ (l.length + 1) * m
    rw [Nat.add_mul]
    omega
def Dn (ns ls : List Str) (c c' : Int) (d : Nat) (e : Pl) : Prop := Dn0 ns ls c c' d e ∧ e.sz ≤ szB d
def Rn (ns ls : List Str) (c c' : Int) (d : Nat) (l : List (Int × Pl)) : Prop := Rn0 ns ls c c' d l ∧ ∀ x ∈ l, x.2.sz ≤ szB d
section
variable {ns ls : List Str} {c c1 c2 c' : Int} {d : Nat} {a b e : Pl}
theorem dn_num {i : Int} : Dn ns ls c (c - 1) d (.num i) := ⟨dn0_num, szB_pos d⟩
theorem dn_name {x : Str} (hx : x ∈ ns) : Dn ns ls c (c - 1) d (.name x) := ⟨dn0_name hx, szB_pos d⟩
theorem dn_force {x : Str} (hx : x ∈ ls) : Dn ns ls c (c - 1) d (.force x) := ⟨dn0_force hx, szB_pos d⟩
theorem dn_tick (hc : 2 ≤ c) (ha : Dn ns ls (c - 1) c' d a) : Dn ns ls c c' (d + 1) (.tick a) := ⟨dn0_tick hc ha.1, by have := ha.2; show a.sz + 1 ≤ 8 * szB d + 12; omega⟩
theorem dn_set {s m : Int} (hs : swn s) (hc : 2 ≤ c) (ha : Dn ns ls (c - 1) c' d a) : Dn ns ls c c' (d + 1) (.set_ s m a) := ⟨dn0_set hs hc ha.1, by have := ha.2; show a.sz + 1 ≤ 8 * szB d + 12; omega⟩
theorem dn_idle (hb : b.sz ≤ 3) (hc : 2 ≤ c) (ha : Dn ns ls (c - 1) c' d a) : Dn ns ls c c' (d + 1) (.delay "never" b a) := ⟨dn0_idle hc ha.1, by have := ha.2; show b.sz + a.sz + 1 ≤ 8 * szB d + 12; omega⟩
theorem dn_yes {k i : Int} (hb : b.sz ≤ 3) (hi : i ≠ 0) (hc : 2 ≤ c) (ha : Dn ns ls (c - 1) c' d a) : Dn ns ls c c' (d + 1) (.ite k (.num i) a b) := ⟨dn0_yes hi hc ha.1, by have := ha.2; show 1 + a.sz + b.sz + 1 ≤ 8 * szB d + 12; omega⟩
theorem dn_rest (hf : b.sz ≤ 3) {i j : Int} (hb : (Br.cons i b (.cons j b .nil)).none0) (hc : 2 ≤ c) (ha : Dn ns ls (c - 1) c' d a) : Dn ns ls c c' (d + 1) (.switch still (.cons i b (.cons j b .nil)) a) := ⟨dn0_rest hb hc ha.1, by have := ha.2; show b.sz + (b.sz + 0) + a.sz + 1 ≤ 8 * szB d + 12; omega⟩
theorem dn_say {k : Int} (hc : 2 ≤ c) (ha : Dn ns ls (c - 1) c' d a) : Dn ns ls c c' (d + 1) (.say k a) := ⟨dn0_say hc ha.1, by have := ha.2; show a.sz + 1 ≤ 8 * szB d + 12; omega⟩
theorem dn_fn {k : Int} {x : Str} (hc : 2 ≤ c) (ha : Dn (ns ++ [x]) ls (c - 1) c' d a) : Dn ns ls c c' (d + 1) (.fn k x a) := ⟨dn0_fn hc ha.1, by have := ha.2; show a.sz + 1 ≤ 8 * szB d + 12; omega⟩
theorem dn_put {k m : Int} {x : Str} (hs : swn k) (hc : 2 ≤ c) (ha : Dn (ns ++ [x]) ls (c - 1) c' d a) : Dn ns ls c c' (d + 1) (.let_ x (.put k m) a) := ⟨dn0_put hs hc ha.1, by have := ha.2; show 1 + a.sz + 1 ≤ 8 * szB d + 12; omega⟩
theorem dn_call {k : Int} (hc : 2 ≤ c) (ha : Dn ns ls (c - 1) c1 d a) (hb : Dn ns ls c1 c' d b) : Dn ns ls c c' (d + 1) (.call k a b) := ⟨dn0_call hc ha.1 hb.1, by have := ha.2; have := hb.2; show a.sz + b.sz + 1 ≤ 8 * szB d + 12; omega⟩
theorem dn_sum {k : Int} (hc : 2 ≤ c) (ha : Dn ns ls (c - 1) c1 d a) (hb : Dn ns ls c1 c' d b) : Dn ns ls c c' (d + 1) (.sum k a b) := ⟨dn0_sum hc ha.1 hb.1, by have := ha.2; have := hb.2; show a.sz + b.sz + 1 ≤ 8 * szB d + 12; omega⟩
theorem dn_less {k : Int} (hc : 2 ≤ c) (ha : Dn ns ls (c - 1) c1 d a) (hb : Dn ns ls c1 c' d b) : Dn ns ls c c' (d + 1) (.less k a b) := ⟨dn0_less hc ha.1 hb.1, by have := ha.2; have := hb.2; show a.sz + b.sz + 1 ≤ 8 * szB d + 12; omega⟩
theorem dn_here {j k : Int} {x : Str} (hc : 2 ≤ c) (ha : Dn (ns ++ [x]) ls (c - 1) c1 d a) (hb : Dn ns ls c1 c' d b) : Dn ns ls c c' (d + 1) (.call k (.fn j x a) b) := ⟨dn0_here hc ha.1 hb.1, by have := ha.2; have := hb.2; show (a.sz + 1) + b.sz + 1 ≤ 8 * szB d + 12; omega⟩
theorem dn_let {x : Str} (hc : 2 ≤ c) (ha : Dn ns ls (c - 1) c1 d a) (hb : Dn (ns ++ [x]) ls c1 c' d b) : Dn ns ls c c' (d + 1) (.let_ x a b) := ⟨dn0_let hc ha.1 hb.1, by have := ha.2; have := hb.2; show a.sz + b.sz + 1 ≤ 8 * szB d + 12; omega⟩
theorem dn_ite {k : Int} {e : Pl} (hc : 2 ≤ c) (he : Dn ns ls (c - 1) c1 d e) (ha : Dn ns ls c1 c2 d a) (hb : Dn ns ls c2 c' d b) : Dn ns ls c c' (d + 1) (.ite k e a b) := ⟨dn0_ite hc he.1 ha.1 hb.1, by have := ha.2; have := hb.2; have := he.2; show e.sz + a.sz + b.sz + 1 ≤ 8 * szB d + 12; omega⟩
theorem dn_delay {x : Str} (hx : x ≠ "never") (hc : 2 ≤ c) (ha : Dn ns ls (c - 1) c1 d a) (hb : Dn ns (ls ++ [x]) c1 c' d b) : Dn ns ls c c' (d + 1) (.delay x a b) := ⟨dn0_delay hx hc ha.1 hb.1, by have := ha.2; have := hb.2; show a.sz + b.sz + 1 ≤ 8 * szB d + 12; omega⟩
theorem rn_nil (hc : 1 ≤ c) : Rn ns ls c c d [] := ⟨rn0_nil hc, fun x hx => by cases hx⟩
theorem rn_snoc {l : List (Int × Pl)} {m : Int} (hc : 1 ≤ c) (ha : Rn ns ls c c1 d l) (hb : Dn ns ls c1 c2 d e) : Rn ns ls c c2 d (l ++ [(m, e)]) := ⟨rn0_snoc hc ha.1 hb.1, fun x hx => by
  rcases List.mem_append.mp hx with q | q
  · exact ha.2 x q
  · rcases List.mem_singleton.mp q with rfl
    exact hb.2⟩
theorem rn_rev {l l2 : List (Int × Pl)} (hl : ∀ x ∈ l2, x ∈ l) (ha : Rn ns ls c c1 d l) : Rn ns ls c c1 d l2 := ⟨rn0_rev hl ha.1, fun x hx => ha.2 x (hl x hx)⟩
theorem dn_switch {s : Int} {l : List (Int × Pl)} (hl : l.length ≤ 6) (hc : 2 ≤ c) (ha : Rn ns ls (c - 1) c1 d l) (hb : Dn ns ls c1 c' d b) : Dn ns ls c c' (d + 1) (.switch s (Br.of l) b) := ⟨dn0_switch hc ha.1 hb.1, by
  have h1 := of_sz ha.2
  have h2 := hb.2
  have h3 : l.length * szB d ≤ 6 * szB d := Nat.mul_le_mul_right _ hl
  show (Br.of l).sz + b.sz + 1 ≤ 8 * szB d + 12
  omega⟩
end
end Mi
set_option Elab.async false
set_option linter.all false
set_option maxRecDepth 100000
set_option maxHeartbeats 4000000
/-! M67: the drawing of plain programs: strings, ranks, leaves. -/
namespace Mi
open PySem L2
namespace Gp
def law_stringB : Sms := .cons (.ret (.sub (.lst (.cons (.str "x") (.cons (.str "y") (.cons (.str "X") (.cons (.str "x.1") (.cons (.str "v 2") (.cons (.str "") (.cons (.str " x") (.cons (.str "aaaaaaaaaaaaaaaa1") (.cons (.str "aaaaaaaaaaaaaaaa2") .nil)))))))))) (.call "_law_take" (.cons (.var 0) (.cons (.int 9) .nil))))) .nil
def law_stringF : Fn := ⟨1, 1, law_stringB⟩
def law_rankB : Sms := .cons (.ret (.sub (.lst (.cons (.int 0) (.cons (.int 0) (.cons (.int 1) (.cons (.int 2) (.cons (.int 0) (.cons (.int 1) (.cons (.int 2) (.cons (.bin .Add (.int 4) (.call "_law_take" (.cons (.var 0) (.cons (.bin .Pow (.int 10) (.int 6)) .nil)))) .nil))))))))) (.call "_law_take" (.cons (.var 0) (.cons (.int 8) .nil))))) .nil
def law_rankF : Fn := ⟨1, 1, law_rankB⟩
def law_unasked_2tB : Sms := .cons (.ret (.tup (.cons (.str "delay") (.cons (.str "never") (.cons (.var 4) (.cons (.var 5) .nil)))))) .nil
def law_unasked_3tB : Sms := .cons (.ret (.tup (.cons (.str "if") (.cons (.int 0) (.cons (.tup (.cons (.str "num") (.cons (.bin .Add (.int 1) (.call "_law_take" (.cons (.var 0) (.cons (.int 9) .nil)))) .nil))) (.cons (.var 5) (.cons (.var 4) .nil))))))) .nil
def law_unasked_4B : Sms := .cons (.ret (.tup (.cons (.str "switch") (.cons (.int 1000003) (.cons (.tup (.cons (.tup (.cons (.int 7) (.cons (.var 4) .nil))) (.cons (.tup (.cons (.int 3) (.cons (.var 4) .nil))) .nil))) (.cons (.var 5) .nil)))))) .nil
def law_unasked_3B : Sms := .cons (.ifs (.cmp .Eq (.call "_law_take" (.cons (.var 0) (.cons (.int 2) .nil))) (.int 0)) law_unasked_3tB .nil) law_unasked_4B
def law_unasked_2B : Sms := .cons (.ifs (.cmp .Eq (.call "_law_take" (.cons (.var 0) (.cons (.int 2) .nil))) (.int 0)) law_unasked_2tB .nil) law_unasked_3B
def law_unasked_1B : Sms := .cons (.asg (.nm 5) (.call "_law_drawn" (.cons (.var 0) (.cons (.var 1) (.cons (.var 2) (.cons (.var 3) .nil)))))) law_unasked_2B
def law_unaskedB : Sms := .cons (.asg (.nm 4) (.sub (.lst (.cons (.tup (.cons (.str "name") (.cons (.str "free") .nil))) (.cons (.tup (.cons (.str "force") (.cons (.str "free") .nil))) (.cons (.tup (.cons (.str "sum") (.cons (.int 0) (.cons (.tup (.cons (.str "name") (.cons (.str "free") .nil))) (.cons (.tup (.cons (.str "num") (.cons (.int 1) .nil))) .nil))))) (.cons (.tup (.cons (.str "fn") (.cons (.int 1) (.cons (.str "x") (.cons (.tup (.cons (.str "force") (.cons (.str "free") .nil))) .nil))))) .nil))))) (.call "_law_take" (.cons (.var 0) (.cons (.int 4) .nil))))) law_unasked_1B
def law_unaskedF : Fn := ⟨4, 6, law_unaskedB⟩
def law_rows_2b_1B : Sms := .cons (.asg (.nm 4) (.bin .Add (.bin .Add (.var 4) (.int 1)) (.call "_law_take" (.cons (.var 0) (.cons (.int 2) .nil))))) .nil
def law_rows_2bB : Sms := .cons (.exp (.bm .append (.var 5) (.cons (.tup (.cons (.var 4) (.cons (.call "_law_drawn" (.cons (.var 0) (.cons (.var 1) (.cons (.var 2) (.cons (.var 3) .nil))))) .nil))) .nil))) law_rows_2b_1B
def law_rows_3tB : Sms := .cons (.asg (.nm 5) (.rev (.var 5))) .nil
def law_rows_4B : Sms := .cons (.ret (.bf .tuple (.cons (.var 5) .nil))) .nil
def law_rows_3B : Sms := .cons (.ifs (.cmp .Eq (.call "_law_take" (.cons (.var 0) (.cons (.int 2) .nil))) (.int 0)) law_rows_3tB .nil) law_rows_4B
def law_rows_2B : Sms := .cons (.for_ (.nm 6) (.rng (.cons (.sub (.lst (.cons (.int 0) (.cons (.int 1) (.cons (.int 2) (.cons (.int 2) (.cons (.int 3) (.cons (.int 6) .nil))))))) (.call "_law_take" (.cons (.var 0) (.cons (.int 6) .nil)))) .nil)) law_rows_2bB) law_rows_3B
def law_rows_1B : Sms := .cons (.asg (.nm 5) (.lst .nil)) law_rows_2B
def law_rowsB : Sms := .cons (.asg (.nm 4) (.bin .Add (.int 1) (.call "_law_take" (.cons (.var 0) (.cons (.int 2) .nil))))) law_rows_1B
def law_rowsF : Fn := ⟨4, 7, law_rowsB⟩
def law_drawn_2t_2B : Sms := .cons (.ret (.sub (.var 6) (.call "_law_take" (.cons (.var 0) (.cons (.bf .len (.cons (.var 6) .nil)) .nil))))) .nil
def law_drawn_2t_1B : Sms := .cons (.asg (.nm 6) (.bin .Add (.bin .Add (.lst (.cons (.tup (.cons (.str "num") (.cons (.var 5) .nil))) .nil)) (.lc (.nm 7) (.seq (.slc (.var 1) (.neg (.int 2)) .nop)) .nop (.tup (.cons (.str "name") (.cons (.var 7) .nil))) [7])) (.lc (.nm 7) (.seq (.slc (.var 2) (.neg (.int 2)) .nop)) .nop (.tup (.cons (.str "force") (.cons (.var 7) .nil))) [7]))) law_drawn_2t_2B
def law_drawn_2tB : Sms := .cons (.asg (.nm 5) (.sub (.lst (.cons (.bin .Sub (.call "_law_take" (.cons (.var 0) (.cons (.int 4) .nil))) (.int 1)) (.cons (.bin .Sub (.call "_law_take" (.cons (.var 0) (.cons (.int 4) .nil))) (.int 1)) (.cons (.bin .Sub (.call "_law_take" (.cons (.var 0) (.cons (.int 2000001) .nil))) (.int 1000000)) .nil)))) (.call "_law_take" (.cons (.var 0) (.cons (.int 3) .nil))))) law_drawn_2t_1B
def law_drawn_5tB : Sms := .cons (.ret (.tup (.cons (.str "call") (.cons (.var 8) (.cons (.tup (.cons (.str "fn") (.cons (.var 8) (.cons (.var 7) (.cons (.call "_law_drawn" (.cons (.var 0) (.cons (.bin .Add (.var 1) (.lst (.cons (.var 7) .nil))) (.cons (.var 2) (.cons (.bin .Sub (.var 3) (.int 1)) .nil))))) .nil))))) (.cons (.call "_law_drawn" (.cons (.var 0) (.cons (.var 1) (.cons (.var 2) (.cons (.bin .Sub (.var 3) (.int 1)) .nil))))) .nil)))))) .nil
def law_drawn_6t_1B : Sms := .cons (.ret (.tup (.cons (.sub (.lst (.cons (.str "call") (.cons (.str "sum") (.cons (.str "less") .nil)))) (.bin .Sub (.var 4) (.int 2))) (.cons (.var 8) (.cons (.var 9) (.cons (.call "_law_drawn" (.cons (.var 0) (.cons (.var 1) (.cons (.var 2) (.cons (.bin .Sub (.var 3) (.int 1)) .nil))))) .nil)))))) .nil
def law_drawn_6tB : Sms := .cons (.asg (.nm 9) (.call "_law_drawn" (.cons (.var 0) (.cons (.var 1) (.cons (.var 2) (.cons (.bin .Sub (.var 3) (.int 1)) .nil)))))) law_drawn_6t_1B
def law_drawn_7tB : Sms := .cons (.ret (.tup (.cons (.str "fn") (.cons (.var 8) (.cons (.var 7) (.cons (.call "_law_drawn" (.cons (.var 0) (.cons (.bin .Add (.var 1) (.lst (.cons (.var 7) .nil))) (.cons (.var 2) (.cons (.bin .Sub (.var 3) (.int 1)) .nil))))) .nil)))))) .nil
def law_drawn_8t_2B : Sms := .cons (.ret (.tup (.cons (.str "if") (.cons (.var 8) (.cons (.var 9) (.cons (.var 10) (.cons (.call "_law_drawn" (.cons (.var 0) (.cons (.var 1) (.cons (.var 2) (.cons (.bin .Sub (.var 3) (.int 1)) .nil))))) .nil))))))) .nil
def law_drawn_8t_1B : Sms := .cons (.asg (.nm 10) (.call "_law_drawn" (.cons (.var 0) (.cons (.var 1) (.cons (.var 2) (.cons (.bin .Sub (.var 3) (.int 1)) .nil)))))) law_drawn_8t_2B
def law_drawn_8tB : Sms := .cons (.asg (.nm 9) (.call "_law_drawn" (.cons (.var 0) (.cons (.var 1) (.cons (.var 2) (.cons (.bin .Sub (.var 3) (.int 1)) .nil)))))) law_drawn_8t_1B
def law_drawn_9tB : Sms := .cons (.ret (.tup (.cons (.str "let") (.cons (.var 7) (.cons (.call "_law_drawn" (.cons (.var 0) (.cons (.var 1) (.cons (.var 2) (.cons (.bin .Sub (.var 3) (.int 1)) .nil))))) (.cons (.call "_law_drawn" (.cons (.var 0) (.cons (.bin .Add (.var 1) (.lst (.cons (.var 7) .nil))) (.cons (.var 2) (.cons (.bin .Sub (.var 3) (.int 1)) .nil))))) .nil)))))) .nil
def law_drawn_10tB : Sms := .cons (.ret (.tup (.cons (.str "say") (.cons (.var 8) (.cons (.call "_law_drawn" (.cons (.var 0) (.cons (.var 1) (.cons (.var 2) (.cons (.bin .Sub (.var 3) (.int 1)) .nil))))) .nil))))) .nil
def law_drawn_11tB : Sms := .cons (.ret (.tup (.cons (.str "delay") (.cons (.var 7) (.cons (.call "_law_drawn" (.cons (.var 0) (.cons (.var 1) (.cons (.var 2) (.cons (.bin .Sub (.var 3) (.int 1)) .nil))))) (.cons (.call "_law_drawn" (.cons (.var 0) (.cons (.var 1) (.cons (.bin .Add (.var 2) (.lst (.cons (.var 7) .nil))) (.cons (.bin .Sub (.var 3) (.int 1)) .nil))))) .nil)))))) .nil
def law_drawn_12tB : Sms := .cons (.ret (.tup (.cons (.str "tick") (.cons (.call "_law_drawn" (.cons (.var 0) (.cons (.var 1) (.cons (.var 2) (.cons (.bin .Sub (.var 3) (.int 1)) .nil))))) .nil)))) .nil
def law_drawn_13tB : Sms := .cons (.ret (.call "_law_unasked" (.cons (.var 0) (.cons (.var 1) (.cons (.var 2) (.cons (.bin .Sub (.var 3) (.int 1)) .nil)))))) .nil
def law_drawn_15t_1B : Sms := .cons (.ret (.tup (.cons (.str "switch") (.cons (.var 11) (.cons (.var 6) (.cons (.call "_law_drawn" (.cons (.var 0) (.cons (.var 1) (.cons (.var 2) (.cons (.bin .Sub (.var 3) (.int 1)) .nil))))) .nil)))))) .nil
def law_drawn_15tB : Sms := .cons (.asg (.nm 6) (.call "_law_rows" (.cons (.var 0) (.cons (.var 1) (.cons (.var 2) (.cons (.bin .Sub (.var 3) (.int 1)) .nil)))))) law_drawn_15t_1B
def law_drawn_17tB : Sms := .cons (.ret (.tup (.cons (.str "let") (.cons (.var 7) (.cons (.tup (.cons (.str "put") (.cons (.var 11) (.cons (.var 12) .nil)))) (.cons (.call "_law_drawn" (.cons (.var 0) (.cons (.bin .Add (.var 1) (.lst (.cons (.var 7) .nil))) (.cons (.var 2) (.cons (.bin .Sub (.var 3) (.int 1)) .nil))))) .nil)))))) .nil
def law_drawn_18B : Sms := .cons (.ret (.tup (.cons (.str "set") (.cons (.var 11) (.cons (.var 12) (.cons (.call "_law_drawn" (.cons (.var 0) (.cons (.var 1) (.cons (.var 2) (.cons (.bin .Sub (.var 3) (.int 1)) .nil))))) .nil)))))) .nil
def law_drawn_17B : Sms := .cons (.ifs (.cmp .Eq (.var 4) (.int 15)) law_drawn_17tB .nil) law_drawn_18B
def law_drawn_16B : Sms := .cons (.asg (.nm 12) (.sub (.lst (.cons (.call "_law_take" (.cons (.var 0) (.cons (.int 5) .nil))) (.cons (.call "_law_take" (.cons (.var 0) (.cons (.int 5) .nil))) (.cons (.bin .Pow (.int 10) (.int 12)) .nil)))) (.call "_law_take" (.cons (.var 0) (.cons (.int 3) .nil))))) law_drawn_17B
def law_drawn_15B : Sms := .cons (.ifs (.cmp .Lt (.var 4) (.int 15)) law_drawn_15tB .nil) law_drawn_16B
def law_drawn_14B : Sms := .cons (.asg (.nm 11) (.sub (.lst (.cons (.bin .Add (.bin .Mult (.call "_law_take" (.cons (.var 0) (.cons (.int 3) .nil))) (.int 9)) (.call "_law_take" (.cons (.var 0) (.cons (.int 2) .nil)))) (.cons (.bin .Add (.bin .Pow (.int 10) (.int 9)) (.int 7)) .nil))) (.bf .int (.cons (.cmp .Eq (.call "_law_take" (.cons (.var 0) (.cons (.int 5) .nil))) (.int 0)) .nil)))) law_drawn_15B
def law_drawn_13B : Sms := .cons (.ifs (.cmp .Eq (.var 4) (.int 18)) law_drawn_13tB .nil) law_drawn_14B
def law_drawn_12B : Sms := .cons (.ifs (.cmp .Eq (.var 4) (.int 12)) law_drawn_12tB .nil) law_drawn_13B
def law_drawn_11B : Sms := .cons (.ifs (.cmp .Lt (.var 4) (.int 12)) law_drawn_11tB .nil) law_drawn_12B
def law_drawn_10B : Sms := .cons (.ifs (.cmp .Eq (.var 4) (.int 9)) law_drawn_10tB .nil) law_drawn_11B
def law_drawn_9B : Sms := .cons (.ifs (.cmp .Lt (.var 4) (.int 9)) law_drawn_9tB .nil) law_drawn_10B
def law_drawn_8B : Sms := .cons (.ifs (.cmp .Eq (.var 4) (.int 6)) law_drawn_8tB .nil) law_drawn_9B
def law_drawn_7B : Sms := .cons (.ifs (.cmp .Eq (.var 4) (.int 5)) law_drawn_7tB .nil) law_drawn_8B
def law_drawn_6B : Sms := .cons (.ifs (.cmp .Lt (.var 4) (.int 5)) law_drawn_6tB .nil) law_drawn_7B
def law_drawn_5B : Sms := .cons (.ifs (.cmp .Eq (.var 4) (.int 2)) law_drawn_5tB .nil) law_drawn_6B
def law_drawn_4B : Sms := .cons (.asg (.nm 7) (.call "_law_string" (.cons (.var 0) .nil))) law_drawn_5B
def law_drawn_3B : Sms := .cons (.asg (.nm 8) (.call "_law_rank" (.cons (.var 0) .nil))) law_drawn_4B
def law_drawn_2B : Sms := .cons (.ifs (.or (.cons (.cmp .Lt (.var 3) (.int 1)) (.cons (.cmp .Lt (.sub (.var 0) (.int 4)) (.int 1)) (.cons (.cmp .Lt (.var 4) (.int 2)) .nil)))) law_drawn_2tB .nil) law_drawn_3B
def law_drawn_1B : Sms := .cons (.asg (.nm 4) (.call "_law_take" (.cons (.var 0) (.cons (.int 19) .nil)))) law_drawn_2B
def law_drawnB : Sms := .cons (.asg (.sub (.var 0) (.int 4)) (.bin .Sub (.sub (.var 0) (.int 4)) (.int 1))) law_drawn_1B
def law_drawnF : Fn := ⟨4, 13, law_drawnB⟩
end Gp
structure GenP (P : Pr) : Prop extends Drawn P where
  string : P.fns.lookup ("_law_string" : Str) = some Gp.law_stringF
  rank : P.fns.lookup ("_law_rank" : Str) = some Gp.law_rankF
  unasked : P.fns.lookup ("_law_unasked" : Str) = some Gp.law_unaskedF
  rows : P.fns.lookup ("_law_rows" : Str) = some Gp.law_rowsF
  drawn : P.fns.lookup ("_law_drawn" : Str) = some Gp.law_drawnF
def strsS : List Str := ["x", "y", "X", "x.1", "v 2", "", " x", "aaaaaaaaaaaaaaaa1", "aaaaaaaaaaaaaaaa2"]
section
variable {P : Pr} {k n : Nat} {ic is : Nat} {xs : List Int} {S : Sto} {bud : Int} {nm : D} {Q : D → Sto → Prop}
theorem Gs.at' (h : Gs S ic is xs bud nm) : S[ic]? ≠ none := by
  have := h.lt
  simp
  omega
theorem string_ok (G : GenP P) (h : Gs S ic is xs bud nm) (q : ∀ x S', x ∈ strsS → Gs S' ic is xs bud nm → Grow ic S S' → Q (.str x) S') : Wp ((cxt P (k + 3)).call "_law_string" [.ref ic] S) Q := by
  rw [call_fn G.string, run_fn2 rfl, wp_bind]
  show Wp (evSs (cxt P (k + 2)) Gp.law_stringB [some (.ref ic)] S) _
  unfold Gp.law_stringB
  refine ret_wp ?_
  simp [-List.append_assoc, -List.length_append]
  refine take_call G.toDrawn h.app (by omega) (by omega) fun d S1 h1 h2 c1 g1 => ?_
  have e : ∃ x, x ∈ strsS ∧ atI (strsS.map D.str) d = some (.str x) := by
    obtain ⟨m, rfl⟩ : ∃ m : Nat, d = m := ⟨d.toNat, by omega⟩
    rw [atI_nat, List.getElem?_map]
    have hm : m < strsS.length := by
      show m < 9
      omega
    rw [List.getElem?_eq_getElem hm]
    exact ⟨_, List.getElem_mem hm, rfl⟩
  obtain ⟨x, hx, e⟩ := e
  rw [sub_lst (g1.at new_at (new_ne h))]
  refine Wp.of (congrArg (optR · S1) e) ?_
  exact q x S1 hx c1 (Grow.app.trans g1)
theorem rank_ok (G : GenP P) (h : Gs S ic is xs bud nm) (q : ∀ x S', Gs S' ic is xs bud nm → Grow ic S S' → Q (.int x) S') : Wp ((cxt P (k + 3)).call "_law_rank" [.ref ic] S) Q := by
  rw [call_fn G.rank, run_fn2 rfl, wp_bind]
  show Wp (evSs (cxt P (k + 2)) Gp.law_rankB [some (.ref ic)] S) _
  unfold Gp.law_rankB
  refine ret_wp ?_
  simp [-List.append_assoc, -List.length_append]
  rw [pow_int (show CPow 10 6 from ⟨by decide, by decide, by decide⟩)]
  simp [-List.append_assoc, -List.length_append]
  refine take_call G.toDrawn h (by decide) (by decide) fun d S1 h1 h2 c1 g1 => ?_
  simp [-List.append_assoc, -List.length_append]
  refine take_call G.toDrawn c1.app (by omega) (by omega) fun d2 S2 h3 h4 c2 g2 => ?_
  have e : ∃ x : Int, atI [D.int 0, D.int 0, D.int 1, D.int 2, D.int 0, D.int 1, D.int 2, .int (4 + d)] d2 = some (.int x) := by
    obtain ⟨m, rfl⟩ : ∃ m : Nat, d2 = m := ⟨d2.toNat, by omega⟩
    rw [atI_nat]
    have hm : m = 0 ∨ m = 1 ∨ m = 2 ∨ m = 3 ∨ m = 4 ∨ m = 5 ∨ m = 6 ∨ m = 7 := by omega
    rcases hm with rfl | rfl | rfl | rfl | rfl | rfl | rfl | rfl <;> exact ⟨_, rfl⟩
  obtain ⟨x, e⟩ := e
  rw [sub_lst (g2.at new_at (new_ne c1)), e]
  exact q x S2 c2 ((g1.trans Grow.app).trans g2)
end
end Mi
set_option Elab.async false
set_option linter.all false
set_option maxRecDepth 100000
set_option maxHeartbeats 4000000
/-! M68: drawn leaves. -/
namespace Mi
open PySem L2
theorem Grow.of {ic : Nat} {S S' : Sto} (p : S <+: S') : Grow ic S S' := ⟨pre_len p, fun i h _ => by
  obtain ⟨T, rfl⟩ := p
  exact List.getElem?_append_left h⟩
theorem Gs.pre {S S' : Sto} {ic is : Nat} {xs : List Int} {bud : Int} {nm : D} (h : Gs S ic is xs bud nm) (p : S <+: S') : Gs S' ic is xs bud nm := by
  obtain ⟨q, a, c, h⟩ := h
  exact ⟨q, a, c, pre_at p h.c, pre_at p h.s, h.pos0, h.ne⟩
theorem cutL_map {α β : Type} (f : α → β) (l : List α) (lo hi : Option Int) : cutL (l.map f) lo hi = (cutL l lo hi).map f := by
  unfold cutL
  rw [List.map_take, List.map_drop]
  simp
theorem cutL_mem {α : Type} {x : α} {l : List α} {lo hi : Option Int} (h : x ∈ cutL l lo hi) : x ∈ l := List.mem_of_mem_drop (List.mem_of_mem_take h)
theorem cutL_le {α : Type} (l : List α) (lo hi : Option Int) : (cutL l lo hi).length ≤ l.length := by
  unfold cutL
  rw [List.length_take, List.length_drop]
  omega
theorem tail_lc {C : Cxt} {e : En} {S : Sto} {vi j : Nat} {ns : List Str} {w : Str} {Q : D → Sto → Prop} (he : e[vi]? = some (some (.ref j))) (h7 : 7 < e.length) (hv : vi ≠ 7) (hj : S[j]? = some (.lst (ns.map .str))) (hl : ns.length ≤ 1000)
    (q : ∀ r (l : List Str) S', S <+: S' → S.length ≤ r → (∀ x ∈ l, x ∈ ns) → l.length ≤ 1000 → S'[r]? = some (.lst (l.map fun x => .tup [.str w, .str x])) → Q (.ref r) S') :
    Wp ((ev C (.lc (.nm 7) (.seq (.slc (.var vi) (.neg (.int 2)) .nop)) .nop (.tup (.cons (.str w) (.cons (.var 7) .nil))) [7])).v e S) Q := by
  simp [he, -List.append_assoc, -List.length_append]
  rw [slc_lst hj]
  simp [-List.append_assoc, -List.length_append]
  rw [seqIt_lst new_at]
  simp [-List.append_assoc, -List.length_append]
  rw [cutL_map]
  have hl2 := cutL_le ns (some (-2)) none
  have hm : ∀ x ∈ cutL ns (some (-2)) none, x ∈ ns := fun x hx => cutL_mem hx
  generalize cutL ns (some (-2)) none = l at *
  refine lcP (it := ⟨l.map D.str, some (S.length, l.map D.str)⟩) (fun x => .tup [.str w, x]) (by simp [wipeE]; omega) (by simp; omega) (still_lst new_at) (fun x hx S1 K p1 q1 => ?_) fun S1 p1 h1 => ?_
  · simp [wipeE, h7]
    exact q1 _ (List.prefix_refl _)
  · try simp
    refine q _ l _ ((pre_self _ _).trans p1) (by simp) hm (by omega) ?_
    simp at h1
    rw [h1]
    simp
section
variable {P : Pr} {k n : Nat} {ic is jn jl : Nat} {xs : List Int} {S : Sto} {bud d kk : Int} {nm : D} {ns ls : List Str}
/-- what a leaf is -/
def leafy (ns ls : List Str) (e : Pl) : Prop := (∃ i, e = .num i) ∨ (∃ x ∈ ns, e = .name x) ∨ ∃ x ∈ ls, e = .force x
theorem leafP_ok {Q : Out → Sto → Prop} (G : GenP P) (h : Gs S ic is xs bud nm) (hn : S[jn]? = some (.lst (ns.map .str))) (hl : S[jl]? = some (.lst (ls.map .str))) (en : jn ≠ ic) (el : jl ≠ ic) (ln : ns.length ≤ 1000) (ll : ls.length ≤ 1000)
    (q : ∀ e S', leafy ns ls e → Gs S' ic is xs bud nm → Grow ic S S' → Q (.ret e.d) S') : Wp (evSs (cxt P (k + 2)) Gp.law_drawn_2tB [some (.ref ic), some (.ref jn), some (.ref jl), some (.int d), some (.int kk), none, none, none, none, none, none, none, none] S) Q := by
  unfold Gp.law_drawn_2tB
  refine wp_ss ?_
  simp [-List.append_assoc, -List.length_append]
  refine take_call G.toDrawn h (by omega) (by omega) fun d1 S1 _ _ c1 g1 => ?_
  simp [-List.append_assoc, -List.length_append]
  refine take_call G.toDrawn c1 (by omega) (by omega) fun d2 S2 _ _ c2 g2 => ?_
  simp [-List.append_assoc, -List.length_append]
  refine take_call G.toDrawn c2 (by omega) (by omega) fun d3 S3 _ _ c3 g3 => ?_
  simp [-List.append_assoc, -List.length_append]
  refine take_call G.toDrawn c3.app (by omega) (by omega) fun d4 S4 a4 b4 c4 g4 => ?_
  have e : ∃ x : Int, atI [D.int (d1 - 1), D.int (d2 - 1), .int (d3 - 1000000)] d4 = some (.int x) := by
    obtain ⟨m, rfl⟩ : ∃ m : Nat, d4 = m := ⟨d4.toNat, by omega⟩
    rw [atI_nat]
    have hm : m = 0 ∨ m = 1 ∨ m = 2 := by omega
    rcases hm with rfl | rfl | rfl <;> exact ⟨_, rfl⟩
  obtain ⟨x, e⟩ := e
  rw [sub_lst (g4.at new_at (new_ne c3)), e]
  have g := (((g1.trans g2).trans g3).trans Grow.app).trans g4
  simp [-List.append_assoc, -List.length_append]
  unfold Gp.law_drawn_2t_1B
  refine wp_ss ?_
  rw [s_asg]
  simp only [v_bin, v_lst, es_cons2, es_nil, v_tup, v_str, v_var, wp_bind, wp_ok, List.getElem?_cons_zero, List.getElem?_cons_succ, Option.bind_some, id_eq, optR_some]
  have z : ∀ {a b : Nat}, a ≤ 3000 → b ≤ 3000 → a + b ≤ sizeLine := fun h1 h2 => by
    rw [sizeLine_eq]
    omega
  refine tail_lc (ns := ns) rfl (by simp) (by decide) (pre_at (pre_self _ _) (g.at hn en)) ln fun r1 l1 S5 p5 _ m1 n1 h5 => ?_
  rw [add_lst (pre_at p5 new_at) h5, if_pos (z (by simp) (by simp; omega))]
  simp only [wp_ok]
  have p6 := p5.trans (pre_self S5 [O.lst ([D.tup [D.str "num", D.int x]] ++ l1.map fun x => .tup [.str "name", .str x])])
  refine tail_lc (ns := ls) rfl (by simp) (by decide) (pre_at ((pre_self _ _).trans p6) (g.at hl el)) ll fun r2 l2 S6 p7 _ m2 n2 h6 => ?_
  rw [add_lst (pre_at p7 new_at) h6, if_pos (z (by simp; omega) (by simp; omega))]
  simp only [wp_ok]
  have p8 := ((pre_self S4 _).trans p6).trans (p7.trans (pre_self S6 [O.lst ([D.tup [D.str "num", D.int x]] ++ (l1.map fun x => .tup [.str "name", .str x]) ++ l2.map fun x => .tup [.str "force", .str x])]))
  have h7 := new_at (S := S6) (o := O.lst ([D.tup [D.str "num", D.int x]] ++ (l1.map fun x => .tup [.str "name", .str x]) ++ l2.map fun x => .tup [.str "force", .str x]))
  have c5 := c4.pre p8
  have g5 := g.trans (.of p8)
  have ne : S6.length ≠ ic := Nat.ne_of_gt (Nat.lt_of_lt_of_le c4.lt (pre_len (((pre_self S4 _).trans p6).trans p7)))
  have ew : ([D.tup [D.str "num", D.int x]] ++ (l1.map fun x => .tup [.str "name", .str x]) ++ l2.map fun x => .tup [.str "force", .str x]) = ([Pl.num x] ++ l1.map Pl.name ++ l2.map Pl.force).map Pl.d := by
    simp only [List.map_append, List.map_map]
    rfl
  rw [ew] at h7 c5 g5 ⊢
  have hw : ∀ e ∈ [Pl.num x] ++ l1.map Pl.name ++ l2.map Pl.force, leafy ns ls e := fun e he => by
    simp only [List.mem_append, List.mem_map, List.mem_singleton] at he
    rcases he with (rfl | ⟨y, hy, rfl⟩) | ⟨y, hy, rfl⟩
    · exact .inl ⟨_, rfl⟩
    · exact .inr (.inl ⟨y, m1 y hy, rfl⟩)
    · exact .inr (.inr ⟨y, m2 y hy, rfl⟩)
  have lw : 1 ≤ ([Pl.num x] ++ l1.map Pl.name ++ l2.map Pl.force).length ∧ ([Pl.num x] ++ l1.map Pl.name ++ l2.map Pl.force).length ≤ 3000 := by
    simp
    omega
  generalize [Pl.num x] ++ l1.map Pl.name ++ l2.map Pl.force = W at *
  generalize hS7 : S6 ++ [O.lst (W.map Pl.d)] = S7 at *
  simp [-List.append_assoc, -List.length_append]
  unfold Gp.law_drawn_2t_2B
  refine ret_wp ?_
  simp [len_lst h7, -List.append_assoc, -List.length_append]
  refine take_call G.toDrawn c5 (by omega) (by omega) fun d5 S8 a5 b5 c6 g6 => ?_
  rw [sub_lst (g6.at h7 ne)]
  obtain ⟨m, rfl⟩ : ∃ m : Nat, d5 = m := ⟨d5.toNat, by omega⟩
  have hm : m < W.length := by omega
  rw [atI_nat, List.getElem?_map, List.getElem?_eq_getElem hm]
  exact q _ _ (hw _ (List.getElem_mem hm)) c6 (g5.trans g6)
end
end Mi
set_option Elab.async false
set_option linter.all false
set_option maxRecDepth 100000
set_option maxHeartbeats 4000000
/-! M69: drawn rows, and what is not asked. -/
namespace Mi
open PySem L2
theorem Gs.other {S : Sto} {ic is r : Nat} {xs : List Int} {bud : Int} {nm : D} {o : O} (h : Gs S ic is xs bud nm) (h1 : r ≠ ic) (h2 : r ≠ is) : Gs (S.set r o) ic is xs bud nm := by
  obtain ⟨q, a, c, h⟩ := h
  exact ⟨q, a, c, by rw [List.getElem?_set_ne h1]; exact h.c, by rw [List.getElem?_set_ne h2]; exact h.s, h.pos0, h.ne⟩
theorem Grow.far {S S' : Sto} {ic r : Nat} {o : O} (g : Grow ic S S') (h : S.length ≤ r) : Grow ic S (S'.set r o) := by
  obtain ⟨a, b⟩ := g
  refine ⟨by simpa using a, fun i h1 h2 => ?_⟩
  rw [List.getElem?_set_ne (by omega)]
  exact b i h1 h2
/-- names that are drawn -/
def NMg (x : Str) : Prop := x ∈ strsS ∨ x = "never"
section
variable {P : Pr} {k n : Nat} {ic is jn jl : Nat} {xs : List Int} {S : Sto} {c : Int} {d : Nat} {nm : D} {ns ls : List Str}
/-- so deep, the drawing keeps its promise -/
def PE (P : Pr) (ic is : Nat) (xs : List Int) (nm : D) (k n : Nat) : Prop := ∀ (S : Sto) (ns ls : List Str) (c : Int) (d jn jl : Nat) (Q : D → Sto → Prop), Gs S ic is xs c nm → S[jn]? = some (.lst (ns.map .str)) → S[jl]? = some (.lst (ls.map .str)) → jn ≠ ic → jl ≠ ic → d ≤ n → ns.length + n ≤ 1000 → ls.length + n ≤ 1000 →
  (∀ e c' S', Gs S' ic is xs c' nm → Grow ic S S' → e.nms NMg → Dn ns ls c c' d e → Q e.d S') → Wp ((cxt P k).call "_law_drawn" [.ref ic, .ref jn, .ref jl, .int (d : Int)] S) Q
theorem ub_fr {d : Int} (h0 : 0 ≤ d) (h1 : d < 4) : ∃ f : Pl, (f.nms NMg ∧ f.sz ≤ 3) ∧ atI ([D.tup [.str "name", .str "free"], .tup [.str "force", .str "free"], .tup [.str "sum", .int 0, .tup [.str "name", .str "free"], .tup [.str "num", .int 1]], .tup [.str "fn", .int 1, .str "x", .tup [.str "force", .str "free"]]] : List D) d = some f.d := by
  obtain ⟨m, rfl⟩ : ∃ m : Nat, d = m := ⟨d.toNat, by omega⟩
  rw [atI_nat]
  have hm : m = 0 ∨ m = 1 ∨ m = 2 ∨ m = 3 := by omega
  rcases hm with rfl | rfl | rfl | rfl
  · exact ⟨.name "free", ⟨trivial, by decide⟩, rfl⟩
  · exact ⟨.force "free", ⟨trivial, by decide⟩, rfl⟩
  · exact ⟨.sum 0 (.name "free") (.num 1), ⟨⟨trivial, trivial⟩, by decide⟩, rfl⟩
  · exact ⟨.fn 1 "x" (.force "free"), ⟨⟨.inl (by simp [strsS]), trivial⟩, by decide⟩, rfl⟩
theorem unasked_ok {Q : D → Sto → Prop} (G : GenP P) (E : PE P ic is xs nm (k + 2) n) (h : Gs S ic is xs (c - 1) nm) (hn : S[jn]? = some (.lst (ns.map .str))) (hl : S[jl]? = some (.lst (ls.map .str))) (en : jn ≠ ic) (el : jl ≠ ic) (hd : d ≤ n) (ln : ns.length + n ≤ 1000) (ll : ls.length + n ≤ 1000) (hc : 2 ≤ c)
    (q : ∀ e c' S', Gs S' ic is xs c' nm → Grow ic S S' → e.nms NMg → Dn ns ls c c' (d + 1) e → Q e.d S') : Wp ((cxt P (k + 3)).call "_law_unasked" [.ref ic, .ref jn, .ref jl, .int (d : Int)] S) Q := by
  rw [call_fn G.unasked, run_fn2 rfl, wp_bind]
  show Wp (evSs (cxt P (k + 2)) Gp.law_unaskedB [some (.ref ic), some (.ref jn), some (.ref jl), some (.int (d : Int)), none, none] S) _
  unfold Gp.law_unaskedB
  refine wp_ss ?_
  simp [-List.append_assoc, -List.length_append]
  refine take_call G.toDrawn h.app (by omega) (by omega) fun d1 S1 a1 b1 c1 g1 => ?_
  obtain ⟨f, ⟨hf, sf⟩, e1⟩ := ub_fr a1 b1
  rw [sub_lst (g1.at new_at (new_ne h))]
  refine Wp.of (congrArg (optR · S1) e1) ?_
  have g := Grow.app.trans g1
  try simp
  unfold Gp.law_unasked_1B
  refine wp_ss ?_
  simp
  refine E S1 ns ls (c - 1) d jn jl _ c1 (g.at hn en) (g.at hl el) en el hd ln ll fun e c' S2 c2 g2 n2 dn2 => ?_
  have g := g.trans g2
  try simp
  unfold Gp.law_unasked_2B
  refine wp_ss ?_
  simp
  refine take_call G.toDrawn c2 (by omega) (by omega) fun d3 S3 a3 b3 c3 g3 => ?_
  simp
  refine wp_ifp (fun _ => ?_) fun _ => ?_
  · unfold Gp.law_unasked_2tB
    refine ret_wp ?_
    simp
    exact q (.delay "never" f e) c' S3 c3 (g.trans g3) ⟨.inr rfl, hf, n2⟩ (dn_idle sf hc dn2)
  · try simp
    unfold Gp.law_unasked_3B
    refine wp_ss ?_
    simp
    refine take_call G.toDrawn c3 (by omega) (by omega) fun d4 S4 a4 b4 c4 g4 => ?_
    have g := (g.trans g3).trans g4
    simp
    refine wp_ifp (fun _ => ?_) fun _ => ?_
    · unfold Gp.law_unasked_3tB
      refine ret_wp ?_
      simp
      refine take_call G.toDrawn c4 (by omega) (by omega) fun d5 S5 a5 b5 c5 g5 => ?_
      simp
      exact q (.ite 0 (.num (1 + d5)) e f) c' S5 c5 (g.trans g5) ⟨trivial, n2, hf⟩ (dn_yes sf (by omega) hc dn2)
    · try simp
      unfold Gp.law_unasked_4B
      refine ret_wp ?_
      simp
      exact q (.switch still (.cons 7 f (.cons 3 f .nil)) e) c' S4 c4 g ⟨by show 0 + 1 + 1 ≤ _; omega, ⟨hf, hf, trivial⟩, n2⟩ (dn_rest sf ⟨by omega, by omega, trivial⟩ hc dn2)
end
end Mi
set_option Elab.async false
set_option linter.all false
set_option maxRecDepth 100000
set_option maxHeartbeats 4000000
/-! M70: drawn rows. -/
namespace Mi
open PySem L2
section
variable {P : Pr} {k n : Nat} {ic is jn jl : Nat} {xs : List Int} {S : Sto} {c : Int} {d : Nat} {nm : D} {ns ls : List Str}
def rowD (p : Int × Pl) : D := .tup [.int p.1, p.2.d]
theorem rows_ds (l : List (Int × Pl)) : (Br.of l).ds = l.map rowD := of_ds l
/-- the loop over the rows -/
def RI (S0 : Sto) (ic is jn jl : Nat) (xs : List Int) (nm : D) (ns ls : List Str) (c : Int) (d r : Nat) (i : Nat) (e : En) (S : Sto) : Prop := ∃ (l : List (Int × Pl)) (c1 num : Int) (v6 : Option D), e = [some (.ref ic), some (.ref jn), some (.ref jl), some (.int (d : Int)), some (.int num), some (.ref r), v6] ∧ S[r]? = some (.lst (l.map rowD)) ∧ Gs S ic is xs c1 nm ∧ Grow ic S0 S ∧ Rn ns ls c c1 d l ∧ l.length = i ∧ ∀ x ∈ l, x.2.nms NMg
theorem ub_cnt {d : Int} (h0 : 0 ≤ d) (h1 : d < 6) : ∃ m : Nat, m ≤ 6 ∧ atI ([D.int 0, .int 1, .int 2, .int 2, .int 3, .int 6] : List D) d = some (.int (m : Int)) := by
  obtain ⟨m, rfl⟩ : ∃ m : Nat, d = m := ⟨d.toNat, by omega⟩
  rw [atI_nat]
  have hm : m = 0 ∨ m = 1 ∨ m = 2 ∨ m = 3 ∨ m = 4 ∨ m = 5 := by omega
  rcases hm with rfl | rfl | rfl | rfl | rfl | rfl
  · exact ⟨0, by omega, rfl⟩
  · exact ⟨1, by omega, rfl⟩
  · exact ⟨2, by omega, rfl⟩
  · exact ⟨2, by omega, rfl⟩
  · exact ⟨3, by omega, rfl⟩
  · exact ⟨6, by omega, rfl⟩
theorem rows_ok {Q : D → Sto → Prop} (G : GenP P) (E : PE P ic is xs nm (k + 2) n) (h : Gs S ic is xs c nm) (hn : S[jn]? = some (.lst (ns.map .str))) (hl : S[jl]? = some (.lst (ls.map .str))) (en : jn ≠ ic) (el : jl ≠ ic) (hd : d ≤ n) (ln : ns.length + n ≤ 1000) (ll : ls.length + n ≤ 1000) (hc : 1 ≤ c)
    (q : ∀ l c' S', Gs S' ic is xs c' nm → Grow ic S S' → (∀ x ∈ l, x.2.nms NMg) → l.length ≤ 6 → Rn ns ls c c' d l → Q (.tup (Br.of l).ds) S') : Wp ((cxt P (k + 3)).call "_law_rows" [.ref ic, .ref jn, .ref jl, .int (d : Int)] S) Q := by
  rw [call_fn G.rows, run_fn2 rfl, wp_bind]
  show Wp (evSs (cxt P (k + 2)) Gp.law_rowsB [some (.ref ic), some (.ref jn), some (.ref jl), some (.int (d : Int)), none, none, none] S) _
  unfold Gp.law_rowsB
  refine wp_ss ?_
  simp
  refine take_call G.toDrawn h (by omega) (by omega) fun d1 S1 a1 b1 c1 g1 => ?_
  simp
  unfold Gp.law_rows_1B
  refine wp_ss ?_
  simp
  unfold Gp.law_rows_2B
  refine wp_ss ?_
  simp [-List.append_assoc, -List.length_append]
  have c2 := c1.app (o := .lst [])
  refine take_call G.toDrawn c2.app (by omega) (by omega) fun d2 S2 a2 b2 c3 g2 => ?_
  obtain ⟨m, hm, e1⟩ := ub_cnt a2 b2
  rw [sub_lst (g2.at new_at (new_ne c2))]
  refine Wp.of (congrArg (optR · S2) e1) ?_
  have g := (g1.trans Grow.app).trans (Grow.app.trans g2)
  have r1 : S1.length ≠ ic := Nat.ne_of_gt c1.lt
  have hr : S2[S1.length]? = some (.lst []) := (Grow.app.trans g2).at new_at r1
  have r2 : S1.length ≠ is := fun e => by
    obtain ⟨_, _, _, h⟩ := c1
    have := lt_of h.s
    omega
  have r3 : S.length ≤ S1.length := g1.len
  generalize S1.length = r at *
  rw [rngItS (by omega) (by omega)]
  simp only [wp_ok]
  refine wp_for (it := ⟨rngL 0 (Int.toNat (m : Int)), none⟩) (RI S ic is jn jl xs nm ns ls c d r) (fun _ _ _ _ => rfl) ?_ ?_ ⟨[], c, 1 + d1, none, rfl, hr, c3, g, rn_nil hc, rfl, fun x hx => by cases hx⟩
  · rintro i x e S3 hx ⟨l, c4, num, v6, rfl, h3, c5, g3, rn, hl2, hnm⟩
    obtain ⟨hi, rfl⟩ := rng_at hx
    refine ⟨_, rfl, ?_⟩
    unfold Gp.law_rows_2bB
    refine wp_ss ?_
    simp [pre_lst2 h3 (.inl rfl)]
    refine E S3 ns ls c4 d jn jl _ c5 (g3.at hn en) (g3.at hl el) en el hd ln ll fun e c6 S4 c7 g4 n4 dn4 => ?_
    have h4 := g4.at h3 r1
    try simp
    rw [append_lst h4 (by rw [List.length_map, sizeLine_eq]; omega)]
    simp
    unfold Gp.law_rows_2b_1B
    refine wp_ss ?_
    have c8 := c7.other (o := .lst (l.map rowD ++ [rowD (num, e)])) r1 r2
    have g8 := (g3.trans g4).far (o := .lst (l.map rowD ++ [rowD (num, e)])) r3
    have h8 : (S4.set r (.lst (l.map rowD ++ [rowD (num, e)])))[r]? = some (.lst (l.map rowD ++ [rowD (num, e)])) := by rw [List.getElem?_set_self (lt_of h4)]
    show Wp (evS _ _ _ (S4.set r (.lst (l.map rowD ++ [rowD (num, e)])))) _
    generalize S4.set r (.lst (l.map rowD ++ [rowD (num, e)])) = S5 at c8 g8 h8 ⊢
    simp
    refine take_call G.toDrawn c8 (by omega) (by omega) fun d5 S6 a5 b5 c9 g9 => ?_
    simp
    refine ⟨l ++ [(num, e)], c6, _, _, rfl, ?_, c9, g8.trans g9, rn_snoc hc rn dn4, by simp [hl2], fun x hx => ?_⟩
    · rw [g9.at h8 r1, List.map_append]
      rfl
    · rcases List.mem_append.mp hx with w | w
      · exact hnm x w
      · rcases List.mem_singleton.mp w with rfl
        exact n4
  · rintro e S3 ⟨l, c4, num, v6, rfl, h3, c5, g3, rn, hl2, hnm⟩
    have hl3 : l.length ≤ 6 := by
      rw [hl2, rng_len]
      omega
    simp
    unfold Gp.law_rows_3B
    refine wp_ss ?_
    simp
    refine take_call G.toDrawn c5 (by omega) (by omega) fun d5 S6 a5 b5 c9 g9 => ?_
    have h6 := g9.at h3 r1
    have g6 := g3.trans g9
    have fin : ∀ {S7 : Sto} {r' : Nat} {l' : List (Int × Pl)}, S7[r']? = some (.lst (l'.map rowD)) → Gs S7 ic is xs c4 nm → Grow ic S S7 → (∀ x ∈ l', x ∈ l) → l'.length ≤ 6 → Wp (evSs (cxt P (k + 2)) Gp.law_rows_4B [some (.ref ic), some (.ref jn), some (.ref jl), some (.int (d : Int)), some (.int num), some (.ref r'), v6] S7) fun o S => Wp (outV o S) Q := fun {S7 r' l'} h7 c7 g7 hm hl' => by
      unfold Gp.law_rows_4B
      refine ret_wp ?_
      have f3 : itemsD S7 (.ref r') = some (l'.map rowD) := by
        show (match S7[r']? with | some (.lst xs) => some xs | _ => none) = _
        rw [h7]
      simp [bfD, f3]
      rw [← rows_ds]
      exact q l' c4 S7 c7 g7 (fun x hx => hnm x (hm x hx)) hl' (rn_rev hm rn)
    simp
    refine wp_ifp (fun _ => ?_) fun _ => ?_
    · unfold Gp.law_rows_3tB
      refine wp_ss ?_
      have e3 : revD (.ref r) S6 = .ok (.ref S6.length) (S6 ++ [.lst (l.map rowD).reverse]) := by
        show (match S6[r]? with | some (.lst xs) => R.ok (D.ref S6.length) (S6 ++ [O.lst xs.reverse]) | _ => R.bad) = _
        rw [h6]
      simp [e3, -List.append_assoc, -List.length_append]
      refine fin (l' := l.reverse) ?_ c9.app (g6.trans .app) (fun x hx => List.mem_reverse.mp hx) (by simpa using hl3)
      rw [List.map_reverse]
      exact new_at
    · try simp
      exact fin h6 c9 g6 (fun _ h => h) hl3
end
end Mi
set_option Elab.async false
set_option linter.all false
set_option maxRecDepth 100000
set_option maxHeartbeats 4000000
/-! M71: the drawing of a plain program. -/
namespace Mi
open PySem L2
section
variable {P : Pr} {k n : Nat} {ic is jn jl : Nat} {xs : List Int} {S : Sto} {c : Int} {d : Nat} {nm : D} {ns ls : List Str}
theorem gs_bud (h : Gs S ic is xs c nm) : (∀ cds, subD cds (.ref ic) (.int 4) S = .ok (.int c) S) ∧ ∀ b', ∃ S', setD (.ref ic) (.int 4) (.int b') S = .ok () S' ∧ Gs S' ic is xs b' nm ∧ Grow ic S S' := by
  obtain ⟨p, a, t, h⟩ := h
  refine ⟨fun cds => ?_, fun b' => ⟨_, h.put4 _, ⟨p, a, t, h.set h.pos0⟩, .set⟩⟩
  rw [sub_lst h.c]
  rfl
theorem cat_str {j : Nat} {x : Str} (hj : S[j]? = some (.lst (ns.map .str))) (hl : ns.length ≤ 1000) : binD .Add (.ref j) (.ref S.length) (S ++ [.lst [.str x]]) = .ok (.ref (S ++ [O.lst [.str x]]).length) (S ++ [.lst [.str x]] ++ [.lst ((ns ++ [x]).map .str)]) := by
  rw [add_lst (pre_at (pre_self S _) hj) new_at, if_pos (by rw [List.length_map, sizeLine_eq]; simp; omega)]
  simp
theorem ub_sw {a b d : Int} (ha : 0 ≤ a) (ha2 : a < 3) (hb : 0 ≤ b) (hb2 : b < 2) (h : d = 0 ∨ d = 1) : ∃ s : Int, swn s ∧ atI ([D.int (a * 9 + b), .int 1000000007] : List D) d = some (.int s) := by
  rcases h with rfl | rfl
  · exact ⟨_, .inl ⟨by omega, by omega⟩, rfl⟩
  · exact ⟨_, .inr rfl, rfl⟩
theorem ub_num {a b z d : Int} (h0 : 0 ≤ d) (h1 : d < 3) : ∃ m : Int, atI ([D.int a, .int b, .int z] : List D) d = some (.int m) := by
  obtain ⟨m, rfl⟩ : ∃ m : Nat, d = m := ⟨d.toNat, by omega⟩
  rw [atI_nat]
  have hm : m = 0 ∨ m = 1 ∨ m = 2 := by omega
  rcases hm with rfl | rfl | rfl <;> exact ⟨_, rfl⟩
theorem strs_ne {x : Str} (h : x ∈ strsS) : x ≠ "never" := by
  rintro rfl
  exact absurd h (by decide +kernel)
theorem dn_leafy {e : Pl} (h : leafy ns ls e) : Dn ns ls c (c - 1) d e := by
  rcases h with ⟨i, rfl⟩ | ⟨x, hx, rfl⟩ | ⟨x, hx, rfl⟩
  · exact dn_num
  · exact dn_name hx
  · exact dn_force hx
theorem nms_leafy {e : Pl} (h : leafy ns ls e) : e.nms NMg := by
  rcases h with ⟨i, rfl⟩ | ⟨x, hx, rfl⟩ | ⟨x, hx, rfl⟩ <;> trivial
theorem drawn_more {dd kk : Int} {Q : D → Sto → Prop} (G : GenP P) (E3 : PE P ic is xs nm (k + 3) n) (E2 : PE P ic is xs nm (k + 2) n) (hc : 2 ≤ c) (k0 : 0 ≤ kk) (k1 : kk < 19) (k2 : 2 ≤ kk) (hdd : dd - 1 = (d : Int)) (h : Gs S ic is xs (c - 1) nm) (hn : S[jn]? = some (.lst (ns.map .str))) (hl : S[jl]? = some (.lst (ls.map .str))) (en : jn ≠ ic) (el : jl ≠ ic) (hd : d ≤ n) (ln : ns.length + n + 1 ≤ 1000) (ll : ls.length + n + 1 ≤ 1000)
    (q : ∀ e c' S', Gs S' ic is xs c' nm → Grow ic S S' → e.nms NMg → Dn ns ls c c' (d + 1) e → Q e.d S') :
    Wp (evSs (cxt P (k + 3)) Gp.law_drawn_3B [some (.ref ic), some (.ref jn), some (.ref jl), some (.int dd), some (.int kk), none, none, none, none, none, none, none, none] S) fun o S => Wp (outV o S) Q := by
  have r0 : ∀ {S1 : Sto} {c1 : Int}, Gs S1 ic is xs c1 nm → Grow ic S S1 → ∀ {Q' : D → Sto → Prop}, (∀ e c' S', Gs S' ic is xs c' nm → Grow ic S S' → e.nms NMg → Dn ns ls c1 c' d e → Q' e.d S') → Wp ((cxt P (k + 3)).call "_law_drawn" [.ref ic, .ref jn, .ref jl, .int (dd - 1)] S1) Q' := fun {S1 c1} h1 g1 {Q'} q' => by
    rw [hdd]
    exact E3 S1 ns ls c1 d jn jl Q' h1 (g1.at hn en) (g1.at hl el) en el hd (by omega) (by omega) fun e c' S' h2 h3 h4 h5 => q' e c' S' h2 (g1.trans h3) h4 h5
  have rn : ∀ {S1 : Sto} {c1 : Int} {x : Str}, Gs S1 ic is xs c1 nm → Grow ic S S1 → ∀ {Q' : D → Sto → Prop}, (∀ e c' S', Gs S' ic is xs c' nm → Grow ic S S' → e.nms NMg → Dn (ns ++ [x]) ls c1 c' d e → Q' e.d S') → Wp ((binD .Add (.ref jn) (.ref S1.length) (S1 ++ [.lst [.str x]])).bind fun a s => (cxt P (k + 3)).call "_law_drawn" [.ref ic, a, .ref jl, .int (dd - 1)] s) Q' := fun {S1 c1 x} h1 g1 {Q'} q' => by
    have h2 := (h1.app (o := .lst [.str x])).app (o := .lst ((ns ++ [x]).map .str))
    have g2 := (g1.trans (Grow.app (o := .lst [.str x]))).trans (Grow.app (o := .lst ((ns ++ [x]).map .str)))
    rw [cat_str (g1.at hn en) (by omega), hdd]
    exact E3 _ (ns ++ [x]) ls c1 d _ jl Q' h2 new_at (g2.at hl el) (new_ne h1.app) el hd (by simp; omega) (by omega) fun e c' S' h2 h3 h4 h5 => q' e c' S' h2 (g2.trans h3) h4 h5
  have rl : ∀ {S1 : Sto} {c1 : Int} {x : Str}, Gs S1 ic is xs c1 nm → Grow ic S S1 → ∀ {Q' : D → Sto → Prop}, (∀ e c' S', Gs S' ic is xs c' nm → Grow ic S S' → e.nms NMg → Dn ns (ls ++ [x]) c1 c' d e → Q' e.d S') → Wp ((binD .Add (.ref jl) (.ref S1.length) (S1 ++ [.lst [.str x]])).bind fun a s => (cxt P (k + 3)).call "_law_drawn" [.ref ic, .ref jn, a, .int (dd - 1)] s) Q' := fun {S1 c1 x} h1 g1 {Q'} q' => by
    have h2 := (h1.app (o := .lst [.str x])).app (o := .lst ((ls ++ [x]).map .str))
    have g2 := (g1.trans (Grow.app (o := .lst [.str x]))).trans (Grow.app (o := .lst ((ls ++ [x]).map .str)))
    rw [cat_str (g1.at hl el) (by omega), hdd]
    exact E3 _ ns (ls ++ [x]) c1 d jn _ Q' h2 (g2.at hn en) new_at en (new_ne h1.app) hd (by omega) (by simp; omega) fun e c' S' h2 h3 h4 h5 => q' e c' S' h2 (g2.trans h3) h4 h5
  unfold Gp.law_drawn_3B
  refine wp_ss ?_
  simp
  refine rank_ok (k := k) G h fun lv S1 c1 g1 => ?_
  try simp
  unfold Gp.law_drawn_4B
  refine wp_ss ?_
  simp
  refine string_ok (k := k) G c1 fun x S2 hx c2 g2 => ?_
  have g := g1.trans g2
  have nx : NMg x := .inl hx
  try simp
  clear c1 g1 g2 h
  unfold Gp.law_drawn_5B
  refine wp_ss ?_
  by_cases e2 : kk = 2
  · simp [e2]
    unfold Gp.law_drawn_5tB
    refine ret_wp ?_
    simp [-List.append_assoc, -List.length_append]
    rw [← wp_bind]
    refine rn c2 g fun a c3 S3 h3 g3 n3 d3 => ?_
    try simp
    refine r0 h3 g3 fun b c4 S4 h4 g4 n4 d4 => ?_
    try simp
    exact q (.call lv (.fn lv x a) b) c4 S4 h4 g4 ⟨⟨nx, n3⟩, n4⟩ (dn_here hc d3 d4)
  simp [e2]
  unfold Gp.law_drawn_6B
  refine wp_ss ?_
  by_cases e5 : kk < 5
  · simp [e5]
    unfold Gp.law_drawn_6tB
    refine wp_ss ?_
    simp
    refine r0 c2 g fun a c3 S3 h3 g3 n3 d3 => ?_
    try simp
    unfold Gp.law_drawn_6t_1B
    refine ret_wp ?_
    simp [-List.append_assoc, -List.length_append]
    have hk : kk = 3 ∨ kk = 4 := by omega
    rcases hk with rfl | rfl
    · rw [sub_lst new_at]
      simp [-List.append_assoc, -List.length_append, show atI [D.str "call", D.str "sum", D.str "less"] (3 - 2) = some (D.str "sum") from rfl]
      refine r0 h3.app (g3.trans .app) fun b c4 S4 h4 g4 n4 d4 => ?_
      try simp
      exact q (.sum lv a b) c4 S4 h4 g4 ⟨n3, n4⟩ (dn_sum hc d3 d4)
    · rw [sub_lst new_at]
      simp [-List.append_assoc, -List.length_append, show atI [D.str "call", D.str "sum", D.str "less"] (4 - 2) = some (D.str "less") from rfl]
      refine r0 h3.app (g3.trans .app) fun b c4 S4 h4 g4 n4 d4 => ?_
      try simp
      exact q (.less lv a b) c4 S4 h4 g4 ⟨n3, n4⟩ (dn_less hc d3 d4)
  simp [e5]
  unfold Gp.law_drawn_7B
  refine wp_ss ?_
  by_cases e6 : kk = 5
  · simp [e6]
    unfold Gp.law_drawn_7tB
    refine ret_wp ?_
    simp [-List.append_assoc, -List.length_append]
    rw [← wp_bind]
    refine rn c2 g fun a c3 S3 h3 g3 n3 d3 => ?_
    try simp
    exact q (.fn lv x a) c3 S3 h3 g3 ⟨nx, n3⟩ (dn_fn hc d3)
  simp [e6]
  unfold Gp.law_drawn_8B
  refine wp_ss ?_
  by_cases e7 : kk = 6
  · simp [e7]
    unfold Gp.law_drawn_8tB
    refine wp_ss ?_
    simp
    refine r0 c2 g fun a c3 S3 h3 g3 n3 d3 => ?_
    try simp
    unfold Gp.law_drawn_8t_1B
    refine wp_ss ?_
    simp
    refine r0 h3 g3 fun b c4 S4 h4 g4 n4 d4 => ?_
    try simp
    unfold Gp.law_drawn_8t_2B
    refine ret_wp ?_
    simp
    refine r0 h4 g4 fun z c5 S5 h5 g5 n5 d5 => ?_
    try simp
    exact q (.ite lv a b z) c5 S5 h5 g5 ⟨n3, n4, n5⟩ (dn_ite hc d3 d4 d5)
  simp [e7]
  unfold Gp.law_drawn_9B
  refine wp_ss ?_
  by_cases e9 : kk < 9
  · simp [e9]
    unfold Gp.law_drawn_9tB
    refine ret_wp ?_
    simp [-List.append_assoc, -List.length_append]
    refine r0 c2 g fun a c3 S3 h3 g3 n3 d3 => ?_
    try simp [-List.append_assoc, -List.length_append]
    rw [← wp_bind]
    refine rn h3 g3 fun b c4 S4 h4 g4 n4 d4 => ?_
    try simp
    exact q (.let_ x a b) c4 S4 h4 g4 ⟨nx, n3, n4⟩ (dn_let hc d3 d4)
  simp [e9]
  unfold Gp.law_drawn_10B
  refine wp_ss ?_
  by_cases e10 : kk = 9
  · simp [e10]
    unfold Gp.law_drawn_10tB
    refine ret_wp ?_
    simp
    refine r0 c2 g fun a c3 S3 h3 g3 n3 d3 => ?_
    try simp
    exact q (.say lv a) c3 S3 h3 g3 n3 (dn_say hc d3)
  simp [e10]
  unfold Gp.law_drawn_11B
  refine wp_ss ?_
  by_cases e11 : kk < 12
  · simp [e11]
    unfold Gp.law_drawn_11tB
    refine ret_wp ?_
    simp [-List.append_assoc, -List.length_append]
    refine r0 c2 g fun a c3 S3 h3 g3 n3 d3 => ?_
    try simp [-List.append_assoc, -List.length_append]
    rw [← wp_bind]
    refine rl h3 g3 fun b c4 S4 h4 g4 n4 d4 => ?_
    try simp
    exact q (.delay x a b) c4 S4 h4 g4 ⟨nx, n3, n4⟩ (dn_delay (strs_ne hx) hc d3 d4)
  simp [e11]
  unfold Gp.law_drawn_12B
  refine wp_ss ?_
  by_cases e12 : kk = 12
  · simp [e12]
    unfold Gp.law_drawn_12tB
    refine ret_wp ?_
    simp
    refine r0 c2 g fun a c3 S3 h3 g3 n3 d3 => ?_
    try simp
    exact q (.tick a) c3 S3 h3 g3 n3 (dn_tick hc d3)
  simp [e12]
  unfold Gp.law_drawn_13B
  refine wp_ss ?_
  by_cases e13 : kk = 18
  · simp [e13]
    unfold Gp.law_drawn_13tB
    refine ret_wp ?_
    simp
    rw [hdd]
    refine unasked_ok (k := k) G E2 c2 (g.at hn en) (g.at hl el) en el hd (by omega) (by omega) hc fun e c3 S3 h3 g3 n3 d3 => ?_
    try simp
    exact q e c3 S3 h3 (g.trans g3) n3 d3
  simp [e13]
  unfold Gp.law_drawn_14B
  refine wp_ss ?_
  simp [-List.append_assoc, -List.length_append]
  refine take_call G.toDrawn c2 (by omega) (by omega) fun t1 S3 a3 b3 c3 g3 => ?_
  have em : CMul t1 9 := cmul_r (by decide) (by decide)
  simp [mul_int em, -List.append_assoc, -List.length_append]
  refine take_call G.toDrawn c3 (by omega) (by omega) fun t2 S4 a4 b4 c4 g4 => ?_
  have ep : CPow 10 9 := ⟨by decide, by decide, by decide⟩
  simp [pow_int ep, -List.append_assoc, -List.length_append]
  refine take_call G.toDrawn c4.app (by omega) (by omega) fun t3 S5 a5 b5 c5 g5 => ?_
  have g := (((g.trans g3).trans g4).trans Grow.app).trans g5
  have hS := g5.at new_at (new_ne c4)
  generalize S4.length = r4 at hS ⊢
  clear g3 g4 g5 c2 c3 c4
  obtain ⟨s, hs, es⟩ : ∃ s : Int, swn s ∧ ∀ cds, subD cds (.ref r4) (.int (if t3 = 0 then 1 else 0)) S5 = .ok (.int s) S5 := by
    obtain ⟨s, hs, es⟩ := ub_sw (d := if t3 = 0 then 1 else 0) a3 b3 a4 b4 (by by_cases e : t3 = 0 <;> simp [e])
    refine ⟨s, hs, fun cds => ?_⟩
    rw [sub_lst hS]
    exact congrArg (optR · S5) es
  simp [es, -List.append_assoc, -List.length_append]
  clear es hS em ep a3 b3 a4 b4 a5 b5
  unfold Gp.law_drawn_15B
  refine wp_ss ?_
  by_cases e15 : kk < 15
  · simp [e15]
    unfold Gp.law_drawn_15tB
    refine wp_ss ?_
    simp
    rw [hdd]
    refine rows_ok (k := k) G E2 c5 (g.at hn en) (g.at hl el) en el hd (by omega) (by omega) (by omega) fun l c6 S6 h6 g6 n6 l6 d6 => ?_
    try simp
    unfold Gp.law_drawn_15t_1B
    refine ret_wp ?_
    simp
    refine r0 h6 (g.trans g6) fun a c7 S7 h7 g7 n7 d7 => ?_
    try simp
    exact q (.switch s (Br.of l) a) c7 S7 h7 g7 ⟨by rw [of_cnt]; omega, of_nms n6, n7⟩ (dn_switch l6 hc d6 d7)
  simp [e15]
  unfold Gp.law_drawn_16B
  refine wp_ss ?_
  simp [-List.append_assoc, -List.length_append]
  refine take_call G.toDrawn c5 (by omega) (by omega) fun t4 S6 _ _ c6 g6 => ?_
  try simp [-List.append_assoc, -List.length_append]
  refine take_call G.toDrawn c6 (by omega) (by omega) fun t5 S7 _ _ c7 g7 => ?_
  have ep : CPow 10 12 := ⟨by decide, by decide, by decide⟩
  simp [pow_int ep, -List.append_assoc, -List.length_append]
  refine take_call G.toDrawn c7.app (by omega) (by omega) fun t6 S8 a8 b8 c8 g8 => ?_
  have g := ((g.trans g6).trans g7).trans (Grow.app.trans g8)
  have hS := g8.at new_at (new_ne c7)
  obtain ⟨m, em⟩ := ub_num (a := t4) (b := t5) (z := 1000000000000) a8 b8
  rw [sub_lst hS]
  refine Wp.of (congrArg (optR · S8) em) ?_
  clear em hS g6 g7 g8 c5 c6 c7
  try simp
  unfold Gp.law_drawn_17B
  refine wp_ss ?_
  by_cases e17 : kk = 15
  · simp [e17]
    unfold Gp.law_drawn_17tB
    refine ret_wp ?_
    simp [-List.append_assoc, -List.length_append]
    rw [← wp_bind]
    refine rn c8 g fun a c9 S9 h9 g9 n9 d9 => ?_
    try simp
    exact q (.let_ x (.put s m) a) c9 S9 h9 g9 ⟨nx, hs, n9⟩ (dn_put hs hc d9)
  simp [e17]
  unfold Gp.law_drawn_18B
  refine ret_wp ?_
  simp
  refine r0 c8 g fun a c9 S9 h9 g9 n9 d9 => ?_
  try simp
  exact q (.set_ s m a) c9 S9 h9 g9 ⟨hs, n9⟩ (dn_set hs hc d9)
theorem drawn_step (G : GenP P) (E : ∀ m, n = m + 1 → PE P ic is xs nm (k + 3) m ∧ PE P ic is xs nm (k + 2) m) : PE P ic is xs nm (k + 4) n := by
  intro S0 ns ls c d jn jl Q h hn hl en el hd ln ll q
  rw [call_fn G.drawn, run_fn2 rfl, wp_bind]
  show Wp (evSs (cxt P (k + 3)) Gp.law_drawnB [some (.ref ic), some (.ref jn), some (.ref jl), some (.int (d : Int)), none, none, none, none, none, none, none, none, none] S0) _
  unfold Gp.law_drawnB
  obtain ⟨e1, e2⟩ := gs_bud h
  obtain ⟨S1, e3, c1, g1⟩ := e2 (c - 1)
  refine wp_ss ?_
  simp [e1, e3]
  unfold Gp.law_drawn_1B
  refine wp_ss ?_
  simp
  refine take_call G.toDrawn c1 (by omega) (by omega) fun kk S2 a2 b2 c2 g2 => ?_
  have g02 := g1.trans g2
  have f1 := (gs_bud c2).1
  try simp
  have lf : Wp (evSs (cxt P (k + 3)) Gp.law_drawn_2tB [some (.ref ic), some (.ref jn), some (.ref jl), some (.int (d : Int)), some (.int kk), none, none, none, none, none, none, none, none] S2) fun o S1 => Wp (goR o (fun e2 S => evSs (cxt P (k + 3)) Gp.law_drawn_3B e2 S) S1) fun o S => Wp (outV o S) Q := by
    refine leafP_ok (k := k + 1) G c2 (g02.at hn en) (g02.at hl el) en el (by omega) (by omega) fun e S3 h1 c3 g3 => ?_
    simp
    exact q e (c - 1) S3 c3 (g02.trans g3) (nms_leafy h1) (dn_leafy h1)
  unfold Gp.law_drawn_2B
  refine wp_ss ?_
  by_cases h1 : (d : Int) < 1
  · simp [h1]
    exact lf
  by_cases h2 : c - 1 < 1
  · simp [h1, f1, h2]
    exact lf
  by_cases h3 : kk < 2
  · simp [h1, f1, h2, h3]
    exact lf
  simp [h1, f1, h2, h3]
  obtain ⟨d', rfl⟩ : ∃ d', d = d' + 1 := ⟨d - 1, by omega⟩
  obtain ⟨m, rfl⟩ : ∃ m, n = m + 1 := ⟨n - 1, by omega⟩
  obtain ⟨E3, E2⟩ := E m rfl
  exact drawn_more G E3 E2 (by omega) a2 b2 (by omega) (show ((d' + 1 : Nat) : Int) - 1 = d' by omega) c2 (g02.at hn en) (g02.at hl el) en el (by omega) (by omega) (by omega) fun e c' S' h1 h2 h3 h4 => q e c' S' h1 (g02.trans h2) h3 h4
theorem drawn_ok (G : GenP P) : ∀ (n k : Nat), 2 * n + 4 ≤ k → PE P ic is xs nm k n
  | 0, k, hk => by
    obtain ⟨m, rfl⟩ : ∃ m, k = m + 4 := ⟨k - 4, by omega⟩
    exact drawn_step G fun m h => by omega
  | n + 1, k, hk => by
    obtain ⟨m, rfl⟩ : ∃ m, k = m + 4 := ⟨k - 4, by omega⟩
    refine drawn_step G fun m' h => ?_
    obtain rfl : n = m' := by omega
    exact ⟨drawn_ok G n _ (by omega), drawn_ok G n _ (by omega)⟩
end
end Mi
set_option Elab.async false
set_option linter.all false
set_option maxRecDepth 100000
set_option maxHeartbeats 4000000
/-! M73: the start of a script. -/
namespace Mi
open PySem L2
def startP : Sms := .cons (.ret (.lst (.cons (.lc (.nm 1) (.seq (.slc (.var 0) .nop (.int 63))) .nop (.bf .int (.cons (.var 1) .nil)) [1]) (.cons (.int 0) (.cons (.int 0) (.cons (.int 0) (.cons (.int 20) (.cons (.lst .nil) .nil)))))))) .nil
theorem slcP_lit {xs : List D} {lo hi : Option Int} {S : Sto} : slcD (.lit xs) lo hi S = .ok (.ref S.length) (S ++ [.lst (cutL xs lo hi)]) := rfl
theorem startP_ok {P : Pr} (hs : P.fns.lookup ("_law_start" : Str) = some ⟨1, 2, startP⟩) {k : Nat} {S : Sto} {Q : D → Sto → Prop} {ns : List Int} (hn : ns.length ≤ 63) (q : ∀ ic is nmr xs S', S <+: S' → S.length ≤ ic → Gs S' ic is xs 20 (.ref nmr) → Q (.ref ic) S') :
    Wp ((cxt P (k + 1)).call "_law_start" [.lit (ns.map .int)] S) Q := by
  rw [call_fn hs, run_fn2 rfl, wp_bind]
  show Wp (evSs (cxt P k) startP [some (.lit (ns.map .int)), none] S) _
  unfold startP
  refine ret_wp ?_
  simp only [v_lst, es_cons2, es_nil, v_lc, i_seq, v_slc, v_var, v_int, evP_nop, evP_int, partR_int, List.getElem?_cons_zero, Option.bind_some, id_eq, optR_some, R.bind_ok, slcP_lit, cutL_map, wp_bind, wp_ok]
  have hl := cutL_le ns none (some 63)
  generalize cutL ns none (some 63) = xs at hl ⊢
  rw [seqIt_lst new_at]
  simp only [wp_ok]
  refine lcP (it := ⟨xs.map D.int, some (S.length, xs.map D.int)⟩) (fun x => x) (by simp [wipeE]) (by simp; omega) (still_lst new_at) (fun x hx S1 K p1 q1 => ?_) fun S1 p1 h1 => ?_
  · obtain ⟨i, _, rfl⟩ := List.mem_map.mp hx
    simp [wipeE]
    exact q1 _ (List.prefix_refl _)
  · simp only [List.map_id'] at h1
    simp [-List.append_assoc, -List.length_append]
    have p2 : S <+: S1 := (pre_self _ _).trans p1
    refine q _ (S ++ [O.lst (xs.map D.int)]).length S1.length xs _ ((p2.trans (pre_self _ _)).trans (pre_self _ _)) (by have := pre_len p2; simp; omega) ⟨0, 0, 0, new_at, ?_, by omega, ?_⟩
    · rw [List.getElem?_append_left (Nat.lt_of_lt_of_le (lt_of h1) (by simp)), List.getElem?_append_left (lt_of h1)]
      exact h1
    · have := lt_of h1
      simp at this ⊢
      omega
end Mi
set_option Elab.async false
set_option linter.all false
set_option maxRecDepth 100000
set_option maxHeartbeats 4000000
/-! M55: a step of the laws' own evaluator. -/
namespace Mi
open PySem L2
section
variable {S S' : Sto} {a o w : Nat} {st : St} {NM : Str → Prop}
theorem StW.new (h : StW S a o w st) : S.length ∉ [a, o, w] := by
  have h1 := lt_of h.fc
  have h2 := lt_of h.fo
  obtain ⟨kvs, q, _⟩ := h.fw
  have h3 := lt_of q
  simp
  omega
theorem wn_look {x : Str} {v : Val} {ns : Ns} {dn : D} {X : List Nat} (h : WN NM S X ns dn) (hv : ns.look x = some v) : ∃ d, (∀ cds, subD cds dn (.str x) S = .ok d S) ∧ Wv NM S X v d := by
  obtain ⟨i, kn, rfl, a1, a2, a3, a4⟩ := h
  obtain ⟨d, h1, h2⟩ := ne_look a4 (by simp) hv
  exact ⟨d, fun cds => sub_dK a2 rfl h1, h2⟩
theorem wd_look {x : Str} {q : Pl × Ns × Ds} {ds : Ds} {dd : D} {X : List Nat} (h : WD NM S X ds dd) (hv : ds.look x = some q) : q.1.nms NM ∧ ∃ dn' dd', (∀ cds, subD cds dd (.str x) S = .ok (.tup [q.1.d, dn', dd']) S) ∧ WN NM S X q.2.1 dn' ∧ WD NM S X q.2.2 dd' := by
  obtain ⟨i, kn, rfl, a1, a2, a3, a4⟩ := h
  obtain ⟨h0, dn', dd', h1, h2, h3⟩ := de_look a4 (by simp) hv
  exact ⟨h0, dn', dd', fun cds => sub_dK a2 rfl h1, h2, h3⟩
theorem Wv.sh_isi {X : List Nat} {v : Val} {d : D} (h : Wv NM S X v d) : isiD .int d = some (match v with | .int _ => true | _ => false) := by
  cases v with
  | int i =>
    cases h
    rfl
  | fn k x b ns ds =>
    obtain ⟨_, _, i, j, kn, kd, rfl, _⟩ := h
    rfl
end
def kdP : Pl → Str
  | .num _ => "num"
  | .name _ => "name"
  | .fn _ _ _ => "fn"
  | .call _ _ _ => "call"
  | .sum _ _ _ => "sum"
  | .less _ _ _ => "less"
  | .ite _ _ _ _ => "if"
  | .let_ _ _ _ => "let"
  | .say _ _ => "say"
  | .delay _ _ _ => "delay"
  | .force _ => "force"
  | .tick _ => "tick"
  | .switch _ _ _ => "switch"
  | .set_ _ _ _ => "set"
  | .put _ _ => "put"
def Br.ps : Br → List (Int × Pl)
  | .nil => []
  | .cons m e r => (m, e) :: r.ps
theorem ds_ps : ∀ bs : Br, bs.ds = bs.ps.map fun p => .tup [.int p.1, p.2.d]
  | .nil => rfl
  | .cons m e r => by
    show D.tup [.int m, e.d] :: r.ds = _
    rw [ds_ps r]
    rfl
def bsel (j : Int) (l : List (Int × Pl)) : List D := (l.filter fun p => decide (p.1 = j)).map fun p => p.2.d
theorem bsel_pick (j : Int) (a : Pl) : ∀ bs : Br, (bsel j bs.ps ++ [a.d])[0]? = some (bs.pick j a).d
  | .nil => rfl
  | .cons m e r => by
    have ih := bsel_pick j a r
    show (((((m, e) :: r.ps).filter fun p => decide (p.1 = j)).map fun p => p.2.d) ++ [a.d])[0]? = some (if m = j then e else r.pick j a).d
    rw [List.filter_cons]
    by_cases h : m = j
    · simp [h]
    · rw [if_neg h]
      simp only [h, decide_false, Bool.false_eq_true, if_false]
      exact ih
theorem pick_nms {NM : Str → Prop} {j : Int} {a : Pl} (ha : a.nms NM) : ∀ {bs : Br}, bs.nms NM → (bs.pick j a).nms NM
  | .nil, _ => ha
  | .cons m e r, h => by
    show (if m = j then e else r.pick j a).nms NM
    by_cases q : m = j
    · rw [if_pos q]
      exact h.1
    · rw [if_neg q]
      exact pick_nms ha h.2
theorem Br.len_ps : ∀ {bs : Br}, bs.ps.length = bs.cnt
  | .nil => rfl
  | .cons m e r => by
    show (r.ps.length + 1) = r.cnt + 1
    rw [Br.len_ps]
theorem wpost_bad {P : Pr} (F : Walks P) {NM : Str → Prop} {S : Sto} {a o w k : Nat} {r : Res} {st : St} {d : D} {K : D → Sto → Prop} (h : PostW NM S a o w r st d) (h1 : ∀ v, r = .val v → K (.bl false) S) (h2 : (∀ v, r ≠ .val v) → K (.bl true) S) : Wp ((cxt P (k + 1)).call "_law_bad" [d] S) K := by
  cases r with
  | val v => exact bad_val F h.1 (h1 v rfl)
  | stuck kk =>
    obtain ⟨rfl, _⟩ := h
    exact bad_yes F (.inl rfl) (h2 fun v e => by cases e)
  | more =>
    obtain ⟨rfl, _⟩ := h
    exact bad_yes F (.inr rfl) (h2 fun v e => by cases e)
def LcI (S0 : Sto) (p : Nat) (j : Int) (l : List (Int × Pl)) (i : Nat) (S : Sto) : Prop := S0 <+: S ∧ S[p]? = some (.lst (bsel j (l.take i)))
theorem pl_d0 {cds : Nat → List (Str × D)} {S : Sto} (e : Pl) : subD cds e.d (.int 0) S = .ok (.str (kdP e)) S := by cases e <;> (unfold Pl.d; rfl)
section
variable {P : Pr} {NM : Str → Prop} {n : Nat}
/-- the promise for one expression -/
def WkE (P : Pr) (NM : Str → Prop) (n : Nat) (e : Pl) : Prop := ∀ (ns : Ns) (ds : Ds) (st : St) (r : Res) (st' : St), ev2 n e ns ds st = some (r, st') → st'.out.length ≤ 10000000 → e.nms NM → ∀ (k : Nat), n + 1 ≤ k → ∀ (S : Sto) (a o w : Nat) (dn dd : D) (Q : D → Sto → Prop),
  StW S a o w st → WN NM S [a, o, w] ns dn → WD NM S [a, o, w] ds dd → (∀ S' d, Frm [a, o, w] S S' → PostW NM S' a o w r st' d → Q d S') → Wp ((cxt P k).call "_law_walk" [e.d, dn, dd, .ref a] S) Q
theorem walk_num (F : Walks P) (few : Few (nmk NM)) (E : WkOk P NM n) {i : Int} {e : Pl} (he : e = .num i) : WkE P NM (n + 1) e := by
  intro ns ds st r st' H hb hnm k hk S a o w dn dd Q hs hn hd q
  obtain ⟨k, rfl⟩ : ∃ m, k = m + 2 := ⟨k - 2, by omega⟩
  rw [call_fn F.walk, run_fn2 rfl, wp_bind]
  show Wp (evSs (cxt P (k + 1)) Wk.law_walkB [some e.d, some dn, some dd, some (.ref a), none, none, none, none, none, none, none, none, none, none] S) _
  have rc : ∀ {e1 : Pl} {ns1 : Ns} {ds1 : Ds} {st1 : St} {r1 : Res} {st2 : St} {S1 : Sto} {dn1 dd1 : D} {K : D → Sto → Prop}, ev2 n e1 ns1 ds1 st1 = some (r1, st2) → st2.out.length ≤ 10000000 → e1.nms NM → StW S1 a o w st1 → WN NM S1 [a, o, w] ns1 dn1 → WD NM S1 [a, o, w] ds1 dd1 → Frm [a, o, w] S S1 →
      (∀ S' d, Frm [a, o, w] S S' → Frm [a, o, w] S1 S' → PostW NM S' a o w r1 st2 d → K d S') → Wp ((cxt P (k + 1)).call "_law_walk" [e1.d, dn1, dd1, .ref a] S1) K := fun h1 h2 h3 h4 h5 h6 g h => E _ _ _ _ _ _ h1 h2 h3 (k + 1) (by omega) _ a o w _ _ _ h4 h5 h6 fun S' d g' p => h S' d (g.trans g') g' p
  have c0 : subD (cxt P (k + 1)).cds (.ref a) (.int 0) S = .ok (.int (st.fu : Int)) S := by rw [sub_lst hs.fc]; rfl
  have c1 : ∀ {S1 : Sto} {st1 : St}, StW S1 a o w st1 → ∀ cds, subD cds (.ref a) (.int 1) S1 = .ok (.ref o) S1 := fun h cds => by rw [sub_lst h.fc]; rfl
  have c2 : ∀ {S1 : Sto} {st1 : St}, StW S1 a o w st1 → ∀ cds, subD cds (.ref a) (.int 2) S1 = .ok (.ref w) S1 := fun h cds => by rw [sub_lst h.fc]; rfl
  have c3 : ∀ {S1 : Sto} {st1 : St}, StW S1 a o w st1 → ∀ cds, subD cds (.ref a) (.int 0) S1 = .ok (.int (st1.fu : Int)) S1 := fun h cds => by rw [sub_lst h.fc]; rfl
  have st0 : ∀ {K : Out → Sto → Prop}, Wp (evSs (cxt P (k + 1)) Wk.law_walk_1B [some e.d, some dn, some dd, some (.ref a), some (.str (kdP e)), none, none, none, none, none, none, none, none, none] S) K → Wp (evSs (cxt P (k + 1)) Wk.law_walkB [some e.d, some dn, some dd, some (.ref a), none, none, none, none, none, none, none, none, none, none] S) K := fun h => by
    unfold Wk.law_walkB
    refine wp_ss ?_
    simp [pl_d0]
    exact h
  refine st0 ?_
  subst he
  cases H
  refine if_ret (S' := S) (by simp [kdP]) ?_
  simp [Pl.d]
  exact q S _ .refl ⟨rfl, hs⟩
theorem walk_name (F : Walks P) (few : Few (nmk NM)) (E : WkOk P NM n) {x : Str} {e : Pl} (he : e = .name x) : WkE P NM (n + 1) e := by
  intro ns ds st r st' H hb hnm k hk S a o w dn dd Q hs hn hd q
  obtain ⟨k, rfl⟩ : ∃ m, k = m + 2 := ⟨k - 2, by omega⟩
  rw [call_fn F.walk, run_fn2 rfl, wp_bind]
  show Wp (evSs (cxt P (k + 1)) Wk.law_walkB [some e.d, some dn, some dd, some (.ref a), none, none, none, none, none, none, none, none, none, none] S) _
  have rc : ∀ {e1 : Pl} {ns1 : Ns} {ds1 : Ds} {st1 : St} {r1 : Res} {st2 : St} {S1 : Sto} {dn1 dd1 : D} {K : D → Sto → Prop}, ev2 n e1 ns1 ds1 st1 = some (r1, st2) → st2.out.length ≤ 10000000 → e1.nms NM → StW S1 a o w st1 → WN NM S1 [a, o, w] ns1 dn1 → WD NM S1 [a, o, w] ds1 dd1 → Frm [a, o, w] S S1 →
      (∀ S' d, Frm [a, o, w] S S' → Frm [a, o, w] S1 S' → PostW NM S' a o w r1 st2 d → K d S') → Wp ((cxt P (k + 1)).call "_law_walk" [e1.d, dn1, dd1, .ref a] S1) K := fun h1 h2 h3 h4 h5 h6 g h => E _ _ _ _ _ _ h1 h2 h3 (k + 1) (by omega) _ a o w _ _ _ h4 h5 h6 fun S' d g' p => h S' d (g.trans g') g' p
  have c0 : subD (cxt P (k + 1)).cds (.ref a) (.int 0) S = .ok (.int (st.fu : Int)) S := by rw [sub_lst hs.fc]; rfl
  have c1 : ∀ {S1 : Sto} {st1 : St}, StW S1 a o w st1 → ∀ cds, subD cds (.ref a) (.int 1) S1 = .ok (.ref o) S1 := fun h cds => by rw [sub_lst h.fc]; rfl
  have c2 : ∀ {S1 : Sto} {st1 : St}, StW S1 a o w st1 → ∀ cds, subD cds (.ref a) (.int 2) S1 = .ok (.ref w) S1 := fun h cds => by rw [sub_lst h.fc]; rfl
  have c3 : ∀ {S1 : Sto} {st1 : St}, StW S1 a o w st1 → ∀ cds, subD cds (.ref a) (.int 0) S1 = .ok (.int (st1.fu : Int)) S1 := fun h cds => by rw [sub_lst h.fc]; rfl
  have st0 : ∀ {K : Out → Sto → Prop}, Wp (evSs (cxt P (k + 1)) Wk.law_walk_1B [some e.d, some dn, some dd, some (.ref a), some (.str (kdP e)), none, none, none, none, none, none, none, none, none] S) K → Wp (evSs (cxt P (k + 1)) Wk.law_walkB [some e.d, some dn, some dd, some (.ref a), none, none, none, none, none, none, none, none, none, none] S) K := fun h => by
    unfold Wk.law_walkB
    refine wp_ss ?_
    simp [pl_d0]
    exact h
  refine st0 ?_
  subst he
  obtain ⟨v, hv, e⟩ := Option.map_eq_some_iff.mp (show (ns.look x).map (fun v => (Res.val v, st)) = some (r, st') from H)
  cases e
  obtain ⟨d, h1, h2⟩ := wn_look hn hv
  refine if_no (S' := S) (by simp [kdP]) ?_
  refine if_ret (S' := S) (by simp [kdP]) ?_
  simp [Pl.d, h1]
  exact q S _ .refl ⟨h2, hs⟩
theorem walk_force (F : Walks P) (few : Few (nmk NM)) (E : WkOk P NM n) {x : Str} {e : Pl} (he : e = .force x) : WkE P NM (n + 1) e := by
  intro ns ds st r st' H hb hnm k hk S a o w dn dd Q hs hn hd q
  obtain ⟨k, rfl⟩ : ∃ m, k = m + 2 := ⟨k - 2, by omega⟩
  rw [call_fn F.walk, run_fn2 rfl, wp_bind]
  show Wp (evSs (cxt P (k + 1)) Wk.law_walkB [some e.d, some dn, some dd, some (.ref a), none, none, none, none, none, none, none, none, none, none] S) _
  have rc : ∀ {e1 : Pl} {ns1 : Ns} {ds1 : Ds} {st1 : St} {r1 : Res} {st2 : St} {S1 : Sto} {dn1 dd1 : D} {K : D → Sto → Prop}, ev2 n e1 ns1 ds1 st1 = some (r1, st2) → st2.out.length ≤ 10000000 → e1.nms NM → StW S1 a o w st1 → WN NM S1 [a, o, w] ns1 dn1 → WD NM S1 [a, o, w] ds1 dd1 → Frm [a, o, w] S S1 →
      (∀ S' d, Frm [a, o, w] S S' → Frm [a, o, w] S1 S' → PostW NM S' a o w r1 st2 d → K d S') → Wp ((cxt P (k + 1)).call "_law_walk" [e1.d, dn1, dd1, .ref a] S1) K := fun h1 h2 h3 h4 h5 h6 g h => E _ _ _ _ _ _ h1 h2 h3 (k + 1) (by omega) _ a o w _ _ _ h4 h5 h6 fun S' d g' p => h S' d (g.trans g') g' p
  have c0 : subD (cxt P (k + 1)).cds (.ref a) (.int 0) S = .ok (.int (st.fu : Int)) S := by rw [sub_lst hs.fc]; rfl
  have c1 : ∀ {S1 : Sto} {st1 : St}, StW S1 a o w st1 → ∀ cds, subD cds (.ref a) (.int 1) S1 = .ok (.ref o) S1 := fun h cds => by rw [sub_lst h.fc]; rfl
  have c2 : ∀ {S1 : Sto} {st1 : St}, StW S1 a o w st1 → ∀ cds, subD cds (.ref a) (.int 2) S1 = .ok (.ref w) S1 := fun h cds => by rw [sub_lst h.fc]; rfl
  have c3 : ∀ {S1 : Sto} {st1 : St}, StW S1 a o w st1 → ∀ cds, subD cds (.ref a) (.int 0) S1 = .ok (.int (st1.fu : Int)) S1 := fun h cds => by rw [sub_lst h.fc]; rfl
  have st0 : ∀ {K : Out → Sto → Prop}, Wp (evSs (cxt P (k + 1)) Wk.law_walk_1B [some e.d, some dn, some dd, some (.ref a), some (.str (kdP e)), none, none, none, none, none, none, none, none, none] S) K → Wp (evSs (cxt P (k + 1)) Wk.law_walkB [some e.d, some dn, some dd, some (.ref a), none, none, none, none, none, none, none, none, none, none] S) K := fun h => by
    unfold Wk.law_walkB
    refine wp_ss ?_
    simp [pl_d0]
    exact h
  refine st0 ?_
  subst he
  have H : (match ds.look x with | some (e, ns, ds) => ev2 n e ns ds st | none => none) = some (r, st') := H
  split at H
  · rename_i e1 ns1 ds1 hl
    obtain ⟨h0, dn', dd', h1, h2, h3⟩ := wd_look hd hl
    refine if_no (S' := S) (by simp [kdP]) ?_
    refine if_no (S' := S) (by simp [kdP]) ?_
    refine if_yes (S' := S) (by simp [kdP]) ?_
    unfold Wk.law_walk_3tB
    refine wp_ss ?_
    simp [Pl.d, h1]
    unfold Wk.law_walk_3t_1B
    refine ret_wp ?_
    simp
    exact rc H hb h0 hs h2 h3 .refl fun S' d g _ p => by simpa using q S' d g p
  · cases H
theorem walk_delay (F : Walks P) (few : Few (nmk NM)) (E : WkOk P NM n) {x : Str} {b : Pl} {c : Pl} {e : Pl} (he : e = .delay x b c) : WkE P NM (n + 1) e := by
  intro ns ds st r st' H hb hnm k hk S a o w dn dd Q hs hn hd q
  obtain ⟨k, rfl⟩ : ∃ m, k = m + 2 := ⟨k - 2, by omega⟩
  rw [call_fn F.walk, run_fn2 rfl, wp_bind]
  show Wp (evSs (cxt P (k + 1)) Wk.law_walkB [some e.d, some dn, some dd, some (.ref a), none, none, none, none, none, none, none, none, none, none] S) _
  have rc : ∀ {e1 : Pl} {ns1 : Ns} {ds1 : Ds} {st1 : St} {r1 : Res} {st2 : St} {S1 : Sto} {dn1 dd1 : D} {K : D → Sto → Prop}, ev2 n e1 ns1 ds1 st1 = some (r1, st2) → st2.out.length ≤ 10000000 → e1.nms NM → StW S1 a o w st1 → WN NM S1 [a, o, w] ns1 dn1 → WD NM S1 [a, o, w] ds1 dd1 → Frm [a, o, w] S S1 →
      (∀ S' d, Frm [a, o, w] S S' → Frm [a, o, w] S1 S' → PostW NM S' a o w r1 st2 d → K d S') → Wp ((cxt P (k + 1)).call "_law_walk" [e1.d, dn1, dd1, .ref a] S1) K := fun h1 h2 h3 h4 h5 h6 g h => E _ _ _ _ _ _ h1 h2 h3 (k + 1) (by omega) _ a o w _ _ _ h4 h5 h6 fun S' d g' p => h S' d (g.trans g') g' p
  have c0 : subD (cxt P (k + 1)).cds (.ref a) (.int 0) S = .ok (.int (st.fu : Int)) S := by rw [sub_lst hs.fc]; rfl
  have c1 : ∀ {S1 : Sto} {st1 : St}, StW S1 a o w st1 → ∀ cds, subD cds (.ref a) (.int 1) S1 = .ok (.ref o) S1 := fun h cds => by rw [sub_lst h.fc]; rfl
  have c2 : ∀ {S1 : Sto} {st1 : St}, StW S1 a o w st1 → ∀ cds, subD cds (.ref a) (.int 2) S1 = .ok (.ref w) S1 := fun h cds => by rw [sub_lst h.fc]; rfl
  have c3 : ∀ {S1 : Sto} {st1 : St}, StW S1 a o w st1 → ∀ cds, subD cds (.ref a) (.int 0) S1 = .ok (.int (st1.fu : Int)) S1 := fun h cds => by rw [sub_lst h.fc]; rfl
  have st0 : ∀ {K : Out → Sto → Prop}, Wp (evSs (cxt P (k + 1)) Wk.law_walk_1B [some e.d, some dn, some dd, some (.ref a), some (.str (kdP e)), none, none, none, none, none, none, none, none, none] S) K → Wp (evSs (cxt P (k + 1)) Wk.law_walkB [some e.d, some dn, some dd, some (.ref a), none, none, none, none, none, none, none, none, none, none] S) K := fun h => by
    unfold Wk.law_walkB
    refine wp_ss ?_
    simp [pl_d0]
    exact h
  refine st0 ?_
  subst he
  have H : ev2 n c ns (.cons x b ns ds ds) st = some (r, st') := H
  obtain ⟨m1, m2, m3⟩ := hnm
  iterate 3 refine if_no (S' := S) (by simp [kdP]) ?_
  refine if_ret (S' := S) (by simp [kdP]) ?_
  simp [Pl.d]
  refine with_ds F few hn hd m2 m1 hs.new fun dd' S1 p1 h1 => ?_
  exact rc H hb m3 (hs.pre p1) (hn.mono (.pre p1)) h1 (.pre p1) fun S' d g _ p => by simpa using q S' d g p
theorem walk_fn (F : Walks P) (few : Few (nmk NM)) (E : WkOk P NM n) {kk : Int} {x : Str} {b : Pl} {e : Pl} (he : e = .fn kk x b) : WkE P NM (n + 1) e := by
  intro ns ds st r st' H hb hnm k hk S a o w dn dd Q hs hn hd q
  obtain ⟨k, rfl⟩ : ∃ m, k = m + 2 := ⟨k - 2, by omega⟩
  rw [call_fn F.walk, run_fn2 rfl, wp_bind]
  show Wp (evSs (cxt P (k + 1)) Wk.law_walkB [some e.d, some dn, some dd, some (.ref a), none, none, none, none, none, none, none, none, none, none] S) _
  have rc : ∀ {e1 : Pl} {ns1 : Ns} {ds1 : Ds} {st1 : St} {r1 : Res} {st2 : St} {S1 : Sto} {dn1 dd1 : D} {K : D → Sto → Prop}, ev2 n e1 ns1 ds1 st1 = some (r1, st2) → st2.out.length ≤ 10000000 → e1.nms NM → StW S1 a o w st1 → WN NM S1 [a, o, w] ns1 dn1 → WD NM S1 [a, o, w] ds1 dd1 → Frm [a, o, w] S S1 →
      (∀ S' d, Frm [a, o, w] S S' → Frm [a, o, w] S1 S' → PostW NM S' a o w r1 st2 d → K d S') → Wp ((cxt P (k + 1)).call "_law_walk" [e1.d, dn1, dd1, .ref a] S1) K := fun h1 h2 h3 h4 h5 h6 g h => E _ _ _ _ _ _ h1 h2 h3 (k + 1) (by omega) _ a o w _ _ _ h4 h5 h6 fun S' d g' p => h S' d (g.trans g') g' p
  have c0 : subD (cxt P (k + 1)).cds (.ref a) (.int 0) S = .ok (.int (st.fu : Int)) S := by rw [sub_lst hs.fc]; rfl
  have c1 : ∀ {S1 : Sto} {st1 : St}, StW S1 a o w st1 → ∀ cds, subD cds (.ref a) (.int 1) S1 = .ok (.ref o) S1 := fun h cds => by rw [sub_lst h.fc]; rfl
  have c2 : ∀ {S1 : Sto} {st1 : St}, StW S1 a o w st1 → ∀ cds, subD cds (.ref a) (.int 2) S1 = .ok (.ref w) S1 := fun h cds => by rw [sub_lst h.fc]; rfl
  have c3 : ∀ {S1 : Sto} {st1 : St}, StW S1 a o w st1 → ∀ cds, subD cds (.ref a) (.int 0) S1 = .ok (.int (st1.fu : Int)) S1 := fun h cds => by rw [sub_lst h.fc]; rfl
  have st0 : ∀ {K : Out → Sto → Prop}, Wp (evSs (cxt P (k + 1)) Wk.law_walk_1B [some e.d, some dn, some dd, some (.ref a), some (.str (kdP e)), none, none, none, none, none, none, none, none, none] S) K → Wp (evSs (cxt P (k + 1)) Wk.law_walkB [some e.d, some dn, some dd, some (.ref a), none, none, none, none, none, none, none, none, none, none] S) K := fun h => by
    unfold Wk.law_walkB
    refine wp_ss ?_
    simp [pl_d0]
    exact h
  refine st0 ?_
  subst he
  cases H
  obtain ⟨m1, m2⟩ := hnm
  iterate 4 refine if_no (S' := S) (by simp [kdP]) ?_
  refine if_ret (S' := S) (by simp [kdP]) ?_
  simp [Pl.d]
  obtain ⟨i, kn, rfl, hn⟩ := hn
  obtain ⟨j, kd, rfl, hd⟩ := hd
  exact q S _ .refl ⟨⟨m2, m1, i, j, kn, kd, rfl, hn, hd⟩, hs⟩
theorem walk_put (F : Walks P) (few : Few (nmk NM)) (E : WkOk P NM n) {s : Int} {m : Int} {e : Pl} (he : e = .put s m) : WkE P NM (n + 1) e := by
  intro ns ds st r st' H hb hnm k hk S a o w dn dd Q hs hn hd q
  obtain ⟨k, rfl⟩ : ∃ m, k = m + 2 := ⟨k - 2, by omega⟩
  rw [call_fn F.walk, run_fn2 rfl, wp_bind]
  show Wp (evSs (cxt P (k + 1)) Wk.law_walkB [some e.d, some dn, some dd, some (.ref a), none, none, none, none, none, none, none, none, none, none] S) _
  have rc : ∀ {e1 : Pl} {ns1 : Ns} {ds1 : Ds} {st1 : St} {r1 : Res} {st2 : St} {S1 : Sto} {dn1 dd1 : D} {K : D → Sto → Prop}, ev2 n e1 ns1 ds1 st1 = some (r1, st2) → st2.out.length ≤ 10000000 → e1.nms NM → StW S1 a o w st1 → WN NM S1 [a, o, w] ns1 dn1 → WD NM S1 [a, o, w] ds1 dd1 → Frm [a, o, w] S S1 →
      (∀ S' d, Frm [a, o, w] S S' → Frm [a, o, w] S1 S' → PostW NM S' a o w r1 st2 d → K d S') → Wp ((cxt P (k + 1)).call "_law_walk" [e1.d, dn1, dd1, .ref a] S1) K := fun h1 h2 h3 h4 h5 h6 g h => E _ _ _ _ _ _ h1 h2 h3 (k + 1) (by omega) _ a o w _ _ _ h4 h5 h6 fun S' d g' p => h S' d (g.trans g') g' p
  have c0 : subD (cxt P (k + 1)).cds (.ref a) (.int 0) S = .ok (.int (st.fu : Int)) S := by rw [sub_lst hs.fc]; rfl
  have c1 : ∀ {S1 : Sto} {st1 : St}, StW S1 a o w st1 → ∀ cds, subD cds (.ref a) (.int 1) S1 = .ok (.ref o) S1 := fun h cds => by rw [sub_lst h.fc]; rfl
  have c2 : ∀ {S1 : Sto} {st1 : St}, StW S1 a o w st1 → ∀ cds, subD cds (.ref a) (.int 2) S1 = .ok (.ref w) S1 := fun h cds => by rw [sub_lst h.fc]; rfl
  have c3 : ∀ {S1 : Sto} {st1 : St}, StW S1 a o w st1 → ∀ cds, subD cds (.ref a) (.int 0) S1 = .ok (.int (st1.fu : Int)) S1 := fun h cds => by rw [sub_lst h.fc]; rfl
  have st0 : ∀ {K : Out → Sto → Prop}, Wp (evSs (cxt P (k + 1)) Wk.law_walk_1B [some e.d, some dn, some dd, some (.ref a), some (.str (kdP e)), none, none, none, none, none, none, none, none, none] S) K → Wp (evSs (cxt P (k + 1)) Wk.law_walkB [some e.d, some dn, some dd, some (.ref a), none, none, none, none, none, none, none, none, none, none] S) K := fun h => by
    unfold Wk.law_walkB
    refine wp_ss ?_
    simp [pl_d0]
    exact h
  refine st0 ?_
  subst he
  cases H
  iterate 5 refine if_no (S' := S) (by simp [kdP]) ?_
  refine wp_ss ?_
  simp [c2 hs]
  refine if_yes (S' := S) (by simp [kdP]) ?_
  unfold Wk.law_walk_7tB
  refine wp_ss ?_
  obtain ⟨S1, e1, h1, g1⟩ := hs.put (s := s) (m := m) hnm
  simp [Pl.d, e1]
  unfold Wk.law_walk_7t_1B
  refine ret_wp ?_
  simp
  exact q S1 _ g1 ⟨rfl, h1⟩
theorem walk_set_ (F : Walks P) (few : Few (nmk NM)) (E : WkOk P NM n) {s : Int} {m : Int} {b : Pl} {e : Pl} (he : e = .set_ s m b) : WkE P NM (n + 1) e := by
  intro ns ds st r st' H hb hnm k hk S a o w dn dd Q hs hn hd q
  obtain ⟨k, rfl⟩ : ∃ m, k = m + 2 := ⟨k - 2, by omega⟩
  rw [call_fn F.walk, run_fn2 rfl, wp_bind]
  show Wp (evSs (cxt P (k + 1)) Wk.law_walkB [some e.d, some dn, some dd, some (.ref a), none, none, none, none, none, none, none, none, none, none] S) _
  have rc : ∀ {e1 : Pl} {ns1 : Ns} {ds1 : Ds} {st1 : St} {r1 : Res} {st2 : St} {S1 : Sto} {dn1 dd1 : D} {K : D → Sto → Prop}, ev2 n e1 ns1 ds1 st1 = some (r1, st2) → st2.out.length ≤ 10000000 → e1.nms NM → StW S1 a o w st1 → WN NM S1 [a, o, w] ns1 dn1 → WD NM S1 [a, o, w] ds1 dd1 → Frm [a, o, w] S S1 →
      (∀ S' d, Frm [a, o, w] S S' → Frm [a, o, w] S1 S' → PostW NM S' a o w r1 st2 d → K d S') → Wp ((cxt P (k + 1)).call "_law_walk" [e1.d, dn1, dd1, .ref a] S1) K := fun h1 h2 h3 h4 h5 h6 g h => E _ _ _ _ _ _ h1 h2 h3 (k + 1) (by omega) _ a o w _ _ _ h4 h5 h6 fun S' d g' p => h S' d (g.trans g') g' p
  have c0 : subD (cxt P (k + 1)).cds (.ref a) (.int 0) S = .ok (.int (st.fu : Int)) S := by rw [sub_lst hs.fc]; rfl
  have c1 : ∀ {S1 : Sto} {st1 : St}, StW S1 a o w st1 → ∀ cds, subD cds (.ref a) (.int 1) S1 = .ok (.ref o) S1 := fun h cds => by rw [sub_lst h.fc]; rfl
  have c2 : ∀ {S1 : Sto} {st1 : St}, StW S1 a o w st1 → ∀ cds, subD cds (.ref a) (.int 2) S1 = .ok (.ref w) S1 := fun h cds => by rw [sub_lst h.fc]; rfl
  have c3 : ∀ {S1 : Sto} {st1 : St}, StW S1 a o w st1 → ∀ cds, subD cds (.ref a) (.int 0) S1 = .ok (.int (st1.fu : Int)) S1 := fun h cds => by rw [sub_lst h.fc]; rfl
  have st0 : ∀ {K : Out → Sto → Prop}, Wp (evSs (cxt P (k + 1)) Wk.law_walk_1B [some e.d, some dn, some dd, some (.ref a), some (.str (kdP e)), none, none, none, none, none, none, none, none, none] S) K → Wp (evSs (cxt P (k + 1)) Wk.law_walkB [some e.d, some dn, some dd, some (.ref a), none, none, none, none, none, none, none, none, none, none] S) K := fun h => by
    unfold Wk.law_walkB
    refine wp_ss ?_
    simp [pl_d0]
    exact h
  refine st0 ?_
  subst he
  have H : (ev2 n b ns ds { st with sw := upS st.sw s m }).then (fun v st' => some (.val v, { st' with sw := upS st'.sw s (st.sw s) })) = some (r, st') := H
  obtain ⟨m1, m2⟩ := hnm
  iterate 5 refine if_no (S' := S) (by simp [kdP]) ?_
  refine wp_ss ?_
  simp [c2 hs]
  iterate 1 refine if_no (S' := S) (by simp [kdP]) ?_
  refine if_yes (S' := S) (by simp [kdP]) ?_
  unfold Wk.law_walk_8tB
  refine wp_ss ?_
  obtain ⟨kvs, w1, w2, w3⟩ := hs.fw
  simp [Pl.d, pre_dK w1, hs.get]
  unfold Wk.law_walk_8t_1B
  refine wp_ss ?_
  obtain ⟨S1, e1, h1, g1⟩ := hs.put (s := s) (m := m) m1
  simp [e1]
  unfold Wk.law_walk_8t_2B
  refine wp_ss ?_
  simp
  rcases then_eq H with ⟨v, st1, e1, e2⟩ | ⟨e1, hnv⟩
  · cases e2
    refine rc e1 hb m2 h1 (hn.mono g1) (hd.mono g1) g1 fun S2 d g _ p => ?_
    try simp
    unfold Wk.law_walk_8t_3B
    refine wp_ss ?_
    simp
    refine bad_val F p.1 ?_
    simp
    unfold Wk.law_walk_8t_3tB
    refine wp_ss ?_
    obtain ⟨S3, e3, h3, g3⟩ := p.2.put (s := s) (m := st.sw s) m1
    simp [e3]
    unfold Wk.law_walk_8t_4B
    refine ret_wp ?_
    simp
    exact q S3 d (g.trans g3) ⟨p.1.mono g3, h3⟩
  · refine rc e1 hb m2 h1 (hn.mono g1) (hd.mono g1) g1 fun S2 d g _ p => ?_
    try simp
    unfold Wk.law_walk_8t_3B
    refine wp_ss ?_
    simp
    refine wpost_bad F p (fun v e => absurd e (hnv v)) fun _ => ?_
    simp
    unfold Wk.law_walk_8t_4B
    refine ret_wp ?_
    simp
    exact q S2 d g p
theorem walk_tick (F : Walks P) (few : Few (nmk NM)) (E : WkOk P NM n) {b : Pl} {e : Pl} (he : e = .tick b) : WkE P NM (n + 1) e := by
  intro ns ds st r st' H hb hnm k hk S a o w dn dd Q hs hn hd q
  obtain ⟨k, rfl⟩ : ∃ m, k = m + 2 := ⟨k - 2, by omega⟩
  rw [call_fn F.walk, run_fn2 rfl, wp_bind]
  show Wp (evSs (cxt P (k + 1)) Wk.law_walkB [some e.d, some dn, some dd, some (.ref a), none, none, none, none, none, none, none, none, none, none] S) _
  have rc : ∀ {e1 : Pl} {ns1 : Ns} {ds1 : Ds} {st1 : St} {r1 : Res} {st2 : St} {S1 : Sto} {dn1 dd1 : D} {K : D → Sto → Prop}, ev2 n e1 ns1 ds1 st1 = some (r1, st2) → st2.out.length ≤ 10000000 → e1.nms NM → StW S1 a o w st1 → WN NM S1 [a, o, w] ns1 dn1 → WD NM S1 [a, o, w] ds1 dd1 → Frm [a, o, w] S S1 →
      (∀ S' d, Frm [a, o, w] S S' → Frm [a, o, w] S1 S' → PostW NM S' a o w r1 st2 d → K d S') → Wp ((cxt P (k + 1)).call "_law_walk" [e1.d, dn1, dd1, .ref a] S1) K := fun h1 h2 h3 h4 h5 h6 g h => E _ _ _ _ _ _ h1 h2 h3 (k + 1) (by omega) _ a o w _ _ _ h4 h5 h6 fun S' d g' p => h S' d (g.trans g') g' p
  have c0 : subD (cxt P (k + 1)).cds (.ref a) (.int 0) S = .ok (.int (st.fu : Int)) S := by rw [sub_lst hs.fc]; rfl
  have c1 : ∀ {S1 : Sto} {st1 : St}, StW S1 a o w st1 → ∀ cds, subD cds (.ref a) (.int 1) S1 = .ok (.ref o) S1 := fun h cds => by rw [sub_lst h.fc]; rfl
  have c2 : ∀ {S1 : Sto} {st1 : St}, StW S1 a o w st1 → ∀ cds, subD cds (.ref a) (.int 2) S1 = .ok (.ref w) S1 := fun h cds => by rw [sub_lst h.fc]; rfl
  have c3 : ∀ {S1 : Sto} {st1 : St}, StW S1 a o w st1 → ∀ cds, subD cds (.ref a) (.int 0) S1 = .ok (.int (st1.fu : Int)) S1 := fun h cds => by rw [sub_lst h.fc]; rfl
  have st0 : ∀ {K : Out → Sto → Prop}, Wp (evSs (cxt P (k + 1)) Wk.law_walk_1B [some e.d, some dn, some dd, some (.ref a), some (.str (kdP e)), none, none, none, none, none, none, none, none, none] S) K → Wp (evSs (cxt P (k + 1)) Wk.law_walkB [some e.d, some dn, some dd, some (.ref a), none, none, none, none, none, none, none, none, none, none] S) K := fun h => by
    unfold Wk.law_walkB
    refine wp_ss ?_
    simp [pl_d0]
    exact h
  refine st0 ?_
  subst he
  iterate 5 refine if_no (S' := S) (by simp [kdP]) ?_
  refine wp_ss ?_
  simp [c2 hs]
  iterate 3 refine if_no (S' := S) (by simp [kdP]) ?_
  refine if_yes (S' := S) (by simp [kdP]) ?_
  unfold Wk.law_walk_10tB
  refine wp_ss ?_
  obtain ⟨S1, e1, h1, g1, h2⟩ := hs.fuel ((st.fu : Int) - 1)
  simp [c3 hs, e1]
  unfold Wk.law_walk_10t_1B
  have c4 : ∀ cds, subD cds (.ref a) (.int 0) S1 = .ok (.int ((st.fu : Int) - 1)) S1 := fun cds => by rw [sub_lst h1]; rfl
  rcases step_eq H with ⟨h0, e⟩ | ⟨m, hm, H⟩
  · cases e
    have h3 : (st.fu : Int) - 1 < 0 := by omega
    refine if_yes (S' := S1) (by simp [c4, h3]) ?_
    unfold Wk.law_walk_10t_1tB
    refine ret_wp ?_
    simp
    refine q S1 _ g1 ⟨rfl, _, h1, ?_⟩
    rw [h2 _ (Ne.symm hs.ne)]
    exact hs.fo
  · have h3 : ¬ ((st.fu : Int) - 1 < 0) := by omega
    refine if_no (S' := S1) (by simp [c4, h3]) ?_
    unfold Wk.law_walk_10t_2B
    refine ret_wp ?_
    simp [Pl.d]
    have hs1 : StW S1 a o w { st with fu := m } := by
      obtain ⟨kvs, w1, w2, w3⟩ := hs.fw
      refine ⟨?_, by rw [h2 _ (Ne.symm hs.ne)]; exact hs.fo, ⟨kvs, by rw [h2 _ (Ne.symm hs.aw)]; exact w1, w2, w3⟩, hs.ne⟩
      rw [h1]
      have : (st.fu : Int) - 1 = (m : Int) := by omega
      rw [this]
    exact rc H hb hnm hs1 (hn.mono g1) (hd.mono g1) g1 fun S' d g _ p => by simpa using q S' d g p
theorem walk_let_ (F : Walks P) (few : Few (nmk NM)) (E : WkOk P NM n) {x : Str} {b : Pl} {c : Pl} {e : Pl} (he : e = .let_ x b c) : WkE P NM (n + 1) e := by
  intro ns ds st r st' H hb hnm k hk S a o w dn dd Q hs hn hd q
  obtain ⟨k, rfl⟩ : ∃ m, k = m + 2 := ⟨k - 2, by omega⟩
  rw [call_fn F.walk, run_fn2 rfl, wp_bind]
  show Wp (evSs (cxt P (k + 1)) Wk.law_walkB [some e.d, some dn, some dd, some (.ref a), none, none, none, none, none, none, none, none, none, none] S) _
  have rc : ∀ {e1 : Pl} {ns1 : Ns} {ds1 : Ds} {st1 : St} {r1 : Res} {st2 : St} {S1 : Sto} {dn1 dd1 : D} {K : D → Sto → Prop}, ev2 n e1 ns1 ds1 st1 = some (r1, st2) → st2.out.length ≤ 10000000 → e1.nms NM → StW S1 a o w st1 → WN NM S1 [a, o, w] ns1 dn1 → WD NM S1 [a, o, w] ds1 dd1 → Frm [a, o, w] S S1 →
      (∀ S' d, Frm [a, o, w] S S' → Frm [a, o, w] S1 S' → PostW NM S' a o w r1 st2 d → K d S') → Wp ((cxt P (k + 1)).call "_law_walk" [e1.d, dn1, dd1, .ref a] S1) K := fun h1 h2 h3 h4 h5 h6 g h => E _ _ _ _ _ _ h1 h2 h3 (k + 1) (by omega) _ a o w _ _ _ h4 h5 h6 fun S' d g' p => h S' d (g.trans g') g' p
  have c0 : subD (cxt P (k + 1)).cds (.ref a) (.int 0) S = .ok (.int (st.fu : Int)) S := by rw [sub_lst hs.fc]; rfl
  have c1 : ∀ {S1 : Sto} {st1 : St}, StW S1 a o w st1 → ∀ cds, subD cds (.ref a) (.int 1) S1 = .ok (.ref o) S1 := fun h cds => by rw [sub_lst h.fc]; rfl
  have c2 : ∀ {S1 : Sto} {st1 : St}, StW S1 a o w st1 → ∀ cds, subD cds (.ref a) (.int 2) S1 = .ok (.ref w) S1 := fun h cds => by rw [sub_lst h.fc]; rfl
  have c3 : ∀ {S1 : Sto} {st1 : St}, StW S1 a o w st1 → ∀ cds, subD cds (.ref a) (.int 0) S1 = .ok (.int (st1.fu : Int)) S1 := fun h cds => by rw [sub_lst h.fc]; rfl
  have st0 : ∀ {K : Out → Sto → Prop}, Wp (evSs (cxt P (k + 1)) Wk.law_walk_1B [some e.d, some dn, some dd, some (.ref a), some (.str (kdP e)), none, none, none, none, none, none, none, none, none] S) K → Wp (evSs (cxt P (k + 1)) Wk.law_walkB [some e.d, some dn, some dd, some (.ref a), none, none, none, none, none, none, none, none, none, none] S) K := fun h => by
    unfold Wk.law_walkB
    refine wp_ss ?_
    simp [pl_d0]
    exact h
  refine st0 ?_
  subst he
  have H : (ev2 n b ns ds st).then (fun v st' => ev2 n c (.cons x v ns) ds st') = some (r, st') := H
  obtain ⟨m1, m2, m3⟩ := hnm
  iterate 5 refine if_no (S' := S) (by simp [kdP]) ?_
  refine wp_ss ?_
  simp [c2 hs]
  iterate 4 refine if_no (S' := S) (by simp [kdP]) ?_
  refine if_yes (S' := S) (by simp [kdP]) ?_
  unfold Wk.law_walk_11tB
  refine wp_ss ?_
  simp [Pl.d]
  rcases then_eq H with ⟨v, st1, e1, e2⟩ | ⟨e1, hnv⟩
  · refine rc e1 (Nat.le_trans (ev_out _ _ _ _ _ _ _ e2) hb) m2 hs hn hd .refl fun S2 d g _ p => ?_
    try simp
    unfold Wk.law_walk_11t_1B
    refine wp_ss ?_
    simp
    refine bad_val F p.1 ?_
    simp
    unfold Wk.law_walk_11t_2B
    refine ret_wp ?_
    simp
    refine with_ns F few (hn.mono g) p.1 m1 p.2.new fun dn' S3 p3 h3 => ?_
    exact rc e2 hb m3 (p.2.pre p3) h3 (hd.mono (g.trans (.pre p3))) (g.trans (.pre p3)) fun S' d g _ p => by simpa using q S' d g p
  · refine rc e1 hb m2 hs hn hd .refl fun S2 d g _ p => ?_
    try simp
    unfold Wk.law_walk_11t_1B
    refine wp_ss ?_
    simp
    refine wpost_bad F p (fun v e => absurd e (hnv v)) fun _ => ?_
    simp
    unfold Wk.law_walk_11t_1tB
    refine ret_wp ?_
    simp
    exact q S2 d g p
theorem walk_switch (F : Walks P) (few : Few (nmk NM)) (E : WkOk P NM n) {s : Int} {bs : Br} {b : Pl} {e : Pl} (he : e = .switch s bs b) : WkE P NM (n + 1) e := by
  intro ns ds st r st' H hb hnm k hk S a o w dn dd Q hs hn hd q
  obtain ⟨k, rfl⟩ : ∃ m, k = m + 2 := ⟨k - 2, by omega⟩
  rw [call_fn F.walk, run_fn2 rfl, wp_bind]
  show Wp (evSs (cxt P (k + 1)) Wk.law_walkB [some e.d, some dn, some dd, some (.ref a), none, none, none, none, none, none, none, none, none, none] S) _
  have rc : ∀ {e1 : Pl} {ns1 : Ns} {ds1 : Ds} {st1 : St} {r1 : Res} {st2 : St} {S1 : Sto} {dn1 dd1 : D} {K : D → Sto → Prop}, ev2 n e1 ns1 ds1 st1 = some (r1, st2) → st2.out.length ≤ 10000000 → e1.nms NM → StW S1 a o w st1 → WN NM S1 [a, o, w] ns1 dn1 → WD NM S1 [a, o, w] ds1 dd1 → Frm [a, o, w] S S1 →
      (∀ S' d, Frm [a, o, w] S S' → Frm [a, o, w] S1 S' → PostW NM S' a o w r1 st2 d → K d S') → Wp ((cxt P (k + 1)).call "_law_walk" [e1.d, dn1, dd1, .ref a] S1) K := fun h1 h2 h3 h4 h5 h6 g h => E _ _ _ _ _ _ h1 h2 h3 (k + 1) (by omega) _ a o w _ _ _ h4 h5 h6 fun S' d g' p => h S' d (g.trans g') g' p
  have c0 : subD (cxt P (k + 1)).cds (.ref a) (.int 0) S = .ok (.int (st.fu : Int)) S := by rw [sub_lst hs.fc]; rfl
  have c1 : ∀ {S1 : Sto} {st1 : St}, StW S1 a o w st1 → ∀ cds, subD cds (.ref a) (.int 1) S1 = .ok (.ref o) S1 := fun h cds => by rw [sub_lst h.fc]; rfl
  have c2 : ∀ {S1 : Sto} {st1 : St}, StW S1 a o w st1 → ∀ cds, subD cds (.ref a) (.int 2) S1 = .ok (.ref w) S1 := fun h cds => by rw [sub_lst h.fc]; rfl
  have c3 : ∀ {S1 : Sto} {st1 : St}, StW S1 a o w st1 → ∀ cds, subD cds (.ref a) (.int 0) S1 = .ok (.int (st1.fu : Int)) S1 := fun h cds => by rw [sub_lst h.fc]; rfl
  have st0 : ∀ {K : Out → Sto → Prop}, Wp (evSs (cxt P (k + 1)) Wk.law_walk_1B [some e.d, some dn, some dd, some (.ref a), some (.str (kdP e)), none, none, none, none, none, none, none, none, none] S) K → Wp (evSs (cxt P (k + 1)) Wk.law_walkB [some e.d, some dn, some dd, some (.ref a), none, none, none, none, none, none, none, none, none, none] S) K := fun h => by
    unfold Wk.law_walkB
    refine wp_ss ?_
    simp [pl_d0]
    exact h
  refine st0 ?_
  subst he
  have H : ev2 n (bs.pick (st.sw s) b) ns ds st = some (r, st') := H
  obtain ⟨mc, m1, m2⟩ := hnm
  iterate 5 refine if_no (S' := S) (by simp [kdP]) ?_
  refine wp_ss ?_
  simp [c2 hs]
  iterate 2 refine if_no (S' := S) (by simp [kdP]) ?_
  refine if_yes (S' := S) (by simp [kdP]) ?_
  unfold Wk.law_walk_9tB
  refine wp_ss ?_
  simp [Pl.d, -List.append_assoc, -List.length_append]
  obtain ⟨kvs, w1, w2, w3⟩ := hs.fw
  refine wp_lc (it := ⟨bs.ds, none⟩) (LcI S S.length (st.sw s) bs.ps) (fun _ _ _ => rfl) ?_ ?_ ⟨pre_self _ _, new_at⟩
  · rintro i y S1 hy ⟨p1, h1⟩
    have hy : bs.ds[i]? = some y := hy
    rw [ds_ps, List.getElem?_map] at hy
    cases hq : bs.ps[i]? with
    | none =>
      rw [hq] at hy
      cases hy
    | some p =>
      rw [hq] at hy
      cases hy
      have ht : bs.ps.take (i + 1) = bs.ps.take i ++ [p] := by
        rw [List.take_succ, hq]
        rfl
      unfold lcB
      rw [setTg_tps (by simp [wipeE])]
      simp [wipeE, isNop, pre_dK (pre_at p1 w1), (hs.pre p1).get]
      have hlen : (bsel (st.sw s) (bs.ps.take i)).length < sizeLine := by
        have e1 : (bsel (st.sw s) (bs.ps.take i)).length ≤ (bs.ps.take i).length := by
          unfold bsel
          rw [List.length_map]
          exact List.length_filter_le _ _
        have e2 : (bs.ps.take i).length ≤ bs.ps.length := by
          rw [List.length_take]
          omega
        have e3 := Br.len_ps (bs := bs)
        rw [sizeLine_eq]
        omega
      by_cases hp : p.1 = st.sw s
      · simp [hp]
        refine ⟨_, h1, hlen, pre_set p1 (Nat.le_refl _), ?_⟩
        rw [List.getElem?_set_self (lt_of h1), ht]
        simp [bsel, List.filter_append, hp]
      · simp [hp]
        refine ⟨p1, ?_⟩
        rw [h1, ht]
        simp [bsel, List.filter_append, hp]
  · rintro S1 ⟨p1, h1⟩
    have h1 : S1[S.length]? = some (.lst (bsel (st.sw s) bs.ps)) := by
      rw [h1]
      have : bs.ps.take bs.ds.length = bs.ps := by
        rw [ds_ps, List.length_map, List.take_length]
      rw [show (It.mk bs.ds none).items = bs.ds from rfl, this]
    try simp [-List.append_assoc, -List.length_append]
    have hlen : (bsel (st.sw s) bs.ps).length + [b.d].length ≤ sizeLine := by
      have e1 : (bsel (st.sw s) bs.ps).length ≤ bs.ps.length := by
        unfold bsel
        rw [List.length_map]
        exact List.length_filter_le _ _
      have e3 := Br.len_ps (bs := bs)
      rw [sizeLine_eq]
      simp
      omega
    rw [add_lst (pre_at (pre_self _ _) h1) new_at, if_pos hlen]
    simp [-List.append_assoc, -List.length_append]
    unfold Wk.law_walk_9t_1B
    refine ret_wp ?_
    have hp := bsel_pick (st.sw s) b bs
    have p3 : S <+: S1 ++ [O.lst [b.d]] ++ [.lst (bsel (st.sw s) bs.ps ++ [b.d])] := (p1.trans (pre_self _ _)).trans (pre_self _ _)
    have e0 : ∀ cds, subD cds (.ref (S1 ++ [O.lst [b.d]]).length) (.int 0) (S1 ++ [O.lst [b.d]] ++ [.lst (bsel (st.sw s) bs.ps ++ [b.d])]) = .ok (bs.pick (st.sw s) b).d (S1 ++ [O.lst [b.d]] ++ [.lst (bsel (st.sw s) bs.ps ++ [b.d])]) := fun cds => by
      rw [sub_lst new_at, atI_0, hp]
      rfl
    simp [e0, -List.append_assoc, -List.length_append]
    exact rc H hb (pick_nms m2 m1) (hs.pre p3) (hn.mono (.pre p3)) (hd.mono (.pre p3)) (.pre p3) fun S' d g _ p => by simpa using q S' d g p
theorem walk_say (F : Walks P) (few : Few (nmk NM)) (E : WkOk P NM n) {kk : Int} {b : Pl} {e : Pl} (he : e = .say kk b) : WkE P NM (n + 1) e := by
  intro ns ds st r st' H hb hnm k hk S a o w dn dd Q hs hn hd q
  obtain ⟨k, rfl⟩ : ∃ m, k = m + 2 := ⟨k - 2, by omega⟩
  rw [call_fn F.walk, run_fn2 rfl, wp_bind]
  show Wp (evSs (cxt P (k + 1)) Wk.law_walkB [some e.d, some dn, some dd, some (.ref a), none, none, none, none, none, none, none, none, none, none] S) _
  have rc : ∀ {e1 : Pl} {ns1 : Ns} {ds1 : Ds} {st1 : St} {r1 : Res} {st2 : St} {S1 : Sto} {dn1 dd1 : D} {K : D → Sto → Prop}, ev2 n e1 ns1 ds1 st1 = some (r1, st2) → st2.out.length ≤ 10000000 → e1.nms NM → StW S1 a o w st1 → WN NM S1 [a, o, w] ns1 dn1 → WD NM S1 [a, o, w] ds1 dd1 → Frm [a, o, w] S S1 →
      (∀ S' d, Frm [a, o, w] S S' → Frm [a, o, w] S1 S' → PostW NM S' a o w r1 st2 d → K d S') → Wp ((cxt P (k + 1)).call "_law_walk" [e1.d, dn1, dd1, .ref a] S1) K := fun h1 h2 h3 h4 h5 h6 g h => E _ _ _ _ _ _ h1 h2 h3 (k + 1) (by omega) _ a o w _ _ _ h4 h5 h6 fun S' d g' p => h S' d (g.trans g') g' p
  have c0 : subD (cxt P (k + 1)).cds (.ref a) (.int 0) S = .ok (.int (st.fu : Int)) S := by rw [sub_lst hs.fc]; rfl
  have c1 : ∀ {S1 : Sto} {st1 : St}, StW S1 a o w st1 → ∀ cds, subD cds (.ref a) (.int 1) S1 = .ok (.ref o) S1 := fun h cds => by rw [sub_lst h.fc]; rfl
  have c2 : ∀ {S1 : Sto} {st1 : St}, StW S1 a o w st1 → ∀ cds, subD cds (.ref a) (.int 2) S1 = .ok (.ref w) S1 := fun h cds => by rw [sub_lst h.fc]; rfl
  have c3 : ∀ {S1 : Sto} {st1 : St}, StW S1 a o w st1 → ∀ cds, subD cds (.ref a) (.int 0) S1 = .ok (.int (st1.fu : Int)) S1 := fun h cds => by rw [sub_lst h.fc]; rfl
  have st0 : ∀ {K : Out → Sto → Prop}, Wp (evSs (cxt P (k + 1)) Wk.law_walk_1B [some e.d, some dn, some dd, some (.ref a), some (.str (kdP e)), none, none, none, none, none, none, none, none, none] S) K → Wp (evSs (cxt P (k + 1)) Wk.law_walkB [some e.d, some dn, some dd, some (.ref a), none, none, none, none, none, none, none, none, none, none] S) K := fun h => by
    unfold Wk.law_walkB
    refine wp_ss ?_
    simp [pl_d0]
    exact h
  refine st0 ?_
  subst he
  have H : (ev2 n b ns ds st).then (fun v st' => some (.val v, { st' with out := st'.out ++ [.tup [.int kk, v.sh]] })) = some (r, st') := H
  iterate 5 refine if_no (S' := S) (by simp [kdP]) ?_
  refine wp_ss ?_
  simp [c2 hs]
  iterate 5 refine if_no (S' := S) (by simp [kdP]) ?_
  unfold Wk.law_walk_12B
  refine wp_ss ?_
  simp [Pl.d]
  rcases then_eq H with ⟨v, st1, e1, e2⟩ | ⟨e1, hnv⟩
  · cases e2
    have hb1 : (st1.out ++ [D.tup [.int kk, v.sh]]).length ≤ 10000000 := hb
    refine rc e1 (by simp at hb1; omega) hnm hs hn hd .refl fun S2 d g _ p => ?_
    try simp
    unfold Wk.law_walk_13B
    refine wp_ss ?_
    simp
    refine bad_val F p.1 ?_
    simp
    refine if_yes (S' := S2) (by simp [kdP]) ?_
    unfold Wk.law_walk_14tB
    refine wp_ss ?_
    obtain ⟨S3, e3, h3, g3⟩ := p.2.say (d := .tup [.int kk, v.sh]) (by simp at hb1; rw [sizeLine_eq]; omega)
    simp [c1 p.2, pre_lst2 p.2.fo (m := .append) (by simp)]
    refine shown_ok F p.1 ?_
    simp [e3]
    unfold Wk.law_walk_14t_1B
    refine ret_wp ?_
    simp
    exact q S3 d (g.trans g3) ⟨p.1.mono g3, h3⟩
  · refine rc e1 hb hnm hs hn hd .refl fun S2 d g _ p => ?_
    try simp
    unfold Wk.law_walk_13B
    refine wp_ss ?_
    simp
    refine wpost_bad F p (fun v e => absurd e (hnv v)) fun _ => ?_
    simp
    unfold Wk.law_walk_13tB
    refine ret_wp ?_
    simp
    exact q S2 d g p
theorem walk_ite (F : Walks P) (few : Few (nmk NM)) (E : WkOk P NM n) {kk : Int} {c : Pl} {b1 : Pl} {b2 : Pl} {e : Pl} (he : e = .ite kk c b1 b2) : WkE P NM (n + 1) e := by
  intro ns ds st r st' H hb hnm k hk S a o w dn dd Q hs hn hd q
  obtain ⟨k, rfl⟩ : ∃ m, k = m + 2 := ⟨k - 2, by omega⟩
  rw [call_fn F.walk, run_fn2 rfl, wp_bind]
  show Wp (evSs (cxt P (k + 1)) Wk.law_walkB [some e.d, some dn, some dd, some (.ref a), none, none, none, none, none, none, none, none, none, none] S) _
  have rc : ∀ {e1 : Pl} {ns1 : Ns} {ds1 : Ds} {st1 : St} {r1 : Res} {st2 : St} {S1 : Sto} {dn1 dd1 : D} {K : D → Sto → Prop}, ev2 n e1 ns1 ds1 st1 = some (r1, st2) → st2.out.length ≤ 10000000 → e1.nms NM → StW S1 a o w st1 → WN NM S1 [a, o, w] ns1 dn1 → WD NM S1 [a, o, w] ds1 dd1 → Frm [a, o, w] S S1 →
      (∀ S' d, Frm [a, o, w] S S' → Frm [a, o, w] S1 S' → PostW NM S' a o w r1 st2 d → K d S') → Wp ((cxt P (k + 1)).call "_law_walk" [e1.d, dn1, dd1, .ref a] S1) K := fun h1 h2 h3 h4 h5 h6 g h => E _ _ _ _ _ _ h1 h2 h3 (k + 1) (by omega) _ a o w _ _ _ h4 h5 h6 fun S' d g' p => h S' d (g.trans g') g' p
  have c0 : subD (cxt P (k + 1)).cds (.ref a) (.int 0) S = .ok (.int (st.fu : Int)) S := by rw [sub_lst hs.fc]; rfl
  have c1 : ∀ {S1 : Sto} {st1 : St}, StW S1 a o w st1 → ∀ cds, subD cds (.ref a) (.int 1) S1 = .ok (.ref o) S1 := fun h cds => by rw [sub_lst h.fc]; rfl
  have c2 : ∀ {S1 : Sto} {st1 : St}, StW S1 a o w st1 → ∀ cds, subD cds (.ref a) (.int 2) S1 = .ok (.ref w) S1 := fun h cds => by rw [sub_lst h.fc]; rfl
  have c3 : ∀ {S1 : Sto} {st1 : St}, StW S1 a o w st1 → ∀ cds, subD cds (.ref a) (.int 0) S1 = .ok (.int (st1.fu : Int)) S1 := fun h cds => by rw [sub_lst h.fc]; rfl
  have st0 : ∀ {K : Out → Sto → Prop}, Wp (evSs (cxt P (k + 1)) Wk.law_walk_1B [some e.d, some dn, some dd, some (.ref a), some (.str (kdP e)), none, none, none, none, none, none, none, none, none] S) K → Wp (evSs (cxt P (k + 1)) Wk.law_walkB [some e.d, some dn, some dd, some (.ref a), none, none, none, none, none, none, none, none, none, none] S) K := fun h => by
    unfold Wk.law_walkB
    refine wp_ss ?_
    simp [pl_d0]
    exact h
  refine st0 ?_
  subst he
  have H : (ev2 n c ns ds st).then (fun v st' => match v with | .int i => ev2 n (if i ≠ 0 then b1 else b2) ns ds st' | .fn _ _ _ _ _ => some (.stuck kk, st')) = some (r, st') := H
  obtain ⟨m1, m2, m3⟩ := hnm
  iterate 5 refine if_no (S' := S) (by simp [kdP]) ?_
  refine wp_ss ?_
  simp [c2 hs]
  iterate 5 refine if_no (S' := S) (by simp [kdP]) ?_
  unfold Wk.law_walk_12B
  refine wp_ss ?_
  simp [Pl.d]
  rcases then_eq H with ⟨v, st1, e1, e2⟩ | ⟨e1, hnv⟩
  · have hb1 : st1.out.length ≤ 10000000 := by
      cases v with
      | int i => exact Nat.le_trans (ev_out _ _ _ _ _ _ _ e2) hb
      | fn _ _ _ _ _ => cases e2; exact hb
    refine rc e1 hb1 m1 hs hn hd .refl fun S2 d g _ p => ?_
    try simp
    unfold Wk.law_walk_13B
    refine wp_ss ?_
    simp
    refine bad_val F p.1 ?_
    simp
    refine if_no (S' := S2) (by simp [kdP]) ?_
    refine if_yes (S' := S2) (by simp [kdP]) ?_
    unfold Wk.law_walk_15tB
    cases v with
    | int i =>
      obtain rfl : d = .int i := p.1
      refine if_no (S' := S2) (by simp [isiD]) ?_
      unfold Wk.law_walk_15t_1B
      refine ret_wp ?_
      have p3 := pre_self S2 [O.lst [b2.d, b1.d]]
      have e0 : ∀ cds, subD cds (.ref S2.length) (.int (if i = 0 then 0 else 1)) (S2 ++ [O.lst [b2.d, b1.d]]) = .ok (if i ≠ 0 then b1 else b2).d (S2 ++ [O.lst [b2.d, b1.d]]) := fun cds => by
        rw [sub_lst new_at]
        by_cases hi : i = 0
        · simp [hi]
        · simp [hi]
      simp [e0, -List.append_assoc, -List.length_append]
      have hm : (if i ≠ 0 then b1 else b2).nms NM := by
        by_cases hi : i ≠ 0
        · rw [if_pos hi]
          exact m2
        · rw [if_neg hi]
          exact m3
      have := rc (K := fun v S1 => Wp (goR (Out.ret v) (fun e2 S => evSs (cxt P (k + 1)) Wk.law_walk_16B e2 S) S1) fun a s => Wp (outV a s) Q) e2 hb hm (p.2.pre p3) (hn.mono (g.trans (.pre p3))) (hd.mono (g.trans (.pre p3))) (g.trans (.pre p3)) fun S' d g _ p => by simpa using q S' d g p
      simpa using this
    | fn j x bb ns' ds' =>
      cases e2
      have hi := p.1.sh_isi
      refine if_yes (S' := S2) (by simp [hi]) ?_
      unfold Wk.law_walk_15t_0tB
      refine ret_wp ?_
      simp
      exact q S2 _ g ⟨rfl, p.2.out⟩
  · refine rc e1 hb m1 hs hn hd .refl fun S2 d g _ p => ?_
    try simp
    unfold Wk.law_walk_13B
    refine wp_ss ?_
    simp
    refine wpost_bad F p (fun v e => absurd e (hnv v)) fun _ => ?_
    simp
    unfold Wk.law_walk_13tB
    refine ret_wp ?_
    simp
    exact q S2 d g p
theorem walk_call (F : Walks P) (few : Few (nmk NM)) (E : WkOk P NM n) {kk : Int} {b : Pl} {c : Pl} {e : Pl} (he : e = .call kk b c) : WkE P NM (n + 1) e := by
  intro ns ds st r st' H hb hnm k hk S a o w dn dd Q hs hn hd q
  obtain ⟨k, rfl⟩ : ∃ m, k = m + 2 := ⟨k - 2, by omega⟩
  rw [call_fn F.walk, run_fn2 rfl, wp_bind]
  show Wp (evSs (cxt P (k + 1)) Wk.law_walkB [some e.d, some dn, some dd, some (.ref a), none, none, none, none, none, none, none, none, none, none] S) _
  have rc : ∀ {e1 : Pl} {ns1 : Ns} {ds1 : Ds} {st1 : St} {r1 : Res} {st2 : St} {S1 : Sto} {dn1 dd1 : D} {K : D → Sto → Prop}, ev2 n e1 ns1 ds1 st1 = some (r1, st2) → st2.out.length ≤ 10000000 → e1.nms NM → StW S1 a o w st1 → WN NM S1 [a, o, w] ns1 dn1 → WD NM S1 [a, o, w] ds1 dd1 → Frm [a, o, w] S S1 →
      (∀ S' d, Frm [a, o, w] S S' → Frm [a, o, w] S1 S' → PostW NM S' a o w r1 st2 d → K d S') → Wp ((cxt P (k + 1)).call "_law_walk" [e1.d, dn1, dd1, .ref a] S1) K := fun h1 h2 h3 h4 h5 h6 g h => E _ _ _ _ _ _ h1 h2 h3 (k + 1) (by omega) _ a o w _ _ _ h4 h5 h6 fun S' d g' p => h S' d (g.trans g') g' p
  have c0 : subD (cxt P (k + 1)).cds (.ref a) (.int 0) S = .ok (.int (st.fu : Int)) S := by rw [sub_lst hs.fc]; rfl
  have c1 : ∀ {S1 : Sto} {st1 : St}, StW S1 a o w st1 → ∀ cds, subD cds (.ref a) (.int 1) S1 = .ok (.ref o) S1 := fun h cds => by rw [sub_lst h.fc]; rfl
  have c2 : ∀ {S1 : Sto} {st1 : St}, StW S1 a o w st1 → ∀ cds, subD cds (.ref a) (.int 2) S1 = .ok (.ref w) S1 := fun h cds => by rw [sub_lst h.fc]; rfl
  have c3 : ∀ {S1 : Sto} {st1 : St}, StW S1 a o w st1 → ∀ cds, subD cds (.ref a) (.int 0) S1 = .ok (.int (st1.fu : Int)) S1 := fun h cds => by rw [sub_lst h.fc]; rfl
  have st0 : ∀ {K : Out → Sto → Prop}, Wp (evSs (cxt P (k + 1)) Wk.law_walk_1B [some e.d, some dn, some dd, some (.ref a), some (.str (kdP e)), none, none, none, none, none, none, none, none, none] S) K → Wp (evSs (cxt P (k + 1)) Wk.law_walkB [some e.d, some dn, some dd, some (.ref a), none, none, none, none, none, none, none, none, none, none] S) K := fun h => by
    unfold Wk.law_walkB
    refine wp_ss ?_
    simp [pl_d0]
    exact h
  refine st0 ?_
  subst he
  have H : (ev2 n b ns ds st).then (fun v st1 => (ev2 n c ns ds st1).then fun u st2 => match v with | .int _ => some (.stuck kk, st2) | .fn j x b ns' ds' => if j = kk then stepA st2 fun st => ev2 n b (.cons x u ns') ds' st else some (.stuck kk, st2)) = some (r, st') := H
  obtain ⟨m1, m2⟩ := hnm
  iterate 5 refine if_no (S' := S) (by simp [kdP]) ?_
  refine wp_ss ?_
  simp [c2 hs]
  iterate 5 refine if_no (S' := S) (by simp [kdP]) ?_
  unfold Wk.law_walk_12B
  refine wp_ss ?_
  simp [Pl.d]
  rcases then_eq H with ⟨v, st1, e1, e2⟩ | ⟨e1, hnv⟩
  · have hb2 : ∀ r2 st2, (ev2 n c ns ds st1) = some (r2, st2) → st2.out.length ≤ 10000000 := fun r2 st2 h => by
      rcases then_eq e2 with ⟨u, st3, e3, e4⟩ | ⟨e3, _⟩
      · rw [h] at e3
        injection e3 with e3
        injection e3 with _ e3
        subst e3
        refine Nat.le_trans ?_ hb
        cases v with
        | int i => cases e4; exact Nat.le_refl _
        | fn j x b' ns' ds' =>
          dsimp only at e4
          split at e4
          · rcases step_eq e4 with ⟨_, e⟩ | ⟨m, _, e⟩
            · cases e
              exact Nat.le_refl _
            · exact ev_out _ _ _ _ { st2 with fu := m } _ _ e
          · cases e4
            exact Nat.le_refl _
      · rw [h] at e3
        injection e3 with e3
        injection e3 with _ e3
        subst e3
        exact hb
    have hb1 : st1.out.length ≤ 10000000 := by
      rcases then_eq e2 with ⟨u, st3, e3, e4⟩ | ⟨e3, _⟩
      · exact Nat.le_trans (ev_out _ _ _ _ _ _ _ e3) (hb2 _ _ e3)
      · exact Nat.le_trans (ev_out _ _ _ _ _ _ _ e3) hb
    refine rc e1 hb1 m1 hs hn hd .refl fun S2 d g _ p => ?_
    try simp
    unfold Wk.law_walk_13B
    refine wp_ss ?_
    simp
    refine bad_val F p.1 ?_
    simp
    iterate 2 refine if_no (S' := S2) (by simp [kdP]) ?_
    unfold Wk.law_walk_16B
    refine wp_ss ?_
    simp
    rcases then_eq e2 with ⟨u, st2, e3, e4⟩ | ⟨e3, hnv⟩
    · refine rc e3 (hb2 _ _ e3) m2 p.2 (hn.mono g) (hd.mono g) g fun S3 d2 g2 g3 p2 => ?_
      try simp
      have pv := p.1.mono g3
      unfold Wk.law_walk_17B
      refine wp_ss ?_
      simp
      refine bad_val F p2.1 ?_
      simp
      refine if_yes (S' := S3) (by simp [kdP]) ?_
      unfold Wk.law_walk_18tB
      cases v with
      | int i =>
        obtain rfl : d = .int i := pv
        cases e4
        refine if_yes (S' := S3) (by simp [isiD]) ?_
        unfold Wk.law_walk_18t_0tB
        refine ret_wp ?_
        simp
        exact q S3 _ g2 ⟨rfl, p2.2.out⟩
      | fn j x bb ns' ds' =>
        obtain ⟨n0, nx, i1, j1, kn, kd, rfl, a1, a2⟩ := pv
        dsimp only at e4
        by_cases hj : j = kk
        · subst hj
          rw [if_pos rfl] at e4
          refine if_no (S' := S3) (by simp [isiD]) ?_
          unfold Wk.law_walk_18t_1B
          refine wp_ss ?_
          obtain ⟨S4, f1, f2, f3, f4⟩ := p2.2.fuel ((st2.fu : Int) - 1)
          simp [c3 p2.2, f1]
          unfold Wk.law_walk_18t_2B
          have c4 : ∀ cds, subD cds (.ref a) (.int 0) S4 = .ok (.int ((st2.fu : Int) - 1)) S4 := fun cds => by rw [sub_lst f2]; rfl
          rcases step_eq e4 with ⟨h0, e⟩ | ⟨m, hm, e5⟩
          · have h3 : (st2.fu : Int) - 1 < 0 := by omega
            cases e
            refine if_yes (S' := S4) (by simp [c4, h3]) ?_
            unfold Wk.law_walk_18t_2tB
            refine ret_wp ?_
            simp
            refine q S4 _ (g2.trans f3) ⟨rfl, _, f2, ?_⟩
            rw [f4 _ (Ne.symm p2.2.ne)]
            exact p2.2.fo
          · have h3 : ¬ ((st2.fu : Int) - 1 < 0) := by omega
            refine if_no (S' := S4) (by simp [c4, h3]) ?_
            unfold Wk.law_walk_18t_3B
            refine ret_wp ?_
            have hs1 : StW S4 a o w { st2 with fu := m } := by
              obtain ⟨kvs, w1, w2, w3⟩ := p2.2.fw
              refine ⟨?_, by rw [f4 _ (Ne.symm p2.2.ne)]; exact p2.2.fo, ⟨kvs, by rw [f4 _ (Ne.symm p2.2.aw)]; exact w1, w2, w3⟩, p2.2.ne⟩
              rw [f2]
              have : (st2.fu : Int) - 1 = (m : Int) := by omega
              rw [this]
            simp
            have hw1 : WN NM S3 [a, o, w] ns' (.ref i1) := ⟨i1, kn, rfl, a1⟩
            have hw2 : WD NM S3 [a, o, w] ds' (.ref j1) := ⟨j1, kd, rfl, a2⟩
            refine with_ns F few (hw1.mono f3) (p2.1.mono f3) nx hs1.new fun dn' S5 p5 h5 => ?_
            have g5 : Frm [a, o, w] S S5 := (g2.trans f3).trans (.pre p5)
            exact rc e5 hb n0 (hs1.pre p5) h5 (hw2.mono (f3.trans (.pre p5))) g5 fun S' d g _ p => by simpa using q S' d g p
        · rw [if_neg hj] at e4
          cases e4
          refine if_yes (S' := S3) (by simp [isiD, hj]) ?_
          unfold Wk.law_walk_18t_0tB
          refine ret_wp ?_
          simp
          exact q S3 _ g2 ⟨rfl, p2.2.out⟩
    · refine rc e3 (hb2 _ _ e3) m2 p.2 (hn.mono g) (hd.mono g) g fun S3 d2 g2 g3 p2 => ?_
      try simp
      unfold Wk.law_walk_17B
      refine wp_ss ?_
      simp
      refine wpost_bad F p2 (fun v e => absurd e (hnv v)) fun _ => ?_
      simp
      unfold Wk.law_walk_17tB
      refine ret_wp ?_
      simp
      exact q S3 d2 g2 p2
  · refine rc e1 hb m1 hs hn hd .refl fun S2 d g _ p => ?_
    try simp
    unfold Wk.law_walk_13B
    refine wp_ss ?_
    simp
    refine wpost_bad F p (fun v e => absurd e (hnv v)) fun _ => ?_
    simp
    unfold Wk.law_walk_13tB
    refine ret_wp ?_
    simp
    exact q S2 d g p
theorem walk_sum (F : Walks P) (few : Few (nmk NM)) (E : WkOk P NM n) {kk : Int} {b : Pl} {c : Pl} {e : Pl} (he : e = .sum kk b c) : WkE P NM (n + 1) e := by
  intro ns ds st r st' H hb hnm k hk S a o w dn dd Q hs hn hd q
  obtain ⟨k, rfl⟩ : ∃ m, k = m + 2 := ⟨k - 2, by omega⟩
  rw [call_fn F.walk, run_fn2 rfl, wp_bind]
  show Wp (evSs (cxt P (k + 1)) Wk.law_walkB [some e.d, some dn, some dd, some (.ref a), none, none, none, none, none, none, none, none, none, none] S) _
  have rc : ∀ {e1 : Pl} {ns1 : Ns} {ds1 : Ds} {st1 : St} {r1 : Res} {st2 : St} {S1 : Sto} {dn1 dd1 : D} {K : D → Sto → Prop}, ev2 n e1 ns1 ds1 st1 = some (r1, st2) → st2.out.length ≤ 10000000 → e1.nms NM → StW S1 a o w st1 → WN NM S1 [a, o, w] ns1 dn1 → WD NM S1 [a, o, w] ds1 dd1 → Frm [a, o, w] S S1 →
      (∀ S' d, Frm [a, o, w] S S' → Frm [a, o, w] S1 S' → PostW NM S' a o w r1 st2 d → K d S') → Wp ((cxt P (k + 1)).call "_law_walk" [e1.d, dn1, dd1, .ref a] S1) K := fun h1 h2 h3 h4 h5 h6 g h => E _ _ _ _ _ _ h1 h2 h3 (k + 1) (by omega) _ a o w _ _ _ h4 h5 h6 fun S' d g' p => h S' d (g.trans g') g' p
  have c0 : subD (cxt P (k + 1)).cds (.ref a) (.int 0) S = .ok (.int (st.fu : Int)) S := by rw [sub_lst hs.fc]; rfl
  have c1 : ∀ {S1 : Sto} {st1 : St}, StW S1 a o w st1 → ∀ cds, subD cds (.ref a) (.int 1) S1 = .ok (.ref o) S1 := fun h cds => by rw [sub_lst h.fc]; rfl
  have c2 : ∀ {S1 : Sto} {st1 : St}, StW S1 a o w st1 → ∀ cds, subD cds (.ref a) (.int 2) S1 = .ok (.ref w) S1 := fun h cds => by rw [sub_lst h.fc]; rfl
  have c3 : ∀ {S1 : Sto} {st1 : St}, StW S1 a o w st1 → ∀ cds, subD cds (.ref a) (.int 0) S1 = .ok (.int (st1.fu : Int)) S1 := fun h cds => by rw [sub_lst h.fc]; rfl
  have st0 : ∀ {K : Out → Sto → Prop}, Wp (evSs (cxt P (k + 1)) Wk.law_walk_1B [some e.d, some dn, some dd, some (.ref a), some (.str (kdP e)), none, none, none, none, none, none, none, none, none] S) K → Wp (evSs (cxt P (k + 1)) Wk.law_walkB [some e.d, some dn, some dd, some (.ref a), none, none, none, none, none, none, none, none, none, none] S) K := fun h => by
    unfold Wk.law_walkB
    refine wp_ss ?_
    simp [pl_d0]
    exact h
  refine st0 ?_
  subst he
  have H : (ev2 n b ns ds st).then (fun v st1 => (ev2 n c ns ds st1).then fun u st2 => match v, u with | .int i, .int j => some (.val (.int (i + j)), st2) | _, _ => some (.stuck kk, st2)) = some (r, st') := H
  obtain ⟨m1, m2⟩ := hnm
  iterate 5 refine if_no (S' := S) (by simp [kdP]) ?_
  refine wp_ss ?_
  simp [c2 hs]
  iterate 5 refine if_no (S' := S) (by simp [kdP]) ?_
  unfold Wk.law_walk_12B
  refine wp_ss ?_
  simp [Pl.d]
  rcases then_eq H with ⟨v, st1, e1, e2⟩ | ⟨e1, hnv⟩
  · have hb2 : ∀ r2 st2, (ev2 n c ns ds st1) = some (r2, st2) → st2.out.length ≤ 10000000 := fun r2 st2 h => by
      rcases then_eq e2 with ⟨u, st3, e3, e4⟩ | ⟨e3, _⟩
      · rw [h] at e3
        injection e3 with e3
        injection e3 with _ e3
        subst e3
        refine Nat.le_trans ?_ hb
        cases v <;> cases u <;> cases e4 <;> exact Nat.le_refl _
      · rw [h] at e3
        injection e3 with e3
        injection e3 with _ e3
        subst e3
        exact hb
    have hb1 : st1.out.length ≤ 10000000 := by
      rcases then_eq e2 with ⟨u, st3, e3, e4⟩ | ⟨e3, _⟩
      · exact Nat.le_trans (ev_out _ _ _ _ _ _ _ e3) (hb2 _ _ e3)
      · exact Nat.le_trans (ev_out _ _ _ _ _ _ _ e3) hb
    refine rc e1 hb1 m1 hs hn hd .refl fun S2 d g _ p => ?_
    try simp
    unfold Wk.law_walk_13B
    refine wp_ss ?_
    simp
    refine bad_val F p.1 ?_
    simp
    iterate 2 refine if_no (S' := S2) (by simp [kdP]) ?_
    unfold Wk.law_walk_16B
    refine wp_ss ?_
    simp
    rcases then_eq e2 with ⟨u, st2, e3, e4⟩ | ⟨e3, hnv⟩
    · refine rc e3 (hb2 _ _ e3) m2 p.2 (hn.mono g) (hd.mono g) g fun S3 d2 g2 g3 p2 => ?_
      try simp
      have pv := p.1.mono g3
      unfold Wk.law_walk_17B
      refine wp_ss ?_
      simp
      refine bad_val F p2.1 ?_
      simp
      iterate 1 refine if_no (S' := S3) (by simp [kdP]) ?_
      unfold Wk.law_walk_19B
      have iv := pv.sh_isi
      have iu := p2.1.sh_isi
      have stk : ((∃ i, v = .int i) → (∃ j, u = .int j) → False) → some (Res.stuck kk, st2) = some (r, st') → Wp (evSs (cxt P (k + 1)) (.cons (.ifs (.or (.cons (.not (.isi (.var 12) .int)) (.cons (.not (.isi (.var 13) .int)) .nil))) Wk.law_walk_19tB .nil) Wk.law_walk_20B) [some (D.tup [.str "sum", .int kk, b.d, c.d]), some dn, some dd, some (.ref a), some (.str "sum"), none, some (.ref w), none, none, none, none, none, some d, some d2] S3) fun a s => Wp (outV a s) Q := fun hno he => by
        cases he
        refine if_yes (S' := S3) ?_ ?_
        · cases v with
          | int i =>
            cases u with
            | int j => exact (hno ⟨i, rfl⟩ ⟨j, rfl⟩).elim
            | fn _ _ _ _ _ => simp [iv, iu]
          | fn _ _ _ _ _ => simp [iv]
        · unfold Wk.law_walk_19tB
          refine ret_wp ?_
          simp
          exact q S3 _ g2 ⟨rfl, p2.2.out⟩
      cases v with
      | int i =>
        cases u with
        | int j =>
          obtain rfl : d = .int i := pv
          obtain rfl : d2 = .int j := p2.1
          cases e4
          refine if_no (S' := S3) (by simp [isiD]) ?_
          unfold Wk.law_walk_20B
          refine ret_wp ?_
          have p3 := pre_self S3 [O.lst [.int (i + j), .int (if i < j then 1 else 0)]]
          simp [kdP, sub_lst new_at, -List.append_assoc, -List.length_append]
          exact q _ _ (g2.trans (.pre p3)) ⟨rfl, p2.2.pre p3⟩
        | fn _ _ _ _ _ => exact stk (fun _ ⟨j, h⟩ => by cases h) e4
      | fn _ _ _ _ _ => exact stk (fun ⟨i, h⟩ _ => by cases h) (by cases u <;> exact e4)
    · refine rc e3 (hb2 _ _ e3) m2 p.2 (hn.mono g) (hd.mono g) g fun S3 d2 g2 g3 p2 => ?_
      try simp
      unfold Wk.law_walk_17B
      refine wp_ss ?_
      simp
      refine wpost_bad F p2 (fun v e => absurd e (hnv v)) fun _ => ?_
      simp
      unfold Wk.law_walk_17tB
      refine ret_wp ?_
      simp
      exact q S3 d2 g2 p2
  · refine rc e1 hb m1 hs hn hd .refl fun S2 d g _ p => ?_
    try simp
    unfold Wk.law_walk_13B
    refine wp_ss ?_
    simp
    refine wpost_bad F p (fun v e => absurd e (hnv v)) fun _ => ?_
    simp
    unfold Wk.law_walk_13tB
    refine ret_wp ?_
    simp
    exact q S2 d g p
theorem walk_less (F : Walks P) (few : Few (nmk NM)) (E : WkOk P NM n) {kk : Int} {b : Pl} {c : Pl} {e : Pl} (he : e = .less kk b c) : WkE P NM (n + 1) e := by
  intro ns ds st r st' H hb hnm k hk S a o w dn dd Q hs hn hd q
  obtain ⟨k, rfl⟩ : ∃ m, k = m + 2 := ⟨k - 2, by omega⟩
  rw [call_fn F.walk, run_fn2 rfl, wp_bind]
  show Wp (evSs (cxt P (k + 1)) Wk.law_walkB [some e.d, some dn, some dd, some (.ref a), none, none, none, none, none, none, none, none, none, none] S) _
  have rc : ∀ {e1 : Pl} {ns1 : Ns} {ds1 : Ds} {st1 : St} {r1 : Res} {st2 : St} {S1 : Sto} {dn1 dd1 : D} {K : D → Sto → Prop}, ev2 n e1 ns1 ds1 st1 = some (r1, st2) → st2.out.length ≤ 10000000 → e1.nms NM → StW S1 a o w st1 → WN NM S1 [a, o, w] ns1 dn1 → WD NM S1 [a, o, w] ds1 dd1 → Frm [a, o, w] S S1 →
      (∀ S' d, Frm [a, o, w] S S' → Frm [a, o, w] S1 S' → PostW NM S' a o w r1 st2 d → K d S') → Wp ((cxt P (k + 1)).call "_law_walk" [e1.d, dn1, dd1, .ref a] S1) K := fun h1 h2 h3 h4 h5 h6 g h => E _ _ _ _ _ _ h1 h2 h3 (k + 1) (by omega) _ a o w _ _ _ h4 h5 h6 fun S' d g' p => h S' d (g.trans g') g' p
  have c0 : subD (cxt P (k + 1)).cds (.ref a) (.int 0) S = .ok (.int (st.fu : Int)) S := by rw [sub_lst hs.fc]; rfl
  have c1 : ∀ {S1 : Sto} {st1 : St}, StW S1 a o w st1 → ∀ cds, subD cds (.ref a) (.int 1) S1 = .ok (.ref o) S1 := fun h cds => by rw [sub_lst h.fc]; rfl
  have c2 : ∀ {S1 : Sto} {st1 : St}, StW S1 a o w st1 → ∀ cds, subD cds (.ref a) (.int 2) S1 = .ok (.ref w) S1 := fun h cds => by rw [sub_lst h.fc]; rfl
  have c3 : ∀ {S1 : Sto} {st1 : St}, StW S1 a o w st1 → ∀ cds, subD cds (.ref a) (.int 0) S1 = .ok (.int (st1.fu : Int)) S1 := fun h cds => by rw [sub_lst h.fc]; rfl
  have st0 : ∀ {K : Out → Sto → Prop}, Wp (evSs (cxt P (k + 1)) Wk.law_walk_1B [some e.d, some dn, some dd, some (.ref a), some (.str (kdP e)), none, none, none, none, none, none, none, none, none] S) K → Wp (evSs (cxt P (k + 1)) Wk.law_walkB [some e.d, some dn, some dd, some (.ref a), none, none, none, none, none, none, none, none, none, none] S) K := fun h => by
    unfold Wk.law_walkB
    refine wp_ss ?_
    simp [pl_d0]
    exact h
  refine st0 ?_
  subst he
  have H : (ev2 n b ns ds st).then (fun v st1 => (ev2 n c ns ds st1).then fun u st2 => match v, u with | .int i, .int j => some (.val (.int (if i < j then 1 else 0)), st2) | _, _ => some (.stuck kk, st2)) = some (r, st') := H
  obtain ⟨m1, m2⟩ := hnm
  iterate 5 refine if_no (S' := S) (by simp [kdP]) ?_
  refine wp_ss ?_
  simp [c2 hs]
  iterate 5 refine if_no (S' := S) (by simp [kdP]) ?_
  unfold Wk.law_walk_12B
  refine wp_ss ?_
  simp [Pl.d]
  rcases then_eq H with ⟨v, st1, e1, e2⟩ | ⟨e1, hnv⟩
  · have hb2 : ∀ r2 st2, (ev2 n c ns ds st1) = some (r2, st2) → st2.out.length ≤ 10000000 := fun r2 st2 h => by
      rcases then_eq e2 with ⟨u, st3, e3, e4⟩ | ⟨e3, _⟩
      · rw [h] at e3
        injection e3 with e3
        injection e3 with _ e3
        subst e3
        refine Nat.le_trans ?_ hb
        cases v <;> cases u <;> cases e4 <;> exact Nat.le_refl _
      · rw [h] at e3
        injection e3 with e3
        injection e3 with _ e3
        subst e3
        exact hb
    have hb1 : st1.out.length ≤ 10000000 := by
      rcases then_eq e2 with ⟨u, st3, e3, e4⟩ | ⟨e3, _⟩
      · exact Nat.le_trans (ev_out _ _ _ _ _ _ _ e3) (hb2 _ _ e3)
      · exact Nat.le_trans (ev_out _ _ _ _ _ _ _ e3) hb
    refine rc e1 hb1 m1 hs hn hd .refl fun S2 d g _ p => ?_
    try simp
    unfold Wk.law_walk_13B
    refine wp_ss ?_
    simp
    refine bad_val F p.1 ?_
    simp
    iterate 2 refine if_no (S' := S2) (by simp [kdP]) ?_
    unfold Wk.law_walk_16B
    refine wp_ss ?_
    simp
    rcases then_eq e2 with ⟨u, st2, e3, e4⟩ | ⟨e3, hnv⟩
    · refine rc e3 (hb2 _ _ e3) m2 p.2 (hn.mono g) (hd.mono g) g fun S3 d2 g2 g3 p2 => ?_
      try simp
      have pv := p.1.mono g3
      unfold Wk.law_walk_17B
      refine wp_ss ?_
      simp
      refine bad_val F p2.1 ?_
      simp
      iterate 1 refine if_no (S' := S3) (by simp [kdP]) ?_
      unfold Wk.law_walk_19B
      have iv := pv.sh_isi
      have iu := p2.1.sh_isi
      have stk : ((∃ i, v = .int i) → (∃ j, u = .int j) → False) → some (Res.stuck kk, st2) = some (r, st') → Wp (evSs (cxt P (k + 1)) (.cons (.ifs (.or (.cons (.not (.isi (.var 12) .int)) (.cons (.not (.isi (.var 13) .int)) .nil))) Wk.law_walk_19tB .nil) Wk.law_walk_20B) [some (D.tup [.str "less", .int kk, b.d, c.d]), some dn, some dd, some (.ref a), some (.str "less"), none, some (.ref w), none, none, none, none, none, some d, some d2] S3) fun a s => Wp (outV a s) Q := fun hno he => by
        cases he
        refine if_yes (S' := S3) ?_ ?_
        · cases v with
          | int i =>
            cases u with
            | int j => exact (hno ⟨i, rfl⟩ ⟨j, rfl⟩).elim
            | fn _ _ _ _ _ => simp [iv, iu]
          | fn _ _ _ _ _ => simp [iv]
        · unfold Wk.law_walk_19tB
          refine ret_wp ?_
          simp
          exact q S3 _ g2 ⟨rfl, p2.2.out⟩
      cases v with
      | int i =>
        cases u with
        | int j =>
          obtain rfl : d = .int i := pv
          obtain rfl : d2 = .int j := p2.1
          cases e4
          refine if_no (S' := S3) (by simp [isiD]) ?_
          unfold Wk.law_walk_20B
          refine ret_wp ?_
          have p3 := pre_self S3 [O.lst [.int (i + j), .int (if i < j then 1 else 0)]]
          simp [kdP, sub_lst new_at, -List.append_assoc, -List.length_append]
          exact q _ _ (g2.trans (.pre p3)) ⟨rfl, p2.2.pre p3⟩
        | fn _ _ _ _ _ => exact stk (fun _ ⟨j, h⟩ => by cases h) e4
      | fn _ _ _ _ _ => exact stk (fun ⟨i, h⟩ _ => by cases h) (by cases u <;> exact e4)
    · refine rc e3 (hb2 _ _ e3) m2 p.2 (hn.mono g) (hd.mono g) g fun S3 d2 g2 g3 p2 => ?_
      try simp
      unfold Wk.law_walk_17B
      refine wp_ss ?_
      simp
      refine wpost_bad F p2 (fun v e => absurd e (hnv v)) fun _ => ?_
      simp
      unfold Wk.law_walk_17tB
      refine ret_wp ?_
      simp
      exact q S3 d2 g2 p2
  · refine rc e1 hb m1 hs hn hd .refl fun S2 d g _ p => ?_
    try simp
    unfold Wk.law_walk_13B
    refine wp_ss ?_
    simp
    refine wpost_bad F p (fun v e => absurd e (hnv v)) fun _ => ?_
    simp
    unfold Wk.law_walk_13tB
    refine ret_wp ?_
    simp
    exact q S2 d g p
theorem walk_step (F : Walks P) (few : Few (nmk NM)) (E : WkOk P NM n) : WkOk P NM (n + 1) := by
  intro e
  cases e with
  | num i => exact walk_num F few E rfl
  | name x => exact walk_name F few E rfl
  | force x => exact walk_force F few E rfl
  | delay x b c => exact walk_delay F few E rfl
  | fn kk x b => exact walk_fn F few E rfl
  | put s m => exact walk_put F few E rfl
  | set_ s m b => exact walk_set_ F few E rfl
  | tick b => exact walk_tick F few E rfl
  | let_ x b c => exact walk_let_ F few E rfl
  | switch s bs b => exact walk_switch F few E rfl
  | say kk b => exact walk_say F few E rfl
  | ite kk c b1 b2 => exact walk_ite F few E rfl
  | call kk b c => exact walk_call F few E rfl
  | sum kk b c => exact walk_sum F few E rfl
  | less kk b c => exact walk_less F few E rfl
theorem walk_ok (F : Walks P) (few : Few (nmk NM)) : ∀ n, WkOk P NM n
  | 0 => fun _ _ _ _ _ _ h => by cases h
  | n + 1 => walk_step F few (walk_ok F few n)
end
end Mi
set_option Elab.async false
set_option linter.all false
set_option maxRecDepth 100000
set_option maxHeartbeats 2000000
/-! M56: the runs of plain programs: their defs, printed by wip/gen/share.py. -/
namespace Mi
open PySem L2
class PnN where
  inner : Str
  shown : Str
  with_name : Str
namespace Pr0
variable [PnN]
def inner_1tB : Sms := .cons (.ret (.lst .nil)) .nil
def inner_2tB : Sms := .cons (.ret (.lst (.cons (.sub (.var 0) (.int 2)) (.cons (.sub (.var 0) (.int 3)) .nil)))) .nil
def inner_3tB : Sms := .cons (.ret (.lst (.cons (.sub (.var 0) (.int 2)) (.cons (.sub (.var 0) (.int 3)) (.cons (.sub (.var 0) (.int 4)) .nil))))) .nil
def inner_4tB : Sms := .cons (.ret (.lst (.cons (.sub (.var 0) (.int 2)) (.cons (.sub (.var 0) (.int 3)) .nil)))) .nil
def inner_5tB : Sms := .cons (.ret (.bin .Add (.lc (.tp [2, 3]) (.seq (.sub (.var 0) (.int 2))) .nop (.var 3) [2, 3]) (.lst (.cons (.sub (.var 0) (.int 3)) .nil)))) .nil
def inner_6B : Sms := .cons (.ret (.lst (.cons (.sub (.var 0) (.neg (.int 1))) .nil))) .nil
def inner_5B : Sms := .cons (.ifs (.cmp .Eq (.var 1) (.str "switch")) inner_5tB .nil) inner_6B
def inner_4B : Sms := .cons (.ifs (.cmp .In (.var 1) (.tup (.cons (.str "let") (.cons (.str "delay") .nil)))) inner_4tB .nil) inner_5B
def inner_3B : Sms := .cons (.ifs (.cmp .Eq (.var 1) (.str "if")) inner_3tB .nil) inner_4B
def inner_2B : Sms := .cons (.ifs (.cmp .In (.var 1) (.tup (.cons (.str "call") (.cons (.str "sum") (.cons (.str "less") .nil))))) inner_2tB .nil) inner_3B
def inner_1B : Sms := .cons (.ifs (.cmp .In (.var 1) (.tup (.cons (.str "num") (.cons (.str "name") (.cons (.str "force") (.cons (.str "put") .nil)))))) inner_1tB .nil) inner_2B
def innerB : Sms := .cons (.asg (.nm 1) (.sub (.var 0) (.int 0))) inner_1B
def innerF : Fn := ⟨1, 4, innerB⟩
def plain_size_2b_2B : Sms := .cons (.exp (.bm .extend (.var 2) (.cons (.call PnN.inner (.cons (.var 3) .nil)) .nil))) .nil
def plain_size_2b_1B : Sms := .cons (.aug 1 .Add (.int 1)) plain_size_2b_2B
def plain_size_2bB : Sms := .cons (.asg (.nm 3) (.bm .pop (.var 2) .nil)) plain_size_2b_1B
def plain_size_3B : Sms := .cons (.ret (.var 1)) .nil
def plain_size_2B : Sms := .cons (.whl (.var 2) plain_size_2bB) plain_size_3B
def plain_size_1B : Sms := .cons (.asg (.nm 2) (.lst (.cons (.var 0) .nil))) plain_size_2B
def plain_sizeB : Sms := .cons (.asg (.nm 1) (.int 0)) plain_size_1B
def plain_sizeF : Fn := ⟨1, 4, plain_sizeB⟩
def shownB : Sms := .cons (.ret (.ife (.isi (.var 0) .int) (.var 0) (.tup (.cons (.str "fn") (.cons (.sub (.var 0) (.int 1)) .nil))))) .nil
def shownF : Fn := ⟨1, 1, shownB⟩
def find_0bB : Sms := .cons (.asg (.nm 0) (.fld (.var 0) "outer")) .nil
def find_1B : Sms := .cons (.ret (.fld (.var 0) "value")) .nil
def findB : Sms := .cons (.whl (.cmp .NotEq (.fld (.var 0) "name") (.var 1)) find_0bB) find_1B
def findF : Fn := ⟨2, 2, findB⟩
def with_nameB : Sms := .cons (.ret (.tup (.cons (.make "Link" (.cons (.var 1) (.cons (.var 2) (.cons (.sub (.var 0) (.int 0)) .nil)))) (.cons (.sub (.var 0) (.int 1)) .nil)))) .nil
def with_nameF : Fn := ⟨3, 3, with_nameB⟩
def chosen_0b_0tB : Sms := .cons (.ret (.var 3)) .nil
def chosen_0bB : Sms := .cons (.ifs (.cmp .Eq (.var 2) (.var 1)) chosen_0b_0tB .nil) .nil
def chosen_1B : Sms := .cons (.ret (.sub (.var 0) (.int 3))) .nil
def chosenB : Sms := .cons (.for_ (.tp [2, 3]) (.seq (.sub (.var 0) (.int 2))) chosen_0bB) chosen_1B
def chosenF : Fn := ⟨2, 4, chosenB⟩
def run_plain_2B : Sms := .cons (.ret (.tup (.cons (.bf .tuple (.cons (.fld (.var 2) "outputs") .nil)) (.cons (.fld (.var 2) "end") .nil)))) .nil
def run_plain_1B : Sms := .cons (.exp (.meth "run" (.var 2) .nil)) run_plain_2B
def run_plainB : Sms := .cons (.asg (.nm 2) (.make "PlainRun" (.cons (.var 0) (.cons (.var 1) .nil)))) run_plain_1B
def run_plainF : Fn := ⟨2, 3, run_plainB⟩
def Link_init_2B : Sms := .cons (.asg (.fld (.var 0) "outer") (.var 3)) .nil
def Link_init_1B : Sms := .cons (.asg (.fld (.var 0) "value") (.var 2)) Link_init_2B
def Link_initB : Sms := .cons (.asg (.fld (.var 0) "name") (.var 1)) Link_init_1B
def Link_initF : Fn := ⟨4, 4, Link_initB⟩
def PlainRun_init_6B : Sms := .cons (.asg (.fld (.var 0) "end") .non) .nil
def PlainRun_init_5B : Sms := .cons (.asg (.fld (.var 0) "outputs") (.lst .nil)) PlainRun_init_6B
def PlainRun_init_4B : Sms := .cons (.asg (.fld (.var 0) "switches") .dK) PlainRun_init_5B
def PlainRun_init_3B : Sms := .cons (.asg (.fld (.var 0) "waiting") (.lst .nil)) PlainRun_init_4B
def PlainRun_init_2B : Sms := .cons (.asg (.fld (.var 0) "fuel") (.var 2)) PlainRun_init_3B
def PlainRun_init_1B : Sms := .cons (.asg (.fld (.var 0) "names") (.tup (.cons .non (.cons .non .nil)))) PlainRun_init_2B
def PlainRun_initB : Sms := .cons (.asg (.fld (.var 0) "e") (.var 1)) PlainRun_init_1B
def PlainRun_initF : Fn := ⟨3, 3, PlainRun_initB⟩
def PlainRun_run_0b_1bB : Sms := .cons (.asg (.nm 1) (.meth "resume" (.var 0) (.cons (.var 1) .nil))) .nil
def PlainRun_run_0b_1B : Sms := .cons (.whl (.and (.cons (.cmp .IsNot (.var 1) .non) (.cons (.cmp .Is (.fld (.var 0) "end") .non) .nil))) PlainRun_run_0b_1bB) .nil
def PlainRun_run_0bB : Sms := .cons (.asg (.nm 1) (.meth "begin" (.var 0) .nil)) PlainRun_run_0b_1B
def PlainRun_runB : Sms := .cons (.whl (.cmp .Is (.fld (.var 0) "end") .non) PlainRun_run_0bB) .nil
def PlainRun_runF : Fn := ⟨1, 2, PlainRun_runB⟩
def PlainRun_go_1B : Sms := .cons (.asg (.fld (.var 0) "names") (.var 2)) .nil
def PlainRun_goB : Sms := .cons (.asg (.fld (.var 0) "e") (.var 1)) PlainRun_go_1B
def PlainRun_goF : Fn := ⟨3, 3, PlainRun_goB⟩
def PlainRun_waitB : Sms := .cons (.exp (.bm .append (.fld (.var 0) "waiting") (.cons (.var 1) .nil))) .nil
def PlainRun_waitF : Fn := ⟨2, 2, PlainRun_waitB⟩
def PlainRun_step_0t_1B : Sms := .cons (.ret (.bl false)) .nil
def PlainRun_step_0tB : Sms := .cons (.asg (.fld (.var 0) "end") (.tup (.cons (.str "more") .nil))) PlainRun_step_0t_1B
def PlainRun_step_2B : Sms := .cons (.ret (.bl true)) .nil
def PlainRun_step_1B : Sms := .cons (.faug (.var 0) "fuel" .Sub (.int 1)) PlainRun_step_2B
def PlainRun_stepB : Sms := .cons (.ifs (.cmp .Eq (.fld (.var 0) "fuel") (.int 0)) PlainRun_step_0tB .nil) PlainRun_step_1B
def PlainRun_stepF : Fn := ⟨1, 1, PlainRun_stepB⟩
def PlainRun_stickB : Sms := .cons (.asg (.fld (.var 0) "end") (.tup (.cons (.str "stuck") (.cons (.var 1) .nil)))) .nil
def PlainRun_stickF : Fn := ⟨2, 2, PlainRun_stickB⟩
def PlainRun_begin_2tB : Sms := .cons (.ret (.sub (.var 1) (.int 1))) .nil
def PlainRun_begin_3tB : Sms := .cons (.ret (.call "find" (.cons (.sub (.fld (.var 0) "names") (.int 0)) (.cons (.sub (.var 1) (.int 1)) .nil)))) .nil
def PlainRun_begin_4tB : Sms := .cons (.ret (.tup (.cons (.str "fn") (.cons (.sub (.var 1) (.int 1)) (.cons (.sub (.var 1) (.int 2)) (.cons (.sub (.var 1) (.int 3)) (.cons (.fld (.var 0) "names") .nil))))))) .nil
def PlainRun_begin_5t_1B : Sms := .cons (.ret (.int 0)) .nil
def PlainRun_begin_5tB : Sms := .cons (.asg (.sub (.fld (.var 0) "switches") (.sub (.var 1) (.int 1))) (.sub (.var 1) (.int 2))) PlainRun_begin_5t_1B
def PlainRun_begin_6t_1B : Sms := .cons (.exp (.meth "go" (.var 0) (.cons (.sub (.var 1) (.int 2)) (.cons (.fld (.var 0) "names") .nil)))) .nil
def PlainRun_begin_6tB : Sms := .cons (.exp (.meth "wait" (.var 0) (.cons (.tup (.cons (.var 2) (.cons (.var 1) (.cons (.fld (.var 0) "names") .nil)))) .nil))) PlainRun_begin_6t_1B
def PlainRun_begin_6eB : Sms := .cons (.exp (.meth "pass_through" (.var 0) (.cons (.var 1) (.cons (.var 2) .nil)))) .nil
def PlainRun_begin_7B : Sms := .cons (.ret .non) .nil
def PlainRun_begin_6B : Sms := .cons (.ifs (.cmp .In (.var 2) (.tup (.cons (.str "call") (.cons (.str "sum") (.cons (.str "less") (.cons (.str "if") (.cons (.str "say") (.cons (.str "let") .nil)))))))) PlainRun_begin_6tB PlainRun_begin_6eB) PlainRun_begin_7B
def PlainRun_begin_5B : Sms := .cons (.ifs (.cmp .Eq (.var 2) (.str "put")) PlainRun_begin_5tB .nil) PlainRun_begin_6B
def PlainRun_begin_4B : Sms := .cons (.ifs (.cmp .Eq (.var 2) (.str "fn")) PlainRun_begin_4tB .nil) PlainRun_begin_5B
def PlainRun_begin_3B : Sms := .cons (.ifs (.cmp .Eq (.var 2) (.str "name")) PlainRun_begin_3tB .nil) PlainRun_begin_4B
def PlainRun_begin_2B : Sms := .cons (.ifs (.cmp .Eq (.var 2) (.str "num")) PlainRun_begin_2tB .nil) PlainRun_begin_3B
def PlainRun_begin_1B : Sms := .cons (.asg (.nm 2) (.sub (.var 1) (.int 0))) PlainRun_begin_2B
def PlainRun_beginB : Sms := .cons (.asg (.nm 1) (.fld (.var 0) "e")) PlainRun_begin_1B
def PlainRun_beginF : Fn := ⟨1, 3, PlainRun_beginB⟩
def PlainRun_pass_through_0t_0tB : Sms := .cons (.exp (.meth "go" (.var 0) (.cons (.sub (.var 1) (.int 1)) (.cons (.fld (.var 0) "names") .nil)))) .nil
def PlainRun_pass_through_0tB : Sms := .cons (.ifs (.meth "step" (.var 0) .nil) PlainRun_pass_through_0t_0tB .nil) .nil
def PlainRun_pass_through_0e_0tB : Sms := .cons (.exp (.meth "go" (.var 0) (.cons (.sub (.var 1) (.int 3)) (.cons (.tup (.cons (.sub (.fld (.var 0) "names") (.int 0)) (.cons (.make "Link" (.cons (.sub (.var 1) (.int 1)) (.cons (.tup (.cons (.sub (.var 1) (.int 2)) (.cons (.fld (.var 0) "names") .nil))) (.cons (.sub (.fld (.var 0) "names") (.int 1)) .nil)))) .nil))) .nil)))) .nil
def PlainRun_pass_through_0e_0e_0t_1B : Sms := .cons (.exp (.meth "go" (.var 0) (.cons (.var 3) (.cons (.var 4) .nil)))) .nil
def PlainRun_pass_through_0e_0e_0tB : Sms := .cons (.asg (.tp [3, 4]) (.call "find" (.cons (.sub (.fld (.var 0) "names") (.int 1)) (.cons (.sub (.var 1) (.int 1)) .nil)))) PlainRun_pass_through_0e_0e_0t_1B
def PlainRun_pass_through_0e_0e_0e_0tB : Sms := .cons (.exp (.meth "go" (.var 0) (.cons (.call "chosen" (.cons (.var 1) (.cons (.bm .get2 (.fld (.var 0) "switches") (.cons (.sub (.var 1) (.int 1)) (.cons (.int 0) .nil))) .nil))) (.cons (.fld (.var 0) "names") .nil)))) .nil
def PlainRun_pass_through_0e_0e_0e_0e_2B : Sms := .cons (.exp (.meth "go" (.var 0) (.cons (.sub (.var 1) (.int 3)) (.cons (.fld (.var 0) "names") .nil)))) .nil
def PlainRun_pass_through_0e_0e_0e_0e_1B : Sms := .cons (.asg (.sub (.fld (.var 0) "switches") (.sub (.var 1) (.int 1))) (.sub (.var 1) (.int 2))) PlainRun_pass_through_0e_0e_0e_0e_2B
def PlainRun_pass_through_0e_0e_0e_0eB : Sms := .cons (.exp (.meth "wait" (.var 0) (.cons (.tup (.cons (.str "set") (.cons (.sub (.var 1) (.int 1)) (.cons (.bm .get2 (.fld (.var 0) "switches") (.cons (.sub (.var 1) (.int 1)) (.cons (.int 0) .nil))) .nil)))) .nil))) PlainRun_pass_through_0e_0e_0e_0e_1B
def PlainRun_pass_through_0e_0e_0eB : Sms := .cons (.ifs (.cmp .Eq (.var 2) (.str "switch")) PlainRun_pass_through_0e_0e_0e_0tB PlainRun_pass_through_0e_0e_0e_0eB) .nil
def PlainRun_pass_through_0e_0eB : Sms := .cons (.ifs (.cmp .Eq (.var 2) (.str "force")) PlainRun_pass_through_0e_0e_0tB PlainRun_pass_through_0e_0e_0eB) .nil
def PlainRun_pass_through_0eB : Sms := .cons (.ifs (.cmp .Eq (.var 2) (.str "delay")) PlainRun_pass_through_0e_0tB PlainRun_pass_through_0e_0eB) .nil
def PlainRun_pass_throughB : Sms := .cons (.ifs (.cmp .Eq (.var 2) (.str "tick")) PlainRun_pass_through_0tB PlainRun_pass_through_0eB) .nil
def PlainRun_pass_throughF : Fn := ⟨3, 5, PlainRun_pass_throughB⟩
def PlainRun_resume_0t_1B : Sms := .cons (.ret .non) .nil
def PlainRun_resume_0tB : Sms := .cons (.asg (.fld (.var 0) "end") (.tup (.cons (.str "value") (.cons (.call PnN.shown (.cons (.var 1) .nil)) .nil)))) PlainRun_resume_0t_1B
def PlainRun_resume_3t_1B : Sms := .cons (.ret (.var 1)) .nil
def PlainRun_resume_3tB : Sms := .cons (.asg (.sub (.fld (.var 0) "switches") (.sub (.var 2) (.int 1))) (.sub (.var 2) (.int 2))) PlainRun_resume_3t_1B
def PlainRun_resume_4tB : Sms := .cons (.ret (.meth "operate" (.var 0) (.cons (.sub (.var 2) (.int 1)) (.cons (.sub (.var 2) (.int 2)) (.cons (.var 1) .nil))))) .nil
def PlainRun_resume_6t_1B : Sms := .cons (.ret (.var 1)) .nil
def PlainRun_resume_6tB : Sms := .cons (.exp (.bm .append (.fld (.var 0) "outputs") (.cons (.tup (.cons (.sub (.var 4) (.int 1)) (.cons (.call PnN.shown (.cons (.var 1) .nil)) .nil))) .nil))) PlainRun_resume_6t_1B
def PlainRun_resume_7tB : Sms := .cons (.exp (.meth "go" (.var 0) (.cons (.sub (.var 4) (.int 3)) (.cons (.call PnN.with_name (.cons (.var 5) (.cons (.sub (.var 4) (.int 1)) (.cons (.var 1) .nil)))) .nil)))) .nil
def PlainRun_resume_7e_0tB : Sms := .cons (.exp (.meth "decide" (.var 0) (.cons (.var 4) (.cons (.var 5) (.cons (.var 1) .nil))))) .nil
def PlainRun_resume_7e_0e_1B : Sms := .cons (.exp (.meth "go" (.var 0) (.cons (.sub (.var 4) (.int 3)) (.cons (.var 5) .nil)))) .nil
def PlainRun_resume_7e_0eB : Sms := .cons (.exp (.meth "wait" (.var 0) (.cons (.tup (.cons (.str "second") (.cons (.var 4) (.cons (.var 1) .nil)))) .nil))) PlainRun_resume_7e_0e_1B
def PlainRun_resume_7eB : Sms := .cons (.ifs (.cmp .Eq (.var 3) (.str "if")) PlainRun_resume_7e_0tB PlainRun_resume_7e_0eB) .nil
def PlainRun_resume_8B : Sms := .cons (.ret .non) .nil
def PlainRun_resume_7B : Sms := .cons (.ifs (.cmp .Eq (.var 3) (.str "let")) PlainRun_resume_7tB PlainRun_resume_7eB) PlainRun_resume_8B
def PlainRun_resume_6B : Sms := .cons (.ifs (.cmp .Eq (.var 3) (.str "say")) PlainRun_resume_6tB .nil) PlainRun_resume_7B
def PlainRun_resume_5B : Sms := .cons (.par 4 5 (.sub (.var 2) (.int 1)) (.sub (.var 2) (.int 2))) PlainRun_resume_6B
def PlainRun_resume_4B : Sms := .cons (.ifs (.cmp .Eq (.var 3) (.str "second")) PlainRun_resume_4tB .nil) PlainRun_resume_5B
def PlainRun_resume_3B : Sms := .cons (.ifs (.cmp .Eq (.var 3) (.str "set")) PlainRun_resume_3tB .nil) PlainRun_resume_4B
def PlainRun_resume_2B : Sms := .cons (.asg (.nm 3) (.sub (.var 2) (.int 0))) PlainRun_resume_3B
def PlainRun_resume_1B : Sms := .cons (.asg (.nm 2) (.bm .pop (.fld (.var 0) "waiting") .nil)) PlainRun_resume_2B
def PlainRun_resumeB : Sms := .cons (.ifs (.not (.fld (.var 0) "waiting")) PlainRun_resume_0tB .nil) PlainRun_resume_1B
def PlainRun_resumeF : Fn := ⟨2, 6, PlainRun_resumeB⟩
def PlainRun_decide_0tB : Sms := .cons (.exp (.meth "stick" (.var 0) (.cons (.sub (.var 1) (.int 1)) .nil))) .nil
def PlainRun_decide_0eB : Sms := .cons (.exp (.meth "go" (.var 0) (.cons (.ife (.cmp .NotEq (.var 3) (.int 0)) (.sub (.var 1) (.int 3)) (.sub (.var 1) (.int 4))) (.cons (.var 2) .nil)))) .nil
def PlainRun_decideB : Sms := .cons (.ifs (.not (.isi (.var 3) .int)) PlainRun_decide_0tB PlainRun_decide_0eB) .nil
def PlainRun_decideF : Fn := ⟨4, 4, PlainRun_decideB⟩
def PlainRun_operate_0t_1B : Sms := .cons (.ret .non) .nil
def PlainRun_operate_0tB : Sms := .cons (.exp (.meth "enter" (.var 0) (.cons (.sub (.var 1) (.int 1)) (.cons (.var 2) (.cons (.var 3) .nil))))) PlainRun_operate_0t_1B
def PlainRun_operate_1t_1B : Sms := .cons (.ret .non) .nil
def PlainRun_operate_1tB : Sms := .cons (.exp (.meth "stick" (.var 0) (.cons (.sub (.var 1) (.int 1)) .nil))) PlainRun_operate_1t_1B
def PlainRun_operate_2B : Sms := .cons (.ret (.ife (.cmp .Eq (.sub (.var 1) (.int 0)) (.str "sum")) (.bin .Add (.var 2) (.var 3)) (.bf .int (.cons (.cmp .Lt (.var 2) (.var 3)) .nil)))) .nil
def PlainRun_operate_1B : Sms := .cons (.ifs (.or (.cons (.not (.isi (.var 2) .int)) (.cons (.not (.isi (.var 3) .int)) .nil))) PlainRun_operate_1tB .nil) PlainRun_operate_2B
def PlainRun_operateB : Sms := .cons (.ifs (.cmp .Eq (.sub (.var 1) (.int 0)) (.str "call")) PlainRun_operate_0tB .nil) PlainRun_operate_1B
def PlainRun_operateF : Fn := ⟨4, 4, PlainRun_operateB⟩
def PlainRun_enter_0tB : Sms := .cons (.exp (.meth "stick" (.var 0) (.cons (.var 1) .nil))) .nil
def PlainRun_enter_0e_0tB : Sms := .cons (.exp (.meth "go" (.var 0) (.cons (.sub (.var 2) (.int 3)) (.cons (.call PnN.with_name (.cons (.sub (.var 2) (.int 4)) (.cons (.sub (.var 2) (.int 2)) (.cons (.var 3) .nil)))) .nil)))) .nil
def PlainRun_enter_0eB : Sms := .cons (.ifs (.meth "step" (.var 0) .nil) PlainRun_enter_0e_0tB .nil) .nil
def PlainRun_enterB : Sms := .cons (.ifs (.or (.cons (.isi (.var 2) .int) (.cons (.cmp .NotEq (.sub (.var 2) (.int 1)) (.var 1)) .nil))) PlainRun_enter_0tB PlainRun_enter_0eB) .nil
def PlainRun_enterF : Fn := ⟨4, 4, PlainRun_enterB⟩
end Pr0
class PnC where
  link : Nat
  run : Nat
structure Plains [PnN] [PnC] (P : Pr) : Prop where
  shown : P.fns.lookup PnN.shown = some Pr0.shownF
  find : P.fns.lookup ("find" : Str) = some Pr0.findF
  with_name : P.fns.lookup PnN.with_name = some Pr0.with_nameF
  chosen : P.fns.lookup ("chosen" : Str) = some Pr0.chosenF
  run_plain : P.fns.lookup ("run_plain" : Str) = some Pr0.run_plainF
  clink : P.cl ("Link" : Str) = some PnC.link
  crun : P.cl ("PlainRun" : Str) = some PnC.run
  linkInit : P.mt PnC.link ("__init__" : Str) = some Pr0.Link_initF
  init : P.mt PnC.run ("__init__" : Str) = some Pr0.PlainRun_initF
  runM : P.mt PnC.run ("run" : Str) = some Pr0.PlainRun_runF
  go : P.mt PnC.run ("go" : Str) = some Pr0.PlainRun_goF
  wait : P.mt PnC.run ("wait" : Str) = some Pr0.PlainRun_waitF
  step : P.mt PnC.run ("step" : Str) = some Pr0.PlainRun_stepF
  stick : P.mt PnC.run ("stick" : Str) = some Pr0.PlainRun_stickF
  begin : P.mt PnC.run ("begin" : Str) = some Pr0.PlainRun_beginF
  pass : P.mt PnC.run ("pass_through" : Str) = some Pr0.PlainRun_pass_throughF
  resume : P.mt PnC.run ("resume" : Str) = some Pr0.PlainRun_resumeF
  decide : P.mt PnC.run ("decide" : Str) = some Pr0.PlainRun_decideF
  operate : P.mt PnC.run ("operate" : Str) = some Pr0.PlainRun_operateF
  enter : P.mt PnC.run ("enter" : Str) = some Pr0.PlainRun_enterF
theorem meth_fn {P : Pr} {k n : Nat} {m : Str} {fn : Fn} {vs : List D} {S : Sto} (h : P.mt n m = some fn) : (cxt P (k + 1)).meth n m vs S = runF (cxt P k) fn vs S := by
  show (match P.mt n m with | some fn => _ | none => _) = _
  rw [h]
def madeR (p : Nat) (v : D) (S1 : Sto) : R D := match v with
  | .non => .ok (.ref p) S1
  | _ => .bad
@[simp] theorem madeR_non (p : Nat) (S1 : Sto) : madeR p .non S1 = .ok (.ref p) S1 := rfl
theorem make_fn {P : Pr} {k n : Nat} {c : Str} {fn : Fn} {vs : List D} {S : Sto} (hc : P.cl c = some n) (h : P.mt n ("__init__" : Str) = some fn) : (cxt P (k + 2)).make c vs S = (runF (cxt P k) fn (.ref S.length :: vs) (S ++ [.ins n []])).bind fun v S1 => madeR S.length v S1 := by
  show (match P.cl c with | some n => _ | none => _) = _
  rw [hc]
  show ((cxt P (k + 1)).meth n "__init__" _ _).bind _ = _
  rw [meth_fn h]
  rfl
end Mi
set_option Elab.async false
set_option linter.all false
set_option maxRecDepth 100000
set_option maxHeartbeats 2000000
/-! M57: plain runs step by step (in plain Lean). -/
namespace Mi
open PySem L2
/-- what waits for a value -/
inductive Fr where
  | op (e : Pl) (ns : Ns) (ds : Ds) | sec (e : Pl) (v : Val) | back (s m : Int)
/-- what is done next -/
inductive Cf where
  | ev (e : Pl) (ns : Ns) (ds : Ds) | rv (v : Val) | fin (r : Res)
structure Mc where
  c : Cf
  w : List Fr
  st : St
/-- the expression whose value is wanted first -/
def Pl.fst : Pl → Option Pl
  | .call _ f _ => some f
  | .sum _ a _ => some a
  | .less _ a _ => some a
  | .ite _ c _ _ => some c
  | .say _ a => some a
  | .let_ _ a _ => some a
  | _ => none
def stepM (w : List Fr) (st : St) (e : Pl) (ns : Ns) (ds : Ds) : Mc := if st.fu = 0 then ⟨.fin .more, w, st⟩ else ⟨.ev e ns ds, w, { st with fu := st.fu - 1 }⟩
/-- an operation with two values -/
def oper (e : Pl) (v u : Val) (w : List Fr) (st : St) : Option Mc := match e with
  | .call k _ _ => match v with
    | .int _ => some ⟨.fin (.stuck k), w, st⟩
    | .fn j x b ns ds => if j = k then some (stepM w st b (.cons x u ns) ds) else some ⟨.fin (.stuck k), w, st⟩
  | .sum k _ _ => match v, u with
    | .int i, .int j => some ⟨.rv (.int (i + j)), w, st⟩
    | _, _ => some ⟨.fin (.stuck k), w, st⟩
  | .less k _ _ => match v, u with
    | .int i, .int j => some ⟨.rv (.int (if i < j then 1 else 0)), w, st⟩
    | _, _ => some ⟨.fin (.stuck k), w, st⟩
  | _ => none
def begM (e : Pl) (ns : Ns) (ds : Ds) (w : List Fr) (st : St) : Option Mc := match e with
  | .num i => some ⟨.rv (.int i), w, st⟩
  | .name x => (ns.look x).map fun v => ⟨.rv v, w, st⟩
  | .fn k x b => some ⟨.rv (.fn k x b ns ds), w, st⟩
  | .put s m => some ⟨.rv (.int 0), w, { st with sw := upS st.sw s m }⟩
  | .force x => (ds.look x).map fun q => ⟨.ev q.1 q.2.1 q.2.2, w, st⟩
  | .delay x a b => some ⟨.ev b ns (.cons x a ns ds ds), w, st⟩
  | .tick a => some (stepM w st a ns ds)
  | .switch s bs a => some ⟨.ev (bs.pick (st.sw s) a) ns ds, w, st⟩
  | .set_ s m a => some ⟨.ev a ns ds, .back s (st.sw s) :: w, { st with sw := upS st.sw s m }⟩
  | e => e.fst.map fun a => ⟨.ev a ns ds, .op e ns ds :: w, st⟩
def resM (v : Val) (w : List Fr) (st : St) : Option Mc := match w with
  | [] => some ⟨.fin (.val v), [], st⟩
  | .back s m :: w => some ⟨.rv v, w, { st with sw := upS st.sw s m }⟩
  | .sec e u :: w => oper e u v w st
  | .op e ns ds :: w => match e with
    | .say k _ => some ⟨.rv v, w, { st with out := st.out ++ [.tup [.int k, v.sh]] }⟩
    | .let_ x _ b => some ⟨.ev b (.cons x v ns) ds, w, st⟩
    | .ite k _ a b => match v with
      | .int i => some ⟨.ev (if i ≠ 0 then a else b) ns ds, w, st⟩
      | .fn _ _ _ _ _ => some ⟨.fin (.stuck k), w, st⟩
    | .call _ _ a => some ⟨.ev a ns ds, .sec e v :: w, st⟩
    | .sum _ _ a => some ⟨.ev a ns ds, .sec e v :: w, st⟩
    | .less _ _ a => some ⟨.ev a ns ds, .sec e v :: w, st⟩
    | _ => none
def nxt (m : Mc) : Option Mc := match m.c with
  | .ev e ns ds => begM e ns ds m.w m.st
  | .rv v => resM v m.w m.st
  | .fin _ => none
/-- so many steps lead there; no more than B wait -/
inductive Path (B : Nat) : Nat → Mc → Mc → Prop where
  | refl (m : Mc) : Path B 0 m m
  | step {n : Nat} {a b c : Mc} (h : nxt a = some b) (hb : b.w.length ≤ B) (p : Path B n b c) : Path B (n + 1) a c
theorem Path.trans {B : Nat} {a b c : Mc} {n k : Nat} (p : Path B n a b) (q : Path B k b c) : Path B (n + k) a c := by
  induction p with
  | refl m => rwa [Nat.zero_add]
  | @step n a b2 _ h hb _ ih =>
    rw [Nat.add_right_comm]
    exact .step h hb (ih q)
theorem Path.one {B : Nat} {a b : Mc} (h : nxt a = some b) (hb : b.w.length ≤ B) : Path B 1 a b := .step h hb (.refl _)
/-- where an evaluation leads -/
def EndsAt (B : Nat) (a : Mc) (w : List Fr) (r : Res) (st : St) : Prop := match r with
  | .val v => ∃ n, Path B n a ⟨.rv v, w, st⟩
  | .stuck k => ∃ n w', Path B n a ⟨.fin (.stuck k), w', st⟩
  | .more => ∃ n w', Path B n a ⟨.fin .more, w', st⟩
theorem EndsAt.pre {B n : Nat} {a b : Mc} {w : List Fr} {r : Res} {st : St} (p : Path B n a b) (h : EndsAt B b w r st) : EndsAt B a w r st := by
  cases r with
  | val v => obtain ⟨m, h⟩ := h; exact ⟨_, p.trans h⟩
  | stuck k => obtain ⟨m, w', h⟩ := h; exact ⟨_, w', p.trans h⟩
  | more => obtain ⟨m, w', h⟩ := h; exact ⟨_, w', p.trans h⟩
/-- a first part, and on -/
theorem EndsAt.then {B n : Nat} {a b : Mc} {w1 w : List Fr} {r : Res} {st' : St} {x : Ans} {f : Val → St → Ans} (h : x.then f = some (r, st')) (p : Path B n a b) (h1 : ∀ r1 s1, x = some (r1, s1) → EndsAt B b w1 r1 s1)
    (h2 : ∀ v s1, x = some (.val v, s1) → f v s1 = some (r, st') → EndsAt B ⟨.rv v, w1, s1⟩ w r st') : EndsAt B a w r st' := by
  rcases then_eq h with ⟨v, s1, e1, e2⟩ | ⟨e1, hn⟩
  · obtain ⟨m, q⟩ := h1 _ _ e1
    exact (h2 v s1 e1 e2).pre (p.trans q)
  · have := h1 _ _ e1
    cases r with
    | val v => exact absurd rfl (hn v)
    | stuck k => obtain ⟨m, w', q⟩ := this; exact ⟨_, w', p.trans q⟩
    | more => obtain ⟨m, w', q⟩ := this; exact ⟨_, w', p.trans q⟩
theorem ends_step {B n : Nat} {a : Mc} {w : List Fr} {st st' : St} {r : Res} {f : St → Ans} {e : Pl} {ns : Ns} {ds : Ds} (h : stepA st f = some (r, st')) (p : Path B n a (stepM w st e ns ds)) (h2 : ∀ st1, f st1 = some (r, st') → EndsAt B ⟨.ev e ns ds, w, st1⟩ w r st') : EndsAt B a w r st' := by
  unfold stepM at p
  rcases step_eq h with ⟨h0, e⟩ | ⟨m, hm, e⟩
  · cases e
    rw [if_pos h0] at p
    exact ⟨_, w, p⟩
  · rw [if_neg (by omega)] at p
    have : st.fu - 1 = m := by omega
    rw [this] at p
    exact (h2 _ e).pre p
/-- the steps do what the semantics says -/
theorem ev_path : ∀ (n : Nat) (e : Pl) (ns : Ns) (ds : Ds) (st : St) (r : Res) (st' : St), ev2 n e ns ds st = some (r, st') → ∀ (B : Nat) (w : List Fr), w.length + n ≤ B → EndsAt B ⟨.ev e ns ds, w, st⟩ w r st'
  | 0, _, _, _, _, _, _, h, _, _, _ => by cases h
  | n + 1, e, ns, ds, st, r, st', h, B, w, hB => by
    have ih := ev_path n
    have l1 : ∀ f : Fr, (f :: w).length + n ≤ B := fun f => by simp; omega
    have l2 : ∀ f : Fr, (f :: w).length ≤ B := fun f => by simp; omega
    have l0 : w.length + n ≤ B := by omega
    have l3 : w.length ≤ B := by omega
    have lS : ∀ (s : St) (e : Pl) (ns : Ns) (ds : Ds), (stepM w s e ns ds).w.length ≤ B := fun s e ns ds => by
      unfold stepM
      split <;> exact l3
    cases e with
    | num i => cases h; exact ⟨_, .one rfl l3⟩
    | name x =>
      obtain ⟨v, hv, e⟩ := Option.map_eq_some_iff.mp (show (ns.look x).map (fun v => (Res.val v, st)) = some (r, st') from h)
      cases e
      refine ⟨1, .one (b := ⟨.rv v, w, st⟩) ?_ l3⟩
      show (ns.look x).map _ = _
      rw [hv]
      rfl
    | fn k x b => cases h; exact ⟨_, .one rfl l3⟩
    | put s m => cases h; exact ⟨_, .one rfl l3⟩
    | force x =>
      have h : (match ds.look x with | some (e, ns, ds) => ev2 n e ns ds st | none => none) = some (r, st') := h
      split at h
      · rename_i e1 ns1 ds1 hl
        refine (ih _ _ _ _ _ _ h B w l0).pre (.one (b := ⟨.ev e1 ns1 ds1, w, st⟩) ?_ l3)
        show (ds.look x).map _ = _
        rw [hl]
        rfl
      · cases h
    | delay x a b => exact (ih _ _ _ _ _ _ h B w l0).pre (.one rfl l3)
    | tick a => exact ends_step h (.one rfl (lS _ _ _ _)) fun st1 e => ih _ _ _ _ _ _ e B w l0
    | switch s bs a => exact (ih _ _ _ _ _ _ h B w l0).pre (.one rfl l3)
    | set_ s m a =>
      refine EndsAt.then (w1 := .back s (st.sw s) :: w) h (.one rfl (l2 _)) (fun r1 s1 e => ih _ _ _ _ _ _ e B _ (l1 _)) fun v s1 e1 e => ?_
      cases e
      exact ⟨1, .one rfl l3⟩
    | let_ x a b => exact EndsAt.then (w1 := .op (.let_ x a b) ns ds :: w) h (.one rfl (l2 _)) (fun r1 s1 e => ih _ _ _ _ _ _ e B _ (l1 _)) fun v s1 e1 e => (ih _ _ _ _ _ _ e B w l0).pre (.one rfl l3)
    | say k a =>
      refine EndsAt.then (w1 := .op (.say k a) ns ds :: w) h (.one rfl (l2 _)) (fun r1 s1 e => ih _ _ _ _ _ _ e B _ (l1 _)) fun v s1 e1 e => ?_
      cases e
      exact ⟨1, .one rfl l3⟩
    | ite k c a b =>
      refine EndsAt.then (w1 := .op (.ite k c a b) ns ds :: w) h (.one rfl (l2 _)) (fun r1 s1 e => ih _ _ _ _ _ _ e B _ (l1 _)) fun v s1 e1 e => ?_
      cases v with
      | int i => exact (ih _ _ _ _ _ _ e B w l0).pre (.one rfl l3)
      | fn _ _ _ _ _ => cases e; exact ⟨1, w, .one rfl l3⟩
    | call k f a =>
      refine EndsAt.then (w1 := .op (.call k f a) ns ds :: w) h (.one rfl (l2 _)) (fun r1 s1 e => ih _ _ _ _ _ _ e B _ (l1 _)) fun v s1 e1 e => ?_
      refine EndsAt.then (w1 := .sec (.call k f a) v :: w) e (.one rfl (l2 _)) (fun r1 s1 e => ih _ _ _ _ _ _ e B _ (l1 _)) fun u s2 e2 e => ?_
      cases v with
      | int i => cases e; exact ⟨1, w, .one rfl l3⟩
      | fn j x b ns' ds' =>
        dsimp only at e
        have hn : nxt ⟨.rv u, .sec (.call k f a) (.fn j x b ns' ds') :: w, s2⟩ = if j = k then some (stepM w s2 b (.cons x u ns') ds') else some ⟨.fin (.stuck k), w, s2⟩ := rfl
        by_cases hj : j = k
        · rw [if_pos hj] at e hn
          exact ends_step e (.one hn (lS _ _ _ _)) fun st1 e => ih _ _ _ _ _ _ e B w l0
        · rw [if_neg hj] at e hn
          cases e
          exact ⟨1, w, .one hn l3⟩
    | sum k a b =>
      refine EndsAt.then (w1 := .op (.sum k a b) ns ds :: w) h (.one rfl (l2 _)) (fun r1 s1 e => ih _ _ _ _ _ _ e B _ (l1 _)) fun v s1 e1 e => ?_
      refine EndsAt.then (w1 := .sec (.sum k a b) v :: w) e (.one rfl (l2 _)) (fun r1 s1 e => ih _ _ _ _ _ _ e B _ (l1 _)) fun u s2 e2 e => ?_
      cases v <;> cases u <;> cases e <;> first | exact ⟨1, .one rfl l3⟩ | exact ⟨1, w, .one rfl l3⟩
    | less k a b =>
      refine EndsAt.then (w1 := .op (.less k a b) ns ds :: w) h (.one rfl (l2 _)) (fun r1 s1 e => ih _ _ _ _ _ _ e B _ (l1 _)) fun v s1 e1 e => ?_
      refine EndsAt.then (w1 := .sec (.less k a b) v :: w) e (.one rfl (l2 _)) (fun r1 s1 e => ih _ _ _ _ _ _ e B _ (l1 _)) fun u s2 e2 e => ?_
      cases v <;> cases u <;> cases e <;> first | exact ⟨1, .one rfl l3⟩ | exact ⟨1, w, .one rfl l3⟩
end Mi
set_option Elab.async false
set_option linter.all false
set_option maxRecDepth 100000
set_option maxHeartbeats 2000000
/-! M58: a plain run's object. -/
namespace Mi
open PySem L2
theorem lk_cons {x y : Str} {v : D} {l : List (Str × D)} : ((y, v) :: l).lookup x = if x = y then some v else l.lookup x := by
  rw [List.lookup_cons]
  by_cases h : x = y
  · rw [if_pos h, show (x == y) = true from by simpa using h]
  · rw [if_neg h, show (x == y) = false from by simpa using h]
theorem lk_nil {x : Str} : ([] : List (Str × D)).lookup x = none := rfl
def Ns.len : Ns → Nat
  | .nil => 0
  | .cons _ _ r => r.len + 1
def Ds.len : Ds → Nat
  | .nil => 0
  | .cons _ _ _ _ r => r.len + 1
variable [PnN] [PnC]
def flds (e nm : D) (fu : Nat) (wt sw ot : Nat) (en : D) : List (Str × D) := [("e", e), ("names", nm), ("fuel", .int (fu : Int)), ("waiting", .ref wt), ("switches", .ref sw), ("outputs", .ref ot), ("end", en)]
def NMt : Str → Prop := fun _ => True
mutual
/-- a value in the store, its names as links; X: the objects that change -/
def Pv (S : Sto) (X : List Nat) : Val → D → Prop
  | .int i, d => d = .int i
  | .fn k x b ns ds, d => b.nms NMt ∧ ∃ dn dd, d = .tup [.str "fn", .int k, .str x, b.d, .tup [dn, dd]] ∧ Pn S X ns dn ∧ Pd2 S X ds dd
def Pn (S : Sto) (X : List Nat) : Ns → D → Prop
  | .nil, d => d = .non
  | .cons x v r, d => ∃ i dv dr, d = .ref i ∧ i ∉ X ∧ S[i]? = some (.ins PnC.link [("name", .str x), ("value", dv), ("outer", dr)]) ∧ Pv S X v dv ∧ Pn S X r dr
def Pd2 (S : Sto) (X : List Nat) : Ds → D → Prop
  | .nil, d => d = .non
  | .cons x e ns ds r, d => e.nms NMt ∧ ∃ i dn dd dr, d = .ref i ∧ i ∉ X ∧ S[i]? = some (.ins PnC.link [("name", .str x), ("value", .tup [e.d, .tup [dn, dd]]), ("outer", dr)]) ∧ Pn S X ns dn ∧ Pd2 S X ds dd ∧ Pd2 S X r dr
end
section
variable {S S' : Sto} {X : List Nat}
mutual
theorem Pv.mono (g : Frm X S S') : ∀ (v : Val) {d : D}, Pv S X v d → Pv S' X v d
  | .int i, d, h => h
  | .fn k x b ns ds, d, ⟨h0, dn, dd, e, h1, h2⟩ => ⟨h0, dn, dd, e, Pn.mono g ns h1, Pd2.mono g ds h2⟩
theorem Pn.mono (g : Frm X S S') : ∀ (ns : Ns) {d : D}, Pn S X ns d → Pn S' X ns d
  | .nil, _, h => h
  | .cons x v r, d, ⟨i, dv, dr, e, h1, h2, h3, h4⟩ => ⟨i, dv, dr, e, h1, g.at h2 h1, Pv.mono g v h3, Pn.mono g r h4⟩
theorem Pd2.mono (g : Frm X S S') : ∀ (ds : Ds) {d : D}, Pd2 S X ds d → Pd2 S' X ds d
  | .nil, _, h => h
  | .cons x e ns ds r, d, ⟨h0, i, dn, dd, dr, q, h1, h2, h3, h4, h5⟩ => ⟨h0, i, dn, dd, dr, q, h1, g.at h2 h1, Pn.mono g ns h3, Pd2.mono g ds h4, Pd2.mono g r h5⟩
end
end
/-- what waits, in the store -/
def FrD (S : Sto) (X : List Nat) (f : Fr) (d : D) : Prop := match f with
  | .op e ns ds => e.nms NMt ∧ e.fst.isSome = true ∧ ∃ dn dd, d = .tup [.str (kdP e), e.d, .tup [dn, dd]] ∧ Pn S X ns dn ∧ Pd2 S X ds dd
  | .sec e v => ∃ dv, d = .tup [.str "second", e.d, dv] ∧ Pv S X v dv
  | .back s m => swn s ∧ d = .tup [.str "set", .int s, .int m]
def FsD (S : Sto) (X : List Nat) : List Fr → List D → Prop
  | [], W => W = []
  | f :: w, W => ∃ W0 d, W = W0 ++ [d] ∧ FrD S X f d ∧ FsD S X w W0
theorem FrD.mono {S S' : Sto} {X : List Nat} (g : Frm X S S') {f : Fr} {d : D} (h : FrD S X f d) : FrD S' X f d := by
  cases f with
  | op e ns ds =>
    obtain ⟨h0, h1, dn, dd, e1, h2, h3⟩ := h
    exact ⟨h0, h1, dn, dd, e1, Pn.mono g ns h2, Pd2.mono g ds h3⟩
  | sec e v =>
    obtain ⟨dv, e1, h2⟩ := h
    exact ⟨dv, e1, Pv.mono g v h2⟩
  | back s m => exact h
theorem FsD.mono {S S' : Sto} {X : List Nat} (g : Frm X S S') : ∀ {w : List Fr} {W : List D}, FsD S X w W → FsD S' X w W
  | [], _, h => h
  | f :: w, W, ⟨W0, d, e, h1, h2⟩ => ⟨W0, d, e, h1.mono g, FsD.mono g h2⟩
theorem FsD.len {S : Sto} {X : List Nat} : ∀ {w : List Fr} {W : List D}, FsD S X w W → W.length = w.length
  | [], _, h => by
    have h : _ = [] := h
    subst h
    rfl
  | f :: w, W, ⟨W0, d, e, h1, h2⟩ => by
    subst e
    simp [FsD.len h2]
structure RunS (S : Sto) (me wt sw ot : Nat) (e nm en : D) (st : St) (W : List D) : Prop where
  fm : S[me]? = some (.ins PnC.run (flds e nm st.fu wt sw ot en))
  fw : S[wt]? = some (.lst W)
  fs : ∃ kvs, S[sw]? = some (.dK kvs) ∧ Keyed swk kvs ∧ ∀ i : Int, (lookK kvs (.inl i)).getD (.int 0) = .int (st.sw i)
  fo : S[ot]? = some (.lst st.out)
  ne : wt ≠ ot
def endD : Res → D
  | .val v => .tup [.str "value", v.sh]
  | .stuck k => .tup [.str "stuck", .int k]
  | .more => .tup [.str "more"]
/-- a run that has ended -/
structure Ended (S : Sto) (me ot : Nat) (r : Res) (out : List D) : Prop where
  fm : ∃ e nm fu wt sw, S[me]? = some (.ins PnC.run (flds e nm fu wt sw ot (endD r)))
  fo : S[ot]? = some (.lst out)
section
variable {S S' : Sto} {me wt sw ot : Nat} {e nm en : D} {st : St} {W : List D}
theorem RunS.mw (h : RunS S me wt sw ot e nm en st W) : me ≠ wt := fun q => by
  have := h.fw
  rw [← q, h.fm] at this
  cases this
theorem RunS.mo (h : RunS S me wt sw ot e nm en st W) : me ≠ ot := fun q => by
  have := h.fo
  rw [← q, h.fm] at this
  cases this
theorem RunS.ms (h : RunS S me wt sw ot e nm en st W) : me ≠ sw := fun q => by
  obtain ⟨kvs, this, _⟩ := h.fs
  rw [← q, h.fm] at this
  cases this
theorem RunS.ws (h : RunS S me wt sw ot e nm en st W) : wt ≠ sw := fun q => by
  obtain ⟨kvs, this, _⟩ := h.fs
  rw [← q, h.fw] at this
  cases this
theorem RunS.os (h : RunS S me wt sw ot e nm en st W) : ot ≠ sw := fun q => by
  obtain ⟨kvs, this, _⟩ := h.fs
  rw [← q, h.fo] at this
  cases this
theorem RunS.pre (h : RunS S me wt sw ot e nm en st W) (p : S <+: S') : RunS S' me wt sw ot e nm en st W := by
  obtain ⟨h1, h2, ⟨kvs, q1, q2, q3⟩, h4, h5⟩ := h
  exact ⟨pre_at p h1, pre_at p h2, ⟨kvs, pre_at p q1, q2, q3⟩, pre_at p h4, h5⟩
theorem RunS.new (h : RunS S me wt sw ot e nm en st W) : S.length ∉ [me, wt, sw, ot] := by
  have h1 := lt_of h.fm
  have h2 := lt_of h.fw
  have h3 := lt_of h.fo
  obtain ⟨kvs, q, _⟩ := h.fs
  have h4 := lt_of q
  simp
  omega
theorem flds_none {e nm en : D} {fu wt sw ot : Nat} {m : Str} (h : m ∉ ([("e" : Str), "names", "fuel", "waiting", "switches", "outputs", "end"] : List Str)) : (flds e nm fu wt sw ot en).lookup m = none := by
  simp only [List.mem_cons, List.not_mem_nil, or_false, not_or] at h
  obtain ⟨h1, h2, h3, h4, h5, h6, h7⟩ := h
  unfold flds
  simp only [lk_cons, lk_nil, h1, h2, h3, h4, h5, h6, h7, if_false]
theorem fld_at {x : Str} {v : D} {c : Nat} {fs : List (Str × D)} (h : S[me]? = some (.ins c fs)) (hv : fs.lookup x = some v) : fldD (.ref me) x S = .ok v S := by
  unfold fldD
  simp only [h, hv]
  rfl
theorem set_at {x : Str} {v : D} {c : Nat} {fs : List (Str × D)} (h : S[me]? = some (.ins c fs)) (hl : fs.length < 1000) : setF (.ref me) x v S = .ok () (S.set me (.ins c (putFD x v fs))) := by
  unfold setF
  simp only [h, hl, if_true]
theorem RunS.e_ (h : RunS S me wt sw ot e nm en st W) : fldD (.ref me) "e" S = .ok e S := fld_at h.fm (by simp [flds, lk_cons])
theorem RunS.names (h : RunS S me wt sw ot e nm en st W) : fldD (.ref me) "names" S = .ok nm S := fld_at h.fm (by simp [flds, lk_cons])
theorem RunS.fuel (h : RunS S me wt sw ot e nm en st W) : fldD (.ref me) "fuel" S = .ok (.int (st.fu : Int)) S := fld_at h.fm (by simp [flds, lk_cons])
theorem RunS.waiting (h : RunS S me wt sw ot e nm en st W) : fldD (.ref me) "waiting" S = .ok (.ref wt) S := fld_at h.fm (by simp [flds, lk_cons])
theorem RunS.switches (h : RunS S me wt sw ot e nm en st W) : fldD (.ref me) "switches" S = .ok (.ref sw) S := fld_at h.fm (by simp [flds, lk_cons])
theorem RunS.outputs (h : RunS S me wt sw ot e nm en st W) : fldD (.ref me) "outputs" S = .ok (.ref ot) S := fld_at h.fm (by simp [flds, lk_cons])
theorem RunS.end_ (h : RunS S me wt sw ot e nm en st W) : fldD (.ref me) "end" S = .ok en S := fld_at h.fm (by simp [flds, lk_cons])
theorem meth_run {C : Cxt} {m : Str} {es : Sto → R (List D)} (h : RunS S me wt sw ot e nm en st W) (hm : m ∉ ([("e" : Str), "names", "fuel", "waiting", "switches", "outputs", "end"] : List Str)) : methD C m (.ref me) es S = (es S).bind fun vs S2 => C.meth PnC.run m (.ref me :: vs) S2 := by
  unfold methD
  simp only [h.fm, flds_none hm]
/-- the object changed alone -/
theorem RunS.self (h : RunS S me wt sw ot e nm en st W) {e' nm' en' : D} {fu' : Nat} : RunS (S.set me (.ins PnC.run (flds e' nm' fu' wt sw ot en'))) me wt sw ot e' nm' en' { st with fu := fu' } W := by
  have h1 := h.mw
  have h2 := h.mo
  have h3 := h.ms
  obtain ⟨a1, a2, ⟨kvs, q1, q2, q3⟩, a4, a5⟩ := h
  refine ⟨by rw [List.getElem?_set_self (lt_of a1)], ?_, ⟨kvs, ?_, q2, q3⟩, ?_, a5⟩
  · rw [List.getElem?_set_ne h1]
    exact a2
  · rw [List.getElem?_set_ne h3]
    exact q1
  · rw [List.getElem?_set_ne h2]
    exact a4
theorem RunS.push (h : RunS S me wt sw ot e nm en st W) {W' : List D} : RunS (S.set wt (.lst W')) me wt sw ot e nm en st W' := by
  have h1 := h.mw
  have h2 := h.ws
  obtain ⟨a1, a2, ⟨kvs, q1, q2, q3⟩, a4, a5⟩ := h
  refine ⟨?_, by rw [List.getElem?_set_self (lt_of a2)], ⟨kvs, ?_, q2, q3⟩, ?_, a5⟩
  · rw [List.getElem?_set_ne (Ne.symm h1)]
    exact a1
  · rw [List.getElem?_set_ne h2]
    exact q1
  · rw [List.getElem?_set_ne a5]
    exact a4
theorem RunS.say (h : RunS S me wt sw ot e nm en st W) {out : List D} : RunS (S.set ot (.lst out)) me wt sw ot e nm en { st with out := out } W := by
  have h1 := h.mo
  have h2 := h.os
  obtain ⟨a1, a2, ⟨kvs, q1, q2, q3⟩, a4, a5⟩ := h
  refine ⟨?_, ?_, ⟨kvs, ?_, q2, q3⟩, by rw [List.getElem?_set_self (lt_of a4)], a5⟩
  · rw [List.getElem?_set_ne (Ne.symm h1)]
    exact a1
  · rw [List.getElem?_set_ne (Ne.symm a5)]
    exact a2
  · rw [List.getElem?_set_ne h2]
    exact q1
theorem RunS.turn (h : RunS S me wt sw ot e nm en st W) {s m : Int} (hs : swn s) : ∃ S', setD (.ref sw) (.int s) (.int m) S = .ok () S' ∧ RunS S' me wt sw ot e nm en { st with sw := upS st.sw s m } W ∧ Frm [me, wt, sw, ot] S S' := by
  have h1 := h.ms
  have h2 := h.ws
  have h3 := h.os
  obtain ⟨a1, a2, ⟨kvs, q1, q2, q3⟩, a4, a5⟩ := h
  refine ⟨_, setD_dK q1 rfl (q2.lt few_swn), ⟨?_, ?_, ⟨_, by rw [List.getElem?_set_self (lt_of q1)], q2.put ⟨s, rfl, hs⟩, fun i => ?_⟩, ?_, a5⟩, .set (by simp)⟩
  · rw [List.getElem?_set_ne (Ne.symm h1)]
    exact a1
  · rw [List.getElem?_set_ne (Ne.symm h2)]
    exact a2
  · rw [look_put]
    show _ = D.int (if i = s then m else st.sw i)
    by_cases e : i = s
    · subst e
      rw [if_pos rfl, if_pos rfl]
      rfl
    · rw [if_neg (fun z => e (by injection z with z; exact z.symm)), if_neg e]
      exact q3 i
  · rw [List.getElem?_set_ne (Ne.symm h3)]
    exact a4
theorem RunS.get (h : RunS S me wt sw ot e nm en st W) (s : Int) : bmD .get2 (.ref sw) [.int s, .int 0] S = .ok (.int (st.sw s)) S := by
  obtain ⟨kvs, q1, q2, q3⟩ := h.fs
  rw [get2_dK q1 rfl, q3]
theorem RunS.preS (h : RunS S me wt sw ot e nm en st W) : bmPre .get2 (.ref sw) S = true := by
  obtain ⟨kvs, q1, q2, q3⟩ := h.fs
  exact pre_dK q1 (by simp)
end
end Mi
set_option Elab.async false
set_option linter.all false
set_option maxRecDepth 100000
set_option maxHeartbeats 2000000
/-! M59: a plain run's small methods. -/
namespace Mi
open PySem L2
section
variable {C : Cxt} {e : En} {S S' : Sto} {c a : E} {t el rest : Sms} {Q : Out → Sto → Prop}
theorem ig_yes (hc : (ev C c).t e S = .ok true S') (h : Wp (evSs C t e S') fun o S1 => Wp (goR o (fun e2 S => evSs C rest e2 S) S1) Q) : Wp (evSs C (.cons (.ifs c t el) rest) e S) Q := by
  refine wp_ss ?_
  rw [s_ifs, hc]
  exact h
theorem ig_no (hc : (ev C c).t e S = .ok false S') (h : Wp (evSs C el e S') fun o S1 => Wp (goR o (fun e2 S => evSs C rest e2 S) S1) Q) : Wp (evSs C (.cons (.ifs c t el) rest) e S) Q := by
  refine wp_ss ?_
  rw [s_ifs, hc]
  exact h
end
theorem pop_lstS {S : Sto} {a : Nat} {ys : List D} {y : D} (h : S[a]? = some (.lst (ys ++ [y]))) : bmD .pop (.ref a) [] S = .ok y (S.set a (.lst ys)) := by
  unfold bmD
  simp only [h]
  have : (ys ++ [y])[(ys ++ [y]).length - 1]? = some y := by simp
  rw [this]
  simp
theorem in_tupS {cds : Nat → List (Str × D)} {x : Str} {ys : List Str} {S : Sto} : cmpD cds .In (.str x) (.tup (ys.map .str)) S = .ok (.bl (decide (x ∈ ys))) S := by
  show inD cds false (.str x) (.tup (ys.map .str)) S = _
  unfold inD
  dsimp only
  rw [if_pos ⟨rfl, flat_strs ys⟩, if_neg Bool.false_ne_true]
  congr 2
  rw [List.any_map, Bool.eq_iff_iff, List.any_eq_true, decide_eq_true_eq]
  constructor
  · rintro ⟨y, hy, e⟩
    have e : eqF (.str y) (.str x) = true := e
    rw [eqF_str, decide_eq_true_eq] at e
    exact e ▸ hy
  · intro hx
    exact ⟨x, hx, by show eqF (.str x) (.str x) = true; rw [eqF_str]; simp⟩
variable [PnN] [PnC]
section
variable {S S' : Sto} {me wt sw ot : Nat} {e nm en : D} {st : St} {W : List D} {P : Pr} {k : Nat} {Q : D → Sto → Prop}
theorem RunS.set_e (h : RunS S me wt sw ot e nm en st W) (v : D) : setF (.ref me) "e" v S = .ok () (S.set me (.ins PnC.run (flds v nm st.fu wt sw ot en))) := by
  rw [set_at h.fm (by simp [flds])]
  simp [flds, putFD]
theorem RunS.set_names (h : RunS S me wt sw ot e nm en st W) (v : D) : setF (.ref me) "names" v S = .ok () (S.set me (.ins PnC.run (flds e v st.fu wt sw ot en))) := by
  rw [set_at h.fm (by simp [flds])]
  simp [flds, putFD]
theorem RunS.set_fuel (h : RunS S me wt sw ot e nm en st W) (m : Nat) : setF (.ref me) "fuel" (.int (m : Int)) S = .ok () (S.set me (.ins PnC.run (flds e nm m wt sw ot en))) := by
  rw [set_at h.fm (by simp [flds])]
  simp [flds, putFD]
theorem RunS.set_end (h : RunS S me wt sw ot e nm en st W) (v : D) : setF (.ref me) "end" v S = .ok () (S.set me (.ins PnC.run (flds e nm st.fu wt sw ot v))) := by
  rw [set_at h.fm (by simp [flds])]
  simp [flds, putFD]
theorem go_ok (F : Plains P) (h : RunS S me wt sw ot e nm en st W) {e' nm' : D} (q : ∀ S', RunS S' me wt sw ot e' nm' en st W → Frm [me, wt, sw, ot] S S' → Q .non S') : Wp ((cxt P (k + 1)).meth PnC.run "go" [.ref me, e', nm'] S) Q := by
  rw [meth_fn F.go, run_fn2 rfl, wp_bind]
  show Wp (evSs (cxt P k) Pr0.PlainRun_goB [some (.ref me), some e', some nm'] S) _
  unfold Pr0.PlainRun_goB
  refine wp_ss ?_
  simp [h.set_e]
  have h1 := h.self (e' := e') (nm' := nm) (en' := en) (fu' := st.fu)
  unfold Pr0.PlainRun_go_1B
  refine wp_ss ?_
  simp [h1.set_names]
  have h2 := h1.self (e' := e') (nm' := nm') (en' := en) (fu' := st.fu)
  rw [List.set_set] at h2
  exact q _ h2 (.set (by simp))
theorem wait_ok (F : Plains P) (h : RunS S me wt sw ot e nm en st W) {d : D} (hl : W.length < sizeLine) (q : ∀ S', RunS S' me wt sw ot e nm en st (W ++ [d]) → Frm [me, wt, sw, ot] S S' → Q .non S') : Wp ((cxt P (k + 1)).meth PnC.run "wait" [.ref me, d] S) Q := by
  rw [meth_fn F.wait, run_fn2 rfl, wp_bind]
  show Wp (evSs (cxt P k) Pr0.PlainRun_waitB [some (.ref me), some d] S) _
  unfold Pr0.PlainRun_waitB
  refine wp_ss ?_
  simp [h.waiting, pre_lst2 h.fw (m := .append) (by simp), append_lst h.fw hl]
  exact q _ h.push (.set (by simp))
theorem stick_ok (F : Plains P) (h : RunS S me wt sw ot e nm en st W) {k' : Int} (q : ∀ S', RunS S' me wt sw ot e nm (endD (.stuck k')) st W → Frm [me, wt, sw, ot] S S' → Q .non S') : Wp ((cxt P (k + 1)).meth PnC.run "stick" [.ref me, .int k'] S) Q := by
  rw [meth_fn F.stick, run_fn2 rfl, wp_bind]
  show Wp (evSs (cxt P k) Pr0.PlainRun_stickB [some (.ref me), some (.int k')] S) _
  unfold Pr0.PlainRun_stickB
  refine wp_ss ?_
  simp [h.set_end]
  exact q _ h.self (.set (by simp))
theorem stepm_ok (F : Plains P) (h : RunS S me wt sw ot e nm en st W) (q0 : st.fu = 0 → ∀ S', RunS S' me wt sw ot e nm (endD .more) st W → Frm [me, wt, sw, ot] S S' → Q (.bl false) S') (q1 : st.fu ≠ 0 → ∀ S', RunS S' me wt sw ot e nm en { st with fu := st.fu - 1 } W → Frm [me, wt, sw, ot] S S' → Q (.bl true) S') : Wp ((cxt P (k + 1)).meth PnC.run "step" [.ref me] S) Q := by
  rw [meth_fn F.step, run_fn2 rfl, wp_bind]
  show Wp (evSs (cxt P k) Pr0.PlainRun_stepB [some (.ref me)] S) _
  unfold Pr0.PlainRun_stepB
  by_cases h0 : st.fu = 0
  · refine ig_yes (S' := S) (by simp [h.fuel, h0]) ?_
    unfold Pr0.PlainRun_step_0tB
    refine wp_ss ?_
    simp [h.set_end]
    unfold Pr0.PlainRun_step_0t_1B
    refine ret_wp ?_
    simp
    exact q0 h0 _ h.self (.set (by simp))
  · refine if_no (S' := S) (by simp [h.fuel, h0]) ?_
    unfold Pr0.PlainRun_step_1B
    refine wp_ss ?_
    have e1 : augD .Sub (.int (st.fu : Int)) (.int 1) S = .ok (.int ((st.fu - 1 : Nat) : Int)) S := by
      show R.ok (D.int ((st.fu : Int) - 1)) S = _
      congr 2
      omega
    simp [h.fuel, e1, h.set_fuel]
    unfold Pr0.PlainRun_step_2B
    refine ret_wp ?_
    simp
    exact q1 h0 _ h.self (.set (by simp))
theorem pshown_ok (F : Plains P) {X : List Nat} {v : Val} {d : D} (hv : Pv S X v d) (q : Q v.sh S) : Wp ((cxt P (k + 1)).call PnN.shown [d] S) Q := by
  rw [call_fn F.shown, run_fn2 rfl, wp_bind]
  show Wp (evSs (cxt P k) Pr0.shownB [some d] S) _
  unfold Pr0.shownB
  refine ret_wp ?_
  cases v with
  | int i =>
    cases hv
    simp [isiD]
    exact q
  | fn k x b ns ds =>
    obtain ⟨_, dn, dd, rfl, _⟩ := hv
    simp [isiD]
    exact q
def FiI (S : Sto) (X : List Nat) (x : Str) (v : Val) (m : Nat) (e : En) (S' : Sto) : Prop := S' = S ∧ ∃ ns d, e = [some d, some (.str x)] ∧ Pn S X ns d ∧ ns.look x = some v ∧ ns.len = m
theorem pfind_ok (F : Plains P) {X : List Nat} {ns : Ns} {d : D} {x : Str} {v : Val} (hn : Pn S X ns d) (hv : ns.look x = some v) (q : ∀ dv, Pv S X v dv → Q dv S) : Wp ((cxt P (k + 1)).call "find" [d, .str x] S) Q := by
  rw [call_fn F.find, run_fn2 rfl, wp_bind]
  show Wp (evSs (cxt P k) Pr0.findB [some d, some (.str x)] S) _
  unfold Pr0.findB
  refine wp_ss ?_
  rw [s_whl]
  refine wp_whl (FiI S X x v) ?_ (m := ns.len) ⟨rfl, ns, d, rfl, hn, hv, rfl⟩
  rintro m e S1 ⟨rfl, ns, d, rfl, hn, hv, hm⟩
  cases ns with
  | nil => cases hv
  | cons y u r =>
    obtain ⟨i, dv, dr, rfl, hi, hs, h1, h2⟩ := hn
    have hv : (if y = x then some u else r.look x) = some v := hv
    have f1 : fldD (.ref i) "name" S1 = .ok (.str y) S1 := fld_at hs (by simp [lk_cons])
    have f2 : fldD (.ref i) "outer" S1 = .ok dr S1 := fld_at hs (by simp [lk_cons])
    have f3 : fldD (.ref i) "value" S1 = .ok dv S1 := fld_at hs (by simp [lk_cons])
    by_cases hy : y = x
    · rw [if_pos hy] at hv
      cases hv
      simp [f1, hy]
      unfold Pr0.find_1B
      refine ret_wp ?_
      simp [f3]
      exact q dv h1
    · rw [if_neg hy] at hv
      simp [f1, hy]
      unfold Pr0.find_0bB
      refine wp_ss ?_
      simp [f2]
      refine ⟨r.len, ?_, rfl, r, dr, rfl, h2, hv, rfl⟩
      have : r.len + 1 = m := hm
      omega
end
end Mi
set_option Elab.async false
set_option linter.all false
set_option maxRecDepth 100000
set_option maxHeartbeats 2000000
/-! M60: links; beginning an expression. -/
namespace Mi
open PySem L2
variable [PnN] [PnC]
section
variable {S S' : Sto} {me wt sw ot : Nat} {nm en : D} {st : St} {W : List D} {P : Pr} {k : Nat} {Q : D → Sto → Prop}
def FiD (S : Sto) (X : List Nat) (x : Str) (v : Pl × Ns × Ds) (m : Nat) (e : En) (S' : Sto) : Prop := S' = S ∧ ∃ ds d, e = [some d, some (.str x)] ∧ Pd2 S X ds d ∧ ds.look x = some v ∧ ds.len = m
theorem pfindD_ok (F : Plains P) {X : List Nat} {ds : Ds} {d : D} {x : Str} {v : Pl × Ns × Ds} (hn : Pd2 S X ds d) (hv : ds.look x = some v) (q : ∀ dn dd, v.1.nms NMt → Pn S X v.2.1 dn → Pd2 S X v.2.2 dd → Q (.tup [v.1.d, .tup [dn, dd]]) S) : Wp ((cxt P (k + 1)).call "find" [d, .str x] S) Q := by
  rw [call_fn F.find, run_fn2 rfl, wp_bind]
  show Wp (evSs (cxt P k) Pr0.findB [some d, some (.str x)] S) _
  unfold Pr0.findB
  refine wp_ss ?_
  rw [s_whl]
  refine wp_whl (FiD S X x v) ?_ (m := ds.len) ⟨rfl, ds, d, rfl, hn, hv, rfl⟩
  rintro m e S1 ⟨rfl, ds, d, rfl, hn, hv, hm⟩
  cases ds with
  | nil => cases hv
  | cons y e1 ns1 ds1 r =>
    obtain ⟨h0, i, dn, dd, dr, rfl, hi, hs, h1, h2, h3⟩ := hn
    have hv : (if y = x then some (e1, ns1, ds1) else r.look x) = some v := hv
    have f1 : fldD (.ref i) "name" S1 = .ok (.str y) S1 := fld_at hs (by simp [lk_cons])
    have f2 : fldD (.ref i) "outer" S1 = .ok dr S1 := fld_at hs (by simp [lk_cons])
    have f3 : fldD (.ref i) "value" S1 = .ok (.tup [e1.d, .tup [dn, dd]]) S1 := fld_at hs (by simp [lk_cons])
    by_cases hy : y = x
    · rw [if_pos hy] at hv
      cases hv
      simp [f1, hy]
      unfold Pr0.find_1B
      refine ret_wp ?_
      simp [f3]
      exact q dn dd h0 h1 h2
    · rw [if_neg hy] at hv
      simp [f1, hy]
      unfold Pr0.find_0bB
      refine wp_ss ?_
      simp [f2]
      refine ⟨r.len, ?_, rfl, r, dr, rfl, h3, hv, rfl⟩
      have : r.len + 1 = m := hm
      omega
theorem link_ok (F : Plains P) {a b c : D} (q : Q (.ref S.length) (S ++ [.ins PnC.link [("name", a), ("value", b), ("outer", c)]])) : Wp ((cxt P (k + 2)).make "Link" [a, b, c] S) Q := by
  rw [make_fn F.clink F.linkInit, run_fn2 rfl, wp_bind, wp_bind]
  show Wp (evSs (cxt P k) Pr0.Link_initB [some (.ref S.length), some a, some b, some c] (S ++ [.ins PnC.link []])) _
  unfold Pr0.Link_initB
  have s1 : setF (.ref S.length) "name" a (S ++ [.ins PnC.link []]) = .ok () (S ++ [.ins PnC.link [("name", a)]]) := by
    rw [set_at new_at (by simp)]
    simp [putFD]
  have s2 : setF (.ref S.length) "value" b (S ++ [.ins PnC.link [("name", a)]]) = .ok () (S ++ [.ins PnC.link [("name", a), ("value", b)]]) := by
    rw [set_at new_at (by simp)]
    simp [putFD]
  have s3 : setF (.ref S.length) "outer" c (S ++ [.ins PnC.link [("name", a), ("value", b)]]) = .ok () (S ++ [.ins PnC.link [("name", a), ("value", b), ("outer", c)]]) := by
    rw [set_at new_at (by simp)]
    simp [putFD]
  refine wp_ss ?_
  simp [s1]
  unfold Pr0.Link_init_1B
  refine wp_ss ?_
  simp [s2]
  unfold Pr0.Link_init_2B
  refine wp_ss ?_
  simp [s3]
  exact q
theorem with_name_ok (F : Plains P) {X : List Nat} {ns : Ns} {dn dd dv : D} {x : Str} {v : Val} (hn : Pn S X ns dn) (hv : Pv S X v dv) (hX : S.length ∉ X) (q : ∀ S' dn', S <+: S' → Pn S' X (.cons x v ns) dn' → Q (.tup [dn', dd]) S') : Wp ((cxt P (k + 3)).call PnN.with_name [.tup [dn, dd], .str x, dv] S) Q := by
  rw [call_fn F.with_name, run_fn2 rfl, wp_bind]
  show Wp (evSs (cxt P (k + 2)) Pr0.with_nameB [some (.tup [dn, dd]), some (.str x), some dv] S) _
  unfold Pr0.with_nameB
  refine ret_wp ?_
  simp
  refine link_ok F ?_
  try simp
  have g : Frm X S (S ++ [.ins PnC.link [("name", .str x), ("value", dv), ("outer", dn)]]) := .pre (pre_self _ _)
  exact q _ _ (pre_self _ _) ⟨S.length, dv, dn, rfl, hX, new_at, Pv.mono g v hv, Pn.mono g ns hn⟩
theorem chosen_ok (F : Plains P) (s : Int) (bs : Br) (a : Pl) (j : Int) (q : Q (bs.pick j a).d S) : Wp ((cxt P (k + 1)).call "chosen" [(Pl.switch s bs a).d, .int j] S) Q := by
  rw [call_fn F.chosen, run_fn2 rfl, wp_bind]
  show Wp (evSs (cxt P k) Pr0.chosenB [some (Pl.switch s bs a).d, some (.int j), none, none] S) _
  unfold Pr0.chosenB
  refine wp_ss ?_
  simp [Pl.d]
  refine wp_for (it := ⟨bs.ds, none⟩) (fun i e S' => S' = S ∧ (∃ x2 x3, e = [some (Pl.switch s bs a).d, some (.int j), x2, x3]) ∧ bsel j (bs.ps.take i) = []) (fun _ _ _ _ => rfl) ?_ ?_ ⟨rfl, ⟨none, none, by simp [Pl.d]⟩, by simp [bsel]⟩
  · rintro i y e S1 hy ⟨rfl, ⟨x2, x3, rfl⟩, hb⟩
    have hy : bs.ds[i]? = some y := hy
    rw [ds_ps, List.getElem?_map] at hy
    cases hq : bs.ps[i]? with
    | none =>
      rw [hq] at hy
      cases hy
    | some p =>
      rw [hq] at hy
      cases hy
      have ht : bs.ps.take (i + 1) = bs.ps.take i ++ [p] := by
        rw [List.take_succ, hq]
        rfl
      refine ⟨_, setTg_tps ⟨rfl, by simp⟩, ?_⟩
      simp
      unfold Pr0.chosen_0bB
      by_cases hp : p.1 = j
      · refine if_yes (S' := S1) (by simp [hp]) ?_
        unfold Pr0.chosen_0b_0tB
        refine ret_wp ?_
        simp
        have h1 := bsel_pick j a bs
        have h2 : bs.ps = bs.ps.take i ++ (p :: bs.ps.drop (i + 1)) := by
          conv => lhs; rw [← List.take_append_drop i bs.ps]
          congr 1
          obtain ⟨hlt, e⟩ := List.getElem?_eq_some_iff.mp hq
          rw [List.drop_eq_getElem_cons hlt, e]
        rw [h2] at h1
        have h3 : bsel j (bs.ps.take i ++ (p :: bs.ps.drop (i + 1))) = bsel j (bs.ps.take i) ++ (p.2.d :: bsel j (bs.ps.drop (i + 1))) := by
          simp [bsel, List.filter_append, List.filter_cons, hp]
        rw [h3, hb] at h1
        simp at h1
        rw [h1]
        exact q
      · refine if_no (S' := S1) (by simp [hp]) ?_
        simp
        rw [ht]
        simp [bsel, List.filter_append, hp] at hb ⊢
        exact hb
  · rintro e S1 ⟨rfl, ⟨x2, x3, rfl⟩, hb⟩
    simp
    unfold Pr0.chosen_1B
    refine ret_wp ?_
    have h0 : bs.ps.take (It.mk bs.ds none).items.length = bs.ps := by
      rw [show (It.mk bs.ds none).items = bs.ds from rfl, ds_ps, List.length_map, List.take_length]
    rw [h0] at hb
    have h1 := bsel_pick j a bs
    rw [hb] at h1
    simp at h1
    simp [Pl.d]
    rw [h1]
    exact q
end
end Mi
set_option Elab.async false
set_option linter.all false
set_option maxRecDepth 100000
set_option maxHeartbeats 4000000
/-! M61: a plain run begins an expression. -/
namespace Mi
open PySem L2
variable [PnN] [PnC]
def MRep (S : Sto) (me wt sw ot : Nat) (m : Mc) (v : D) : Prop := match m.c with
  | .ev e ns ds => v = .non ∧ e.nms NMt ∧ ∃ dn dd W, RunS S me wt sw ot e.d (.tup [dn, dd]) .non m.st W ∧ Pn S [me, wt, sw, ot] ns dn ∧ Pd2 S [me, wt, sw, ot] ds dd ∧ FsD S [me, wt, sw, ot] m.w W
  | .rv u => ∃ e nm W, RunS S me wt sw ot e nm .non m.st W ∧ Pv S [me, wt, sw, ot] u v ∧ FsD S [me, wt, sw, ot] m.w W
  | .fin r => v = .non ∧ Ended S me ot r m.st.out
section
variable {S S' : Sto} {me wt sw ot : Nat} {e nm en : D} {st : St} {W : List D} {P : Pr} {k : Nat} {Q : D → Sto → Prop}
theorem RunS.ended (h : RunS S me wt sw ot e nm (endD r) st W) : Ended S me ot r st.out := ⟨⟨_, _, _, _, _, h.fm⟩, h.fo⟩
theorem pass_ok (F : Plains P) {e0 : Pl} {ns : Ns} {ds : Ds} {w : List Fr} {m1 : Mc} {dn dd : D} (hm : begM e0 ns ds w st = some m1) (hk : e0.fst = none) (hb : ∀ u, m1.c ≠ .rv u) (hnm : e0.nms NMt) (hl : w.length < 10000000) (h : RunS S me wt sw ot e0.d (.tup [dn, dd]) .non st W) (hn : Pn S [me, wt, sw, ot] ns dn) (hd : Pd2 S [me, wt, sw, ot] ds dd) (hw : FsD S [me, wt, sw, ot] w W)
    (q : ∀ S', MRep S' me wt sw ot m1 .non → Q .non S') : Wp ((cxt P (k + 4)).meth PnC.run "pass_through" [.ref me, e0.d, .str (kdP e0)] S) Q := by
  rw [meth_fn F.pass, run_fn2 rfl, wp_bind]
  show Wp (evSs (cxt P (k + 3)) Pr0.PlainRun_pass_throughB [some (.ref me), some e0.d, some (.str (kdP e0)), none, none] S) _
  unfold Pr0.PlainRun_pass_throughB
  have hWl : W.length < sizeLine := by
    rw [hw.len, sizeLine_eq]
    omega
  cases e0 with
  | tick a =>
    cases hm
    refine ig_yes (S' := S) (by simp [kdP]) ?_
    unfold Pr0.PlainRun_pass_through_0tB
    refine wp_ss ?_
    simp [meth_run h]
    refine stepm_ok F h (fun h0 S1 h1 g1 => ?_) fun h0 S1 h1 g1 => ?_
    · simp
      refine q S1 ?_
      unfold stepM
      rw [if_pos h0]
      exact ⟨rfl, h1.ended⟩
    · simp
      unfold Pr0.PlainRun_pass_through_0t_0tB
      refine wp_ss ?_
      simp [Pl.d, h1.names, meth_run h1]
      refine go_ok F h1 fun S2 h2 g2 => ?_
      try simp
      refine q S2 ?_
      unfold stepM
      rw [if_neg h0]
      exact ⟨rfl, hnm, dn, dd, W, h2, Pn.mono (g1.trans g2) ns hn, Pd2.mono (g1.trans g2) ds hd, hw.mono (g1.trans g2)⟩
  | delay x a b =>
    cases hm
    obtain ⟨n1, n2, n3⟩ := hnm
    refine ig_no (S' := S) (by simp [kdP]) ?_
    unfold Pr0.PlainRun_pass_through_0eB
    refine ig_yes (S' := S) (by simp [kdP]) ?_
    unfold Pr0.PlainRun_pass_through_0e_0tB
    refine wp_ss ?_
    simp [Pl.d, h.names, meth_run h, -List.append_assoc]
    refine link_ok F ?_
    have p1 := pre_self S [.ins PnC.link [("name", .str x), ("value", .tup [a.d, .tup [dn, dd]]), ("outer", dd)]]
    have hX := h.new
    have hat := new_at (S := S) (o := .ins PnC.link [("name", .str x), ("value", .tup [a.d, .tup [dn, dd]]), ("outer", dd)])
    have h1 := h.pre p1
    generalize S ++ [O.ins PnC.link [("name", .str x), ("value", .tup [a.d, .tup [dn, dd]]), ("outer", dd)]] = S1 at p1 hat h1 ⊢
    have g1 : Frm [me, wt, sw, ot] S S1 := .pre p1
    try simp
    refine go_ok F h1 fun S2 h2 g2 => ?_
    try simp
    refine q S2 ⟨rfl, n3, dn, .ref S.length, W, h2, Pn.mono (g1.trans g2) ns hn, ⟨n2, S.length, dn, dd, dd, rfl, hX, g2.at hat hX, Pn.mono (g1.trans g2) ns hn, Pd2.mono (g1.trans g2) ds hd, Pd2.mono (g1.trans g2) ds hd⟩, hw.mono (g1.trans g2)⟩
  | force x =>
    obtain ⟨v, hv, e⟩ := Option.map_eq_some_iff.mp (show (ds.look x).map (fun q => (⟨.ev q.1 q.2.1 q.2.2, w, st⟩ : Mc)) = some m1 from hm)
    subst e
    refine ig_no (S' := S) (by simp [kdP]) ?_
    unfold Pr0.PlainRun_pass_through_0eB
    refine ig_no (S' := S) (by simp [kdP]) ?_
    unfold Pr0.PlainRun_pass_through_0e_0eB
    refine ig_yes (S' := S) (by simp [kdP]) ?_
    unfold Pr0.PlainRun_pass_through_0e_0e_0tB
    refine wp_ss ?_
    simp [Pl.d, h.names]
    refine pfindD_ok F hd hv fun dn' dd' h0 h1 h2 => ?_
    rw [setTg_tps (by simp)]
    try simp
    unfold Pr0.PlainRun_pass_through_0e_0e_0t_1B
    refine wp_ss ?_
    simp [meth_run h]
    refine go_ok F h fun S2 h3 g2 => ?_
    try simp
    exact q S2 ⟨rfl, h0, dn', dd', W, h3, Pn.mono g2 _ h1, Pd2.mono g2 _ h2, hw.mono g2⟩
  | switch s bs a =>
    cases hm
    obtain ⟨n1, n2, n3⟩ := hnm
    refine ig_no (S' := S) (by simp [kdP]) ?_
    unfold Pr0.PlainRun_pass_through_0eB
    refine ig_no (S' := S) (by simp [kdP]) ?_
    unfold Pr0.PlainRun_pass_through_0e_0eB
    refine ig_no (S' := S) (by simp [kdP]) ?_
    unfold Pr0.PlainRun_pass_through_0e_0e_0eB
    refine ig_yes (S' := S) (by simp [kdP]) ?_
    unfold Pr0.PlainRun_pass_through_0e_0e_0e_0tB
    refine wp_ss ?_
    have e1 : ∀ cds, subD cds (Pl.switch s bs a).d (.int 1) S = .ok (.int s) S := fun cds => by
      unfold Pl.d
      rfl
    simp [h.switches, h.preS, h.get, e1, meth_run h]
    refine chosen_ok F s bs a _ ?_
    simp [h.names]
    refine go_ok F h fun S2 h3 g2 => ?_
    try simp
    exact q S2 ⟨rfl, pick_nms n3 n2, dn, dd, W, h3, Pn.mono g2 _ hn, Pd2.mono g2 _ hd, hw.mono g2⟩
  | set_ s m a =>
    cases hm
    obtain ⟨n1, n2⟩ := hnm
    refine ig_no (S' := S) (by simp [kdP]) ?_
    unfold Pr0.PlainRun_pass_through_0eB
    refine ig_no (S' := S) (by simp [kdP]) ?_
    unfold Pr0.PlainRun_pass_through_0e_0eB
    refine ig_no (S' := S) (by simp [kdP]) ?_
    unfold Pr0.PlainRun_pass_through_0e_0e_0eB
    refine ig_no (S' := S) (by simp [kdP]) ?_
    unfold Pr0.PlainRun_pass_through_0e_0e_0e_0eB
    refine wp_ss ?_
    simp [Pl.d, h.switches, h.preS, h.get, meth_run h]
    refine wait_ok F h hWl fun S1 h1 g1 => ?_
    try simp
    unfold Pr0.PlainRun_pass_through_0e_0e_0e_0e_1B
    refine wp_ss ?_
    obtain ⟨S2, e2, h2, g2⟩ := h1.turn (s := s) (m := m) n1
    simp [h1.switches, e2]
    unfold Pr0.PlainRun_pass_through_0e_0e_0e_0e_2B
    refine wp_ss ?_
    simp [h2.names, meth_run h2]
    refine go_ok F h2 fun S3 h3 g3 => ?_
    try simp
    have g := (g1.trans g2).trans g3
    exact q S3 ⟨rfl, n2, dn, dd, _, h3, Pn.mono g _ hn, Pd2.mono g _ hd, W, _, rfl, ⟨n1, rfl⟩, hw.mono g⟩
  | num i => cases hm; exact absurd rfl (hb _)
  | name x =>
    obtain ⟨v, hv, e⟩ := Option.map_eq_some_iff.mp (show (ns.look x).map (fun v => (⟨.rv v, w, st⟩ : Mc)) = some m1 from hm)
    subst e
    exact absurd rfl (hb _)
  | fn _ _ _ => cases hm; exact absurd rfl (hb _)
  | put _ _ => cases hm; exact absurd rfl (hb _)
  | _ => cases hk
end
end Mi
set_option Elab.async false
set_option linter.all false
set_option maxRecDepth 100000
set_option maxHeartbeats 4000000
/-! M62: a plain run: begin, resume. -/
namespace Mi
open PySem L2
variable [PnN] [PnC]
section
variable {S S' : Sto} {me wt sw ot : Nat} {e nm en : D} {st : St} {W : List D} {P : Pr} {k : Nat} {Q : D → Sto → Prop}
theorem begin_ok (F : Plains P) {e0 : Pl} {ns : Ns} {ds : Ds} {w : List Fr} {m1 : Mc} {dn dd : D} (hm : begM e0 ns ds w st = some m1) (hnm : e0.nms NMt) (hl : w.length < 10000000) (h : RunS S me wt sw ot e0.d (.tup [dn, dd]) .non st W) (hn : Pn S [me, wt, sw, ot] ns dn) (hd : Pd2 S [me, wt, sw, ot] ds dd) (hw : FsD S [me, wt, sw, ot] w W)
    (q : ∀ S' v, MRep S' me wt sw ot m1 v → Q v S') : Wp ((cxt P (k + 6)).meth PnC.run "begin" [.ref me] S) Q := by
  rw [meth_fn F.begin, run_fn2 rfl, wp_bind]
  show Wp (evSs (cxt P (k + 5)) Pr0.PlainRun_beginB [some (.ref me), none, none] S) _
  have hWl : W.length < sizeLine := by
    rw [hw.len, sizeLine_eq]
    omega
  have st0 : ∀ {K : Out → Sto → Prop}, Wp (evSs (cxt P (k + 5)) Pr0.PlainRun_begin_2B [some (.ref me), some e0.d, some (.str (kdP e0))] S) K → Wp (evSs (cxt P (k + 5)) Pr0.PlainRun_beginB [some (.ref me), none, none] S) K := fun hh => by
    unfold Pr0.PlainRun_beginB
    refine wp_ss ?_
    simp [h.e_]
    unfold Pr0.PlainRun_begin_1B
    refine wp_ss ?_
    simp [pl_d0]
    exact hh
  refine st0 ?_
  -- an expression whose part is wanted first
  have op : ∀ (a : Pl), e0.fst = some a → a.nms NMt → (∀ cds S, subD cds e0.d (.int 2) S = .ok a.d S) → m1 = ⟨.ev a ns ds, .op e0 ns ds :: w, st⟩ → kdP e0 ∈ ([("call" : Str), "sum", "less", "if", "say", "let"] : List Str) → (kdP e0 ≠ "num" ∧ kdP e0 ≠ "name" ∧ kdP e0 ≠ "fn" ∧ kdP e0 ≠ "put") → Wp (evSs (cxt P (k + 5)) Pr0.PlainRun_begin_2B [some (.ref me), some e0.d, some (.str (kdP e0))] S) fun a s => Wp (outV a s) Q := fun a ha hna hsub he hin ⟨k1, k2, k3, k4⟩ => by
    subst he
    refine if_no (S' := S) (by simp [k1]) ?_
    refine if_no (S' := S) (by simp [k2]) ?_
    refine if_no (S' := S) (by simp [k3]) ?_
    refine if_no (S' := S) (by simp [k4]) ?_
    refine ig_yes (S' := S) ?_ ?_
    · have : cmpD (cxt P (k + 5)).cds .In (.str (kdP e0)) (.tup [.str (Str.ofString "call"), .str (Str.ofString "sum"), .str (Str.ofString "less"), .str (Str.ofString "if"), .str (Str.ofString "say"), .str (Str.ofString "let")]) S = .ok (.bl (decide (kdP e0 ∈ ([("call" : Str), "sum", "less", "if", "say", "let"] : List Str)))) S := in_tupS (ys := [("call" : Str), "sum", "less", "if", "say", "let"])
      simp [this]
      simpa using hin
    · unfold Pr0.PlainRun_begin_6tB
      refine wp_ss ?_
      simp [h.names, meth_run h]
      refine wait_ok F h hWl fun S1 h1 g1 => ?_
      try simp
      unfold Pr0.PlainRun_begin_6t_1B
      refine wp_ss ?_
      simp [hsub, h1.names, meth_run h1]
      refine go_ok F h1 fun S2 h2 g2 => ?_
      try simp
      unfold Pr0.PlainRun_begin_7B
      refine ret_wp ?_
      try simp
      have g := g1.trans g2
      exact q S2 _ ⟨rfl, hna, dn, dd, _, h2, Pn.mono g _ hn, Pd2.mono g _ hd, W, _, rfl, ⟨hnm, by rw [ha]; rfl, dn, dd, rfl, Pn.mono g _ hn, Pd2.mono g _ hd⟩, hw.mono g⟩
  have pass : e0.fst = none → (∀ u, m1.c ≠ .rv u) → (kdP e0 ≠ "num" ∧ kdP e0 ≠ "name" ∧ kdP e0 ≠ "fn" ∧ kdP e0 ≠ "put") → kdP e0 ∉ ([("call" : Str), "sum", "less", "if", "say", "let"] : List Str) → (∀ S' v, MRep S' me wt sw ot m1 v → v = .non) → Wp (evSs (cxt P (k + 5)) Pr0.PlainRun_begin_2B [some (.ref me), some e0.d, some (.str (kdP e0))] S) fun a s => Wp (outV a s) Q := fun h1 h2 ⟨k1, k2, k3, k4⟩ hin hv => by
    refine if_no (S' := S) (by simp [k1]) ?_
    refine if_no (S' := S) (by simp [k2]) ?_
    refine if_no (S' := S) (by simp [k3]) ?_
    refine if_no (S' := S) (by simp [k4]) ?_
    refine ig_no (S' := S) ?_ ?_
    · have : cmpD (cxt P (k + 5)).cds .In (.str (kdP e0)) (.tup [.str (Str.ofString "call"), .str (Str.ofString "sum"), .str (Str.ofString "less"), .str (Str.ofString "if"), .str (Str.ofString "say"), .str (Str.ofString "let")]) S = .ok (.bl (decide (kdP e0 ∈ ([("call" : Str), "sum", "less", "if", "say", "let"] : List Str)))) S := in_tupS (ys := [("call" : Str), "sum", "less", "if", "say", "let"])
      simp [this]
      simpa using hin
    · unfold Pr0.PlainRun_begin_6eB
      refine wp_ss ?_
      simp [meth_run h]
      refine pass_ok (k := k + 1) F hm h1 h2 hnm hl h hn hd hw fun S1 h1 => ?_
      try simp
      unfold Pr0.PlainRun_begin_7B
      refine ret_wp ?_
      try simp
      exact q S1 _ h1
  have nk : ∀ {x : String} {l : List String}, x ∉ l → (Str.ofString x) ∉ l.map Str.ofString := fun {x l} hx hm => by
    obtain ⟨y, hy, e⟩ := List.mem_map.mp hm
    rw [ofString_inj] at e
    exact hx (e ▸ hy)
  cases e0 with
  | num i =>
    cases hm
    refine if_ret (S' := S) (by simp [kdP]) ?_
    simp [Pl.d]
    exact q S _ ⟨_, _, W, h, rfl, hw⟩
  | name x =>
    obtain ⟨v, hv, e⟩ := Option.map_eq_some_iff.mp (show (ns.look x).map (fun v => (⟨.rv v, w, st⟩ : Mc)) = some m1 from hm)
    subst e
    refine if_no (S' := S) (by simp [kdP]) ?_
    refine if_ret (S' := S) (by simp [kdP]) ?_
    have e1 : ∀ cds, subD cds (Pl.name x).d (.int 1) S = .ok (.str x) S := fun cds => by
      unfold Pl.d
      rfl
    simp [e1, h.names]
    exact pfind_ok F hn hv fun dv hdv => q S dv ⟨_, _, W, h, hdv, hw⟩
  | fn kk x b =>
    cases hm
    refine if_no (S' := S) (by simp [kdP]) ?_
    refine if_no (S' := S) (by simp [kdP]) ?_
    refine if_ret (S' := S) (by simp [kdP]) ?_
    simp [Pl.d, h.names]
    exact q S _ ⟨_, _, W, h, ⟨hnm.2, dn, dd, rfl, hn, hd⟩, hw⟩
  | put s m =>
    cases hm
    refine if_no (S' := S) (by simp [kdP]) ?_
    refine if_no (S' := S) (by simp [kdP]) ?_
    refine if_no (S' := S) (by simp [kdP]) ?_
    refine if_yes (S' := S) (by simp [kdP]) ?_
    unfold Pr0.PlainRun_begin_5tB
    refine wp_ss ?_
    obtain ⟨S1, e1, h1, g1⟩ := h.turn (s := s) (m := m) hnm
    simp [Pl.d, h.switches, e1]
    unfold Pr0.PlainRun_begin_5t_1B
    refine ret_wp ?_
    try simp
    exact q S1 _ ⟨_, _, W, h1, rfl, hw.mono g1⟩
  | call kk a b =>
    cases hm
    exact op a rfl hnm.1 (fun cds S => by simp [Pl.d]) rfl (by simp [kdP]) (by simp [kdP])
  | sum kk a b =>
    cases hm
    exact op a rfl hnm.1 (fun cds S => by simp [Pl.d]) rfl (by simp [kdP]) (by simp [kdP])
  | less kk a b =>
    cases hm
    exact op a rfl hnm.1 (fun cds S => by simp [Pl.d]) rfl (by simp [kdP]) (by simp [kdP])
  | ite kk c a b =>
    cases hm
    exact op c rfl hnm.1 (fun cds S => by simp [Pl.d]) rfl (by simp [kdP]) (by simp [kdP])
  | let_ x a b =>
    cases hm
    exact op a rfl hnm.2.1 (fun cds S => by simp [Pl.d]) rfl (by simp [kdP]) (by simp [kdP])
  | say kk a =>
    cases hm
    exact op a rfl hnm (fun cds S => by simp [Pl.d]) rfl (by simp [kdP]) (by simp [kdP])
  | tick a =>
    cases hm
    refine pass rfl (fun u hu => ?_) (by simp [kdP]) (by simp [kdP]) fun S' v hv => ?_
    · unfold stepM at hu
      split at hu <;> cases hu
    · by_cases h0 : st.fu = 0
      · have hv : MRep S' me wt sw ot (stepM w st a ns ds) v := hv
        unfold stepM at hv
        rw [if_pos h0] at hv
        exact hv.1
      · have hv : MRep S' me wt sw ot (stepM w st a ns ds) v := hv
        unfold stepM at hv
        rw [if_neg h0] at hv
        exact hv.1
  | delay x a b =>
    cases hm
    exact pass rfl (fun u hu => by cases hu) (by simp [kdP]) (by simp [kdP]) fun S' v hv => hv.1
  | force x =>
    obtain ⟨v, hv, e⟩ := Option.map_eq_some_iff.mp (show (ds.look x).map (fun q => (⟨.ev q.1 q.2.1 q.2.2, w, st⟩ : Mc)) = some m1 from hm)
    subst e
    exact pass rfl (fun u hu => by cases hu) (by simp [kdP]) (by simp [kdP]) fun S' v hv => hv.1
  | switch s bs a =>
    cases hm
    exact pass rfl (fun u hu => by cases hu) (by simp [kdP]) (by simp [kdP]) fun S' v hv => hv.1
  | set_ s m a =>
    cases hm
    exact pass rfl (fun u hu => by cases hu) (by simp [kdP]) (by simp [kdP]) fun S' v hv => hv.1
end
end Mi
set_option Elab.async false
set_option linter.all false
set_option maxRecDepth 100000
set_option maxHeartbeats 4000000
/-! M63: a plain run: resume. -/
namespace Mi
open PySem L2
def Val.isI : Val → Bool
  | .int _ => true
  | .fn _ _ _ _ _ => false
@[simp] theorem isI_int (i : Int) : (Val.int i).isI = true := rfl
@[simp] theorem isI_fn (k : Int) (x : Str) (b : Pl) (ns : Ns) (ds : Ds) : (Val.fn k x b ns ds).isI = false := rfl
variable [PnN] [PnC]
section
variable {S S' : Sto} {me wt sw ot : Nat} {e nm en : D} {st : St} {W : List D} {P : Pr} {k : Nat} {Q : D → Sto → Prop}
theorem Pv.isi {S : Sto} {X : List Nat} {v : Val} {d : D} (h : Pv S X v d) : isiD .int d = some v.isI := by
  cases v with
  | int i =>
    cases h
    rfl
  | fn k x b ns ds =>
    obtain ⟨_, dn, dd, rfl, _⟩ := h
    rfl
theorem enter_ok (F : Plains P) {w : List Fr} {v u : Val} {dv du : D} {j : Int} {m1 : Mc} (hm : (match v with
    | .int _ => some (⟨.fin (.stuck j), w, st⟩ : Mc)
    | .fn i x b ns ds => if i = j then some (stepM w st b (.cons x u ns) ds) else some ⟨.fin (.stuck j), w, st⟩) = some m1) (h : RunS S me wt sw ot e nm .non st W) (hv : Pv S [me, wt, sw, ot] v dv) (hu : Pv S [me, wt, sw, ot] u du) (hw : FsD S [me, wt, sw, ot] w W)
    (q : ∀ S', MRep S' me wt sw ot m1 .non → Q .non S') : Wp ((cxt P (k + 4)).meth PnC.run "enter" [.ref me, .int j, dv, du] S) Q := by
  rw [meth_fn F.enter, run_fn2 rfl, wp_bind]
  show Wp (evSs (cxt P (k + 3)) Pr0.PlainRun_enterB [some (.ref me), some (.int j), some dv, some du] S) _
  unfold Pr0.PlainRun_enterB
  have stuck : m1 = ⟨.fin (.stuck j), w, st⟩ → Wp (evSs (cxt P (k + 3)) Pr0.PlainRun_enter_0tB [some (.ref me), some (.int j), some dv, some du] S) fun o S1 => Wp (goR o (fun e2 S => evSs (cxt P (k + 3)) .nil e2 S) S1) fun a s => Wp (outV a s) Q := fun e => by
    subst e
    unfold Pr0.PlainRun_enter_0tB
    refine wp_ss ?_
    simp [meth_run h]
    refine stick_ok F h fun S1 h1 g1 => ?_
    try simp
    exact q S1 ⟨rfl, h1.ended⟩
  cases v with
  | int i =>
    cases hv
    cases hm
    exact ig_yes (S' := S) (by simp [isiD]) (stuck rfl)
  | fn i x b ns ds =>
    obtain ⟨hb, dn, dd, rfl, h1, h2⟩ := hv
    dsimp only at hm
    by_cases hi : i = j
    · subst hi
      rw [if_pos rfl] at hm
      cases hm
      refine ig_no (S' := S) (by simp [isiD]) ?_
      unfold Pr0.PlainRun_enter_0eB
      refine wp_ss ?_
      simp [meth_run h]
      refine stepm_ok F h (fun h0 S1 h3 g1 => ?_) fun h0 S1 h3 g1 => ?_
      · try simp
        refine q S1 ?_
        unfold stepM
        rw [if_pos h0]
        exact ⟨rfl, h3.ended⟩
      · try simp
        unfold Pr0.PlainRun_enter_0e_0tB
        refine wp_ss ?_
        simp [meth_run h3]
        refine with_name_ok F (Pn.mono g1 _ h1) (Pv.mono g1 _ hu) h3.new fun S2 dn' p2 h4 => ?_
        try simp
        have g2 : Frm [me, wt, sw, ot] S1 S2 := .pre p2
        refine go_ok F (h3.pre p2) fun S3 h5 g3 => ?_
        try simp
        refine q S3 ?_
        unfold stepM
        rw [if_neg h0]
        exact ⟨rfl, hb, dn', dd, W, h5, Pn.mono g3 _ h4, Pd2.mono ((g1.trans g2).trans g3) _ h2, hw.mono ((g1.trans g2).trans g3)⟩
    · rw [if_neg hi] at hm
      cases hm
      exact ig_yes (S' := S) (by simp [isiD, hi]) (stuck rfl)
theorem operate_ok (F : Plains P) {e0 : Pl} {w : List Fr} {v u : Val} {dv du : D} {m1 : Mc} (hm : oper e0 v u w st = some m1) (h : RunS S me wt sw ot e nm .non st W) (hv : Pv S [me, wt, sw, ot] v dv) (hu : Pv S [me, wt, sw, ot] u du) (hw : FsD S [me, wt, sw, ot] w W)
    (q : ∀ S' d, MRep S' me wt sw ot m1 d → Q d S') : Wp ((cxt P (k + 5)).meth PnC.run "operate" [.ref me, e0.d, dv, du] S) Q := by
  rw [meth_fn F.operate, run_fn2 rfl, wp_bind]
  show Wp (evSs (cxt P (k + 4)) Pr0.PlainRun_operateB [some (.ref me), some e0.d, some dv, some du] S) _
  unfold Pr0.PlainRun_operateB
  have iv := hv.isi
  have iu := hu.isi
  -- no integers
  have stuck : ∀ (j : Int), (∀ cds S, subD cds e0.d (.int 1) S = .ok (.int j) S) → m1 = ⟨.fin (.stuck j), w, st⟩ → kdP e0 ≠ "call" → ((∃ i, v = .int i) → (∃ j, u = .int j) → False) → Wp (evSs (cxt P (k + 4)) Pr0.PlainRun_operate_1B [some (.ref me), some e0.d, some dv, some du] S) fun a s => Wp (outV a s) Q := fun j hs he hk hno => by
    subst he
    refine if_yes (S' := S) ?_ ?_
    · cases v with
      | int i =>
        cases u with
        | int j => exact (hno ⟨i, rfl⟩ ⟨j, rfl⟩).elim
        | fn _ _ _ _ _ => simp [iv, iu]
      | fn _ _ _ _ _ => simp [iv]
    · unfold Pr0.PlainRun_operate_1tB
      refine wp_ss ?_
      simp [hs, meth_run h]
      refine stick_ok F h fun S1 h1 g1 => ?_
      try simp
      unfold Pr0.PlainRun_operate_1t_1B
      refine ret_wp ?_
      try simp
      exact q S1 _ ⟨rfl, h1.ended⟩
  have nums : ∀ (i j : Int) (r : Int), v = .int i → u = .int j → m1 = ⟨.rv (.int r), w, st⟩ → kdP e0 ≠ "call" → (if kdP e0 = "sum" then i + j else if i < j then 1 else 0) = r → Wp (evSs (cxt P (k + 4)) Pr0.PlainRun_operate_1B [some (.ref me), some e0.d, some dv, some du] S) fun a s => Wp (outV a s) Q := fun i j r hi hj he hk hr => by
    subst hi hj he hr
    obtain rfl : dv = .int i := hv
    obtain rfl : du = .int j := hu
    refine if_no (S' := S) (by simp [isiD]) ?_
    unfold Pr0.PlainRun_operate_2B
    refine ret_wp ?_
    by_cases hs : kdP e0 = "sum"
    · simp [pl_d0, hs]
      refine q S _ ⟨_, _, W, h, ?_, hw⟩
      rw [if_pos hs]
      rfl
    · simp [pl_d0, hs]
      refine q S _ ⟨_, _, W, h, ?_, hw⟩
      rw [if_neg hs]
      rfl
  cases e0 with
  | call j f a =>
    refine ig_yes (S' := S) (by simp [pl_d0, kdP]) ?_
    unfold Pr0.PlainRun_operate_0tB
    refine wp_ss ?_
    have e1 : ∀ cds S, subD cds (Pl.call j f a).d (.int 1) S = .ok (.int j) S := fun cds S => by simp [Pl.d]
    simp [e1, meth_run h]
    refine enter_ok F hm h hv hu hw fun S1 h1 => ?_
    try simp
    unfold Pr0.PlainRun_operate_0t_1B
    refine ret_wp ?_
    try simp
    exact q S1 _ h1
  | sum j a b =>
    refine if_no (S' := S) (by simp [pl_d0, kdP]) ?_
    cases v with
    | int i =>
      cases u with
      | int i2 => cases hm; exact nums i i2 _ rfl rfl rfl (by simp [kdP]) (by simp [kdP])
      | fn _ _ _ _ _ => cases hm; exact stuck j (fun cds S => by simp [Pl.d]) rfl (by simp [kdP]) (fun _ ⟨j, h⟩ => by cases h)
    | fn _ _ _ _ _ => cases u <;> cases hm <;> exact stuck j (fun cds S => by simp [Pl.d]) rfl (by simp [kdP]) (fun ⟨j, h⟩ _ => by cases h)
  | less j a b =>
    refine if_no (S' := S) (by simp [pl_d0, kdP]) ?_
    cases v with
    | int i =>
      cases u with
      | int i2 => cases hm; exact nums i i2 _ rfl rfl rfl (by simp [kdP]) (by simp [kdP])
      | fn _ _ _ _ _ => cases hm; exact stuck j (fun cds S => by simp [Pl.d]) rfl (by simp [kdP]) (fun _ ⟨j, h⟩ => by cases h)
    | fn _ _ _ _ _ => cases u <;> cases hm <;> exact stuck j (fun cds S => by simp [Pl.d]) rfl (by simp [kdP]) (fun ⟨j, h⟩ _ => by cases h)
  | _ => cases hm
theorem decide_ok (F : Plains P) {kk : Int} {c a b : Pl} {ns : Ns} {ds : Ds} {w : List Fr} {v : Val} {dv dn dd : D} {m1 : Mc} (hm : (match v with
      | .int i => some (⟨.ev (if i ≠ 0 then a else b) ns ds, w, st⟩ : Mc)
      | .fn _ _ _ _ _ => some ⟨.fin (.stuck kk), w, st⟩) = some m1) (hnm : (Pl.ite kk c a b).nms NMt) (h : RunS S me wt sw ot e nm .non st W) (hv : Pv S [me, wt, sw, ot] v dv) (hn : Pn S [me, wt, sw, ot] ns dn) (hd : Pd2 S [me, wt, sw, ot] ds dd) (hw : FsD S [me, wt, sw, ot] w W)
    (q : ∀ S', MRep S' me wt sw ot m1 .non → Q .non S') : Wp ((cxt P (k + 5)).meth PnC.run "decide" [.ref me, (Pl.ite kk c a b).d, .tup [dn, dd], dv] S) Q := by
  rw [meth_fn F.decide, run_fn2 rfl, wp_bind]
  show Wp (evSs (cxt P (k + 4)) Pr0.PlainRun_decideB [some (.ref me), some (Pl.ite kk c a b).d, some (.tup [dn, dd]), some dv] S) _
  unfold Pr0.PlainRun_decideB
  have iv := hv.isi
  have e1 : ∀ cds S, subD cds (Pl.ite kk c a b).d (.int 1) S = .ok (.int kk) S := fun cds S => by simp [Pl.d]
  have e3 : ∀ cds S, subD cds (Pl.ite kk c a b).d (.int 3) S = .ok a.d S := fun cds S => by simp [Pl.d]
  have e4 : ∀ cds S, subD cds (Pl.ite kk c a b).d (.int 4) S = .ok b.d S := fun cds S => by simp [Pl.d]
  cases v with
  | int i =>
    obtain rfl : dv = .int i := hv
    cases hm
    refine ig_no (S' := S) (by simp [isiD]) ?_
    unfold Pr0.PlainRun_decide_0eB
    refine wp_ss ?_
    by_cases hi : i = 0
    · simp [hi, e4, meth_run h]
      refine go_ok F h fun S2 h2 g2 => ?_
      try simp
      refine q S2 ?_
      rw [if_neg (by simp [hi])]
      exact ⟨rfl, hnm.2.2, dn, dd, W, h2, Pn.mono g2 _ hn, Pd2.mono g2 _ hd, hw.mono g2⟩
    · simp [hi, e3, meth_run h]
      refine go_ok F h fun S2 h2 g2 => ?_
      try simp
      refine q S2 ?_
      rw [if_pos hi]
      exact ⟨rfl, hnm.2.1, dn, dd, W, h2, Pn.mono g2 _ hn, Pd2.mono g2 _ hd, hw.mono g2⟩
  | fn _ _ _ _ _ =>
    cases hm
    refine ig_yes (S' := S) (by simp [iv]) ?_
    unfold Pr0.PlainRun_decide_0tB
    refine wp_ss ?_
    simp [e1, meth_run h]
    refine stick_ok F h fun S1 h1 g1 => ?_
    try simp
    exact q S1 ⟨rfl, h1.ended⟩
end
end Mi
set_option Elab.async false
set_option linter.all false
set_option maxRecDepth 100000
set_option maxHeartbeats 4000000
/-! M64: a plain run, whole. -/
namespace Mi
open PySem L2
variable [PnN] [PnC]
section
variable {S S' : Sto} {me wt sw ot : Nat} {e nm en : D} {st : St} {W : List D} {P : Pr} {k : Nat} {Q : D → Sto → Prop}
theorem resume_ok (F : Plains P) {w : List Fr} {v : Val} {dv : D} {m1 : Mc} (hm : resM v w st = some m1) (hl : w.length < 10000000) (ho : st.out.length < 10000000) (h : RunS S me wt sw ot e nm .non st W) (hv : Pv S [me, wt, sw, ot] v dv) (hw : FsD S [me, wt, sw, ot] w W)
    (q : ∀ S' d, MRep S' me wt sw ot m1 d → Q d S') : Wp ((cxt P (k + 7)).meth PnC.run "resume" [.ref me, dv] S) Q := by
  rw [meth_fn F.resume, run_fn2 rfl, wp_bind]
  show Wp (evSs (cxt P (k + 6)) Pr0.PlainRun_resumeB [some (.ref me), some dv, none, none, none, none] S) _
  unfold Pr0.PlainRun_resumeB
  cases w with
  | nil =>
    obtain rfl : W = [] := hw
    cases hm
    refine if_yes (S' := S) (by simp [h.waiting, truthR_lst h.fw]) ?_
    unfold Pr0.PlainRun_resume_0tB
    refine wp_ss ?_
    try simp
    refine pshown_ok F hv ?_
    simp [h.set_end]
    unfold Pr0.PlainRun_resume_0t_1B
    refine ret_wp ?_
    try simp
    exact q _ _ ⟨rfl, RunS.ended (r := .val v) h.self⟩
  | cons f w =>
    obtain ⟨W0, d, rfl, hf, hw⟩ := hw
    have hl1 : W0.length < sizeLine := by
      rw [hw.len, sizeLine_eq]
      simp at hl
      omega
    refine if_no (S' := S) (by simp [h.waiting, truthR_lst h.fw]) ?_
    unfold Pr0.PlainRun_resume_1B
    refine wp_ss ?_
    simp [h.waiting, pre_lst2 h.fw (m := .pop) (by simp), pop_lstS h.fw]
    have h1 := h.push (W' := W0)
    have g1 : Frm [me, wt, sw, ot] S (S.set wt (.lst W0)) := .set (by simp)
    have hv1 := Pv.mono g1 v hv
    have hf1 := hf.mono g1
    have hw1 := hw.mono g1
    generalize S.set wt (O.lst W0) = S1 at h1 g1 hv1 hf1 hw1 ⊢
    clear hf hw hv
    unfold Pr0.PlainRun_resume_2B
    refine wp_ss ?_
    cases f with
    | back s m =>
      obtain ⟨hs, rfl⟩ := hf1
      cases hm
      try simp
      refine if_yes (S' := S1) (by simp) ?_
      unfold Pr0.PlainRun_resume_3tB
      refine wp_ss ?_
      obtain ⟨S2, e2, h2, g2⟩ := h1.turn (s := s) (m := m) hs
      simp [h1.switches, e2]
      unfold Pr0.PlainRun_resume_3t_1B
      refine ret_wp ?_
      try simp
      exact q S2 _ ⟨_, _, W0, h2, Pv.mono g2 _ hv1, hw1.mono g2⟩
    | sec e0 u =>
      obtain ⟨du, rfl, hu⟩ := hf1
      try simp
      refine if_no (S' := S1) (by simp) ?_
      refine if_yes (S' := S1) (by simp) ?_
      unfold Pr0.PlainRun_resume_4tB
      refine ret_wp ?_
      simp [meth_run h1]
      refine operate_ok (k := k + 1) F hm h1 hu hv1 hw1 fun S2 d2 h2 => ?_
      try simp
      exact q S2 d2 h2
    | op e0 ns ds =>
      obtain ⟨h0, hfs, dn, dd, rfl, hn, hd⟩ := hf1
      try simp
      -- to the row of a let
      have rest : (kdP e0 ≠ "set" ∧ kdP e0 ≠ "second" ∧ kdP e0 ≠ "say") → Wp (evSs (cxt P (k + 6)) Pr0.PlainRun_resume_7B [some (.ref me), some dv, some (.tup [.str (kdP e0), e0.d, .tup [dn, dd]]), some (.str (kdP e0)), some e0.d, some (.tup [dn, dd])] S1) (fun a s => Wp (outV a s) Q) → Wp (evSs (cxt P (k + 6)) Pr0.PlainRun_resume_3B [some (.ref me), some dv, some (.tup [.str (kdP e0), e0.d, .tup [dn, dd]]), some (.str (kdP e0)), none, none] S1) fun a s => Wp (outV a s) Q := fun ⟨k1, k2, k3⟩ hh => by
        refine if_no (S' := S1) (by simp [k1]) ?_
        refine if_no (S' := S1) (by simp [k2]) ?_
        unfold Pr0.PlainRun_resume_5B
        refine wp_ss ?_
        try simp
        exact if_no (S' := S1) (by simp [k3]) hh
      -- the second part is wanted
      have two : ∀ (b : Pl), b.nms NMt → (∀ cds S, subD cds e0.d (.int 3) S = .ok b.d S) → m1 = ⟨.ev b ns ds, .sec e0 v :: w, st⟩ → (kdP e0 ≠ "let" ∧ kdP e0 ≠ "if") → Wp (evSs (cxt P (k + 6)) Pr0.PlainRun_resume_7B [some (.ref me), some dv, some (.tup [.str (kdP e0), e0.d, .tup [dn, dd]]), some (.str (kdP e0)), some e0.d, some (.tup [dn, dd])] S1) (fun a s => Wp (outV a s) Q) := fun b hb e3 he ⟨k4, k5⟩ => by
        subst he
        refine ig_no (S' := S1) (by simp [k4]) ?_
        unfold Pr0.PlainRun_resume_7eB
        refine ig_no (S' := S1) (by simp [k5]) ?_
        unfold Pr0.PlainRun_resume_7e_0eB
        refine wp_ss ?_
        simp [meth_run h1]
        refine wait_ok F h1 hl1 fun S2 h2 g2 => ?_
        try simp
        unfold Pr0.PlainRun_resume_7e_0e_1B
        refine wp_ss ?_
        simp [e3, meth_run h2]
        refine go_ok F h2 fun S3 h3 g3 => ?_
        try simp
        unfold Pr0.PlainRun_resume_8B
        refine ret_wp ?_
        try simp
        have g := g2.trans g3
        exact q S3 _ ⟨rfl, hb, dn, dd, _, h3, Pn.mono g _ hn, Pd2.mono g _ hd, W0, _, rfl, ⟨dv, rfl, Pv.mono g _ hv1⟩, hw1.mono g⟩
      cases e0 with
      | say kk a =>
        cases hm
        refine if_no (S' := S1) (by simp [kdP]) ?_
        refine if_no (S' := S1) (by simp [kdP]) ?_
        unfold Pr0.PlainRun_resume_5B
        refine wp_ss ?_
        try simp
        refine if_yes (S' := S1) (by simp [kdP]) ?_
        unfold Pr0.PlainRun_resume_6tB
        refine wp_ss ?_
        have e1 : ∀ cds S, subD cds (Pl.say kk a).d (.int 1) S = .ok (.int kk) S := fun cds S => by simp [Pl.d]
        simp [h1.outputs, pre_lst2 h1.fo (m := .append) (by simp), e1]
        refine pshown_ok F hv1 ?_
        try simp
        rw [append_lst h1.fo (by rw [sizeLine_eq]; omega)]
        try simp
        unfold Pr0.PlainRun_resume_6t_1B
        refine ret_wp ?_
        try simp
        have g2 : Frm [me, wt, sw, ot] S1 (S1.set ot (.lst (st.out ++ [.tup [.int kk, v.sh]]))) := .set (by simp)
        exact q _ _ ⟨_, _, W0, h1.say, Pv.mono g2 _ hv1, hw1.mono g2⟩
      | let_ x a b =>
        cases hm
        refine rest (by simp [kdP]) ?_
        refine ig_yes (S' := S1) (by simp [kdP]) ?_
        unfold Pr0.PlainRun_resume_7tB
        refine wp_ss ?_
        have e1 : ∀ cds S, subD cds (Pl.let_ x a b).d (.int 1) S = .ok (.str x) S := fun cds S => by simp [Pl.d]
        have e3 : ∀ cds S, subD cds (Pl.let_ x a b).d (.int 3) S = .ok b.d S := fun cds S => by simp [Pl.d]
        simp [e1, e3, meth_run h1]
        refine with_name_ok (k := k + 3) F hn hv1 h1.new fun S2 dn' p2 h4 => ?_
        try simp
        have g2 : Frm [me, wt, sw, ot] S1 S2 := .pre p2
        refine go_ok F (h1.pre p2) fun S3 h5 g3 => ?_
        try simp
        unfold Pr0.PlainRun_resume_8B
        refine ret_wp ?_
        try simp
        exact q S3 _ ⟨rfl, h0.2.2, dn', dd, W0, h5, Pn.mono g3 _ h4, Pd2.mono (g2.trans g3) _ hd, hw1.mono (g2.trans g3)⟩
      | ite kk c a b =>
        refine rest (by simp [kdP]) ?_
        refine ig_no (S' := S1) (by simp [kdP]) ?_
        unfold Pr0.PlainRun_resume_7eB
        refine ig_yes (S' := S1) (by simp [kdP]) ?_
        unfold Pr0.PlainRun_resume_7e_0tB
        refine wp_ss ?_
        simp [meth_run h1]
        refine decide_ok (k := k + 1) F hm h0 h1 hv1 hn hd hw1 fun S2 h2 => ?_
        try simp
        unfold Pr0.PlainRun_resume_8B
        refine ret_wp ?_
        try simp
        exact q S2 _ h2
      | call kk a b =>
        cases hm
        exact rest (by simp [kdP]) (two b h0.2 (fun cds S => by simp [Pl.d]) rfl (by simp [kdP]))
      | sum kk a b =>
        cases hm
        exact rest (by simp [kdP]) (two b h0.2 (fun cds S => by simp [Pl.d]) rfl (by simp [kdP]))
      | less kk a b =>
        cases hm
        exact rest (by simp [kdP]) (two b h0.2 (fun cds S => by simp [Pl.d]) rfl (by simp [kdP]))
      | _ => cases hm
end
end Mi
set_option Elab.async false
set_option linter.all false
set_option maxRecDepth 100000
set_option maxHeartbeats 4000000
/-! M65: run_plain. -/
namespace Mi
open PySem L2
/-- outputs only grow, step by step -/
theorem oper_out {e : Pl} {v u : Val} {w : List Fr} {st : St} {m : Mc} (h : oper e v u w st = some m) : m.st.out = st.out := by
  cases e <;> try (cases h; done)
  · cases v with
    | int i => cases h; rfl
    | fn j x b ns ds =>
      unfold oper at h
      dsimp only at h
      split at h <;> cases h
      · unfold stepM
        split <;> rfl
      · rfl
  · cases v <;> cases u <;> cases h <;> rfl
  · cases v <;> cases u <;> cases h <;> rfl
theorem nxt_out {a b : Mc} (h : nxt a = some b) : a.st.out.length ≤ b.st.out.length := by
  obtain ⟨c, w, st⟩ := a
  cases c with
  | fin r => cases h
  | ev e ns ds =>
    have h : begM e ns ds w st = some b := h
    cases e with
    | name x =>
      obtain ⟨v, _, e⟩ := Option.map_eq_some_iff.mp (show (ns.look x).map (fun v => (⟨.rv v, w, st⟩ : Mc)) = some b from h)
      subst e
      exact Nat.le_refl _
    | force x =>
      obtain ⟨v, _, e⟩ := Option.map_eq_some_iff.mp (show (ds.look x).map (fun q => (⟨.ev q.1 q.2.1 q.2.2, w, st⟩ : Mc)) = some b from h)
      subst e
      exact Nat.le_refl _
    | tick a =>
      cases h
      unfold stepM
      split <;> exact Nat.le_refl _
    | _ => cases h; exact Nat.le_refl _
  | rv v =>
    have h : resM v w st = some b := h
    cases w with
    | nil => cases h; exact Nat.le_refl _
    | cons f w =>
      cases f with
      | back s m => cases h; exact Nat.le_refl _
      | sec e u =>
        have h : oper e u v w st = some b := h
        rw [oper_out h]
        exact Nat.le_refl _
      | op e ns ds =>
        cases e with
        | say k a => cases h; show st.out.length ≤ (st.out ++ [_]).length; simp
        | ite k c a b => cases v <;> cases h <;> exact Nat.le_refl _
        | _ => first
          | (cases h; done)
          | (cases h; exact Nat.le_refl _)
theorem path_out {B n : Nat} {a b : Mc} (p : Path B n a b) : a.st.out.length ≤ b.st.out.length := by
  induction p with
  | refl => exact Nat.le_refl _
  | step h _ _ ih => exact Nat.le_trans (nxt_out h) ih
theorem path_fin {B n : Nat} {r : Res} {w : List Fr} {st : St} {b : Mc} (p : Path B n ⟨.fin r, w, st⟩ b) : b = ⟨.fin r, w, st⟩ := by
  cases p with
  | refl => rfl
  | step h _ _ => cases h
variable [PnN] [PnC]
section
variable {S S' : Sto} {me wt sw ot : Nat} {P : Pr} {k : Nat} {Q : D → Sto → Prop}
def OI (me wt sw ot : Nat) (F : Mc) (n : Nat) (e : En) (S : Sto) : Prop := ∃ m x v, Path 1000000 n m F ∧ m.w.length ≤ 1000000 ∧ e = [some (.ref me), x] ∧ MRep S me wt sw ot m v ∧ ∀ u, m.c ≠ .rv u
def II (me wt sw ot : Nat) (F : Mc) (n0 : Nat) (n : Nat) (e : En) (S : Sto) : Prop := ∃ m v, n < n0 ∧ Path 1000000 n m F ∧ m.w.length ≤ 1000000 ∧ e = [some (.ref me), some v] ∧ MRep S me wt sw ot m v
theorem Ended.end_ {r : Res} {out : List D} (h : Ended S me ot r out) : fldD (.ref me) "end" S = .ok (endD r) S := by
  obtain ⟨e, nm, fu, wt, sw, h1⟩ := h.fm
  exact fld_at h1 (by simp [flds, lk_cons])
theorem endD_is {cds : Nat → List (Str × D)} (r : Res) : cmpD cds .Is (endD r) .non S = .ok (.bl false) S := by cases r <;> rfl
theorem path_pos {n : Nat} {a : Mc} {r : Res} {w : List Fr} {st : St} (p : Path 1000000 n a ⟨.fin r, w, st⟩) (h : ∀ r, a.c ≠ .fin r) : ∃ n' b, n = n' + 1 ∧ nxt a = some b ∧ b.w.length ≤ 1000000 ∧ Path 1000000 n' b ⟨.fin r, w, st⟩ := by
  cases p with
  | refl => exact absurd rfl (h r)
  | step h1 h2 h3 => exact ⟨_, _, rfl, h1, h2, h3⟩
/-- the loops -/
theorem loops_ok (F : Plains P) {n0 : Nat} {m0 : Mc} {r : Res} {w : List Fr} {st : St} {v0 : D} (p : Path 1000000 n0 m0 ⟨.fin r, w, st⟩) (hw0 : m0.w.length ≤ 1000000) (ho : st.out.length < 10000000) (hr : MRep S me wt sw ot m0 v0) (hc : ∀ u, m0.c ≠ .rv u)
    (q : ∀ S', Ended S' me ot r st.out → Q .non S') : Wp ((cxt P (k + 8)).meth PnC.run "run" [.ref me] S) Q := by
  rw [meth_fn F.runM, run_fn2 rfl, wp_bind]
  show Wp (evSs (cxt P (k + 7)) Pr0.PlainRun_runB [some (.ref me), none] S) _
  unfold Pr0.PlainRun_runB
  refine wp_ss ?_
  rw [s_whl]
  refine wp_whl (OI me wt sw ot ⟨.fin r, w, st⟩) ?_ (m := n0) ⟨m0, none, v0, p, hw0, rfl, hr, hc⟩
  rintro n e S1 ⟨m, x, v, p1, hw1, rfl, h1, hc1⟩
  obtain ⟨c, w1, st1⟩ := m
  cases c with
  | rv u => exact absurd rfl (hc1 u)
  | fin r1 =>
    have e1 := path_fin p1
    cases e1
    obtain ⟨rfl, h1⟩ := h1
    simp [h1.end_, endD_is]
    exact q S1 h1
  | ev e0 ns ds =>
    obtain ⟨n', b, rfl, h2, h3, h4⟩ := path_pos p1 (fun r h => by cases h)
    obtain ⟨rfl, hnm, dn, dd, W, h5, hn, hd, hf⟩ := h1
    have e2 : ∀ cds, cmpD cds .Is .non .non S1 = .ok (.bl true) S1 := fun cds => rfl
    simp [h5.end_, e2]
    unfold Pr0.PlainRun_run_0bB
    refine wp_ss ?_
    simp [meth_run h5]
    have hw2 : w1.length ≤ 1000000 := hw1
    refine begin_ok (k := k + 1) F h2 hnm (by omega) h5 hn hd hf fun S2 d2 h6 => ?_
    try simp
    unfold Pr0.PlainRun_run_0b_1B
    refine wp_ss ?_
    rw [s_whl]
    refine wp_whl (II me wt sw ot ⟨.fin r, w, st⟩ (n' + 1)) ?_ (m := n') ⟨b, d2, Nat.lt_succ_self _, h4, h3, rfl, h6⟩
    rintro n2 e S3 ⟨m3, v3, hlt, p3, hw3, rfl, h7⟩
    obtain ⟨c3, w3, st3⟩ := m3
    cases c3 with
    | ev e0 ns ds =>
      have h7' := h7
      obtain ⟨rfl, _⟩ := h7
      have e3 : ∀ cds, cmpD cds .IsNot .non .non S3 = .ok (.bl false) S3 := fun cds => rfl
      simp [e3]
      exact ⟨n2, hlt, ⟨_, w3, st3⟩, _, .non, p3, hw3, rfl, h7', fun u h => by cases h⟩
    | fin r1 =>
      have h7' := h7
      obtain ⟨rfl, _⟩ := h7
      have e3 : ∀ cds, cmpD cds .IsNot .non .non S3 = .ok (.bl false) S3 := fun cds => rfl
      simp [e3]
      exact ⟨n2, hlt, ⟨_, w3, st3⟩, _, .non, p3, hw3, rfl, h7', fun u h => by cases h⟩
    | rv u =>
      obtain ⟨n4, b4, rfl, h8, h9, h10⟩ := path_pos p3 (fun r h => by cases h)
      obtain ⟨e5, nm5, W5, h11, hu, hf5⟩ := h7
      have e3 : ∀ cds, cmpD cds .IsNot v3 .non S3 = .ok (.bl true) S3 := fun cds => by
        cases u with
        | int i =>
          obtain rfl : v3 = .int i := hu
          rfl
        | fn _ _ _ _ _ =>
          obtain ⟨_, _, _, rfl, _⟩ := hu
          rfl
      have e4 : ∀ cds, cmpD cds .Is .non .non S3 = .ok (.bl true) S3 := fun cds => rfl
      simp [e3, h11.end_, e4]
      unfold Pr0.PlainRun_run_0b_1bB
      refine wp_ss ?_
      simp [meth_run h11]
      have ho3 := path_out p3
      have hw4 : w3.length ≤ 1000000 := hw3
      refine resume_ok F h8 (by omega) (by have h : st3.out.length ≤ st.out.length := ho3; show st3.out.length < 10000000; omega) h11 hu hf5 fun S4 d4 h12 => ?_
      try simp
      exact ⟨n4, by omega, b4, d4, by omega, h10, h9, rfl, h12⟩
theorem set_app {c : Nat} {x : Str} {v : D} {fs : List (Str × D)} {l : Sto} (hl : fs.length < 1000) : setF (.ref S.length) x v (S ++ .ins c fs :: l) = .ok () (S ++ .ins c (putFD x v fs) :: l) := by
  have h : (S ++ .ins c fs :: l)[S.length]? = some (.ins c fs) := by simp
  rw [set_at h hl]
  congr 1
  rw [List.set_append_right _ _ (Nat.le_refl _)]
  simp
/-- run_plain, of what the semantics gives an end -/
theorem run_plain_ok (F : Plains P) {n : Nat} {e : Pl} {fuel : Nat} {r : Res} {st : St} (h : ev2 n e .nil .nil ⟨fuel, [], fun _ => 0⟩ = some (r, st)) (hn : n ≤ 1000000) (hnm : e.nms NMt) (ho : st.out.length < 10000000)
    (q : ∀ S', Q (.tup [.tup st.out, endD r]) S') : Wp ((cxt P (k + 10)).call "run_plain" [e.d, .int (fuel : Int)] S) Q := by
  rw [call_fn F.run_plain, run_fn2 rfl, wp_bind]
  show Wp (evSs (cxt P (k + 9)) Pr0.run_plainB [some e.d, some (.int (fuel : Int)), none] S) _
  unfold Pr0.run_plainB
  refine wp_ss ?_
  simp
  rw [make_fn F.crun F.init, run_fn2 rfl, wp_bind, wp_bind]
  show Wp (evSs (cxt P (k + 7)) Pr0.PlainRun_initB [some (.ref S.length), some e.d, some (.int (fuel : Int))] (S ++ [.ins PnC.run []])) _
  unfold Pr0.PlainRun_initB
  refine wp_ss ?_
  simp [set_app]
  unfold Pr0.PlainRun_init_1B
  refine wp_ss ?_
  simp [set_app, putFD]
  unfold Pr0.PlainRun_init_2B
  refine wp_ss ?_
  simp [set_app, putFD]
  unfold Pr0.PlainRun_init_3B
  refine wp_ss ?_
  simp [set_app, putFD]
  unfold Pr0.PlainRun_init_4B
  refine wp_ss ?_
  simp [set_app, putFD]
  unfold Pr0.PlainRun_init_5B
  refine wp_ss ?_
  simp [set_app, putFD]
  unfold Pr0.PlainRun_init_6B
  refine wp_ss ?_
  simp [set_app, putFD]
  unfold Pr0.run_plain_1B
  refine wp_ss ?_
  generalize hS1 : S ++ [O.ins PnC.run [("e", e.d), ("names", D.tup [D.non, D.non]), ("fuel", D.int ↑fuel), ("waiting", D.ref (List.length S + 1)), ("switches", D.ref (List.length S + 2)), ("outputs", D.ref (List.length S + 3)), ("end", D.non)], O.lst [], O.dK [], O.lst []] = S1
  have hR : RunS S1 S.length (S.length + 1) (S.length + 2) (S.length + 3) e.d (.tup [.non, .non]) .non ⟨fuel, [], fun _ => 0⟩ [] := by
    subst hS1
    exact ⟨by simp [flds], by simp, ⟨[], by simp, .nil, fun i => rfl⟩, by simp, by omega⟩
  have hp : ∃ n w, Path 1000000 n ⟨.ev e .nil .nil, [], ⟨fuel, [], fun _ => 0⟩⟩ ⟨.fin r, w, st⟩ := by
    have := ev_path n e .nil .nil _ r st h 1000000 [] (by simp; exact hn)
    cases r with
    | val v =>
      obtain ⟨n, p⟩ := this
      exact ⟨_, [], p.trans (.one rfl (Nat.zero_le _))⟩
    | stuck k =>
      obtain ⟨n, w, p⟩ := this
      exact ⟨_, w, p⟩
    | more =>
      obtain ⟨n, w, p⟩ := this
      exact ⟨_, w, p⟩
  obtain ⟨n0, w, p⟩ := hp
  simp [meth_run hR]
  refine loops_ok (k := k + 1) F p (Nat.zero_le _) ho (wt := S.length + 1) (sw := S.length + 2) (ot := S.length + 3) (v0 := .non) ⟨rfl, hnm, .non, .non, [], hR, rfl, rfl, rfl⟩ (fun u h => by cases h) fun S2 h2 => ?_
  obtain ⟨⟨e2, nm2, fu2, wt2, sw2, h3⟩, h4⟩ := h2
  have f1 : fldD (.ref S.length) "outputs" S2 = .ok (.ref (S.length + 3)) S2 := fld_at h3 (by simp [flds, lk_cons])
  have f2 : fldD (.ref S.length) "end" S2 = .ok (endD r) S2 := fld_at h3 (by simp [flds, lk_cons])
  unfold Pr0.run_plain_2B
  refine ret_wp ?_
  have f3 : itemsD S2 (.ref (S.length + 3)) = some st.out := by
    show (match S2[S.length + 3]? with | some (.lst xs) => some xs | _ => none) = _
    rw [h4]
  simp [f1, f2, bfD, f3]
  exact q S2
end
end Mi
set_option Elab.async false
set_option linter.all false
set_option maxRecDepth 100000
set_option maxHeartbeats 4000000
/-! M72: what a run prints is shown data. -/
namespace Mi
open PySem L2
def shOk (d : D) : Prop := ∃ (k : Int) (v : Val), d = .tup [.int k, v.sh]
theorem nxt_sh {a b : Mc} (h : nxt a = some b) (ho : ∀ y ∈ a.st.out, shOk y) : ∀ y ∈ b.st.out, shOk y := by
  obtain ⟨c, w, st⟩ := a
  have ho : ∀ y ∈ st.out, shOk y := ho
  cases c with
  | fin r => cases h
  | ev e ns ds =>
    have h : begM e ns ds w st = some b := h
    cases e with
    | name x =>
      obtain ⟨v, _, e⟩ := Option.map_eq_some_iff.mp (show (ns.look x).map (fun v => (⟨.rv v, w, st⟩ : Mc)) = some b from h)
      subst e
      exact ho
    | force x =>
      obtain ⟨v, _, e⟩ := Option.map_eq_some_iff.mp (show (ds.look x).map (fun q => (⟨.ev q.1 q.2.1 q.2.2, w, st⟩ : Mc)) = some b from h)
      subst e
      exact ho
    | tick a =>
      cases h
      unfold stepM
      split <;> exact ho
    | _ => cases h; exact ho
  | rv v =>
    have h : resM v w st = some b := h
    cases w with
    | nil => cases h; exact ho
    | cons f w =>
      cases f with
      | back s m => cases h; exact ho
      | sec e u =>
        have h : oper e u v w st = some b := h
        rw [oper_out h]
        exact ho
      | op e ns ds =>
        cases e with
        | say k a =>
          cases h
          intro y hy
          have hy : y ∈ st.out ++ [.tup [.int k, v.sh]] := hy
          rcases List.mem_append.mp hy with q | q
          · exact ho y q
          · rcases List.mem_singleton.mp q with rfl
            exact ⟨k, v, rfl⟩
        | ite k c a b => cases v <;> cases h <;> exact ho
        | _ => first
          | (cases h; done)
          | (cases h; exact ho)
theorem path_sh {B n : Nat} {a b : Mc} (p : Path B n a b) (ho : ∀ y ∈ a.st.out, shOk y) : ∀ y ∈ b.st.out, shOk y := by
  induction p with
  | refl => exact ho
  | step h _ _ ih => exact ih (nxt_sh h ho)
theorem ev_sh {n : Nat} {e : Pl} {fuel : Nat} {r : Res} {st : St} (h : ev2 n e .nil .nil ⟨fuel, [], fun _ => 0⟩ = some (r, st)) : ∀ y ∈ st.out, shOk y := by
  have := ev_path n e .nil .nil _ r st h n [] (by simp)
  cases r with
  | val v =>
    obtain ⟨n, p⟩ := this
    exact path_sh p (fun y hy => by cases hy)
  | stuck k =>
    obtain ⟨n, w, p⟩ := this
    exact path_sh p (fun y hy => by cases hy)
  | more =>
    obtain ⟨n, w, p⟩ := this
    exact path_sh p (fun y hy => by cases hy)
/-- data of small depth -/
def PQ (x : D) (n : Nat) : Prop := ∃ p, pd x = some p ∧ p.canLay0 = true ∧ p.depth ≤ n
theorem pq_list {n : Nat} : ∀ {l : List D}, (∀ x ∈ l, PQ x n) → ∃ ps, pds l = some ps ∧ PyData.canLayAll0 ps = true ∧ PyData.depthAll ps ≤ n
  | [], _ => ⟨[], rfl, rfl, Nat.zero_le _⟩
  | x :: l, h => by
    obtain ⟨p, h1, h2, h3⟩ := h x List.mem_cons_self
    obtain ⟨ps, h4, h5, h6⟩ := pq_list (l := l) fun y hy => h y (List.mem_cons_of_mem _ hy)
    refine ⟨p :: ps, ?_, ?_, ?_⟩
    · show (match pd x, pds l with | some d, some ds => some (d :: ds) | _, _ => none) = _
      rw [h1, h4]
    · simp [PyData.canLayAll0, h2, h5]
    · simp only [PyData.depthAll]
      omega
theorem pq_tup {n : Nat} {l : List D} (h : ∀ x ∈ l, PQ x n) : PQ (.tup l) (n + 1) := by
  obtain ⟨ps, h4, h5, h6⟩ := pq_list h
  refine ⟨.tuple ps, ?_, ?_, ?_⟩
  · show (pds l).map _ = _
    rw [h4]
    rfl
  · simpa [PyData.canLay0] using h5
  · simp only [PyData.depth]
    omega
theorem pq_int (i : Int) : PQ (.int i) 1 := ⟨.int i, rfl, rfl, by simp [PyData.depth]⟩
theorem pq_str {x : Str} (h : PyData.strOk x = true) : PQ (.str x) 1 := ⟨.str x, rfl, by simpa [PyData.canLay0] using h, by simp [PyData.depth]⟩
theorem PQ.up {x : D} {n m : Nat} (h : PQ x n) (hn : n ≤ m) : PQ x m := let ⟨p, a, b, c⟩ := h; ⟨p, a, b, Nat.le_trans c hn⟩
theorem eqD_self {l : List D} {n : Nat} (h : PQ (.tup l) n) (hn : n ≤ 64) (S : Sto) : eqD false (.tup l) (.tup l) S = .ok (.bl true) S := by
  obtain ⟨p, h1, h2, h3⟩ := h
  have e : pdT S (.tup l) = some p := h1
  unfold eqD
  simp only [e]
  have hs : SeqAt.shaped p = true := by
    unfold SeqAt.shaped
    rw [h2, Bool.true_and]
    exact decide_eq_true (by omega)
  rw [if_pos ⟨hs, hs⟩, SeqAt.eqv_refl p h2]
  rfl
theorem pq_sh (v : Val) : PQ v.sh 2 := by
  cases v with
  | int i => exact (pq_int i).up (by omega)
  | fn k _ _ _ _ =>
    refine pq_tup fun x hx => ?_
    simp only [List.mem_cons, List.not_mem_nil, or_false] at hx
    rcases hx with rfl | rfl
    · exact pq_str (by decide +kernel)
    · exact pq_int k
theorem pq_run {out : List D} (r : Res) (h : ∀ y ∈ out, shOk y) : PQ (.tup [.tup out, endD r]) 6 := by
  refine pq_tup (n := 5) fun x hx => ?_
  simp only [List.mem_cons, List.not_mem_nil, or_false] at hx
  rcases hx with rfl | rfl
  · refine pq_tup (n := 4) fun y hy => ?_
    obtain ⟨k, v, rfl⟩ := h y hy
    refine (pq_tup (n := 2) fun z hz => ?_).up (by omega)
    simp only [List.mem_cons, List.not_mem_nil, or_false] at hz
    rcases hz with rfl | rfl
    · exact (pq_int k).up (by omega)
    · exact pq_sh v
  · cases r with
    | val v =>
      refine (pq_tup (n := 2) fun z hz => ?_).up (by omega)
      simp only [List.mem_cons, List.not_mem_nil, or_false] at hz
      rcases hz with rfl | rfl
      · exact (pq_str (by decide +kernel)).up (by omega)
      · exact pq_sh v
    | stuck k =>
      refine (pq_tup (n := 2) fun z hz => ?_).up (by omega)
      simp only [List.mem_cons, List.not_mem_nil, or_false] at hz
      rcases hz with rfl | rfl
      · exact (pq_str (by decide +kernel)).up (by omega)
      · exact (pq_int k).up (by omega)
    | more =>
      refine (pq_tup (n := 2) fun z hz => ?_).up (by omega)
      simp only [List.mem_cons, List.not_mem_nil, or_false] at hz
      rcases hz with rfl
      exact (pq_str (by decide +kernel)).up (by omega)
end Mi
set_option Elab.async false
set_option linter.all false
set_option maxRecDepth 100000
set_option maxHeartbeats 4000000
/-! K11p: the law's own functions. -/
namespace K11
open PySem L2 Mi
instance pnn : PnN := ⟨"inner", "shown", "with_name"⟩
instance pnc : PnC := ⟨0, 1⟩
theorem walks : Walks P := by
  refine ⟨?_, ?_, ?_, ?_⟩ <;> kernel_rfl
theorem genp : GenP P := by
  refine ⟨⟨?_, ?_⟩, ?_, ?_, ?_, ?_, ?_⟩ <;> kernel_rfl
theorem plains : Plains P := by
  constructor <;> kernel_rfl
section
variable {k : Nat} {S : Sto} {Q : D → Sto → Prop}
theorem whole_ok (i : Int) (q : Q (.bl true) S) : Wp ((cxt P (k + 1)).call "_law_whole" [.int i] S) Q := by
  rw [call_fn (fn := fn_law_whole) (by kernel_rfl), run_fn2 rfl, wp_bind]
  show Wp (evSs (cxt P k) b_law_whole [some (.int i)] S) _
  unfold b_law_whole
  refine ret_wp ?_
  simp [isiD]
  exact q
theorem whole_no (xs : List D) (q : Q (.bl false) S) : Wp ((cxt P (k + 1)).call "_law_whole" [.tup xs] S) Q := by
  rw [call_fn (fn := fn_law_whole) (by kernel_rfl), run_fn2 rfl, wp_bind]
  show Wp (evSs (cxt P k) b_law_whole [some (.tup xs)] S) _
  unfold b_law_whole
  refine ret_wp ?_
  simp [isiD]
  exact q
theorem is_shown_ok (v : Val) (q : Q (.bl true) S) : Wp ((cxt P (k + 2)).call "_law_is_shown" [v.sh] S) Q := by
  rw [call_fn (fn := fn_law_is_shown) (by kernel_rfl), run_fn2 rfl, wp_bind]
  show Wp (evSs (cxt P (k + 1)) b_law_is_shown [some v.sh] S) _
  unfold b_law_is_shown
  refine ret_wp ?_
  cases v with
  | int i =>
    simp [Val.sh]
    refine whole_ok i ?_
    simp
    exact q
  | fn j x b ns ds =>
    simp [Val.sh]
    refine whole_no _ ?_
    simp [isiD]
    refine whole_ok j ?_
    try simp
    exact q
theorem is_run_ok {out : List D} (r : Res) (h : ∀ y ∈ out, shOk y) (q : ∀ S', Q (.bl true) S') : Wp ((cxt P (k + 4)).call "_law_is_run" [.tup [.tup out, endD r]] S) Q := by
  rw [call_fn (fn := fn_law_is_run) (by kernel_rfl), run_fn2 rfl, wp_bind]
  show Wp (evSs (cxt P (k + 3)) b_law_is_run [some (.tup [.tup out, endD r]), none] S) _
  unfold b_law_is_run
  have e1 : ∃ xs, endD r = .tup xs := by cases r <;> exact ⟨_, rfl⟩
  obtain ⟨xs, e1⟩ := e1
  refine wp_ss ?_
  simp [isiD, e1]
  unfold b_law_is_run_1
  refine wp_ss ?_
  simp
  refine wp_for (it := ⟨out, none⟩) (fun _ e _ => ∃ x, e = [some (.tup [.tup out, .tup xs]), x]) (fun _ _ _ _ => rfl) ?_ ?_ ⟨none, rfl⟩
  · rintro i y e S1 hy ⟨x, rfl⟩
    obtain ⟨j, v, rfl⟩ := h y (List.mem_of_getElem? hy)
    refine ⟨_, rfl, ?_⟩
    unfold b_law_is_run_1b
    refine wp_ss ?_
    simp [isiD]
    refine whole_ok (k := k + 2) j ?_
    simp
    refine is_shown_ok (k := k + 1) v ?_
    simp
  · rintro e S1 ⟨x, rfl⟩
    try simp
    unfold b_law_is_run_2
    refine ret_wp ?_
    cases r with
    | val v =>
      cases e1
      simp
      refine is_shown_ok (k := k + 1) v ?_
      try simp
      exact q S1
    | stuck j =>
      cases e1
      simp
      exact q S1
    | more =>
      cases e1
      simp
      exact q S1
/-- names that are drawn are few -/
theorem few_nm : Few (nmk NMg) := by
  refine ⟨(("never" : Str) :: strsS).map Sum.inr, ?_, fun k hk => ?_⟩
  · simp [strsS]
  · obtain ⟨x, rfl, h⟩ := hk
    rcases h with h | rfl
    · exact List.mem_map.mpr ⟨x, List.mem_cons_of_mem _ h, rfl⟩
    · exact List.mem_map.mpr ⟨_, List.mem_cons_self, rfl⟩
theorem plain_run_ok {n : Nat} {e : Pl} {fuel : Nat} {r : Res} {st : Mi.St} (h : ev2 n e .nil .nil ⟨fuel, [], fun _ => 0⟩ = some (r, st)) (hn : n + 1 ≤ k) (hnm : e.nms NMg) (ho : st.out.length ≤ 10000000)
    (q : ∀ S', Q (.tup [.tup st.out, endD r]) S') : Wp ((cxt P (k + 1)).call "_law_plain_run" [e.d, .int (fuel : Int)] S) Q := by
  rw [call_fn (fn := fn_law_plain_run) (by kernel_rfl), run_fn2 rfl, wp_bind]
  show Wp (evSs (cxt P k) b_law_plain_run [some e.d, some (.int (fuel : Int)), none, none, none] S) _
  unfold b_law_plain_run
  refine wp_ss ?_
  simp
  unfold b_law_plain_run_1
  refine wp_ss ?_
  simp
  generalize hS : S ++ [O.lst [], O.dK [], O.lst [D.int ↑fuel, D.ref (List.length S), D.ref (List.length S + 1)], O.dK [], O.dK []] = S1
  have hst : StW S1 (S.length + 2) S.length (S.length + 1) ⟨fuel, [], fun _ => 0⟩ := by
    subst hS
    exact ⟨by simp, by simp, ⟨[], by simp, .nil, fun i => rfl⟩, by omega⟩
  have hwn : WN NMg S1 [S.length + 2, S.length, S.length + 1] .nil (.ref (S.length + 3)) := by
    subst hS
    exact ⟨_, [], rfl, by simp, by simp, .nil, trivial⟩
  have hwd : WD NMg S1 [S.length + 2, S.length, S.length + 1] .nil (.ref (S.length + 4)) := by
    subst hS
    exact ⟨_, [], rfl, by simp, by simp, .nil, trivial⟩
  refine walk_ok walks few_nm n e .nil .nil _ r st h ho hnm k hn S1 (S.length + 2) S.length (S.length + 1) _ _ _ hst hwn hwd fun S2 d g2 p2 => ?_
  obtain ⟨m, rfl⟩ : ∃ m, k = m + 1 := ⟨k - 1, by omega⟩
  have tup : ∀ {S : Sto} {i : Nat} {xs : List D}, S[i]? = some (.lst xs) → bfD .tuple [.ref i] S = .ok (.tup xs) S := fun {S i xs} h => by
    show (match itemsD S (.ref i) with | some xs => R.ok (D.tup xs) S | none => R.bad) = _
    have e : itemsD S (.ref i) = some xs := by
      show (match S[i]? with | some (.lst xs) => some xs | _ => none) = _
      rw [h]
    rw [e]
  unfold b_law_plain_run_2
  refine wp_ss ?_
  cases r with
  | val v =>
    obtain ⟨hv, hs⟩ := p2
    simp
    refine bad_val (k := m) walks hv ?_
    simp
    unfold b_law_plain_run_3
    refine ret_wp ?_
    simp [sub_lst hs.fc, tup hs.fo]
    refine shown_ok (k := m) walks hv ?_
    try simp
    exact q S2
  | stuck j =>
    obtain ⟨rfl, x, ha, hb⟩ := p2
    simp
    refine bad_yes (k := m) walks (.inl rfl) ?_
    simp
    unfold b_law_plain_run_2t
    refine wp_ss ?_
    simp
    unfold b_law_plain_run_2t_1
    refine wp_ss ?_
    simp
    unfold b_law_plain_run_2t_1t
    refine wp_ss ?_
    simp
    unfold b_law_plain_run_2t_2
    refine ret_wp ?_
    simp [sub_lst ha, tup hb]
    exact q S2
  | more =>
    obtain ⟨rfl, x, ha, hb⟩ := p2
    simp
    refine bad_yes (k := m) walks (.inr rfl) ?_
    simp
    unfold b_law_plain_run_2t
    refine wp_ss ?_
    simp
    unfold b_law_plain_run_2t_1
    refine wp_ss ?_
    simp
    unfold b_law_plain_run_2t_2
    refine ret_wp ?_
    simp [sub_lst ha, tup hb]
    exact q S2
end
end K11
set_option Elab.async false
set_option linter.all false
set_option maxRecDepth 100000
set_option maxHeartbeats 4000000
/-! M74: the parts of a plain program. -/
namespace Mi
open PySem L2
def Pl.kids : Pl → List Pl
  | .num _ => []
  | .name _ => []
  | .fn _ _ b => [b]
  | .call _ a b => [a, b]
  | .sum _ a b => [a, b]
  | .less _ a b => [a, b]
  | .ite _ c a b => [c, a, b]
  | .let_ _ a b => [a, b]
  | .say _ a => [a]
  | .delay _ a b => [a, b]
  | .force _ => []
  | .tick a => [a]
  | .switch _ bs a => bs.ps.map (·.2) ++ [a]
  | .set_ _ _ a => [a]
  | .put _ _ => []
def ksum : List Pl → Nat
  | [] => 0
  | e :: l => e.sz + ksum l
theorem ksum_app : ∀ a b : List Pl, ksum (a ++ b) = ksum a + ksum b
  | [], b => by simp [ksum]
  | x :: a, b => by
    show x.sz + ksum (a ++ b) = x.sz + ksum a + ksum b
    rw [ksum_app a b]
    omega
theorem sz_pos (e : Pl) : 1 ≤ e.sz := by cases e <;> simp [Pl.sz]
theorem len_ksum : ∀ l : List Pl, l.length ≤ ksum l
  | [] => Nat.le_refl _
  | x :: l => by
    have := len_ksum l
    have := sz_pos x
    show l.length + 1 ≤ x.sz + ksum l
    omega
theorem ps_sz : ∀ bs : Br, ksum (bs.ps.map (·.2)) = bs.sz
  | .nil => rfl
  | .cons m e r => by
    show e.sz + ksum (r.ps.map (·.2)) = e.sz + r.sz
    rw [ps_sz r]
theorem kids_sz (e : Pl) : e.sz = ksum e.kids + 1 := by
  cases e with
  | switch s bs a =>
    show bs.sz + a.sz + 1 = ksum (bs.ps.map (·.2) ++ [a]) + 1
    rw [ksum_app, ps_sz]
    rfl
  | _ => simp [Pl.kids, Pl.sz, ksum] <;> omega
/-- [branch for number, branch in e[2]] -/
theorem br_lc {C : Cxt} {e : En} {S : Sto} {bs : Br} {p q : Nat} {Q : Unit → Sto → Prop} (hp : p < e.length) (hq : q < e.length) (hpq : p ≠ q) (hl : bs.ps.length ≤ 10000000)
    (fin : ∀ S', S <+: S' → S'[S.length]? = some (.lst (bs.ps.map fun x => x.2.d)) → Q () S') : Wp (lcLoop ⟨bs.ds, none⟩ (lcB C (.tp [p, q]) [p, q] .nop (.var q) e) S.length bs.ds (S ++ [.lst []])) Q := by
  refine wp_lc (it := ⟨bs.ds, none⟩) (fun i S' => S <+: S' ∧ S'[S.length]? = some (.lst ((bs.ps.take i).map fun x => x.2.d))) (fun _ _ _ => rfl) ?_ ?_ ⟨pre_self _ _, new_at⟩
  · rintro i y S1 hy ⟨p1, h1⟩
    have hy : bs.ds[i]? = some y := hy
    rw [ds_ps, List.getElem?_map] at hy
    cases hz : bs.ps[i]? with
    | none =>
      rw [hz] at hy
      cases hy
    | some z =>
      rw [hz] at hy
      cases hy
      have ht : bs.ps.take (i + 1) = bs.ps.take i ++ [z] := by
        rw [List.take_succ, hz]
        rfl
      unfold lcB
      rw [setTg_tps (by simp [wipeE]; omega)]
      simp [wipeE, isNop, hp, hq]
      refine ⟨_, h1, ?_, pre_set p1 (Nat.le_refl _), ?_⟩
      · rw [List.length_map, List.length_take, sizeLine_eq]
        omega
      · rw [List.getElem?_set_self (lt_of h1), ← List.map_take, ht, List.map_append]
        rfl
  · rintro S1 ⟨p1, h1⟩
    have e1 : bs.ps.take bs.ds.length = bs.ps := by
      rw [ds_ps, List.length_map, List.take_length]
    rw [show (It.mk bs.ds none).items.length = bs.ds.length from rfl, e1] at h1
    exact fin S1 p1 h1
def isTd : D → Bool
  | .tup _ => true
  | _ => false
/-- [part for part in xs if isinstance(part, tuple)] -/
theorem tup_lc {C : Cxt} {e : En} {S : Sto} {xs : List D} {p : Nat} {Q : Unit → Sto → Prop} (hp : p < e.length) (hx : ∀ x ∈ xs, isiD .tup x = some (isTd x)) (hl : xs.length ≤ 1000)
    (fin : ∀ S', S <+: S' → S'[S.length]? = some (.lst (xs.filter isTd)) → Q () S') : Wp (lcLoop ⟨xs, none⟩ (lcB C (.nm p) [p] (.isi (.var p) .tup) (.var p) e) S.length xs (S ++ [.lst []])) Q := by
  refine wp_lc (it := ⟨xs, none⟩) (fun i S' => S <+: S' ∧ S'[S.length]? = some (.lst ((xs.take i).filter isTd))) (fun _ _ _ => rfl) ?_ ?_ ⟨pre_self _ _, new_at⟩
  · rintro i y S1 hy ⟨p1, h1⟩
    have hy : xs[i]? = some y := hy
    have ht : xs.take (i + 1) = xs.take i ++ [y] := by
      rw [List.take_succ, hy]
      rfl
    have hty := hx y (List.mem_of_getElem? hy)
    unfold lcB
    cases hb : isTd y with
    | true =>
      simp [wipeE, isNop, hp, hty, hb]
      refine ⟨_, h1, ?_, pre_set p1 (Nat.le_refl _), ?_⟩
      · have e1 := List.length_filter_le isTd (xs.take i)
        rw [List.length_take] at e1
        rw [sizeLine_eq]
        omega
      · rw [List.getElem?_set_self (lt_of h1), ht, List.filter_append]
        simp [hb]
    | false =>
      simp [wipeE, isNop, hp, hty, hb]
      refine ⟨p1, ?_⟩
      rw [h1, ht, List.filter_append]
      simp [hb]
  · rintro S1 ⟨p1, h1⟩
    rw [show (It.mk xs none).items.length = xs.length from rfl, List.take_length] at h1
    exact fin S1 p1 h1
end Mi
set_option Elab.async false
set_option linter.all false
set_option maxRecDepth 100000
set_option maxHeartbeats 4000000
/-! K11q: sizes. -/
namespace K11
open PySem L2 Mi
section
variable {k : Nat} {S : Sto}
theorem inner_ok {Q : D → Sto → Prop} (e : Pl) (hz : e.sz ≤ 1000000) (q : ∀ r S', S <+: S' → S.length ≤ r → S'[r]? = some (.lst (e.kids.map Pl.d)) → Q (.ref r) S') : Wp ((cxt P (k + 1)).call "inner" [e.d] S) Q := by
  rw [call_fn (fn := fn_inner) (by kernel_rfl), run_fn2 rfl, wp_bind]
  show Wp (evSs (cxt P k) b_inner [some e.d, none, none, none] S) _
  unfold b_inner
  refine wp_ss ?_
  simp [pl_d0]
  have i1 : ∀ (cds : Nat → List (Str × D)) (x : Str), cmpD cds .In (.str x) (.tup [.str "num", .str "name", .str "force", .str "put"]) S = .ok (.bl (decide (x ∈ ([("num" : Str), "name", "force", "put"] : List Str)))) S := fun _ _ => in_tupS (ys := [("num" : Str), "name", "force", "put"])
  have i2 : ∀ (cds : Nat → List (Str × D)) (x : Str), cmpD cds .In (.str x) (.tup [.str "call", .str "sum", .str "less"]) S = .ok (.bl (decide (x ∈ ([("call" : Str), "sum", "less"] : List Str)))) S := fun _ _ => in_tupS (ys := [("call" : Str), "sum", "less"])
  have i4 : ∀ (cds : Nat → List (Str × D)) (x : Str), cmpD cds .In (.str x) (.tup [.str "let", .str "delay"]) S = .ok (.bl (decide (x ∈ ([("let" : Str), "delay"] : List Str)))) S := fun _ _ => in_tupS (ys := [("let" : Str), "delay"])
  have fin : ∀ {l : List Pl}, e.kids = l → Q (.ref S.length) (S ++ [.lst (l.map Pl.d)]) := fun {l} h => by
    subst h
    exact q _ _ (pre_self _ _) (Nat.le_refl _) new_at
  have last : ∀ {a : Pl}, e.kids = [a] → subD (cxt P k).cds e.d (.int (-1)) S = .ok a.d S → Wp (evSs (cxt P k) b_inner_6 [some e.d, some (.str (kdP e)), none, none] S) fun o S => Wp (outV o S) Q := fun {a} h1 h2 => by
    unfold b_inner_6
    refine ret_wp ?_
    simp [h2]
    exact fin h1
  unfold b_inner_1
  cases e with
  | num i => exact if_yes (S' := S) (by simp [i1, kdP]) (by unfold b_inner_1t; refine ret_wp ?_; simp; exact fin rfl)
  | name i => exact if_yes (S' := S) (by simp [i1, kdP]) (by unfold b_inner_1t; refine ret_wp ?_; simp; exact fin rfl)
  | force i => exact if_yes (S' := S) (by simp [i1, kdP]) (by unfold b_inner_1t; refine ret_wp ?_; simp; exact fin rfl)
  | put i j => exact if_yes (S' := S) (by simp [i1, kdP]) (by unfold b_inner_1t; refine ret_wp ?_; simp; exact fin rfl)
  | call i a b =>
    refine if_no (S' := S) (by simp [i1, kdP]) ?_
    unfold b_inner_2
    refine if_yes (S' := S) (by simp [i2, kdP]) ?_
    unfold b_inner_2t
    refine ret_wp ?_
    simp [Pl.d]
    exact fin (l := [a, b]) rfl
  | sum i a b =>
    refine if_no (S' := S) (by simp [i1, kdP]) ?_
    unfold b_inner_2
    refine if_yes (S' := S) (by simp [i2, kdP]) ?_
    unfold b_inner_2t
    refine ret_wp ?_
    simp [Pl.d]
    exact fin (l := [a, b]) rfl
  | less i a b =>
    refine if_no (S' := S) (by simp [i1, kdP]) ?_
    unfold b_inner_2
    refine if_yes (S' := S) (by simp [i2, kdP]) ?_
    unfold b_inner_2t
    refine ret_wp ?_
    simp [Pl.d]
    exact fin (l := [a, b]) rfl
  | ite i c a b =>
    refine if_no (S' := S) (by simp [i1, kdP]) ?_
    unfold b_inner_2
    refine if_no (S' := S) (by simp [i2, kdP]) ?_
    unfold b_inner_3
    refine if_yes (S' := S) (by simp [kdP]) ?_
    unfold b_inner_3t
    refine ret_wp ?_
    simp [Pl.d]
    exact fin (l := [c, a, b]) rfl
  | let_ x a b =>
    refine if_no (S' := S) (by simp [i1, kdP]) ?_
    unfold b_inner_2
    refine if_no (S' := S) (by simp [i2, kdP]) ?_
    unfold b_inner_3
    refine if_no (S' := S) (by simp [kdP]) ?_
    unfold b_inner_4
    refine if_yes (S' := S) (by simp [i4, kdP]) ?_
    unfold b_inner_4t
    refine ret_wp ?_
    simp [Pl.d]
    exact fin (l := [a, b]) rfl
  | delay x a b =>
    refine if_no (S' := S) (by simp [i1, kdP]) ?_
    unfold b_inner_2
    refine if_no (S' := S) (by simp [i2, kdP]) ?_
    unfold b_inner_3
    refine if_no (S' := S) (by simp [kdP]) ?_
    unfold b_inner_4
    refine if_yes (S' := S) (by simp [i4, kdP]) ?_
    unfold b_inner_4t
    refine ret_wp ?_
    simp [Pl.d]
    exact fin (l := [a, b]) rfl
  | switch s bs a =>
    have hz2 : bs.ps.length ≤ 10000000 := by
      have h1 := len_ksum (bs.ps.map (·.2))
      rw [ps_sz, List.length_map] at h1
      have h2 : (Pl.switch s bs a).sz = bs.sz + a.sz + 1 := rfl
      omega
    refine if_no (S' := S) (by simp [i1, kdP]) ?_
    unfold b_inner_2
    refine if_no (S' := S) (by simp [i2, kdP]) ?_
    unfold b_inner_3
    refine if_no (S' := S) (by simp [kdP]) ?_
    unfold b_inner_4
    refine if_no (S' := S) (by simp [i4, kdP]) ?_
    unfold b_inner_5
    refine if_yes (S' := S) (by simp [kdP]) ?_
    unfold b_inner_5t
    refine ret_wp ?_
    simp [Pl.d, -List.append_assoc, -List.length_append]
    refine br_lc (p := 2) (q := 3) (by simp) (by simp) (by decide) hz2 fun S1 p1 h1 => ?_
    try simp [-List.append_assoc, -List.length_append]
    rw [add_lst (pre_at (pre_self S1 _) h1) new_at, if_pos (by rw [List.length_map, sizeLine_eq]; simp; omega)]
    simp only [wp_ok]
    refine q _ _ ((p1.trans (pre_self _ _)).trans (pre_self _ _)) (by have := pre_len p1; simp; omega) ?_
    rw [new_at]
    simp [Pl.kids]
  | fn i x a =>
    refine if_no (S' := S) (by simp [i1, kdP]) ?_
    unfold b_inner_2
    refine if_no (S' := S) (by simp [i2, kdP]) ?_
    unfold b_inner_3
    refine if_no (S' := S) (by simp [kdP]) ?_
    unfold b_inner_4
    refine if_no (S' := S) (by simp [i4, kdP]) ?_
    unfold b_inner_5
    refine if_no (S' := S) (by simp [kdP]) ?_
    exact last (a := a) rfl (by simp only [Pl.d]; rfl)
  | say i a =>
    refine if_no (S' := S) (by simp [i1, kdP]) ?_
    unfold b_inner_2
    refine if_no (S' := S) (by simp [i2, kdP]) ?_
    unfold b_inner_3
    refine if_no (S' := S) (by simp [kdP]) ?_
    unfold b_inner_4
    refine if_no (S' := S) (by simp [i4, kdP]) ?_
    unfold b_inner_5
    refine if_no (S' := S) (by simp [kdP]) ?_
    exact last (a := a) rfl (by simp only [Pl.d]; rfl)
  | tick a =>
    refine if_no (S' := S) (by simp [i1, kdP]) ?_
    unfold b_inner_2
    refine if_no (S' := S) (by simp [i2, kdP]) ?_
    unfold b_inner_3
    refine if_no (S' := S) (by simp [kdP]) ?_
    unfold b_inner_4
    refine if_no (S' := S) (by simp [i4, kdP]) ?_
    unfold b_inner_5
    refine if_no (S' := S) (by simp [kdP]) ?_
    exact last (a := a) rfl (by simp only [Pl.d]; rfl)
  | set_ s m a =>
    refine if_no (S' := S) (by simp [i1, kdP]) ?_
    unfold b_inner_2
    refine if_no (S' := S) (by simp [i2, kdP]) ?_
    unfold b_inner_3
    refine if_no (S' := S) (by simp [kdP]) ?_
    unfold b_inner_4
    refine if_no (S' := S) (by simp [i4, kdP]) ?_
    unfold b_inner_5
    refine if_no (S' := S) (by simp [kdP]) ?_
    exact last (a := a) rfl (by simp only [Pl.d]; rfl)
/-- the loop that counts -/
def CI (r : Nat) (e0 : D) (N : Nat) (m : Nat) (e : En) (S : Sto) : Prop := ∃ (W : List Pl) (c : Nat) (x : Option D), e = [some e0, some (.int (c : Int)), some (.ref r), x] ∧ S[r]? = some (.lst (W.map Pl.d)) ∧ ksum W = m ∧ c + m = N
theorem ksum_le {W : List Pl} {x : Pl} (h : x ∈ W) : x.sz ≤ ksum W := by
  induction W with
  | nil => cases h
  | cons y W ih =>
    show x.sz ≤ y.sz + ksum W
    rcases List.mem_cons.mp h with rfl | h
    · omega
    · have := ih h
      omega
theorem extend_lst {S : Sto} {i j : Nat} {xs ys : List D} (h : S[i]? = some (.lst xs)) (h2 : S[j]? = some (.lst ys)) (hl : xs.length + ys.length ≤ 1000000) : bmD .extend (.ref i) [.ref j] S = .ok .non (S.set i (.lst (xs ++ ys))) := by
  show (match S[i]?, S[j]? with | some (.lst xs), some (.lst ys) => if xs.length + ys.length ≤ sizeLine then R.ok D.non (S.set i (.lst (xs ++ ys))) else R.bad | _, _ => R.bad) = _
  rw [h, h2]
  show (if xs.length + ys.length ≤ sizeLine then _ else _) = _
  rw [if_pos (by rw [sizeLine_eq]; omega)]
theorem size_ok {Q : D → Sto → Prop} (e : Pl) (hz : e.sz ≤ 1000000) (q : ∀ S', Q (.int (e.sz : Int)) S') : Wp ((cxt P (k + 2)).call "plain_size" [e.d] S) Q := by
  rw [call_fn (fn := fn_plain_size) (by kernel_rfl), run_fn2 rfl, wp_bind]
  show Wp (evSs (cxt P (k + 1)) b_plain_size [some e.d, none, none, none] S) _
  unfold b_plain_size
  refine wp_ss ?_
  simp
  unfold b_plain_size_1
  refine wp_ss ?_
  simp
  unfold b_plain_size_2
  refine wp_ss ?_
  rw [s_whl]
  refine wp_whl (CI S.length e.d e.sz) ?_ (m := e.sz) ⟨[e], 0, none, rfl, new_at, by simp [ksum], by omega⟩
  rintro m en S1 ⟨W, c, x, rfl, h1, h2, h3⟩
  simp [truthR_lst h1]
  by_cases hW : W = []
  · subst hW
    have h2 : 0 = m := h2
    subst h2
    simp
    unfold b_plain_size_3
    refine ret_wp ?_
    have : c = e.sz := by omega
    subst this
    simp
    exact q S1
  · simp [hW]
    obtain ⟨W0, w, rfl⟩ : ∃ W0 w, W = W0 ++ [w] := ⟨W.dropLast, W.getLast hW, (List.dropLast_concat_getLast hW).symm⟩
    have hk := kids_sz w
    rw [ksum_app] at h2
    have h2 : ksum W0 + (w.sz + 0) = m := h2
    unfold b_plain_size_2b
    refine wp_ss ?_
    rw [List.map_append] at h1
    simp [pre_lst2 h1 (.inr (.inr (.inl rfl)))]
    rw [pop_lstS (y := w.d) (ys := W0.map Pl.d) h1]
    simp only [wp_ok]
    have h4 : (S1.set S.length (.lst (W0.map Pl.d)))[S.length]? = some (.lst (W0.map Pl.d)) := by rw [List.getElem?_set_self (lt_of h1)]
    generalize S1.set S.length (.lst (W0.map Pl.d)) = S2 at h4 ⊢
    unfold b_plain_size_2b_1
    refine wp_ss ?_
    simp
    unfold b_plain_size_2b_2
    refine wp_ss ?_
    simp [pre_lst2 h4 (.inr (.inl rfl))]
    refine inner_ok (k := k) w (by omega) fun r S3 p3 hr h5 => ?_
    have h6 := pre_at p3 h4
    have l1 := len_ksum W0
    have l2 := len_ksum w.kids
    try simp
    rw [extend_lst h6 h5 (by rw [List.length_map, List.length_map]; omega)]
    simp
    refine ⟨ksum (W0 ++ w.kids), ?_, W0 ++ w.kids, c + 1, _, rfl, ?_, rfl, ?_⟩
    · rw [ksum_app]
      omega
    · rw [List.getElem?_set_self (lt_of h6), List.map_append]
    · rw [ksum_app]
      omega
end
end K11
set_option Elab.async false
set_option linter.all false
set_option maxRecDepth 100000
set_option maxHeartbeats 4000000
/-! K11r: the law's own count. -/
namespace K11
open PySem L2 Mi
section
variable {k : Nat} {S : Sto}
theorem isTd_d (a : Pl) : isTd a.d = true ∧ isiD .tup a.d = some true := by cases a <;> (simp only [Pl.d]; exact ⟨rfl, rfl⟩)
def restD : D → List D
  | .tup (_ :: xs) => xs
  | _ => []
theorem parts_of (w : Pl) (h : kdP w ≠ "switch") : ∃ xs, w.d = .tup (.str (kdP w) :: xs) ∧ xs.filter isTd = w.kids.map Pl.d ∧ (∀ x ∈ xs, isiD .tup x = some (isTd x)) ∧ xs.length ≤ 1000 := by
  have t : ∀ a : Pl, isTd a.d = true := fun a => (isTd_d a).1
  have t2 : ∀ a : Pl, isiD .tup a.d = some true := fun a => (isTd_d a).2
  have ti : ∀ i : Int, isTd (.int i) = false := fun _ => rfl
  have ts : ∀ i : Str, isTd (.str i) = false := fun _ => rfl
  have ti2 : ∀ i : Int, isiD .tup (.int i) = some false := fun _ => rfl
  have ts2 : ∀ i : Str, isiD .tup (.str i) = some false := fun _ => rfl
  refine ⟨restD w.d, ?_⟩
  cases w with
  | switch s bs a => exact absurd rfl h
  | _ => exact ⟨by simp [Pl.d, kdP, restD], by simp [Pl.d, restD, Pl.kids, t, ti, ts], by simp [Pl.d, restD, t, t2, ti, ts, ti2, ts2], by simp [Pl.d, restD]⟩
/-- the loop that counts -/
def DI (e0 : D) (N : Nat) (m : Nat) (e : En) (S : Sto) : Prop := ∃ (W : List Pl) (c r : Nat) (x : Option D), e = [some e0, some (.ref r), some (.int (c : Int)), x, none, none, none] ∧ S[r]? = some (.lst (W.map Pl.d)) ∧ ksum W = m ∧ c + m = N
theorem count_ok {Q : D → Sto → Prop} (e : Pl) (hz : e.sz ≤ 1000000) (q : ∀ S', Q (.int (e.sz : Int)) S') : Wp ((cxt P (k + 2)).call "_law_count" [e.d] S) Q := by
  rw [call_fn (fn := fn_law_count) (by kernel_rfl), run_fn2 rfl, wp_bind]
  show Wp (evSs (cxt P (k + 1)) b_law_count [some e.d, none, none, none, none, none, none] S) _
  unfold b_law_count
  refine wp_ss ?_
  simp
  unfold b_law_count_1
  refine wp_ss ?_
  simp
  unfold b_law_count_2
  refine wp_ss ?_
  rw [s_whl]
  refine wp_whl (DI e.d e.sz) ?_ (m := e.sz) ⟨[e], 0, S.length, none, rfl, new_at, by simp [ksum], by omega⟩
  rintro m en S1 ⟨W, c, r, x, rfl, h1, h2, h3⟩
  simp [truthR_lst h1]
  by_cases hW : W = []
  · subst hW
    have h2 : 0 = m := h2
    subst h2
    simp
    unfold b_law_count_3
    refine ret_wp ?_
    have : c = e.sz := by omega
    subst this
    simp
    exact q S1
  · simp [hW]
    obtain ⟨W0, w, rfl⟩ : ∃ W0 w, W = W0 ++ [w] := ⟨W.dropLast, W.getLast hW, (List.dropLast_concat_getLast hW).symm⟩
    have hk := kids_sz w
    rw [ksum_app] at h2
    have h2 : ksum W0 + (w.sz + 0) = m := h2
    unfold b_law_count_2b
    refine wp_ss ?_
    rw [List.map_append] at h1
    simp [pre_lst2 h1 (.inr (.inr (.inl rfl)))]
    rw [pop_lstS (y := w.d) (ys := W0.map Pl.d) h1]
    simp only [wp_ok]
    have h4 : (S1.set r (.lst (W0.map Pl.d)))[r]? = some (.lst (W0.map Pl.d)) := by rw [List.getElem?_set_self (lt_of h1)]
    generalize S1.set r (.lst (W0.map Pl.d)) = S2 at h4 ⊢
    unfold b_law_count_2b_1
    refine wp_ss ?_
    simp
    have l1 := len_ksum W0
    have l2 := len_ksum w.kids
    unfold b_law_count_2b_2
    have fin : ∀ {S3 : Sto} {r' : Nat}, S3[r']? = some (.lst ((W0 ++ w.kids).map Pl.d)) → ∃ m', m' < m ∧ DI e.d e.sz m' [some e.d, some (.ref r'), some (.int ((c : Int) + 1)), some w.d, none, none, none] S3 := fun {S3 r'} h => by
      refine ⟨ksum (W0 ++ w.kids), ?_, W0 ++ w.kids, c + 1, r', _, rfl, h, rfl, ?_⟩
      · rw [ksum_app]
        omega
      · rw [ksum_app]
        omega
    have z : ∀ {a b : Nat}, a + b ≤ 2000000 → a + b ≤ sizeLine := fun h => by
      rw [sizeLine_eq]
      omega
    by_cases hw : kdP w = "switch"
    · refine ig_yes (S' := S2) (by simp [pl_d0, hw]) ?_
      cases w with
      | switch s bs a =>
        have hl : bs.ps.length ≤ 10000000 ∧ bs.ps.length + W0.length + 1 ≤ 1000000 := by
          have e1 : (Pl.switch s bs a).kids.length = bs.ps.length + 1 := by simp [Pl.kids]
          omega
        unfold b_law_count_2b_2t
        refine wp_ss ?_
        simp [Pl.d, -List.append_assoc, -List.length_append]
        refine br_lc (p := 4) (q := 5) (by simp) (by simp) (by decide) hl.1 fun S3 p3 h5 => ?_
        try simp [-List.append_assoc, -List.length_append]
        rw [add_lst (pre_at p3 h4) h5, if_pos (z (by rw [List.length_map, List.length_map]; omega))]
        simp [-List.append_assoc, -List.length_append]
        rw [add_lst (pre_at (pre_self _ _) new_at) new_at, if_pos (z (by simp; omega))]
        simp only [wp_ok]
        have f := fin (S3 := S3 ++ [O.lst (List.map Pl.d W0 ++ List.map (fun x => x.snd.d) bs.ps)] ++ [O.lst [a.d]] ++ [O.lst (List.map Pl.d W0 ++ List.map (fun x => x.snd.d) bs.ps ++ [a.d])]) (r' := (S3 ++ [O.lst (List.map Pl.d W0 ++ List.map (fun x => x.snd.d) bs.ps)] ++ [O.lst [a.d]]).length) (by
          rw [new_at]
          simp [Pl.kids])
        simp only [Pl.d] at f
        exact f
      | _ => cases hw
    · refine ig_no (S' := S2) (by simp [pl_d0, hw]) ?_
      obtain ⟨xs, e1, e2, e3, e4⟩ := parts_of w hw
      unfold b_law_count_2b_2e
      refine wp_ss ?_
      rw [e1] at fin ⊢
      simp [-List.append_assoc, -List.length_append]
      rw [show slcD (D.tup (D.str (kdP w) :: xs)) (some 1) none S2 = .ok (.tup (cutL (D.str (kdP w) :: xs) (some 1) none)) S2 from rfl]
      have ec : cutL (D.str (kdP w) :: xs) (some 1) none = xs := by
        unfold cutL
        have h0 : HT.sIx (D.str (kdP w) :: xs).length 0 (some 1) = 1 := by
          unfold HT.sIx
          simp
        have h1 : HT.sIx (D.str (kdP w) :: xs).length (D.str (kdP w) :: xs).length none = xs.length + 1 := by
          unfold HT.sIx
          simp
        rw [h0, h1]
        simp
      rw [ec]
      simp only [wp_ok]
      rw [show seqIt (.tup xs) S2 = .ok ⟨xs, none⟩ S2 from rfl]
      simp only [wp_ok]
      refine tup_lc (p := 6) (by simp) e3 e4 fun S3 p3 h5 => ?_
      rw [e2] at h5
      rw [add_lst (pre_at p3 h4) h5, if_pos (z (by rw [List.length_map, List.length_map]; omega))]
      simp only [wp_ok]
      exact fin (by rw [new_at, List.map_append])
end
end K11
set_option Elab.async false
set_option linter.all false
set_option maxRecDepth 100000
set_option maxHeartbeats 4000000
/-! K11s: the law. -/
namespace K11
open PySem L2 Mi
mutual
theorem nms_mono {A B : Str → Prop} (h : ∀ x, A x → B x) : ∀ e : Pl, e.nms A → e.nms B
  | .num _, _ => trivial
  | .name _, _ => trivial
  | .fn _ x b, q => ⟨h x q.1, nms_mono h b q.2⟩
  | .call _ f a, q => ⟨nms_mono h f q.1, nms_mono h a q.2⟩
  | .sum _ f a, q => ⟨nms_mono h f q.1, nms_mono h a q.2⟩
  | .less _ f a, q => ⟨nms_mono h f q.1, nms_mono h a q.2⟩
  | .ite _ c a b, q => ⟨nms_mono h c q.1, nms_mono h a q.2.1, nms_mono h b q.2.2⟩
  | .let_ x a b, q => ⟨h x q.1, nms_mono h a q.2.1, nms_mono h b q.2.2⟩
  | .say _ a, q => nms_mono h a q
  | .delay x a b, q => ⟨h x q.1, nms_mono h a q.2.1, nms_mono h b q.2.2⟩
  | .force _, _ => trivial
  | .tick a, q => nms_mono h a q
  | .switch _ bs a, q => ⟨q.1, nmsB_mono h bs q.2.1, nms_mono h a q.2.2⟩
  | .set_ _ _ a, q => ⟨q.1, nms_mono h a q.2⟩
  | .put _ _, q => q
theorem nmsB_mono {A B : Str → Prop} (h : ∀ x, A x → B x) : ∀ bs : Br, bs.nms A → bs.nms B
  | .nil, _ => trivial
  | .cons _ e r, q => ⟨nms_mono h e q.1, nmsB_mono h r q.2⟩
end
theorem run_is {c c' : Int} {d : Nat} {e : Pl} {fuel : Nat} (hc : c ≤ 25) (hd : d ≤ 6) (hf : fuel ≤ 24) (h : Dn [] [] c c' d e) : ∃ r st, ev2 679 e .nil .nil ⟨fuel, [], fun _ => 0⟩ = some (r, st) ∧ st.out.length < 10000000 := by
  obtain ⟨⟨n, t, h1, h2, h3, h4, h5, h6, h7⟩, _⟩ := h
  by_cases hfn : e.isFn
  · cases e with
    | fn k x b => exact ⟨_, _, rfl, by show 0 < _; omega⟩
    | _ => exact absurd hfn id
  · have f := h7 [] [] 0 0 0 0 ⟨fun y hy => hy, fun y hy => hy, by simp, Nat.le_refl _, by decide⟩ (by intro; omega) (fun _ q => absurd q hfn)
    obtain ⟨r, st, e1, e2, e3, e4, e5⟩ := ev_total 679 e .nil .nil ⟨fuel, [], fun _ => 0⟩ [] [] 0 0 (0 + n) (t * (0 + 1)) f rfl rfl rfl (by show 0 + n + fuel * 27 ≤ 679; omega)
    refine ⟨r, st, e1, ?_⟩
    have e4 : st.out.length + st.fu * 200000 ≤ 0 + fuel * 200000 + t * (0 + 1) := e4
    have h8 : t + 1 ≤ 200000 := by
      refine Nat.le_of_not_lt fun h10 => ?_
      have h11 : 200000 ^ 3 ≤ (t + 1) ^ 3 := Nat.pow_le_pow_left (by omega) 3
      have h12 : (t + 1) ^ 3 ≤ 3 ^ 32 := Nat.le_trans h6 (Nat.pow_le_pow_right (by omega) (by omega))
      have : (3 : Nat) ^ 32 < 200000 ^ 3 := by decide
      omega
    omega
theorem szB_le {d : Nat} (h : d ≤ 6) : szB d ≤ 1000000 := by
  have : d = 0 ∨ d = 1 ∨ d = 2 ∨ d = 3 ∨ d = 4 ∨ d = 5 ∨ d = 6 := by omega
  rcases this with rfl | rfl | rfl | rfl | rfl | rfl | rfl <;> decide
theorem ub_fuel {a b d : Int} (ha : 0 ≤ a) (ha2 : a < 25) (hb : 0 ≤ b) (hb2 : b < 6) (h0 : 0 ≤ d) (h1 : d < 3) : ∃ m : Nat, m ≤ 24 ∧ atI ([D.int 24, .int a, .int b] : List D) d = some (.int (m : Int)) := by
  obtain ⟨m, rfl⟩ : ∃ m : Nat, d = m := ⟨d.toNat, by omega⟩
  rw [Mi.atI_nat]
  have hm : m = 0 ∨ m = 1 ∨ m = 2 := by omega
  rcases hm with rfl | rfl | rfl
  · exact ⟨24, by omega, rfl⟩
  · exact ⟨a.toNat, by omega, by rw [Int.toNat_of_nonneg ha]; rfl⟩
  · exact ⟨b.toNat, by omega, by rw [Int.toNat_of_nonneg hb]; rfl⟩
theorem says : Says P 690 63 := by
  intro ns hns
  have key : Wp ((cxt P 691).call "law" [.lit (ns.map .int)] []) fun v _ => v = .bl true := by
    rw [call_fn (fn := fn_law) (by kernel_rfl), run_fn2 rfl, wp_bind]
    show Wp (evSs (cxt P 690) b_law [some (.lit (ns.map .int)), none, none, none, none] []) _
    unfold b_law
    refine wp_ss ?_
    try simp
    refine startP_ok (by kernel_rfl) hns fun ic is nmr xs S1 p1 hic g1 => ?_
    try simp
    unfold b_law_1
    refine wp_ss ?_
    try simp
    refine take_call genp.toDrawn g1 (by omega) (by omega) fun t1 S2 a1 b1 c2 w2 => ?_
    obtain ⟨S3, e3, c3, w3⟩ := (gs_bud c2).2 (16 + t1)
    simp [e3]
    unfold b_law_2
    refine wp_ss ?_
    simp [-List.append_assoc, -List.length_append]
    have c5 := (c3.app (o := .lst [])).app (o := .lst [])
    refine take_call genp.toDrawn c5 (by omega) (by omega) fun t2 S4 a2 b2 c4 w4 => ?_
    simp [-List.append_assoc, -List.length_append]
    have n0 : S3[S3.length]? = none := by simp
    have hl1 : S4[S3.length]? = some (.lst (([] : List Str).map .str)) := w4.at (by simp) (Nat.ne_of_gt c3.lt)
    have hl2 : S4[(S3 ++ [O.lst []]).length]? = some (.lst (([] : List Str).map .str)) := w4.at (by simp) (Nat.ne_of_gt c3.app.lt)
    obtain ⟨d, hd, ed⟩ : ∃ d : Nat, d ≤ 6 ∧ 3 + t2 = (d : Int) := ⟨(3 + t2).toNat, by omega, by omega⟩
    rw [ed]
    refine drawn_ok genp 6 690 (by omega) S4 [] [] (16 + t1) d _ _ _ c4 hl1 hl2 (Nat.ne_of_gt c3.lt) (Nat.ne_of_gt c3.app.lt) hd (by simp) (by simp) fun e c' S5 c6 w6 nm6 d6 => ?_
    try simp
    unfold b_law_3
    refine wp_ss ?_
    simp [-List.append_assoc, -List.length_append]
    refine take_call genp.toDrawn c6 (by omega) (by omega) fun t3 S6 a3 b3 c7 w7 => ?_
    try simp [-List.append_assoc, -List.length_append]
    refine take_call genp.toDrawn c7 (by omega) (by omega) fun t4 S7 a4 b4 c8 w8 => ?_
    try simp [-List.append_assoc, -List.length_append]
    refine take_call genp.toDrawn c8.app (by omega) (by omega) fun t5 S8 a5 b5 c9 w9 => ?_
    obtain ⟨fuel, hf, ef⟩ := ub_fuel a3 b3 a4 b4 a5 b5
    rw [sub_lst (w9.at new_at (new_ne c8))]
    refine Wp.of (congrArg (optR · S8) ef) ?_
    obtain ⟨r, st, er, eo⟩ := run_is (fuel := fuel) (by omega) hd hf d6
    have hsz : e.sz ≤ 1000000 := Nat.le_trans d6.2 (szB_le hd)
    have hsh := ev_sh er
    try simp
    unfold b_law_4
    refine wp_ss ?_
    simp
    refine run_plain_ok (k := 680) plains er (by omega) (nms_mono (fun _ _ => trivial) e nm6) eo fun S9 => ?_
    try simp
    unfold b_law_5
    refine ret_wp ?_
    simp
    refine is_run_ok (k := 686) r hsh fun S10 => ?_
    simp
    refine plain_run_ok (k := 689) er (by omega) nm6 (by omega) fun S11 => ?_
    try simp
    rw [show cmpD (cxt P 690).cds .Eq (.tup [.tup st.out, endD r]) (.tup [.tup st.out, endD r]) S11 = .ok (.bl true) S11 from eqD_self (pq_run r hsh) (by omega) S11]
    simp
    refine size_ok (k := 688) e hsz fun S12 => ?_
    try simp
    refine count_ok (k := 688) e hsz fun S13 => ?_
    simp
  obtain ⟨v, S', h1, h2⟩ := key.ex
  exact ⟨S', by rw [h1, h2]⟩
end K11
set_option Elab.async false
set_option linter.all false
set_option maxRecDepth 100000
namespace K11
open PySem PySem.Spec L2 Mi
open PyProof.Rows hiding St
def top (i : Nat) : Stmt := PySem.Challenge.pw_ziggurat_k11_runs_of_plain_programs.main.body.getD i (.Pass ⟨0, 0, 0, 0⟩)
def fd_inner : FD := ⟨⟨("inner", none), "inner", "inner", C8.fnArgs (top 1), C8.fnBody (top 1), C8.fnScope (top 1), [], []⟩, ["e", "kind", "_", "branch"], ["e"], fn_inner⟩
theorem ok_inner : fd_inner.ok T = true := by decide +kernel
def fd_plain_size : FD := ⟨⟨("plain_size", none), "plain_size", "plain_size", C8.fnArgs (top 2), C8.fnBody (top 2), C8.fnScope (top 2), [], []⟩, ["plain", "count", "left", "one"], ["plain"], fn_plain_size⟩
theorem ok_plain_size : fd_plain_size.ok T = true := by decide +kernel
def fd_shown : FD := ⟨⟨("shown", none), "shown", "shown", C8.fnArgs (top 3), C8.fnBody (top 3), C8.fnScope (top 3), [], []⟩, ["value"], ["value"], fn_shown⟩
theorem ok_shown : fd_shown.ok T = true := by decide +kernel
def fd_find : FD := ⟨⟨("find", none), "find", "find", C8.fnArgs (top 5), C8.fnBody (top 5), C8.fnScope (top 5), [], []⟩, ["link", "name"], ["link", "name"], fn_find⟩
theorem ok_find : fd_find.ok T = true := by decide +kernel
def fd_with_name : FD := ⟨⟨("with_name", none), "with_name", "with_name", C8.fnArgs (top 7), C8.fnBody (top 7), C8.fnScope (top 7), [], []⟩, ["names", "x", "value"], ["names", "x", "value"], fn_with_name⟩
theorem ok_with_name : fd_with_name.ok T = true := by decide +kernel
def fd_chosen : FD := ⟨⟨("chosen", none), "chosen", "chosen", C8.fnArgs (top 8), C8.fnBody (top 8), C8.fnScope (top 8), [], []⟩, ["e", "number", "other", "branch"], ["e", "number"], fn_chosen⟩
theorem ok_chosen : fd_chosen.ok T = true := by decide +kernel
def fd_run_plain : FD := ⟨⟨("run_plain", none), "run_plain", "run_plain", C8.fnArgs (top 9), C8.fnBody (top 9), C8.fnScope (top 9), [], []⟩, ["plain", "fuel", "run"], ["plain", "fuel"], fn_run_plain⟩
theorem ok_run_plain : fd_run_plain.ok T = true := by decide +kernel
def fd_law_start : FD := ⟨⟨("_law_start", none), "_law_start", "_law_start", C8.fnArgs (top 11), C8.fnBody (top 11), C8.fnScope (top 11), [], []⟩, ["_law_script", "_law_cell"], ["_law_script"], fn_law_start⟩
theorem ok_law_start : fd_law_start.ok T = true := by decide +kernel
def fd_law_fill : FD := ⟨⟨("_law_fill", none), "_law_fill", "_law_fill", C8.fnArgs (top 12), C8.fnBody (top 12), C8.fnScope (top 12), [], []⟩, ["_law_c", "_law_number"], ["_law_c"], fn_law_fill⟩
theorem ok_law_fill : fd_law_fill.ok T = true := by decide +kernel
def fd_law_take : FD := ⟨⟨("_law_take", none), "_law_take", "_law_take", C8.fnArgs (top 13), C8.fnBody (top 13), C8.fnScope (top 13), [], []⟩, ["_law_c", "_law_many", "_law_digit"], ["_law_c", "_law_many"], fn_law_take⟩
theorem ok_law_take : fd_law_take.ok T = true := by decide +kernel
def fd_law_string : FD := ⟨⟨("_law_string", none), "_law_string", "_law_string", C8.fnArgs (top 14), C8.fnBody (top 14), C8.fnScope (top 14), [], []⟩, ["_law_c"], ["_law_c"], fn_law_string⟩
theorem ok_law_string : fd_law_string.ok T = true := by decide +kernel
def fd_law_rank : FD := ⟨⟨("_law_rank", none), "_law_rank", "_law_rank", C8.fnArgs (top 15), C8.fnBody (top 15), C8.fnScope (top 15), [], []⟩, ["_law_c"], ["_law_c"], fn_law_rank⟩
theorem ok_law_rank : fd_law_rank.ok T = true := by decide +kernel
def fd_law_unasked : FD := ⟨⟨("_law_unasked", none), "_law_unasked", "_law_unasked", C8.fnArgs (top 16), C8.fnBody (top 16), C8.fnScope (top 16), [], []⟩, ["_law_c", "_law_names", "_law_later", "_law_depth", "_law_free", "_law_body"], ["_law_c", "_law_names", "_law_later", "_law_depth"], fn_law_unasked⟩
theorem ok_law_unasked : fd_law_unasked.ok T = true := by decide +kernel
def fd_law_rows : FD := ⟨⟨("_law_rows", none), "_law_rows", "_law_rows", C8.fnArgs (top 17), C8.fnBody (top 17), C8.fnScope (top 17), [], []⟩, ["_law_c", "_law_names", "_law_later", "_law_depth", "_law_number", "_law_rows_here", "_law_j"], ["_law_c", "_law_names", "_law_later", "_law_depth"], fn_law_rows⟩
theorem ok_law_rows : fd_law_rows.ok T = true := by decide +kernel
def fd_law_drawn : FD := ⟨⟨("_law_drawn", none), "_law_drawn", "_law_drawn", C8.fnArgs (top 18), C8.fnBody (top 18), C8.fnScope (top 18), [], []⟩, ["_law_c", "_law_names", "_law_later", "_law_depth", "_law_k", "_law_value", "_law_rows_here", "_law_x", "_law_level", "_law_a", "_law_b", "_law_s", "_law_number"], ["_law_c", "_law_names", "_law_later", "_law_depth"], fn_law_drawn⟩
theorem ok_law_drawn : fd_law_drawn.ok T = true := by decide +kernel
def fd_law_bad : FD := ⟨⟨("_law_bad", none), "_law_bad", "_law_bad", C8.fnArgs (top 19), C8.fnBody (top 19), C8.fnScope (top 19), [], []⟩, ["_law_value"], ["_law_value"], fn_law_bad⟩
theorem ok_law_bad : fd_law_bad.ok T = true := by decide +kernel
def fd_law_shown : FD := ⟨⟨("_law_shown", none), "_law_shown", "_law_shown", C8.fnArgs (top 20), C8.fnBody (top 20), C8.fnScope (top 20), [], []⟩, ["_law_value"], ["_law_value"], fn_law_shown⟩
theorem ok_law_shown : fd_law_shown.ok T = true := by decide +kernel
def fd_law_with : FD := ⟨⟨("_law_with", none), "_law_with", "_law_with", C8.fnArgs (top 21), C8.fnBody (top 21), C8.fnScope (top 21), [], []⟩, ["_law_env", "_law_x", "_law_value", "_law_made"], ["_law_env", "_law_x", "_law_value"], fn_law_with⟩
theorem ok_law_with : fd_law_with.ok T = true := by decide +kernel
def fd_law_walk : FD := ⟨⟨("_law_walk", none), "_law_walk", "_law_walk", C8.fnArgs (top 22), C8.fnBody (top 22), C8.fnScope (top 22), [], []⟩, ["_law_e", "_law_env", "_law_later", "_law_st", "_law_kind", "_law_one", "_law_switches", "_law_before", "_law_value", "_law_found", "_law_number", "_law_branch", "_law_first", "_law_second"], ["_law_e", "_law_env", "_law_later", "_law_st"], fn_law_walk⟩
theorem ok_law_walk : fd_law_walk.ok T = true := by decide +kernel
def fd_law_plain_run : FD := ⟨⟨("_law_plain_run", none), "_law_plain_run", "_law_plain_run", C8.fnArgs (top 23), C8.fnBody (top 23), C8.fnScope (top 23), [], []⟩, ["_law_plain", "_law_fuel", "_law_st", "_law_value", "_law_end"], ["_law_plain", "_law_fuel"], fn_law_plain_run⟩
theorem ok_law_plain_run : fd_law_plain_run.ok T = true := by decide +kernel
def fd_law_whole : FD := ⟨⟨("_law_whole", none), "_law_whole", "_law_whole", C8.fnArgs (top 24), C8.fnBody (top 24), C8.fnScope (top 24), [], []⟩, ["_law_n"], ["_law_n"], fn_law_whole⟩
theorem ok_law_whole : fd_law_whole.ok T = true := by decide +kernel
def fd_law_is_shown : FD := ⟨⟨("_law_is_shown", none), "_law_is_shown", "_law_is_shown", C8.fnArgs (top 25), C8.fnBody (top 25), C8.fnScope (top 25), [], []⟩, ["_law_x"], ["_law_x"], fn_law_is_shown⟩
theorem ok_law_is_shown : fd_law_is_shown.ok T = true := by decide +kernel
def fd_law_is_run : FD := ⟨⟨("_law_is_run", none), "_law_is_run", "_law_is_run", C8.fnArgs (top 26), C8.fnBody (top 26), C8.fnScope (top 26), [], []⟩, ["_law_told", "_law_one"], ["_law_told"], fn_law_is_run⟩
theorem ok_law_is_run : fd_law_is_run.ok T = true := by decide +kernel
def fd_law_count : FD := ⟨⟨("_law_count", none), "_law_count", "_law_count", C8.fnArgs (top 27), C8.fnBody (top 27), C8.fnScope (top 27), [], []⟩, ["_law_e", "_law_left", "_law_total", "_law_one", "_law_number", "_law_branch", "_law_part"], ["_law_e"], fn_law_count⟩
theorem ok_law_count : fd_law_count.ok T = true := by decide +kernel
def fd_law : FD := ⟨⟨("law", none), "law", "law", C8.fnArgs (top 28), C8.fnBody (top 28), C8.fnScope (top 28), [], []⟩, ["_law_script", "_law_c", "_law_plain", "_law_fuel", "_law_told"], ["_law_script"], fn_law⟩
theorem ok_law : fd_law.ok T = true := by decide +kernel
def fd_Link_init : FD := ⟨⟨("Link", some "__init__"), "__init__", "Link.__init__", C8.fnArgs ((C8.clsBody (top 4)).getD 0 (.Pass ⟨0, 0, 0, 0⟩)), C8.fnBody ((C8.clsBody (top 4)).getD 0 (.Pass ⟨0, 0, 0, 0⟩)), C8.fnScope ((C8.clsBody (top 4)).getD 0 (.Pass ⟨0, 0, 0, 0⟩)), [], []⟩, ["self", "name", "value", "outer"], ["self", "name", "value", "outer"], fn_Link_init⟩
theorem ok_Link_init : fd_Link_init.ok T = true := by decide +kernel
def fd_PlainRun_init : FD := ⟨⟨("PlainRun", some "__init__"), "__init__", "PlainRun.__init__", C8.fnArgs ((C8.clsBody (top 6)).getD 0 (.Pass ⟨0, 0, 0, 0⟩)), C8.fnBody ((C8.clsBody (top 6)).getD 0 (.Pass ⟨0, 0, 0, 0⟩)), C8.fnScope ((C8.clsBody (top 6)).getD 0 (.Pass ⟨0, 0, 0, 0⟩)), [], []⟩, ["self", "plain", "fuel"], ["self", "plain", "fuel"], fn_PlainRun_init⟩
theorem ok_PlainRun_init : fd_PlainRun_init.ok T = true := by decide +kernel
def fd_PlainRun_run : FD := ⟨⟨("PlainRun", some "run"), "run", "PlainRun.run", C8.fnArgs ((C8.clsBody (top 6)).getD 1 (.Pass ⟨0, 0, 0, 0⟩)), C8.fnBody ((C8.clsBody (top 6)).getD 1 (.Pass ⟨0, 0, 0, 0⟩)), C8.fnScope ((C8.clsBody (top 6)).getD 1 (.Pass ⟨0, 0, 0, 0⟩)), [], []⟩, ["self", "value"], ["self"], fn_PlainRun_run⟩
theorem ok_PlainRun_run : fd_PlainRun_run.ok T = true := by decide +kernel
def fd_PlainRun_go : FD := ⟨⟨("PlainRun", some "go"), "go", "PlainRun.go", C8.fnArgs ((C8.clsBody (top 6)).getD 2 (.Pass ⟨0, 0, 0, 0⟩)), C8.fnBody ((C8.clsBody (top 6)).getD 2 (.Pass ⟨0, 0, 0, 0⟩)), C8.fnScope ((C8.clsBody (top 6)).getD 2 (.Pass ⟨0, 0, 0, 0⟩)), [], []⟩, ["self", "e", "names"], ["self", "e", "names"], fn_PlainRun_go⟩
theorem ok_PlainRun_go : fd_PlainRun_go.ok T = true := by decide +kernel
def fd_PlainRun_wait : FD := ⟨⟨("PlainRun", some "wait"), "wait", "PlainRun.wait", C8.fnArgs ((C8.clsBody (top 6)).getD 3 (.Pass ⟨0, 0, 0, 0⟩)), C8.fnBody ((C8.clsBody (top 6)).getD 3 (.Pass ⟨0, 0, 0, 0⟩)), C8.fnScope ((C8.clsBody (top 6)).getD 3 (.Pass ⟨0, 0, 0, 0⟩)), [], []⟩, ["self", "frame"], ["self", "frame"], fn_PlainRun_wait⟩
theorem ok_PlainRun_wait : fd_PlainRun_wait.ok T = true := by decide +kernel
def fd_PlainRun_step : FD := ⟨⟨("PlainRun", some "step"), "step", "PlainRun.step", C8.fnArgs ((C8.clsBody (top 6)).getD 4 (.Pass ⟨0, 0, 0, 0⟩)), C8.fnBody ((C8.clsBody (top 6)).getD 4 (.Pass ⟨0, 0, 0, 0⟩)), C8.fnScope ((C8.clsBody (top 6)).getD 4 (.Pass ⟨0, 0, 0, 0⟩)), [], []⟩, ["self"], ["self"], fn_PlainRun_step⟩
theorem ok_PlainRun_step : fd_PlainRun_step.ok T = true := by decide +kernel
def fd_PlainRun_stick : FD := ⟨⟨("PlainRun", some "stick"), "stick", "PlainRun.stick", C8.fnArgs ((C8.clsBody (top 6)).getD 5 (.Pass ⟨0, 0, 0, 0⟩)), C8.fnBody ((C8.clsBody (top 6)).getD 5 (.Pass ⟨0, 0, 0, 0⟩)), C8.fnScope ((C8.clsBody (top 6)).getD 5 (.Pass ⟨0, 0, 0, 0⟩)), [], []⟩, ["self", "level"], ["self", "level"], fn_PlainRun_stick⟩
theorem ok_PlainRun_stick : fd_PlainRun_stick.ok T = true := by decide +kernel
def fd_PlainRun_begin : FD := ⟨⟨("PlainRun", some "begin"), "begin", "PlainRun.begin", C8.fnArgs ((C8.clsBody (top 6)).getD 6 (.Pass ⟨0, 0, 0, 0⟩)), C8.fnBody ((C8.clsBody (top 6)).getD 6 (.Pass ⟨0, 0, 0, 0⟩)), C8.fnScope ((C8.clsBody (top 6)).getD 6 (.Pass ⟨0, 0, 0, 0⟩)), [], []⟩, ["self", "e", "kind"], ["self"], fn_PlainRun_begin⟩
theorem ok_PlainRun_begin : fd_PlainRun_begin.ok T = true := by decide +kernel
def fd_PlainRun_pass_through : FD := ⟨⟨("PlainRun", some "pass_through"), "pass_through", "PlainRun.pass_through", C8.fnArgs ((C8.clsBody (top 6)).getD 7 (.Pass ⟨0, 0, 0, 0⟩)), C8.fnBody ((C8.clsBody (top 6)).getD 7 (.Pass ⟨0, 0, 0, 0⟩)), C8.fnScope ((C8.clsBody (top 6)).getD 7 (.Pass ⟨0, 0, 0, 0⟩)), [], []⟩, ["self", "e", "kind", "body", "names"], ["self", "e", "kind"], fn_PlainRun_pass_through⟩
theorem ok_PlainRun_pass_through : fd_PlainRun_pass_through.ok T = true := by decide +kernel
def fd_PlainRun_resume : FD := ⟨⟨("PlainRun", some "resume"), "resume", "PlainRun.resume", C8.fnArgs ((C8.clsBody (top 6)).getD 8 (.Pass ⟨0, 0, 0, 0⟩)), C8.fnBody ((C8.clsBody (top 6)).getD 8 (.Pass ⟨0, 0, 0, 0⟩)), C8.fnScope ((C8.clsBody (top 6)).getD 8 (.Pass ⟨0, 0, 0, 0⟩)), [], []⟩, ["self", "value", "frame", "kind", "e", "names"], ["self", "value"], fn_PlainRun_resume⟩
theorem ok_PlainRun_resume : fd_PlainRun_resume.ok T = true := by decide +kernel
def fd_PlainRun_decide : FD := ⟨⟨("PlainRun", some "decide"), "decide", "PlainRun.decide", C8.fnArgs ((C8.clsBody (top 6)).getD 9 (.Pass ⟨0, 0, 0, 0⟩)), C8.fnBody ((C8.clsBody (top 6)).getD 9 (.Pass ⟨0, 0, 0, 0⟩)), C8.fnScope ((C8.clsBody (top 6)).getD 9 (.Pass ⟨0, 0, 0, 0⟩)), [], []⟩, ["self", "e", "names", "value"], ["self", "e", "names", "value"], fn_PlainRun_decide⟩
theorem ok_PlainRun_decide : fd_PlainRun_decide.ok T = true := by decide +kernel
def fd_PlainRun_operate : FD := ⟨⟨("PlainRun", some "operate"), "operate", "PlainRun.operate", C8.fnArgs ((C8.clsBody (top 6)).getD 10 (.Pass ⟨0, 0, 0, 0⟩)), C8.fnBody ((C8.clsBody (top 6)).getD 10 (.Pass ⟨0, 0, 0, 0⟩)), C8.fnScope ((C8.clsBody (top 6)).getD 10 (.Pass ⟨0, 0, 0, 0⟩)), [], []⟩, ["self", "e", "first", "second"], ["self", "e", "first", "second"], fn_PlainRun_operate⟩
theorem ok_PlainRun_operate : fd_PlainRun_operate.ok T = true := by decide +kernel
def fd_PlainRun_enter : FD := ⟨⟨("PlainRun", some "enter"), "enter", "PlainRun.enter", C8.fnArgs ((C8.clsBody (top 6)).getD 11 (.Pass ⟨0, 0, 0, 0⟩)), C8.fnBody ((C8.clsBody (top 6)).getD 11 (.Pass ⟨0, 0, 0, 0⟩)), C8.fnScope ((C8.clsBody (top 6)).getD 11 (.Pass ⟨0, 0, 0, 0⟩)), [], []⟩, ["self", "level", "function", "argument"], ["self", "level", "function", "argument"], fn_PlainRun_enter⟩
theorem ok_PlainRun_enter : fd_PlainRun_enter.ok T = true := by decide +kernel
def L : LawD := ⟨P, T, [(("inner" : Str), fd_inner), (("plain_size" : Str), fd_plain_size), (("shown" : Str), fd_shown), (("find" : Str), fd_find), (("with_name" : Str), fd_with_name), (("chosen" : Str), fd_chosen), (("run_plain" : Str), fd_run_plain), (("_law_start" : Str), fd_law_start), (("_law_fill" : Str), fd_law_fill), (("_law_take" : Str), fd_law_take), (("_law_string" : Str), fd_law_string), (("_law_rank" : Str), fd_law_rank), (("_law_unasked" : Str), fd_law_unasked), (("_law_rows" : Str), fd_law_rows), (("_law_drawn" : Str), fd_law_drawn), (("_law_bad" : Str), fd_law_bad), (("_law_shown" : Str), fd_law_shown), (("_law_with" : Str), fd_law_with), (("_law_walk" : Str), fd_law_walk), (("_law_plain_run" : Str), fd_law_plain_run), (("_law_whole" : Str), fd_law_whole), (("_law_is_shown" : Str), fd_law_is_shown), (("_law_is_run" : Str), fd_law_is_run), (("_law_count" : Str), fd_law_count), (("law" : Str), fd_law)], [(("Link" : Str), [(("__init__" : Str), fd_Link_init)]), (("PlainRun" : Str), [(("__init__" : Str), fd_PlainRun_init), (("run" : Str), fd_PlainRun_run), (("go" : Str), fd_PlainRun_go), (("wait" : Str), fd_PlainRun_wait), (("step" : Str), fd_PlainRun_step), (("stick" : Str), fd_PlainRun_stick), (("begin" : Str), fd_PlainRun_begin), (("pass_through" : Str), fd_PlainRun_pass_through), (("resume" : Str), fd_PlainRun_resume), (("decide" : Str), fd_PlainRun_decide), (("operate" : Str), fd_PlainRun_operate), (("enter" : Str), fd_PlainRun_enter)])], []⟩
theorem L_ok : L.Ok := by
  refine ⟨?_, ?_, ?_, ?_, by rfl, by rfl, by rfl, by rfl, by decide +kernel, by decide +kernel, by decide +kernel, by rfl⟩
  · intro p hp
    simp only [L, List.mem_cons, List.not_mem_nil, or_false] at hp
    rcases hp with rfl | rfl | rfl | rfl | rfl | rfl | rfl | rfl | rfl | rfl | rfl | rfl | rfl | rfl | rfl | rfl | rfl | rfl | rfl | rfl | rfl | rfl | rfl | rfl | rfl
    · exact ok_inner
    · exact ok_plain_size
    · exact ok_shown
    · exact ok_find
    · exact ok_with_name
    · exact ok_chosen
    · exact ok_run_plain
    · exact ok_law_start
    · exact ok_law_fill
    · exact ok_law_take
    · exact ok_law_string
    · exact ok_law_rank
    · exact ok_law_unasked
    · exact ok_law_rows
    · exact ok_law_drawn
    · exact ok_law_bad
    · exact ok_law_shown
    · exact ok_law_with
    · exact ok_law_walk
    · exact ok_law_plain_run
    · exact ok_law_whole
    · exact ok_law_is_shown
    · exact ok_law_is_run
    · exact ok_law_count
    · exact ok_law
  · intro c hc p hp
    simp only [L, List.mem_cons, List.not_mem_nil, or_false] at hc
    rcases hc with rfl | rfl
    · simp only [List.mem_cons, List.not_mem_nil, or_false] at hp
      rcases hp with rfl
      · exact ok_Link_init
    · simp only [List.mem_cons, List.not_mem_nil, or_false] at hp
      rcases hp with rfl | rfl | rfl | rfl | rfl | rfl | rfl | rfl | rfl | rfl | rfl | rfl
      · exact ok_PlainRun_init
      · exact ok_PlainRun_run
      · exact ok_PlainRun_go
      · exact ok_PlainRun_wait
      · exact ok_PlainRun_step
      · exact ok_PlainRun_stick
      · exact ok_PlainRun_begin
      · exact ok_PlainRun_pass_through
      · exact ok_PlainRun_resume
      · exact ok_PlainRun_decide
      · exact ok_PlainRun_operate
      · exact ok_PlainRun_enter
  · intro p hp
    simp only [L, List.mem_cons, List.not_mem_nil, or_false] at hp
    rcases hp with rfl | rfl | rfl | rfl | rfl | rfl | rfl | rfl | rfl | rfl | rfl | rfl | rfl | rfl | rfl | rfl | rfl | rfl | rfl | rfl | rfl | rfl | rfl | rfl | rfl <;> rfl
  · intro c hc p hp
    simp only [L, List.mem_cons, List.not_mem_nil, or_false] at hc
    rcases hc with rfl | rfl
    · simp only [List.mem_cons, List.not_mem_nil, or_false] at hp
      rcases hp with rfl <;> rfl
    · simp only [List.mem_cons, List.not_mem_nil, or_false] at hp
      rcases hp with rfl | rfl | rfl | rfl | rfl | rfl | rfl | rfl | rfl | rfl | rfl | rfl <;> rfl
end K11
set_option Elab.async false
set_option linter.all false
set_option maxRecDepth 100000
set_option maxHeartbeats 0
namespace K11
open PySem PySem.W PySem.Calls PyProof.Rows Mi
def loose0 : List PySem.Str := ["inner", "plain_size", "shown", "Link", "find", "PlainRun", "with_name", "chosen", "run_plain", "_law_start", "_law_fill", "_law_take", "_law_string", "_law_rank", "_law_unasked", "_law_rows", "_law_drawn", "_law_bad", "_law_shown", "_law_with", "_law_walk", "_law_plain_run", "_law_whole", "_law_is_shown", "_law_is_run", "_law_count"]
def loose : List PySem.Str := loose0
abbrev R : OpenRow := OpenLaw.row PySem.Challenge.rw_ziggurat_k11_runs_of_plain_programs
abbrev hk : Hook := He.hookX 6 L.fa L.fn L.ts [] L.ex
def ob (s : SharedT) : He.AlX := He.obsX 6 L.fa L.fn L.ts [] L.ex (HandSHeadRun.getT s)
theorem ob_eq (s : SharedT) : ob s = hk.obs s.abs := He.obsX_eq (HandSHeadRun.getT_eq s)
theorem run_false (w : World) : HandSHeadRun.RunEq R (view R.prog [28]) hk ob 4000 loose (w.withFollow "special-get-raises" false) := by
  intro os
  kernel_rfl
theorem run_true (w : World) : HandSHeadRun.RunEq R (view R.prog [28]) hk ob 4000 loose (w.withFollow "special-get-raises" true) := by
  intro os
  kernel_rfl
theorem run (w : World) : HandSHeadRun.RunEq R (view R.prog [28]) hk ob 4000 loose w := byRow2 "special-get-raises" run_false run_true w
end K11
set_option Elab.async false
set_option linter.all false
set_option maxRecDepth 100000
set_option maxHeartbeats 0
def K11.kk : Nat := 690
open PySem PySem.W PySem.Calls PyProof.Rows in
theorem PySem.Challenge.rw_ziggurat_k11_runs_of_plain_programs_holds_if (ev : Mi.Says K11.P K11.kk 63) : PySem.Challenge.rw_ziggurat_k11_runs_of_plain_programs.Holds := by
  w_on; o_law
  refine HandSHeadRun.head_any (r := OpenLaw.row PySem.Challenge.rw_ziggurat_k11_runs_of_plain_programs) (q := view (OpenLaw.row PySem.Challenge.rw_ziggurat_k11_runs_of_plain_programs).prog [28]) (H := K11.hk) (ob := K11.ob) (M := 4000) (loose := K11.loose) (d := HandSHeadRun.topDef (OpenLaw.row PySem.Challenge.rw_ziggurat_k11_runs_of_plain_programs).prog 28) (kwd := []) K11.ob_eq
    (by kernel_rfl) (fun s => by kernel_rfl) K11.run (by kernel_rfl) (by kernel_rfl) (by kernel_rfl) (by rfl) (by first | assumption | decide +kernel) (by decide +kernel) ⟨rfl, rfl, rfl, rfl, rfl, by decide +kernel⟩ ?hw ?hc
  case hw => w_witness2
  case hc =>
    exact Mi.law_end (l := PySem.Challenge.rw_ziggurat_k11_runs_of_plain_programs) (n := 63) (k := K11.kk) K11.L K11.L_ok (p := "_law_script") rfl (by decide) (by kernel_rfl) (by decide) (by kernel_rfl) (by decide +kernel) (fun x hx => by
      have : (K11.L.fds.all fun q => !decide (q.1 = ("law" : PySem.Str)) || decide (q.2.ps = [("_law_script" : PySem.Str)])) = true := by decide +kernel
      have h2 := List.all_eq_true.mp this _ hx
      simpa using h2) ev
theorem PySem.Challenge.cw_ziggurat_k11_runs_of_plain_programs_holds : PySem.Challenge.rw_ziggurat_k11_runs_of_plain_programs.Holds :=
  PySem.Challenge.rw_ziggurat_k11_runs_of_plain_programs_holds_if K11.says
