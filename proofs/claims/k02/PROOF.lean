import PyProof.Rows.All
import Wide.All
import OpenK.AllK
import Wide.FinOn
import HandS.ForMost
import HandS.Text
import KE.KIntText
import KE.IntTextLaws
import HandS.More
import HandS.IsInst
import HandS.Style
import HandS.TupAny
import HandS.RaiseMore
import HandS.SortInts
import KE.GoesEnum
import HandS.DictTup
import HandS.Defaults
import HandS.TryOnly
import HandS.BytesMake
import HandS.HeadHook4
import HandS.HeadEnd
import HandS.Head2
import HandS.Codes
import PySem.Challenge.RW_ziggurat_k02_texts_of_programs
set_option Elab.async false
set_option linter.all false
/-! M0: a small evaluator of my own for the Python subset of this program's laws (no model in it). -/
namespace Mi
open PySem L2

/-- immutable data; lit: a list that nobody changes; ref: a mutable object by its number; cd: a constant dict of a module by its number -/
inductive D where
  | non | bl (b : Bool) | int (i : Int) | str (x : Str) | tup (xs : List D) | lit (xs : List D) | ref (i : Nat) | cd (i : Nat)
/-- a mutable object -/
inductive O where
  | lst (xs : List D) | dK (kvs : List (Key × D)) | dT (kvs : List (List Key × D)) | ins (c : Nat) (fs : List (Str × D))
abbrev Sto := List O
inductive R (α : Type) where
  | ok (a : α) (s : Sto) | bad
def R.bind {α β : Type} (r : R α) (f : α → Sto → R β) : R β :=
  match r with
  | .ok a s => f a s
  | .bad => .bad
@[simp] theorem R.bind_ok {α β : Type} (a : α) (s : Sto) (f : α → Sto → R β) : (R.ok a s).bind f = f a s := rfl
@[simp] theorem R.bind_bad {α β : Type} (f : α → Sto → R β) : (R.bad : R α).bind f = .bad := rfl
theorem R.bind_eq {α β : Type} {r : R α} {f : α → Sto → R β} {b : β} {s : Sto} (h : r.bind f = .ok b s) : ∃ a t, r = .ok a t ∧ f a t = .ok b s := by
  cases r with
  | ok a t => exact ⟨a, t, rfl, h⟩
  | bad => cases h
abbrev En := List (Option D)

/-! ### the syntax -/
inductive BM where
  | append | extend | pop | lindex | get1 | get2 | pop2 | setd | join | split
  deriving DecidableEq
inductive BF where
  | len | int | str | max | min | sum | any | all | abs | tuple | list | dict | sorted
  deriving DecidableEq
inductive Ty where
  | int | str | tup | bool
  deriving DecidableEq
inductive Tg where
  | nm (i : Nat) | tp (is : List Nat)
  deriving DecidableEq
mutual
inductive E where
  | var (i : Nat) | int (i : Int) | str (s : Str) | bl (b : Bool) | non | con (x : Str)
  | bin (op : Operator) (a b : E) | neg (a : E)
  | cmp (op : CmpOp) (a b : E) | chn (o1 o2 : CmpOp) (a b c : E)
  | and (es : Es) | or (es : Es) | not (a : E) | ife (c a b : E)
  | call (f : Str) (es : Es) | make (c : Str) (es : Es) | meth (m : Str) (o : E) (es : Es)
  | fld (o : E) (f : Str) | sub (a b : E) | slc (a lo hi : E) | rev (a : E) | nop
  | tup (es : Es) | lst (es : Es) | dK | dT
  | bm (m : BM) (o : E) (es : Es) | bf (f : BF) (es : Es) | isi (e : E) (ty : Ty)
  | lc (t : Tg) (it : I) (c : E) (e : E) (own : List Nat)
  | lc2 (t : Tg) (it : I) (t1 : Tg) (it1 : I) (e : E) (own own1 : List Nat)
inductive Es where
  | nil | cons (e : E) (es : Es)
inductive I where
  | seq (e : E) | rng (es : Es) | enum (e : E)
end
inductive T where
  | nm (i : Nat) | tp (is : List Nat) | fld (o : E) (f : Str) | sub (o i : E)
mutual
inductive Sm where
  | exp (e : E) | asg (t : T) (e : E) | par (i j : Nat) (a b : E)
  | aug (i : Nat) (op : Operator) (e : E) | faug (o : E) (f : Str) (op : Operator) (e : E)
  | ifs (c : E) (a b : Sms) | whl (c : E) (b : Sms) | for_ (t : Tg) (it : I) (b : Sms)
  | ret (e : E) | retN | pas | cnt | never
inductive Sms where
  | nil | cons (s : Sm) (ss : Sms)
end

/-! ### values -/
def flat : D → Bool
  | .non => true | .bl _ => true | .int _ => true | .str _ => true | _ => false
def eqF : D → D → Bool
  | .non, .non => true
  | .bl a, .bl b => a == b
  | .bl a, .int b => (if a then 1 else 0) == b
  | .int a, .bl b => a == (if b then 1 else 0)
  | .int a, .int b => a == b
  | .str a, .str b => a == b
  | _, _ => false
mutual
/-- as the model's data, if there is no object in it -/
def pd : D → Option PyData
  | .non => some .none
  | .bl b => some (.bool b)
  | .int i => some (.int i)
  | .str x => some (.str x)
  | .tup xs => (pds xs).map .tuple
  | .lit _ => none
  | .ref _ => none
  | .cd _ => none
def pds : List D → Option (List PyData)
  | [] => some []
  | x :: xs => match pd x, pds xs with
    | some d, some ds => some (d :: ds)
    | _, _ => none
end
/-- as the model's data, lists by their items -/
def pdT (S : Sto) : D → Option PyData
  | .ref i => match S[i]? with
    | some (.lst xs) => (pds xs).map .list
    | _ => none
  | x => pd x
def eqD (neg : Bool) (x y : D) (S : Sto) : R D :=
  match x, y with
  | .str a, .str b => .ok (.bl (if neg then !decide (a = b) else decide (a = b))) S
  | .int a, .int b => .ok (.bl (if neg then !decide (a = b) else decide (a = b))) S
  | x, y => match pdT S x, pdT S y with
    | some d, some e => if SeqAt.shaped d = true ∧ SeqAt.shaped e = true then .ok (.bl (if neg then !PyData.eqv d e else PyData.eqv d e)) S else .bad
    | _, _ => .bad
def inStr (i j : Str) : Bool := !(Builtin.Str.occurrences j i 0 j.length 1).isEmpty
def keyD : D → Option Key
  | .int i => some (.inl i)
  | .str x => some (.inr x)
  | _ => none
/-- a pair as a key: something and a text -/
def keysD : List D → Option (List Key)
  | [x, .str s] => (keyD x).map fun k => [k, .inr s]
  | _ => none
def lookK {κ : Type} [DecidableEq κ] (kvs : List (κ × D)) (k : κ) : Option D := (kvs.find? fun kv => decide (kv.1 = k)).map (·.2)
def putKD {κ : Type} [DecidableEq κ] (kvs : List (κ × D)) (k : κ) (v : D) : List (κ × D) :=
  if (kvs.any fun kv => decide (kv.1 = k)) = true then kvs.map (fun kv => if kv.1 = k then (kv.1, v) else kv) else kvs ++ [(k, v)]
def dropKD {κ : Type} [DecidableEq κ] (kvs : List (κ × D)) (k : κ) : List (κ × D) := kvs.filter fun kv => decide (kv.1 ≠ k)
/-- what a dict holds at a key -/
def dget (cds : Nat → List (Str × D)) (S : Sto) (d k : D) : Option (Option D) :=
  match d with
  | .ref i => match S[i]? with
    | some (.dK kvs) => (keyD k).map fun k => lookK kvs k
    | some (.dT kvs) => match k with
      | .tup ks => (keysD ks).map fun k => lookK kvs k
      | _ => none
    | _ => none
  | .cd i => match k with
    | .str x => match cds i with
      | [] => none
      | q :: qs => some ((q :: qs).lookup x)
    | _ => none
  | _ => none
def inD (cds : Nat → List (Str × D)) (neg : Bool) (x y : D) (S : Sto) : R D :=
  match x, y with
  | .str a, .str b => .ok (.bl (if neg then !inStr a b else inStr a b)) S
  | x, .tup ys => if flat x = true ∧ ys.all flat = true then .ok (.bl (if neg then !(ys.any fun y => eqF y x) else ys.any fun y => eqF y x)) S else .bad
  | x, y => match dget cds S y x with
    | some o => .ok (.bl (if neg then !o.isSome else o.isSome)) S
    | none => match y with
      | .ref i => match S[i]? with
        | some (.lst ys) => if flat x = true ∧ ys.all flat = true then .ok (.bl (if neg then !(ys.any fun y => eqF y x) else ys.any fun y => eqF y x)) S else .bad
        | _ => .bad
      | _ => .bad
def isD (neg : Bool) (x y : D) (S : Sto) : R D :=
  match x, y with
  | x, .non => .ok (.bl (match x with | .non => !neg | _ => neg)) S
  | .bl a, .bl b => .ok (.bl (if neg then !decide (a = b) else decide (a = b))) S
  | _, _ => .bad
def cmpD (cds : Nat → List (Str × D)) (op : CmpOp) (x y : D) (S : Sto) : R D :=
  match op with
  | .Eq => eqD false x y S
  | .NotEq => eqD true x y S
  | .Is => isD false x y S
  | .IsNot => isD true x y S
  | .In => inD cds false x y S
  | .NotIn => inD cds true x y S
  | .Lt => match x, y with
    | .int i, .int j => .ok (.bl (decide (i < j))) S
    | _, _ => .bad
  | .LtE => match x, y with
    | .int i, .int j => .ok (.bl (decide (i ≤ j))) S
    | _, _ => .bad
  | .Gt => match x, y with
    | .int i, .int j => .ok (.bl (decide (j < i))) S
    | _, _ => .bad
  | .GtE => match x, y with
    | .int i, .int j => .ok (.bl (decide (j ≤ i))) S
    | _, _ => .bad
def addD (x y : D) (S : Sto) : R D :=
  match x, y with
  | .int i, .int j => .ok (.int (i + j)) S
  | .str i, .str j => if i.length + j.length ≤ sizeLine then .ok (.str (i ++ j)) S else .bad
  | .tup xs, .tup ys => if xs.length + ys.length ≤ sizeLine then .ok (.tup (xs ++ ys)) S else .bad
  | .ref a, .ref b => match S[a]?, S[b]? with
    | some (.lst xs), some (.lst ys) => if xs.length + ys.length ≤ sizeLine then .ok (.ref S.length) (S ++ [.lst (xs ++ ys)]) else .bad
    | _, _ => .bad
  | _, _ => .bad
open Classical in
noncomputable def binD (op : Operator) (x y : D) (S : Sto) : R D :=
  match op with
  | .Add => addD x y S
  | .Sub => match x, y with
    | .int i, .int j => .ok (.int (i - j)) S
    | _, _ => .bad
  | .Mult => match x, y with
    | .int i, .int j => if CMul i j then .ok (.int (i * j)) S else .bad
    | .str a, .int j => if 0 ≤ j ∧ j ≤ 100 ∧ a.length ≤ 1000 then .ok (.str (Txt.mul a j)) S else .bad
    | _, _ => .bad
  | .FloorDiv => match x, y with
    | .int i, .int j => if CDiv i j then .ok (.int (i / j)) S else .bad
    | _, _ => .bad
  | .Mod => match x, y with
    | .int i, .int j => if 0 < j then .ok (.int (i % j)) S else .bad
    | _, _ => .bad
  | .Pow => match x, y with
    | .int i, .int j => if CPow i j then .ok (.int (i ^ j.toNat)) S else .bad
    | _, _ => .bad
  | _ => .bad
def truth (S : Sto) : D → Option Bool
  | .non => some false
  | .bl b => some b
  | .int i => some (i != 0)
  | .str x => if x.length ≤ sizeLine then some ((x.length : Int) != 0) else none
  | .tup xs => some (!xs.isEmpty)
  | .lit xs => some (!xs.isEmpty)
  | .ref i => match S[i]? with
    | some (.lst xs) => some (!xs.isEmpty)
    | some (.dK kvs) => some (!kvs.isEmpty)
    | _ => none
  | .cd _ => none
def truthR (x : D) (S : Sto) : R Bool :=
  match truth S x with
  | some b => .ok b S
  | none => .bad
/-- the items of a list or tuple -/
def itemsD (S : Sto) : D → Option (List D)
  | .tup xs => some xs
  | .lit xs => some xs
  | .ref i => match S[i]? with
    | some (.lst xs) => some xs
    | _ => none
  | _ => none
def optR {α : Type} (o : Option α) (S : Sto) : R α :=
  match o with
  | some a => .ok a S
  | none => .bad
@[simp] theorem optR_some {α : Type} (a : α) (S : Sto) : optR (some a) S = .ok a S := rfl
def subD (cds : Nat → List (Str × D)) (x y : D) (S : Sto) : R D :=
  match x, y with
  | .str z, .int i => if z.length ≤ sizeLine then optR ((atI z.cps.toList i).map fun c => D.str ⟨#[c]⟩) S else .bad
  | x, .int i => match itemsD S x with
    | some xs => optR (atI xs i) S
    | none => match dget cds S x (.int i) with
      | some (some v) => .ok v S
      | _ => .bad
  | x, k => match dget cds S x k with
    | some (some v) => .ok v S
    | _ => .bad
def cutL {α : Type} (xs : List α) (lo hi : Option Int) : List α := (xs.drop (HT.sIx xs.length 0 lo)).take (HT.sIx xs.length xs.length hi - HT.sIx xs.length 0 lo)
def slcD (x : D) (lo hi : Option Int) (S : Sto) : R D :=
  match x with
  | .tup xs => .ok (.tup (cutL xs lo hi)) S
  | .lit xs => .ok (.ref S.length) (S ++ [.lst (cutL xs lo hi)])
  | .str z => if z.length ≤ sizeLine then .ok (.str (cutS z lo hi)) S else .bad
  | .ref i => match S[i]? with
    | some (.lst xs) => .ok (.ref S.length) (S ++ [.lst (cutL xs lo hi)])
    | _ => .bad
  | _ => .bad
def revD (x : D) (S : Sto) : R D :=
  match x with
  | .tup xs => .ok (.tup xs.reverse) S
  | .ref i => match S[i]? with
    | some (.lst xs) => .ok (.ref S.length) (S ++ [.lst xs.reverse])
    | _ => .bad
  | _ => .bad
def isiD (ty : Ty) (x : D) : Option Bool :=
  match x with
  | .non => some false
  | .bl _ => match ty with
    | .int => some true
    | .bool => some true
    | _ => some false
  | .int _ => match ty with
    | .int => some true
    | _ => some false
  | .str _ => match ty with
    | .str => some true
    | _ => some false
  | .tup _ => match ty with
    | .tup => some true
    | _ => some false
  | _ => none
def intsOf : List D → Option (List Int)
  | [] => some []
  | .int i :: xs => (intsOf xs).map (i :: ·)
  | _ :: _ => none
def blsOf : List D → Option (List Bool)
  | [] => some []
  | .bl i :: xs => (blsOf xs).map (i :: ·)
  | _ :: _ => none
def strsOf : List D → Option (List Str)
  | [] => some []
  | .str i :: xs => (strsOf xs).map (i :: ·)
  | _ :: _ => none
def lstOf (S : Sto) : D → Option (List D)
  | .ref i => match S[i]? with
    | some (.lst xs) => some xs
    | _ => none
  | _ => none
def maxL : List Int → Int
  | [] => 0
  | x :: xs => xs.foldl max x
def bfD (f : BF) (xs : List D) (S : Sto) : R D :=
  match f, xs with
  | .len, [x] => match x with
    | .str z => if z.length ≤ sizeLine then .ok (.int z.length) S else .bad
    | .ref i => match S[i]? with
      | some (.lst xs) => .ok (.int xs.length) S
      | some (.dK kvs) => .ok (.int kvs.length) S
      | _ => .bad
    | .tup xs => .ok (.int xs.length) S
    | .lit xs => .ok (.int xs.length) S
    | _ => .bad
  | .int, [.int i] => .ok (.int i) S
  | .int, [.bl b] => .ok (.int (if b then 1 else 0)) S
  | .int, [.str a] => if a.length ≤ 640 then (match PySem.intText? a with
    | some n => .ok (.int n) S
    | none => .bad) else .bad
  | .str, [.str x] => .ok (.str x) S
  | .str, [.int i] => if i.natAbs.log2 < 1920 then .ok (.str (toString i)) S else .bad
  | .max, [.int i, .int j] => .ok (.int (if j > i then j else i)) S
  | .min, [.int i, .int j] => .ok (.int (if j < i then j else i)) S
  | .max, [x] => match (lstOf S x).bind intsOf with
    | some (i :: is) => .ok (.int (maxL (i :: is))) S
    | _ => .bad
  | .sum, [x] => match (lstOf S x).bind intsOf with
    | some is => .ok (.int is.sum) S
    | _ => .bad
  | .any, [x] => match (lstOf S x).bind blsOf with
    | some is => .ok (.bl (is.any id)) S
    | _ => .bad
  | .all, [x] => match (lstOf S x).bind blsOf with
    | some is => .ok (.bl (is.all id)) S
    | _ => .bad
  | .abs, [.int i] => .ok (.int (if i < 0 then -i else i)) S
  | .tuple, [x] => match itemsD S x with
    | some xs => .ok (.tup xs) S
    | none => .bad
  | .list, [x] => match itemsD S x with
    | some xs => .ok (.ref S.length) (S ++ [.lst xs])
    | none => .bad
  | .dict, [.ref i] => match S[i]? with
    | some (.dK kvs) => .ok (.ref S.length) (S ++ [.dK kvs])
    | _ => .bad
  | _, _ => .bad
def setO (S : Sto) (i : Nat) (o : O) : Sto := S.set i o
/-- the first place of an equal flat item -/
def idxF (x : D) (xs : List D) : Option Nat := xs.findIdx? fun y => eqF y x
/-- the object of a method is of its kind -/
def bmPre (m : BM) (o : D) (S : Sto) : Bool :=
  match m, o with
  | .join, .str _ => true
  | .split, .str _ => true
  | m, .ref i => match S[i]? with
    | some (.lst _) => (match m with | .append => true | .extend => true | .pop => true | .lindex => true | _ => false)
    | some (.dK _) => (match m with | .get1 => true | .get2 => true | .pop2 => true | .setd => true | _ => false)
    | some (.dT _) => (match m with | .get1 => true | .get2 => true | .pop2 => true | .setd => true | _ => false)
    | _ => false
  | _, _ => false
def bmD (m : BM) (o : D) (xs : List D) (S : Sto) : R D :=
  match m, o, xs with
  | .append, .ref i, [x] => match S[i]? with
    | some (.lst ys) => if ys.length < sizeLine then .ok .non (S.set i (.lst (ys ++ [x]))) else .bad
    | _ => .bad
  | .extend, .ref i, [.ref j] => match S[i]?, S[j]? with
    | some (.lst ys), some (.lst zs) => if ys.length + zs.length ≤ sizeLine then .ok .non (S.set i (.lst (ys ++ zs))) else .bad
    | _, _ => .bad
  | .pop, .ref i, [] => match S[i]? with
    | some (.lst ys) => match ys[ys.length - 1]? with
      | some y => .ok y (S.set i (.lst ys.dropLast))
      | none => .bad
    | _ => .bad
  | .lindex, x, [y] => match lstOf S x with
    | some ys => if flat y = true ∧ ys.all flat = true then optR ((idxF y ys).map fun j => D.int (j : Nat)) S else .bad
    | none => .bad
  | .join, .str sep, [x] => match (lstOf S x).bind strsOf with
    | some ts => if Builtin.Str.tooLong (ts.toArray.foldl (· + ·.length + sep.length) 0) = false ∧ (Builtin.Str.glued sep ts).length ≤ sizeLine then .ok (.str (Builtin.Str.glued sep ts)) S else .bad
    | none => .bad
  | .get1, .ref i, [k] => match dget (fun _ => []) S (.ref i) k with
    | some o => .ok (o.getD .non) S
    | none => .bad
  | .get2, .ref i, [k, z] => match dget (fun _ => []) S (.ref i) k with
    | some o => .ok (o.getD z) S
    | none => .bad
  | .pop2, .ref i, [k, z] => match S[i]? with
    | some (.dT kvs) => match k with
      | .tup ks => match keysD ks with
        | some k => match lookK kvs k with
          | some v => .ok v (S.set i (.dT (dropKD kvs k)))
          | none => .ok z S
        | none => .bad
      | _ => .bad
    | _ => .bad
  | _, _, _ => .bad
/-- a store at o[i] -/
def setD (o i v : D) (S : Sto) : R Unit :=
  match o with
  | .ref a => match S[a]? with
    | some (.lst xs) => match i with
      | .int j => match ixN xs.length j with
        | some n => .ok () (S.set a (.lst (xs.set n v)))
        | none => .bad
      | _ => .bad
    | some (.dK kvs) => match keyD i with
      | some k => if kvs.length < sizeLine then .ok () (S.set a (.dK (putKD kvs k v))) else .bad
      | none => .bad
    | some (.dT kvs) => match i with
      | .tup ks => match keysD ks with
        | some k => if kvs.length < sizeLine then .ok () (S.set a (.dT (putKD kvs k v))) else .bad
        | none => .bad
      | _ => .bad
    | _ => .bad
  | _ => .bad
def fldD (o : D) (f : Str) (S : Sto) : R D :=
  match o with
  | .ref a => match S[a]? with
    | some (.ins _ fs) => optR (fs.lookup f) S
    | _ => .bad
  | _ => .bad
def putFD (f : Str) (v : D) : List (Str × D) → List (Str × D)
  | [] => [(f, v)]
  | (g, x) :: r => if g = f then (g, v) :: r else (g, x) :: putFD f v r
def setF (o : D) (f : Str) (v : D) (S : Sto) : R Unit :=
  match o with
  | .ref a => match S[a]? with
    | some (.ins c fs) => if fs.length < 1000 then .ok () (S.set a (.ins c (putFD f v fs))) else .bad
    | _ => .bad
  | _ => .bad
/-- an instance's class -/
def clsD (o : D) (S : Sto) : Option Nat :=
  match o with
  | .ref a => match S[a]? with
    | some (.ins c _) => some c
    | _ => none
  | _ => none
/-- what a for walks: the items; the list object that must stay as it is -/
structure It where
  items : List D
  own : Option (Nat × List D)
def rngL (lo : Int) (n : Nat) : List D := (List.range n).map fun i => D.int (lo + (i : Nat))
def seqIt (x : D) (S : Sto) : R It :=
  match x with
  | .tup xs => .ok ⟨xs, none⟩ S
  | .lit xs => .ok ⟨xs, none⟩ S
  | .str z => if z.length ≤ sizeLine then .ok ⟨z.cps.toList.map fun c => D.str ⟨#[c]⟩, none⟩ S else .bad
  | .ref i => match S[i]? with
    | some (.lst xs) => .ok ⟨xs, some (i, xs)⟩ S
    | _ => .bad
  | _ => .bad
/-- within a range's reach -/
def Rch (j : Int) : Prop := -4611686018427387904 ≤ j ∧ j < 4611686018427387904
open Classical in
noncomputable def rngIt (xs : List D) (S : Sto) : R It :=
  match xs with
  | [.int j] => if Rch j then .ok ⟨rngL 0 j.toNat, none⟩ S else .bad
  | [.int i, .int j] => if Rch i ∧ Rch j then .ok ⟨rngL i (j - i).toNat, none⟩ S else .bad
  | _ => .bad
def enumIt (x : D) (S : Sto) : R It :=
  match x with
  | .ref i => match S[i]? with
    | some (.lst xs) => .ok ⟨xs.zipIdx.map fun p => D.tup [.int (p.2 : Nat), p.1], some (i, xs)⟩ S
    | _ => .bad
  | .tup xs => .ok ⟨xs.zipIdx.map fun p => D.tup [.int (p.2 : Nat), p.1], none⟩ S
  | _ => .bad
open Classical in
noncomputable def It.still (it : It) (S : Sto) : Bool :=
  match it.own with
  | none => true
  | some (i, xs) => decide (S[i]? = some (.lst xs))
def unpD (S : Sto) : D → Option (List D)
  | .tup xs => some xs
  | .ref i => match S[i]? with
    | some (.lst xs) => some xs
    | _ => none
  | _ => none
def setTg (t : Tg) (v : D) (e : En) (S : Sto) : Option En :=
  match t with
  | .nm i => if i < e.length then some (e.set i (some v)) else none
  | .tp is => match unpD S v with
    | some xs => if xs.length = is.length ∧ (∀ i ∈ is, i < e.length) then some ((is.zip xs).foldl (fun e p => e.set p.1 (some p.2)) e) else none
    | none => none
def wipeE (e : En) : List Nat → En
  | [] => e
  | v :: vs => (wipeE e vs).set v none

/-- what is around: calls, makings, methods, constants -/
structure Cxt where
  call : Str → List D → Sto → R D
  make : Str → List D → Sto → R D
  meth : Nat → Str → List D → Sto → R D
  con : Str → Option D
  cds : Nat → List (Str × D)

/-- a comprehension's loop -/
noncomputable def lcLoop (it : It) (body : D → Sto → R (Option D)) (p : Nat) : List D → Sto → R Unit
  | [], S => if it.still S = true then .ok () S else .bad
  | x :: xs, S => if it.still S = true then (body x S).bind fun y S1 => match y with
      | none => lcLoop it body p xs S1
      | some y => match S1[p]? with
        | some (.lst acc) => if acc.length < sizeLine then lcLoop it body p xs (S1.set p (.lst (acc ++ [y]))) else .bad
        | _ => .bad
    else .bad

/-- the outer loop of two clauses -/
noncomputable def lc2Loop (it : It) (body : D → Sto → R Unit) : List D → Sto → R Unit
  | [], S => if it.still S = true then .ok () S else .bad
  | x :: xs, S => if it.still S = true then (body x S).bind fun _ S1 => lc2Loop it body xs S1 else .bad
def partR (x : D) (S : Sto) : R (Option Int) :=
  match x with
  | .int i => .ok (some i) S
  | _ => .bad
/-- an expression as a value and as a test -/
structure Ev where
  v : En → Sto → R D
  t : En → Sto → R Bool
/-- a test is the truth of the value -/
def Ev.of (v : En → Sto → R D) : Ev := ⟨v, fun e S => (v e S).bind fun x S1 => truthR x S1⟩
def isNop : E → Bool
  | .nop => true
  | _ => false
variable (C : Cxt)
mutual
noncomputable def ev : E → Ev
  | .var i => .of fun e S => optR ((e[i]?).bind id) S
  | .int i => .of fun _ S => .ok (.int i) S
  | .str s => .of fun _ S => .ok (.str s) S
  | .bl b => .of fun _ S => .ok (.bl b) S
  | .non => .of fun _ S => .ok .non S
  | .con x => .of fun _ S => optR (C.con x) S
  | .bin op a b => .of fun e S => ((ev a).v e S).bind fun x S1 => ((ev b).v e S1).bind fun y S2 => binD op x y S2
  | .neg a => .of fun e S => ((ev a).v e S).bind fun x S1 => match x with
    | .int i => .ok (.int (-i)) S1
    | _ => .bad
  | .cmp op a b => .of fun e S => ((ev a).v e S).bind fun x S1 => ((ev b).v e S1).bind fun y S2 => cmpD C.cds op x y S2
  | .chn o1 o2 a b c => .of fun e S => ((ev a).v e S).bind fun x S1 => ((ev b).v e S1).bind fun y S2 => (cmpD C.cds o1 x y S2).bind fun z S3 => match z with
    | .bl true => ((ev c).v e S3).bind fun w S4 => cmpD C.cds o2 y w S4
    | .bl false => .ok (.bl false) S3
    | _ => .bad
  | .and es => ⟨evAndV es, evAnd es⟩
  | .or es => ⟨evOrV es, evOr es⟩
  | .not a => ⟨fun e S => ((ev a).v e S).bind fun x S1 => match x with
    | .bl b => .ok (.bl (!b)) S1
    | _ => .bad, fun e S => ((ev a).t e S).bind fun b S1 => .ok (!b) S1⟩
  | .ife c a b => .of fun e S => ((ev c).t e S).bind fun t S1 => if t = true then (ev a).v e S1 else (ev b).v e S1
  | .call f es => .of fun e S => (evEs es e S).bind fun vs S1 => C.call f vs S1
  | .make c es => .of fun e S => (evEs es e S).bind fun vs S1 => C.make c vs S1
  | .meth m o es => .of fun e S => ((ev o).v e S).bind fun x S1 => match x with
    | .ref a => match S1[a]? with
      | some (.ins c fs) => match fs.lookup m with
        | none => (evEs es e S1).bind fun vs S2 => C.meth c m (.ref a :: vs) S2
        | some _ => .bad
      | _ => .bad
    | _ => .bad
  | .fld o f => .of fun e S => ((ev o).v e S).bind fun x S1 => fldD x f S1
  | .sub a b => .of fun e S => ((ev a).v e S).bind fun x S1 => ((ev b).v e S1).bind fun y S2 => subD C.cds x y S2
  | .slc a lo hi => .of fun e S => ((ev a).v e S).bind fun x S1 => (if isNop lo = true then .ok none S1 else ((ev lo).v e S1).bind fun l S2 => partR l S2).bind fun l S2 =>
      (if isNop hi = true then .ok none S2 else ((ev hi).v e S2).bind fun h S3 => partR h S3).bind fun h S3 => slcD x l h S3
  | .rev a => .of fun e S => ((ev a).v e S).bind fun x S1 => revD x S1
  | .nop => .of fun _ _ => .bad
  | .tup es => .of fun e S => (evEs es e S).bind fun vs S1 => .ok (.tup vs) S1
  | .lst es => .of fun e S => (evEs es e S).bind fun vs S1 => .ok (.ref S1.length) (S1 ++ [.lst vs])
  | .dK => .of fun _ S => .ok (.ref S.length) (S ++ [.dK []])
  | .dT => .of fun _ S => .ok (.ref S.length) (S ++ [.dT []])
  | .bm m o es => .of fun e S => ((ev o).v e S).bind fun x S1 => if bmPre m x S1 = true then (evEs es e S1).bind fun vs S2 => bmD m x vs S2 else .bad
  | .bf f es => .of fun e S => (evEs es e S).bind fun vs S1 => bfD f vs S1
  | .isi a ty => .of fun e S => ((ev a).v e S).bind fun x S1 => optR ((isiD ty x).map .bl) S1
  | .lc t it c a own => .of fun e S => (evI it e S).bind fun J S1 =>
      (lcLoop J (fun x S2 => match setTg t x (wipeE e own) S2 with
        | none => .bad
        | some e2 => (if isNop c = true then .ok true S2 else (ev c).t e2 S2).bind fun b S3 => if b = true then ((ev a).v e2 S3).bind fun y S4 => .ok (some y) S4 else .ok none S3)
        S1.length J.items (S1 ++ [.lst []])).bind fun _ S5 => .ok (.ref S1.length) S5
  | .lc2 t it t1 it1 a own own1 => .of fun e S => (evI it e S).bind fun J S1 =>
      (lc2Loop J (fun x S2 => match setTg t x (wipeE e own) S2 with
        | none => .bad
        | some e2 => (evI it1 e2 S2).bind fun J1 S3 =>
          lcLoop J1 (fun x S4 => match setTg t1 x (wipeE e2 own1) S4 with
            | none => .bad
            | some e3 => (R.ok true S4).bind fun b S5 => if b = true then ((ev a).v e3 S5).bind fun y S6 => .ok (some y) S6 else .ok none S5) S1.length J1.items S3)
        J.items (S1 ++ [.lst []])).bind fun _ S5 => .ok (.ref S1.length) S5
noncomputable def evEs : Es → En → Sto → R (List D)
  | .nil => fun _ S => .ok [] S
  | .cons a as => fun e S => ((ev a).v e S).bind fun x S1 => (evEs as e S1).bind fun xs S2 => .ok (x :: xs) S2
noncomputable def evAnd : Es → En → Sto → R Bool
  | .nil => fun _ S => .ok true S
  | .cons a as => fun e S => ((ev a).t e S).bind fun b S1 => if b = true then evAnd as e S1 else .ok false S1
noncomputable def evOr : Es → En → Sto → R Bool
  | .nil => fun _ S => .ok false S
  | .cons a as => fun e S => ((ev a).t e S).bind fun b S1 => if b = true then .ok true S1 else evOr as e S1
/-- as values: all of them truth values, but for the last one -/
noncomputable def evAndV : Es → En → Sto → R D
  | .nil => fun _ _ => .bad
  | .cons a .nil => fun e S => (ev a).v e S
  | .cons a as => fun e S => ((ev a).v e S).bind fun x S1 => match x with
    | .bl true => evAndV as e S1
    | .bl false => .ok (.bl false) S1
    | _ => .bad
noncomputable def evOrV : Es → En → Sto → R D
  | .nil => fun _ _ => .bad
  | .cons a .nil => fun e S => (ev a).v e S
  | .cons a as => fun e S => ((ev a).v e S).bind fun x S1 => match x with
    | .bl true => .ok (.bl true) S1
    | .bl false => evOrV as e S1
    | _ => .bad
noncomputable def evI : I → En → Sto → R It
  | .seq a => fun e S => ((ev a).v e S).bind fun x S1 => seqIt x S1
  | .rng es => fun e S => (evEs es e S).bind fun xs S1 => rngIt xs S1
  | .enum a => fun e S => ((ev a).v e S).bind fun x S1 => enumIt x S1
termination_by structural x => x
end
/-! ### statements -/
/-- how a statement ends -/
inductive Out where
  | nx (e : En) | ret (v : D) | cnt (e : En)
def augD (op : Operator) (x y : D) (S : Sto) : R D :=
  match op, x, y with
  | .Add, .int i, .int j => .ok (.int (i + j)) S
  | .Sub, .int i, .int j => .ok (.int (i - j)) S
  | _, _, _ => .bad
noncomputable def whileN (t : En → Sto → R Bool) (b : En → Sto → R Out) : Nat → En → Sto → R Out
  | 0, _, _ => .bad
  | n + 1, e, S => (t e S).bind fun c S1 => if c = true then (b e S1).bind fun o S2 => match o with
      | .nx e2 => whileN t b n e2 S2
      | .cnt e2 => whileN t b n e2 S2
      | .ret v => .ok (.ret v) S2
    else .ok (.nx e) S1
theorem whileN_succ (t : En → Sto → R Bool) (b : En → Sto → R Out) : ∀ (n : Nat) (e : En) (S : Sto) (o : Out) (S' : Sto), whileN t b n e S = .ok o S' → whileN t b (n + 1) e S = .ok o S'
  | 0, e, S, o, S', h => by cases h
  | n + 1, e, S, o, S', h => by
    obtain ⟨c, S1, h1, h2⟩ := R.bind_eq h
    unfold whileN
    rw [h1]
    cases c with
    | false => exact h2
    | true =>
      obtain ⟨o2, S2, h3, h4⟩ := R.bind_eq h2
      show (b e S1).bind _ = _
      rw [h3]
      cases o2 with
      | nx e2 => exact whileN_succ t b n e2 S2 o S' h4
      | cnt e2 => exact whileN_succ t b n e2 S2 o S' h4
      | ret v => exact h4
theorem whileN_le {t : En → Sto → R Bool} {b : En → Sto → R Out} {n m : Nat} {e : En} {S : Sto} {o : Out} {S' : Sto} (hnm : n ≤ m) (h : whileN t b n e S = .ok o S') : whileN t b m e S = .ok o S' := by
  induction hnm with
  | refl => exact h
  | step _ ih => exact whileN_succ t b _ e S o S' ih
open Classical in
/-- as many turns as it takes -/
noncomputable def whileX (t : En → Sto → R Bool) (b : En → Sto → R Out) (e : En) (S : Sto) : R Out := if h : ∃ n o S', whileN t b n e S = .ok o S' then whileN t b (Classical.choose h) e S else .bad
theorem whileX_eq {t : En → Sto → R Bool} {b : En → Sto → R Out} {e : En} {S : Sto} {o : Out} {S' : Sto} (h : whileX t b e S = .ok o S') : ∃ n, whileN t b n e S = .ok o S' := by
  unfold whileX at h
  split at h
  · exact ⟨_, h⟩
  · cases h
theorem whileX_of {t : En → Sto → R Bool} {b : En → Sto → R Out} {n : Nat} {e : En} {S : Sto} {o : Out} {S' : Sto} (h : whileN t b n e S = .ok o S') : whileX t b e S = .ok o S' := by
  have hx : ∃ n o S', whileN t b n e S = .ok o S' := ⟨n, o, S', h⟩
  unfold whileX
  rw [dif_pos hx]
  obtain ⟨o2, S2, h2⟩ := Classical.choose_spec hx
  have a := whileN_le (Nat.le_max_left n (Classical.choose hx)) h
  have b := whileN_le (Nat.le_max_right n (Classical.choose hx)) h2
  rw [a] at b
  rw [h2, ← b]
noncomputable def forL (it : It) (t : Tg) (b : En → Sto → R Out) : List D → En → Sto → R Out
  | [], e, S => if it.still S = true then .ok (.nx e) S else .bad
  | x :: xs, e, S => if it.still S = true then match setTg t x e S with
      | none => .bad
      | some e1 => (b e1 S).bind fun o S2 => match o with
        | .nx e2 => forL it t b xs e2 S2
        | .cnt e2 => forL it t b xs e2 S2
        | .ret v => .ok (.ret v) S2
    else .bad
/-- a store to a target -/
noncomputable def setT (t : T) (v : D) (e : En) (S : Sto) : R En :=
  match t with
  | .nm i => optR (setTg (.nm i) v e S) S
  | .tp is => optR (setTg (.tp is) v e S) S
  | .fld o f => ((ev C o).v e S).bind fun x S1 => (setF x f v S1).bind fun _ S2 => .ok e S2
  | .sub o i => ((ev C o).v e S).bind fun x S1 => ((ev C i).v e S1).bind fun y S2 => (setD x y v S2).bind fun _ S3 => .ok e S3
mutual
noncomputable def evS : Sm → En → Sto → R Out
  | .exp a => fun e S => ((ev C a).v e S).bind fun _ S1 => .ok (.nx e) S1
  | .asg t a => fun e S => ((ev C a).v e S).bind fun v S1 => (setT C t v e S1).bind fun e2 S2 => .ok (.nx e2) S2
  | .par i j a b => fun e S => ((ev C a).v e S).bind fun x S1 => ((ev C b).v e S1).bind fun y S2 =>
      if i < e.length ∧ j < e.length then .ok (.nx ((e.set i (some x)).set j (some y))) S2 else .bad
  | .aug i op a => fun e S => (optR ((e[i]?).bind id) S).bind fun x S0 => ((ev C a).v e S0).bind fun y S1 => (augD op x y S1).bind fun z S2 => .ok (.nx (e.set i (some z))) S2
  | .faug o f op a => fun e S => ((ev C o).v e S).bind fun x S1 => (fldD x f S1).bind fun v S2 => ((ev C a).v e S2).bind fun y S3 =>
      (augD op v y S3).bind fun z S4 => if clsD x S4 = clsD x S2 then (setF x f z S4).bind fun _ S5 => .ok (.nx e) S5 else .bad
  | .ifs c a b => fun e S => ((ev C c).t e S).bind fun t S1 => if t = true then evSs a e S1 else evSs b e S1
  | .whl c b => fun e S => whileX (ev C c).t (evSs b) e S
  | .for_ t it b => fun e S => (evI C it e S).bind fun J S1 => forL J t (evSs b) J.items e S1
  | .ret a => fun e S => ((ev C a).v e S).bind fun v S1 => .ok (.ret v) S1
  | .retN => fun _ S => .ok (.ret .non) S
  | .pas => fun e S => .ok (.nx e) S
  | .cnt => fun e S => .ok (.cnt e) S
  | .never => fun _ _ => .bad
noncomputable def evSs : Sms → En → Sto → R Out
  | .nil => fun e S => .ok (.nx e) S
  | .cons s ss => fun e S => (evS s e S).bind fun o S1 => match o with
    | .nx e2 => evSs ss e2 S1
    | .ret v => .ok (.ret v) S1
    | .cnt e2 => .ok (.cnt e2) S1
termination_by structural x => x
end
/-- a def: how many parameters, how many names, its body -/
structure Fn where
  np : Nat
  nn : Nat
  body : Sms
def startE (nn : Nat) (vs : List D) : En := vs.map some ++ List.replicate (nn - vs.length) none
noncomputable def runF (f : Fn) (vs : List D) (S : Sto) : R D :=
  if vs.length = f.np then (evSs C f.body (startE f.nn vs) S).bind fun o S1 => match o with
    | .nx _ => .ok .non S1
    | .ret v => .ok v S1
    | .cnt _ => .bad
  else .bad
/-- a program: its defs, its classes (by numbers, with methods), its constants, its constant dicts -/
structure Pr where
  fns : List (Str × Fn)
  cls : List (Str × List (Str × Fn))
  con : List (Str × D)
  cds : List (List (Str × D))
/-- the class of a name: its number, its methods -/
def Pr.cl (P : Pr) (c : Str) : Option Nat := P.cls.findIdx? fun q => decide (q.1 = c)
def Pr.mt (P : Pr) (n : Nat) (m : Str) : Option Fn := (P.cls[n]?).bind fun q => q.2.lookup m
/-- what may be called with room for so many calls -/
noncomputable def cxt (P : Pr) : Nat → Cxt
  | 0 => ⟨fun _ _ _ => .bad, fun _ _ _ => .bad, fun _ _ _ _ => .bad, fun x => P.con.lookup x, fun i => P.cds.getD i []⟩
  | k + 1 => {
    call := fun f vs S => match P.fns.lookup f with
      | some fn => runF (cxt P k) fn vs S
      | none => .bad
    make := fun c vs S => match P.cl c with
      | some n => ((cxt P k).meth n "__init__" (.ref S.length :: vs) (S ++ [.ins n []])).bind fun v S1 => match v with
        | .non => .ok (.ref S.length) S1
        | _ => .bad
      | none => .bad
    meth := fun n m vs S => match P.mt n m with
      | some fn => runF (cxt P k) fn vs S
      | none => .bad
    con := fun x => P.con.lookup x
    cds := fun i => P.cds.getD i [] }
end Mi
set_option Elab.async false
set_option linter.all false
set_option maxRecDepth 100000
/-! M1: how the evaluator's data stand in the model's abstract heap, and readings that are what the evaluator says. -/
namespace Mi
open PySem PySem.Spec L2
open PyProof.Rows hiding St

/-- where the written things stand: classes by number, constant dicts by number -/
structure Wd where
  K : PySem.W.Frag
  ca : Nat → Addr
  da : Nat → Addr
  nc : Nat
/-- not what a pair as a key looks like -/
def nk : List V → Bool
  | [_, .str _] => false
  | _ => true
/-- a tuple that was made, or a written one that is no key -/
def TupAt (W : Wd) (H : Hp) (a : Addr) (ys : List V) : Prop := H a = some (.tup ys) ∨ (SqT W.K H a ys ∧ nk ys = true)
theorem TupAt.sq {W : Wd} {H : Hp} {a : Addr} {ys : List V} (h : TupAt W H a ys) : SqT W.K H a ys := h.elim SqT.of fun z => z.1
/-- a list that nobody changes -/
def LitAt (W : Wd) (H : Hp) (a : Addr) (ys : List V) : Prop := (∃ ob, H a = some (.frz ob (.lst ys))) ∨ SqL W.K (fun _ => none) a ys
theorem LitAt.sq {W : Wd} {H : Hp} {a : Addr} {ys : List V} (h : LitAt W H a ys) : SqL W.K H a ys := by
  rcases h with ⟨ob, h⟩ | (h | ⟨ob, h⟩) | h
  · exact .inl (.inr ⟨ob, h⟩)
  · cases h
  · cases h
  · exact .inr h
mutual
inductive VR (W : Wd) (m : List Addr) (H : Hp) : D → V → Prop
  | non : VR W m H .non .non
  | bl (b : Bool) : VR W m H (.bl b) (.bl b)
  | int (i : Int) : VR W m H (.int i) (.int i)
  | str (x : Str) : VR W m H (.str x) (.str x)
  | tup {a : Addr} {xs : List D} {ys : List V} : TupAt W H a ys → VRs W m H xs ys → VR W m H (.tup xs) (.ref a)
  | lit {a : Addr} {xs : List D} {ys : List V} : LitAt W H a ys → VRs W m H xs ys → VR W m H (.lit xs) (.ref a)
  | ref {i : Nat} {a : Addr} : m[i]? = some a → VR W m H (.ref i) (.ref a)
  | cd (i : Nat) : VR W m H (.cd i) (.ref (W.da i))
inductive VRs (W : Wd) (m : List Addr) (H : Hp) : List D → List V → Prop
  | nil : VRs W m H [] []
  | cons {x : D} {y : V} {xs : List D} {ys : List V} : VR W m H x y → VRs W m H xs ys → VRs W m H (x :: xs) (y :: ys)
end
/-- the heap has grown, or tracked things were written -/
structure Ext (m : List Addr) (H : Hp) (m' : List Addr) (H' : Hp) : Prop where
  pre : ∃ r, m' = m ++ r
  tup : ∀ a xs, H a = some (.tup xs) → H' a = some (.tup xs)
  frz : ∀ a o u, H a = some (.frz o u) → H' a = some (.frz o u)
section
variable {W : Wd} {m m' m2 : List Addr} {H H' H2 : Hp}
theorem Ext.refl : Ext m H m H := ⟨⟨[], by simp⟩, fun _ _ h => h, fun _ _ _ h => h⟩
theorem Ext.trans (x : Ext m H m' H') (y : Ext m' H' m2 H2) : Ext m H m2 H2 := by
  obtain ⟨r, e⟩ := x.pre
  obtain ⟨q, e'⟩ := y.pre
  exact ⟨⟨r ++ q, by rw [e', e, List.append_assoc]⟩, fun a xs h => y.tup a xs (x.tup a xs h), fun a o u h => y.frz a o u (x.frz a o u h)⟩
theorem Ext.sqT (x : Ext m H m' H') {K : PySem.W.Frag} {a : Addr} {xs : List V} (h : SqT K H a xs) : SqT K H' a xs := by
  rcases h with (h | ⟨o, h⟩) | h
  · exact .inl (.inl (x.tup a xs h))
  · exact .inl (.inr ⟨o, x.frz a o _ h⟩)
  · exact .inr h
theorem Ext.tupAt (x : Ext m H m' H') {a : Addr} {xs : List V} (h : TupAt W H a xs) : TupAt W H' a xs := h.elim (fun z => .inl (x.tup a xs z)) fun z => .inr ⟨x.sqT z.1, z.2⟩
theorem Ext.litAt (x : Ext m H m' H') {a : Addr} {xs : List V} (h : LitAt W H a xs) : LitAt W H' a xs := h.elim (fun ⟨ob, z⟩ => .inl ⟨ob, x.frz a ob _ z⟩) .inr
theorem Ext.get (x : Ext m H m' H') {i : Nat} {a : Addr} (h : m[i]? = some a) : m'[i]? = some a := by
  obtain ⟨r, e⟩ := x.pre
  rw [e, List.getElem?_append_left (List.getElem?_eq_some_iff.mp h).1, h]
mutual
theorem VR.mono (x : Ext m H m' H') : ∀ (d : D) (v : V), VR W m H d v → VR W m' H' d v
  | .non, _, h => by
    cases h
    exact .non
  | .bl b, _, h => by
    cases h
    exact .bl b
  | .int b, _, h => by
    cases h
    exact .int b
  | .str b, _, h => by
    cases h
    exact .str b
  | .tup xs, _, h => by
    cases h with
    | tup h1 h2 => exact .tup (x.tupAt h1) (VRs.mono x xs _ h2)
  | .lit xs, _, h => by
    cases h with
    | lit h1 h2 => exact .lit (x.litAt h1) (VRs.mono x xs _ h2)
  | .ref i, _, h => by
    cases h with
    | ref h1 => exact .ref (x.get h1)
  | .cd b, _, h => by
    cases h
    exact .cd b
theorem VRs.mono (x : Ext m H m' H') : ∀ (d : List D) (v : List V), VRs W m H d v → VRs W m' H' d v
  | [], _, h => by
    cases h
    exact .nil
  | d :: ds, _, h => by
    cases h with
    | cons h1 h2 => exact .cons (VR.mono x d _ h1) (VRs.mono x ds _ h2)
end
theorem VR.to (x : Ext m H m' H') {d : D} {v : V} (h : VR W m H d v) : VR W m' H' d v := VR.mono x d v h
theorem VRs.to (x : Ext m H m' H') {d : List D} {v : List V} (h : VRs W m H d v) : VRs W m' H' d v := VRs.mono x d v h
theorem VRs.length : ∀ {d : List D} {v : List V}, VRs W m H d v → d.length = v.length
  | [], _, h => by
    cases h
    rfl
  | d :: ds, _, h => by
    cases h with
    | cons h1 h2 => rw [List.length_cons, List.length_cons, VRs.length h2]
theorem VRs.get : ∀ {d : List D} {v : List V} {i : Nat} {x : D}, VRs W m H d v → d[i]? = some x → ∃ y, v[i]? = some y ∧ VR W m H x y
  | [], _, i, x, h, e => by simp at e
  | d :: ds, _, 0, x, h, e => by
    cases h with
    | cons h1 h2 =>
      simp at e
      subst e
      exact ⟨_, rfl, h1⟩
  | d :: ds, _, i + 1, x, h, e => by
    cases h with
    | cons h1 h2 =>
      obtain ⟨y, e1, r⟩ := VRs.get (i := i) h2 (by simpa using e)
      exact ⟨y, by simpa using e1, r⟩
theorem VRs.append : ∀ {d d' : List D} {v v' : List V}, VRs W m H d v → VRs W m H d' v' → VRs W m H (d ++ d') (v ++ v')
  | [], _, _, _, h, h' => by
    cases h
    exact h'
  | d :: ds, _, _, _, h, h' => by
    cases h with
    | cons h1 h2 => exact .cons h1 (VRs.append h2 h')
theorem VRs.drop : ∀ {d : List D} {v : List V} (n : Nat), VRs W m H d v → VRs W m H (d.drop n) (v.drop n)
  | [], _, n, h => by
    cases h
    simp
    exact .nil
  | d :: ds, _, 0, h => h
  | d :: ds, _, n + 1, h => by
    cases h with
    | cons h1 h2 => simpa using VRs.drop n h2
theorem VRs.take : ∀ {d : List D} {v : List V} (n : Nat), VRs W m H d v → VRs W m H (d.take n) (v.take n)
  | [], _, n, h => by
    cases h
    simp
    exact .nil
  | d :: ds, _, 0, h => by
    simp
    exact .nil
  | d :: ds, _, n + 1, h => by
    cases h with
    | cons h1 h2 =>
      rw [List.take_succ_cons, List.take_succ_cons]
      exact .cons h1 (VRs.take n h2)
theorem VRs.reverse {d : List D} {v : List V} (h : VRs W m H d v) : VRs W m H d.reverse v.reverse := by
  induction d generalizing v with
  | nil =>
    cases h
    exact .nil
  | cons x xs ih =>
    cases h with
    | cons h1 h2 =>
      rw [List.reverse_cons, List.reverse_cons]
      exact (ih h2).append (.cons h1 .nil)
theorem VRs.set : ∀ {d : List D} {v : List V} (n : Nat) {x : D} {y : V}, VR W m H x y → VRs W m H d v → VRs W m H (d.set n x) (v.set n y)
  | [], _, n, _, _, _, h => by
    cases h
    exact .nil
  | d :: ds, _, 0, _, _, r, h => by
    cases h with
    | cons h1 h2 => exact .cons r h2
  | d :: ds, _, n + 1, _, _, r, h => by
    cases h with
    | cons h1 h2 => exact .cons h1 (VRs.set n r h2)
theorem VRs.dropLast {d : List D} {v : List V} (h : VRs W m H d v) : VRs W m H d.dropLast v.dropLast := by
  rw [List.dropLast_eq_take, List.dropLast_eq_take, h.length]
  exact h.take _
end

/-- a dict's pairs -/
def KR (W : Wd) (m : List Addr) (H : Hp) {κ : Type} : List (κ × D) → List (κ × V) → Prop := Paired fun p q => p.1 = q.1 ∧ VR W m H p.2 q.2
def ORl (W : Wd) (m : List Addr) (H : Hp) (a : Addr) : O → Prop
  | .lst xs => ∃ ys, H a = some (.lst ys) ∧ VRs W m H xs ys
  | .dK kvs => ∃ kws, H a = some (.dK kws) ∧ KR W m H kvs kws
  | .dT kvs => ∃ kws, H a = some (.dT kws) ∧ KR W m H kvs kws
  | .ins c fs => c < W.nc ∧ ∃ dx gs, H a = some (.ins (W.ca c) dx gs) ∧ KR W m H fs gs
structure Rep (W : Wd) (m : List Addr) (H : Hp) (S : Sto) : Prop where
  len : m.length = S.length
  nd : m.Nodup
  obj : ∀ (i : Nat) (a : Addr) (o : O), m[i]? = some a → S[i]? = some o → ORl W m H a o
section
variable {W : Wd} {m m' m2 : List Addr} {H H' H2 : Hp} {S : Sto}
theorem KR.to {κ : Type} (x : Ext m H m' H') {d : List (κ × D)} {v : List (κ × V)} (h : KR W m H d v) : KR W m' H' d v := Paired.mapP h fun _ _ z => ⟨z.1, z.2.to x⟩
theorem Rep.at (r : Rep W m H S) {i : Nat} {o : O} (h : S[i]? = some o) : ∃ a, m[i]? = some a ∧ ORl W m H a o := by
  have hi := (List.getElem?_eq_some_iff.mp h).1
  have hi' : i < m.length := by rw [r.len]; exact hi
  have e : m[i]? = some m[i] := List.getElem?_eq_getElem hi'
  exact ⟨_, e, r.obj i _ o e h⟩
theorem Rep.there (r : Rep W m H S) {i : Nat} {a : Addr} (h : m[i]? = some a) : ∃ o, H a = some o := by
  have hi := (List.getElem?_eq_some_iff.mp h).1
  have hi' : i < S.length := by rw [← r.len]; exact hi
  have e : S[i]? = some S[i] := List.getElem?_eq_getElem hi'
  have q := r.obj i a _ h e
  cases hS : S[i] with
  | lst xs =>
    rw [hS] at q
    obtain ⟨_, q, _⟩ := q
    exact ⟨_, q⟩
  | dK xs =>
    rw [hS] at q
    obtain ⟨_, q, _⟩ := q
    exact ⟨_, q⟩
  | dT xs =>
    rw [hS] at q
    obtain ⟨_, q, _⟩ := q
    exact ⟨_, q⟩
  | ins c fs =>
    rw [hS] at q
    obtain ⟨_, _, _, q, _⟩ := q
    exact ⟨_, q⟩
theorem ORl.to (x : Ext m H m' H') {a : Addr} (ha : H' a = H a) : ∀ {o : O}, ORl W m H a o → ORl W m' H' a o
  | .lst xs, ⟨ys, e, r⟩ => ⟨ys, ha.trans e, r.to x⟩
  | .dK xs, ⟨ys, e, r⟩ => ⟨ys, ha.trans e, r.to x⟩
  | .dT xs, ⟨ys, e, r⟩ => ⟨ys, ha.trans e, r.to x⟩
  | .ins c xs, ⟨hc, dx, ys, e, r⟩ => ⟨hc, dx, ys, ha.trans e, r.to x⟩
theorem ext_new {p : Addr} {o : HO} (hp : H p = none) : Ext m H m (upd H p o) :=
  ⟨⟨[], by simp⟩, fun a xs h => by rw [upd_ne (ne_of_none h hp)]; exact h, fun a ob u h => by rw [upd_ne (ne_of_none h hp)]; exact h⟩
/-- a thing is laid that is no object of the store -/
theorem Rep.lay (r : Rep W m H S) {p : Addr} {o : HO} (hp : H p = none) : Rep W m (upd H p o) S :=
  ⟨r.len, r.nd, fun i a ob e1 e2 => by
    obtain ⟨u, hu⟩ := r.there e1
    exact (r.obj i a ob e1 e2).to (ext_new hp) (upd_ne (ne_of_none hu hp))⟩
/-- a new object of the store -/
theorem Rep.new (r : Rep W m H S) {p : Addr} {o : HO} {ob : O} (hp : H p = none) (h : ORl W (m ++ [p]) (upd H p o) p ob) : Rep W (m ++ [p]) (upd H p o) (S ++ [ob]) ∧ Ext m H (m ++ [p]) (upd H p o) := by
  have x : Ext m H (m ++ [p]) (upd H p o) :=
    ⟨⟨[p], rfl⟩, fun a xs h => by rw [upd_ne (ne_of_none h hp)]; exact h, fun a ob u h => by rw [upd_ne (ne_of_none h hp)]; exact h⟩
  refine ⟨⟨by rw [List.length_append, List.length_append, r.len]; rfl, ?_, fun i a o' e1 e2 => ?_⟩, x⟩
  · rw [List.nodup_append]
    refine ⟨r.nd, by simp, fun a ha b hb e => ?_⟩
    obtain ⟨i, hi, e1⟩ := List.mem_iff_getElem.mp ha
    obtain ⟨u, hu⟩ := r.there (i := i) (a := a) (by rw [List.getElem?_eq_getElem hi, e1])
    have e2 : b = p := by simpa using hb
    rw [e, e2, hp] at hu
    cases hu
  · by_cases hi : i < m.length
    · rw [List.getElem?_append_left hi] at e1
      rw [List.getElem?_append_left (by rw [← r.len]; exact hi)] at e2
      obtain ⟨u, hu⟩ := r.there e1
      exact (r.obj i a o' e1 e2).to x (upd_ne (ne_of_none hu hp))
    · have hi' : i = m.length := by
        have h3 := (List.getElem?_eq_some_iff.mp e1).1
        rw [List.length_append] at h3
        simp at h3
        omega
      subst hi'
      rw [List.getElem?_append_right (Nat.le_refl _), Nat.sub_self] at e1
      rw [List.getElem?_append_right (by rw [r.len]; exact Nat.le_refl _), r.len, Nat.sub_self] at e2
      simp at e1 e2
      subst e1 e2
      exact h
theorem nd_ne {i j : Nat} {a b : Addr} (nd : m.Nodup) (hi : m[i]? = some a) (hj : m[j]? = some b) (h : i ≠ j) : a ≠ b := by
  intro e
  subst e
  obtain ⟨h1, e1⟩ := List.getElem?_eq_some_iff.mp hi
  obtain ⟨h2, e2⟩ := List.getElem?_eq_some_iff.mp hj
  exact h ((List.getElem_inj nd).mp (e1.trans e2.symm))
/-- an object of the store is written -/
theorem Rep.put (r : Rep W m H S) {i : Nat} {a : Addr} {u o : HO} {ob : O} (hi : m[i]? = some a) (hu : H a = some u) (mu : ∀ xs, u ≠ .tup xs) (mf : ∀ b v, u ≠ .frz b v) (h : ORl W m (upd H a o) a ob) :
    Rep W m (upd H a o) (S.set i ob) ∧ Ext m H m (upd H a o) := by
  have x : Ext m H m (upd H a o) :=
    ⟨⟨[], by simp⟩, fun b xs h => by rw [upd_ne (ne_of h hu fun e => mu xs e.symm)]; exact h, fun b ob v h => by rw [upd_ne (ne_of h hu fun e => mf ob v e.symm)]; exact h⟩
  refine ⟨⟨by rw [List.length_set]; exact r.len, r.nd, fun j b o' e1 e2 => ?_⟩, x⟩
  by_cases e : j = i
  · subst e
    rw [hi] at e1
    cases e1
    rw [List.getElem?_set_self (by rw [← r.len]; exact (List.getElem?_eq_some_iff.mp hi).1)] at e2
    cases e2
    exact h
  · rw [List.getElem?_set_ne (Ne.symm e)] at e2
    exact (r.obj j b o' e1 e2).to x (upd_ne (nd_ne r.nd e1 hi e))
/-- what is to follow with a value -/
def Fin (W : Wd) (m : List Addr) (H : Hp) (S : Sto) (v : D) (Q : VK) : Prop := ∀ y H' m', Ext m H m' H' → Rep W m' H' S → VR W m' H' v y → Q y H'
theorem Fin.done {v : D} {y : V} {Q : VK} (f : Fin W m H S v Q) (r : Rep W m H S) (h : VR W m H v y) : Q y H := f y H m .refl r h
theorem Fin.tup {xs : List D} {ys : List V} {Q : VK} {p : Addr} (f : Fin W m H S (.tup xs) Q) (r : Rep W m H S) (h : VRs W m H xs ys) (hp : H p = none) : Q (.ref p) (upd H p (.tup ys)) :=
  f _ _ m (ext_new hp) (r.lay hp) (.tup (.inl upd_same) (h.to (ext_new hp)))
theorem Fin.new {o : HO} {ob : O} {Q : VK} {p : Addr} (f : Fin W m H (S ++ [ob]) (.ref S.length) Q) (r : Rep W m H S) (hp : H p = none) (h : ORl W (m ++ [p]) (upd H p o) p ob) : Q (.ref p) (upd H p o) := by
  obtain ⟨r2, x⟩ := r.new hp h
  exact f _ _ _ x r2 (.ref (by rw [← r.len]; simp))
theorem Fin.lst {xs : List D} {ys : List V} {Q : VK} {p : Addr} (f : Fin W m H (S ++ [.lst xs]) (.ref S.length) Q) (r : Rep W m H S) (h : VRs W m H xs ys) (hp : H p = none) : Q (.ref p) (upd H p (.lst ys)) :=
  f.new r hp ⟨ys, upd_same, h.to ⟨⟨[p], rfl⟩, fun b xs h => by rw [upd_ne (ne_of_none h hp)]; exact h, fun b ob v h => by rw [upd_ne (ne_of_none h hp)]; exact h⟩⟩
theorem Fin.to {v : D} {Q : VK} (f : Fin W m H S v Q) (x : Ext m H m' H') : Fin W m' H' S v Q := fun y H2 m2 x2 r h => f y H2 m2 (x.trans x2) r h
end

/-- the names -/
structure ER (W : Wd) (m : List Addr) (H : Hp) (e : En) (σ : St) : Prop where
  len : e.length = σ.length
  at_ : ∀ (i : Nat) (d : D), e[i]? = some (some d) → ∃ v, σ[i]? = some (some v) ∧ VR W m H d v
section
variable {W : Wd} {m m' m2 : List Addr} {H H' H2 : Hp} {S : Sto} {e : En} {σ : St}
theorem ER.to (x : Ext m H m' H') (r : ER W m H e σ) : ER W m' H' e σ := ⟨r.len, fun i d h => let ⟨v, e, q⟩ := r.at_ i d h; ⟨v, e, q.to x⟩⟩
theorem ER.set {d : D} {v : V} (i : Nat) (r : ER W m H e σ) (h : VR W m H d v) : ER W m H (e.set i (some d)) (σ.set i (some v)) := by
  refine ⟨by rw [List.length_set, List.length_set]; exact r.len, fun j d' q => ?_⟩
  by_cases hj : i = j
  · subst hj
    by_cases hi : i < e.length
    · rw [List.getElem?_set_self hi] at q
      cases q
      exact ⟨v, List.getElem?_set_self (by rw [← r.len]; exact hi), h⟩
    · rw [List.getElem?_eq_none (by rw [List.length_set]; omega)] at q
      cases q
  · rw [List.getElem?_set_ne hj] at q ⊢
    exact r.at_ j d' q
theorem ER.wipe (r : ER W m H e σ) : ∀ vs : List Nat, ER W m H (wipeE e vs) (wipe σ vs)
  | [] => r
  | v :: vs => by
    have ih := ER.wipe r vs
    refine ⟨by show ((wipeE e vs).set v none).length = ((L2.wipe σ vs).set v none).length; rw [List.length_set, List.length_set]; exact ih.len, fun j d q => ?_⟩
    have q : ((wipeE e vs).set v none)[j]? = some (some d) := q
    show ∃ y, ((L2.wipe σ vs).set v none)[j]? = _ ∧ _
    by_cases hj : v = j
    · subst hj
      by_cases hi : v < (wipeE e vs).length
      · rw [List.getElem?_set_self hi] at q
        cases q
      · rw [List.getElem?_eq_none (by rw [List.length_set]; omega)] at q
        cases q
    · rw [List.getElem?_set_ne hj] at q ⊢
      exact ih.at_ j d q
end
/-! ### readings that are what the evaluator says -/
def lift (W : Wd) (f : En → Sto → R D) : TE := fun σ H Q => ∃ m e S v S', ER W m H e σ ∧ Rep W m H S ∧ f e S = .ok v S' ∧ Fin W m H S' v Q
def liftT (W : Wd) (f : En → Sto → R Bool) : TT := fun σ H Q => ∃ m e S b S', ER W m H e σ ∧ Rep W m H S ∧ f e S = .ok b S' ∧ ∀ H' m', Ext m H m' H' → Rep W m' H' S' → Q b H'
def liftA (W : Wd) (f : En → Sto → R (List D)) : TA := fun σ H Q => ∃ m e S vs S', ER W m H e σ ∧ Rep W m H S ∧ f e S = .ok vs S' ∧ ∀ ys H' m', Ext m H m' H' → Rep W m' H' S' → VRs W m' H' vs ys → Q ys H'
def liftS (W : Wd) (f : En → Sto → R Out) : TS := fun D σ H => ∃ m e S o S', ER W m H e σ ∧ Rep W m H S ∧ f e S = .ok o S' ∧ (match o with
  | .nx e' => ∀ σ' H' m', Ext m H m' H' → Rep W m' H' S' → ER W m' H' e' σ' → D.nx σ' H'
  | .cnt e' => ∀ σ' H' m', Ext m H m' H' → Rep W m' H' S' → ER W m' H' e' σ' → D.ct σ' H'
  | .ret v => Fin W m H S' v D.rt)
section
variable {X : Cx} {x : Expr} {t t' : TE} {u u' : TT} {s s' : TS} {a a' : TA} {xs : List Expr} {st : Stmt} {ss : List Stmt}
theorem pe_imp (h : PE X x t) (k : ∀ σ H Q, t' σ H Q → t σ H Q) : PE X x t' := ⟨fun pins s σ H Q I q => h.run pins s σ H Q I (k σ H Q q)⟩
theorem pt_imp (h : PT X x u) (k : ∀ σ H Q, u' σ H Q → u σ H Q) : PT X x u' := ⟨fun pins s σ H Q I q => h.run pins s σ H Q I (k σ H Q q)⟩
theorem pw_imp (h : PW X x u) (k : ∀ σ H Q, u' σ H Q → u σ H Q) : PW X x u' := ⟨fun wh pins s σ H Q I q => h.run wh pins s σ H Q I (k σ H Q q)⟩
theorem pa_imp (h : PA X xs a) (k : ∀ σ H Q, a' σ H Q → a σ H Q) : PA X xs a' := ⟨fun p pins s σ H Q I q => h.run p pins s σ H Q I (k σ H Q q)⟩
theorem ps_imp (h : PS X st s) (k : ∀ D σ H, s' D σ H → s D σ H) : PS X st s' := ⟨fun pins s σ H D I q => h.run pins s σ H D I (k D σ H q)⟩
theorem pss_imp (h : PSs X ss s) (k : ∀ D σ H, s' D σ H → s D σ H) : PSs X ss s' := ⟨fun pins s σ H D I q => h.run pins s σ H D I (k D σ H q)⟩
end
end Mi
set_option Elab.async false
set_option linter.all false
set_option maxRecDepth 100000
/-! M2: the operations by values: the evaluator's against the layer's. -/
namespace Mi
open PySem PySem.Spec L2
open PyProof.Rows hiding St
/-- a two-place operation: what the evaluator says is what the reading asks -/
def S2 (W : Wd) (r : R2) (g : D → D → Sto → R D) : Prop := ∀ m H S x y X Y v S' Q, Rep W m H S → VR W m H x X → VR W m H y Y → g x y S = .ok v S' → Fin W m H S' v Q → r X Y H Q
def SA (W : Wd) (r : List V → Hp → VK → Prop) (g : List D → Sto → R D) : Prop := ∀ m H S xs Xs v S' Q, Rep W m H S → VRs W m H xs Xs → g xs S = .ok v S' → Fin W m H S' v Q → r Xs H Q
section
variable {W : Wd} {m : List Addr} {H : Hp} {S S' : Sto} {x y v : D} {X Y : V} {Q : VK}
theorem vrs1 {xs : List V} (h : VRs W m H [x] xs) : ∃ X, xs = [X] ∧ VR W m H x X := by
  cases h with
  | cons h1 h2 =>
    cases h2
    exact ⟨_, rfl, h1⟩
theorem vrs2 {xs : List V} (h : VRs W m H [x, y] xs) : ∃ X Y, xs = [X, Y] ∧ VR W m H x X ∧ VR W m H y Y := by
  cases h with
  | cons h1 h2 =>
    cases h2 with
    | cons h3 h4 =>
      cases h4
      exact ⟨_, _, rfl, h1, h3⟩
theorem vr_int {i : Int} (h : VR W m H (.int i) X) : X = .int i := by
  cases h
  rfl
theorem vr_str {i : Str} (h : VR W m H (.str i) X) : X = .str i := by
  cases h
  rfl
theorem vr_bl {i : Bool} (h : VR W m H (.bl i) X) : X = .bl i := by
  cases h
  rfl
theorem vr_non (h : VR W m H .non X) : X = .non := by
  cases h
  rfl
theorem vr_tup {xs : List D} (h : VR W m H (.tup xs) X) : ∃ a ys, X = .ref a ∧ TupAt W H a ys ∧ VRs W m H xs ys := by
  cases h with
  | tup h1 h2 => exact ⟨_, _, rfl, h1, h2⟩
theorem vr_lit {xs : List D} (h : VR W m H (.lit xs) X) : ∃ a ys, X = .ref a ∧ LitAt W H a ys ∧ VRs W m H xs ys := by
  cases h with
  | lit h1 h2 => exact ⟨_, _, rfl, h1, h2⟩
theorem vr_ref {i : Nat} (h : VR W m H (.ref i) X) : ∃ a, X = .ref a ∧ m[i]? = some a := by
  cases h with
  | ref h1 => exact ⟨_, rfl, h1⟩
theorem vr_obj {i : Nat} {o : O} (r : Rep W m H S) (h : VR W m H (.ref i) X) (e : S[i]? = some o) : ∃ a, X = .ref a ∧ m[i]? = some a ∧ ORl W m H a o := by
  obtain ⟨a, rfl, e1⟩ := vr_ref h
  exact ⟨a, rfl, e1, r.obj i a o e1 e⟩
theorem ok_inj {α : Type} {a b : α} {s t : Sto} (h : (R.ok a s : R α) = .ok b t) : a = b ∧ s = t := by
  cases h
  exact ⟨rfl, rfl⟩
theorem VRs.nil_iff {xs : List D} {ys : List V} (h : VRs W m H xs ys) : xs = [] ↔ ys = [] := by
  have := h.length
  constructor
  · rintro rfl
    exact List.eq_nil_of_length_eq_zero (by simpa using this.symm)
  · rintro rfl
    exact List.eq_nil_of_length_eq_zero (by simpa using this)

/-! ### + -/
def rAdd4 (K : PySem.W.Frag) : R2 := fun x y H Q => rI0 (fun i j => .int (i + j)) x y H Q ∨ ((∃ i j, x = .str i ∧ y = .str j ∧ i.length + j.length ≤ sizeLine ∧ Q (.str (i ++ j)) H) ∨ (rCatA K x y H Q ∨ rCat x y H Q))
theorem o_add4 {X : Cx} : OpR X (binaryOp .Add) (rAdd4 X.K) := op_add.or (op_add_str.or (op_catA.or op_cat))
theorem s_add : S2 W (rAdd4 W.K) addD := by
  intro m H S x y X Y v S' Q rp hx hy h f
  unfold addD at h
  split at h
  · obtain ⟨rfl, rfl⟩ := ok_inj h
    exact .inl ⟨_, _, vr_int hx, vr_int hy, f.done rp (.int _)⟩
  · split at h
    · obtain ⟨rfl, rfl⟩ := ok_inj h
      exact .inr (.inl ⟨_, _, vr_str hx, vr_str hy, by assumption, f.done rp (.str _)⟩)
    · cases h
  · split at h
    · rename_i xs ys hz
      obtain ⟨rfl, rfl⟩ := ok_inj h
      obtain ⟨a, as, rfl, sa, ra⟩ := vr_tup hx
      obtain ⟨b, bs, rfl, sb, rb⟩ := vr_tup hy
      refine .inr (.inr (.inl ⟨a, b, as, bs, rfl, rfl, sa.sq, sb.sq, by rw [← ra.length, ← rb.length]; exact hz, fun e => ?_, fun _ e => ?_, fun _ _ p hp => f.tup rp (ra.append rb) hp⟩))
      · have e' := ra.nil_iff.mpr e
        subst e'
        exact f.done rp (.tup sb rb)
      · have e' := rb.nil_iff.mpr e
        subst e'
        rw [List.append_nil] at f
        exact f.done rp (.tup sa ra)
    · cases h
  · split at h
    · rename_i xs ys ex ey
      split at h
      · rename_i hz
        obtain ⟨rfl, rfl⟩ := ok_inj h
        obtain ⟨a, rfl, _, as, ha, ra⟩ := vr_obj rp hx ex
        obtain ⟨b, rfl, _, bs, hb, rb⟩ := vr_obj rp hy ey
        exact .inr (.inr (.inr ⟨a, b, as, bs, rfl, rfl, ha, hb, by rw [← ra.length, ← rb.length]; exact hz, fun p hp => f.lst rp (ra.append rb) hp⟩))
      · cases h
    · cases h
  · cases h

/-! ### the other operators -/
def rSub4 : R2 := rI0 fun i j => .int (i - j)
def rMul4 : R2 := fun x y H Q => rI CMul (fun i j => .int (i * j)) x y H Q ∨ ∃ a j, x = .str a ∧ y = .int j ∧ (0 ≤ j ∧ j ≤ 100 ∧ a.length ≤ 1000) ∧ Q (.str (Txt.mul a j)) H
theorem o_mul4 {X : Cx} : OpR X (binaryOp .Mult) rMul4 := by
  refine op_mul.or ?_
  intro pins s σ H x y v u Q I rx ry h
  obtain ⟨a, j, rfl, rfl, ⟨h1, h2, h3⟩, q⟩ := h
  obtain ⟨t, rfl⟩ := rx
  obtain ⟨t', rfl⟩ := ry
  exact PySem.SB.mul (mulOk_of 1000 100 h3 h2 (by omega) (by decide) (by decide)) fun t2 k => ⟨.str _, H, I.tok _, ⟨_, rfl⟩, q⟩
theorem s_sub : S2 W rSub4 (binD .Sub) := by
  intro m H S x y X Y v S' Q rp hx hy h f
  simp only [binD] at h
  split at h <;> first | cases h | skip
  exact ⟨_, _, vr_int hx, vr_int hy, f.done rp (.int _)⟩
theorem s_mul : S2 W rMul4 (binD .Mult) := by
  intro m H S x y X Y v S' Q rp hx hy h f
  simp only [binD] at h
  split at h
  · split at h
    · obtain ⟨rfl, rfl⟩ := ok_inj h
      exact .inl ⟨_, _, vr_int hx, vr_int hy, by assumption, f.done rp (.int _)⟩
    · cases h
  · split at h
    · obtain ⟨rfl, rfl⟩ := ok_inj h
      exact .inr ⟨_, _, vr_str hx, vr_int hy, by assumption, f.done rp (.str _)⟩
    · cases h
  · cases h
theorem s_fdiv : S2 W (rI CDiv fun i j => .int (i / j)) (binD .FloorDiv) := by
  intro m H S x y X Y v S' Q rp hx hy h f
  simp only [binD] at h
  split at h <;> first | cases h | skip
  split at h <;> first | cases h | skip
  exact ⟨_, _, vr_int hx, vr_int hy, by assumption, f.done rp (.int _)⟩
theorem s_mod : S2 W (rI (fun _ j => 0 < j) fun i j => .int (i % j)) (binD .Mod) := by
  intro m H S x y X Y v S' Q rp hx hy h f
  simp only [binD] at h
  split at h <;> first | cases h | skip
  split at h <;> first | cases h | skip
  exact ⟨_, _, vr_int hx, vr_int hy, by assumption, f.done rp (.int _)⟩
theorem s_pow : S2 W (rI CPow fun i j => .int (i ^ j.toNat)) (binD .Pow) := by
  intro m H S x y X Y v S' Q rp hx hy h f
  simp only [binD] at h
  split at h <;> first | cases h | skip
  split at h <;> first | cases h | skip
  exact ⟨_, _, vr_int hx, vr_int hy, by assumption, f.done rp (.int _)⟩
/-- any operator -/
def rBin (K : PySem.W.Frag) : Operator → R2
  | .Add => rAdd4 K
  | .Sub => rSub4
  | .Mult => rMul4
  | .FloorDiv => rI CDiv fun i j => .int (i / j)
  | .Mod => rI (fun _ j => 0 < j) fun i j => .int (i % j)
  | .Pow => rI CPow fun i j => .int (i ^ j.toNat)
  | _ => fun _ _ _ _ => False
theorem o_bin {X : Cx} : ∀ op : Operator, OpR X (binaryOp op) (rBin X.K op) := by
  intro op
  cases op <;> first
    | exact o_add4
    | exact op_sub
    | exact o_mul4
    | exact op_fdiv
    | exact op_mod
    | exact op_pow
    | exact fun _ _ _ _ _ _ _ _ _ _ _ _ h => h.elim
theorem s_bin : ∀ op : Operator, S2 W (rBin W.K op) (binD op) := by
  intro op
  cases op <;> first
    | exact s_add
    | exact s_sub
    | exact s_mul
    | exact s_fdiv
    | exact s_mod
    | exact s_pow
    | exact fun _ _ _ _ _ _ _ _ _ _ _ _ _ h _ => by cases h

/-! ### == -/
mutual
theorem dp_of : ∀ (d : D) (v : V) (p : PyData), VR W m H d v → pd d = some p → Dp W.K H v p
  | .non, _, _, h, e => by
    cases h
    cases e
    exact .non
  | .bl b, _, _, h, e => by
    cases h
    cases e
    exact .bl b
  | .int b, _, _, h, e => by
    cases h
    cases e
    exact .int b
  | .str b, _, _, h, e => by
    cases h
    cases e
    exact .str b
  | .tup xs, _, _, h, e => by
    cases h with
    | tup h1 h2 =>
      have e : (pds xs).map PyData.tuple = some _ := e
      cases q : pds xs with
      | none =>
        rw [q] at e
        cases e
      | some ds =>
        rw [q] at e
        cases e
        exact .tup h1.sq (dps_of xs _ ds h2 q)
  | .ref _, _, _, _, e => by cases e
  | .cd _, _, _, _, e => by cases e
theorem dps_of : ∀ (d : List D) (v : List V) (p : List PyData), VRs W m H d v → pds d = some p → DpAll W.K H v p
  | [], _, _, h, e => by
    cases h
    cases e
    exact .nil
  | x :: xs, _, _, h, e => by
    cases h with
    | cons h1 h2 =>
      unfold pds at e
      split at e
      · rename_i d ds e1 e2
        cases e
        exact .cons (dp_of x _ d h1 e1) (dps_of xs _ ds h2 e2)
      · cases e
end
theorem dpT_of {p : PyData} (r : Rep W m H S) (h : VR W m H x X) (e : pdT S x = some p) : Dp W.K H X p := by
  unfold pdT at e
  split at e
  · split at e
    · rename_i i xs q
      obtain ⟨a, rfl, _, ys, ha, hy⟩ := vr_obj r h q
      cases q2 : pds xs with
      | none =>
        rw [q2] at e
        cases e
      | some ds =>
        rw [q2] at e
        cases e
        exact .lst (SqL.of ha) (dps_of xs _ ds hy q2)
    · cases e
  · exact dp_of _ _ _ h e
def rEq4 (K : PySem.W.Frag) (neg : Bool) : R2 := fun x y H Q => (scal x y = true ∧ Q (.bl (if neg then !decide (x = y) else decide (x = y))) H) ∨
  ∃ d e, Dp K H x d ∧ Dp K H y e ∧ SeqAt.shaped d = true ∧ SeqAt.shaped e = true ∧ Q (.bl (if neg then !PyData.eqv d e else PyData.eqv d e)) H
theorem o_eq4 {X : Cx} (hu : X.A.units + 64 < cLine) : OpR X (compareOp .Eq) (rEq4 X.K false) := op_eq.or (op_eqD hu)
theorem o_ne4 {X : Cx} (hu : X.A.units + 64 < cLine) : OpR X (compareOp .NotEq) (rEq4 X.K true) := op_ne.or (op_neD hu)
theorem s_eq {neg : Bool} : S2 W (rEq4 W.K neg) (eqD neg) := by
  intro m H S x y X Y v S' Q rp hx hy h f
  unfold eqD at h
  split at h
  · obtain ⟨rfl, rfl⟩ := ok_inj h
    obtain rfl := vr_str hx
    obtain rfl := vr_str hy
    rename_i a b
    refine .inl ⟨rfl, ?_⟩
    have e : decide (V.str a = V.str b) = decide (a = b) := by simp
    rw [e]
    exact f.done rp (.bl _)
  · obtain ⟨rfl, rfl⟩ := ok_inj h
    obtain rfl := vr_int hx
    obtain rfl := vr_int hy
    rename_i a b
    refine .inl ⟨rfl, ?_⟩
    have e : decide (V.int a = V.int b) = decide (a = b) := by simp
    rw [e]
    exact f.done rp (.bl _)
  · split at h
    · rename_i d e hd he
      split at h
      · rename_i hs
        obtain ⟨rfl, rfl⟩ := ok_inj h
        exact .inr ⟨d, e, dpT_of rp hx hd, dpT_of rp hy he, hs.1, hs.2, f.done rp (.bl _)⟩
      · cases h
    · cases h

/-! ### is -/
def rIs4 (neg : Bool) : R2 := fun x y H Q => (y = .non ∧ Q (.bl (if neg then !decide (x = .non) else decide (x = .non))) H) ∨ ∃ a b : Bool, x = .bl a ∧ y = .bl b ∧ Q (.bl (if neg then !decide (a = b) else decide (a = b))) H
theorem o_is4 {X : Cx} : OpR X (compareOp .Is) (rIs4 false) := op_isN.or op_isBl
theorem o_isnot4 {X : Cx} : OpR X (compareOp .IsNot) (rIs4 true) := op_notN.or op_notBl
theorem s_is {neg : Bool} : S2 W (rIs4 neg) (isD neg) := by
  intro m H S x y X Y v S' Q rp hx hy h f
  unfold isD at h
  split at h
  · obtain ⟨rfl, rfl⟩ := ok_inj h
    obtain rfl := vr_non hy
    refine .inl ⟨rfl, ?_⟩
    refine (?_ : ∀ b, b = _ → Q (.bl b) H) _ rfl
    intro b e
    have q := f.done rp (.bl _)
    rw [e]
    cases hx <;> cases neg <;> exact q
  · obtain ⟨rfl, rfl⟩ := ok_inj h
    exact .inr ⟨_, _, vr_bl hx, vr_bl hy, f.done rp (.bl _)⟩
  · cases h
end
end Mi
set_option Elab.async false
set_option linter.all false
set_option maxRecDepth 100000
/-! M3: in, subscripts, slices, dicts by values. -/
namespace Mi
open PySem PySem.Spec L2
open PyProof.Rows hiding St
/-- the constant dicts stand where W says -/
structure CdOk (K : PySem.W.Frag) (w : World) (W : Wd) (cds : Nat → List (Str × D)) : Prop where
  at_ : ∀ i, cds i ≠ [] → ∃ es n, KDict K w (W.da i) es n
  none_ : ∀ i z, cds i ≠ [] → (cds i).lookup z = none → PySem.W.nsIn K (W.da i) z = some none
  some_ : ∀ i z d, (cds i).lookup z = some d → ∃ u y, PySem.W.nsIn K (W.da i) z = some (some u) ∧ RelV y u ∧ ∀ m H, VR W m H d y
theorem OpR.ex {X : Cx} {α : Type} {f : Value → Value → Sem Value} {r : α → R2} (h : ∀ i, OpR X f (r i)) : OpR X f (fun x y H Q => ∃ i, r i x y H Q) := by
  intro pins s σ H x y v u Q I rx ry q
  obtain ⟨i, q⟩ := q
  exact h i pins s σ H x y v u Q I rx ry q
section
variable {W : Wd} {m : List Addr} {H : Hp} {S S' : Sto} {x y v : D} {X Y : V} {Q : VK} {cds : Nat → List (Str × D)}
theorem flat_of (h : VR W m H x X) (f : flat x = true) : flatV X = true := by
  cases h <;> first | rfl | cases f
theorem eqF_of (hx : VR W m H x X) (hy : VR W m H y Y) (fx : flat x = true) (fy : flat y = true) : eqV Y X = eqF y x := by
  cases hx <;> first | (cases fx; done) | (cases hy <;> first | rfl | cases fy)
theorem flats_of {xs : List D} {ys : List V} (h : VRs W m H xs ys) (f : xs.all flat = true) : ys.all flatV = true := by
  induction xs generalizing ys with
  | nil =>
    cases h
    rfl
  | cons a as ih =>
    cases h with
    | cons h1 h2 =>
      rw [List.all_cons, Bool.and_eq_true] at f
      rw [List.all_cons, flat_of h1 f.1, ih h2 f.2]
      rfl
theorem any_of {xs : List D} {ys : List V} (hx : VR W m H x X) (fx : flat x = true) (h : VRs W m H xs ys) (f : xs.all flat = true) : inV X ys = xs.any fun y => eqF y x := by
  unfold inV
  induction xs generalizing ys with
  | nil =>
    cases h
    rfl
  | cons a as ih =>
    cases h with
    | cons h1 h2 =>
      rw [List.all_cons, Bool.and_eq_true] at f
      rw [List.any_cons, List.any_cons, eqF_of hx h1 fx f.1, ih h2 f.2]
theorem key_of {k : Key} (h : VR W m H x X) (e : keyD x = some k) : X = kV k := by
  cases h <;> cases e <;> rfl
theorem keys_of {xs : List D} {ys : List V} {ks : List Key} (h : VRs W m H xs ys) (e : keysD xs = some ks) : ys = ks.map kV ∧ nk ys = false := by
  unfold keysD at e
  split at e
  · rename_i a s
    obtain ⟨A, B, rfl, ra, rb⟩ := vrs2 h
    obtain rfl := vr_str rb
    cases q : keyD a with
    | none =>
      rw [q] at e
      cases e
    | some k =>
      rw [q] at e
      cases e
      rw [key_of ra q]
      exact ⟨rfl, rfl⟩
  · cases e
theorem tup_key {a : Addr} {ys : List V} (h : TupAt W H a ys) (n : nk ys = false) : H a = some (.tup ys) := by
  rcases h with h | ⟨_, h⟩
  · exact h
  · rw [n] at h
    cases h
theorem look_of {κ : Type} [DecidableEq κ] {kvs : List (κ × D)} {kws : List (κ × V)} (h : KR W m H kvs kws) (k : κ) :
    (lookK kvs k = none ∧ valV kws k = none) ∨ ∃ d y, lookK kvs k = some d ∧ valV kws k = some y ∧ VR W m H d y := by
  unfold KR at h
  induction h with
  | nil => exact .inl ⟨rfl, rfl⟩
  | @cons p q ps qs r t ih =>
    obtain ⟨k1, d1⟩ := p
    obtain ⟨k2, v2⟩ := q
    obtain ⟨e, r2⟩ := r
    have e : k1 = k2 := e
    subst e
    by_cases hk : k1 = k
    · refine .inr ⟨d1, v2, ?_, ?_, r2⟩
      · unfold lookK
        rw [List.find?_cons_of_pos (by simpa using hk)]
        rfl
      · unfold valV
        rw [List.find?_cons_of_pos (by simpa using hk)]
        rfl
    · have e1 : lookK ((k1, d1) :: ps) k = lookK ps k := by
        unfold lookK
        rw [List.find?_cons_of_neg (by simpa using hk)]
      have e2 : valV ((k1, v2) :: qs) k = valV qs k := by
        unfold valV
        rw [List.find?_cons_of_neg (by simpa using hk)]
      rw [e1, e2]
      exact ih
/-- what a tracked dict holds -/
theorem dget_of {i : Nat} {k : D} {Y : V} {o : Option D} (r : Rep W m H S) (h : VR W m H (.ref i) X) (hk : VR W m H k Y) (e : dget cds S (.ref i) k = some o) :
    ∃ a q, X = .ref a ∧ DGet H a Y q ∧ ((o = none ∧ q = none) ∨ ∃ d y, o = some d ∧ q = some y ∧ VR W m H d y) := by
  unfold dget at e
  dsimp only at e
  split at e
  · rename_i kvs q
    obtain ⟨a, rfl, _, kws, ha, kr⟩ := vr_obj r h q
    cases qk : keyD k with
    | none =>
      rw [qk] at e
      cases e
    | some kk =>
      rw [qk] at e
      cases e
      obtain rfl := key_of hk qk
      refine ⟨a, _, rfl, DGet.k ha, ?_⟩
      rcases look_of kr kk with ⟨e1, e2⟩ | ⟨d, y, e1, e2, vr⟩
      · exact .inl ⟨e1, e2⟩
      · exact .inr ⟨d, y, e1, e2, vr⟩
  · rename_i kvs q
    obtain ⟨a, rfl, _, kws, ha, kr⟩ := vr_obj r h q
    split at e
    · rename_i ks
      cases qk : keysD ks with
      | none =>
        rw [qk] at e
        cases e
      | some kk =>
        rw [qk] at e
        cases e
        obtain ⟨b, ys, rfl, sb, rb⟩ := vr_tup hk
        obtain ⟨e3, e4⟩ := keys_of rb qk
        have hb := tup_key sb e4
        rw [e3] at hb
        refine ⟨a, _, rfl, DGet.t ha hb, ?_⟩
        rcases look_of kr kk with ⟨e1, e2⟩ | ⟨d, y, e1, e2, vr⟩
        · exact .inl ⟨e1, e2⟩
        · exact .inr ⟨d, y, e1, e2, vr⟩
    · cases e
  · cases e

/-! ### in -/
def rInD (neg : Bool) : R2 := fun y x H Q => ∃ a o, x = .ref a ∧ DGet H a y o ∧ Q (.bl (if neg then !o.isSome else o.isSome)) H
theorem o_inD {X : Cx} (hu : X.A.units + 1 < cLine) : OpR X (compareOp .In) (rInD false) := by
  intro pins s σ H y x v u Q I ry rx h
  obtain ⟨a, o, rfl, g, q⟩ := h
  cases rx
  exact d_in hu I g ry fun s' I' => ⟨.bl o.isSome, H, I', rfl, q⟩
theorem o_notInD {X : Cx} (hu : X.A.units + 1 < cLine) : OpR X (compareOp .NotIn) (rInD true) := by
  intro pins s σ H y x v u Q I ry rx h
  obtain ⟨a, o, rfl, g, q⟩ := h
  cases rx
  exact d_notIn hu I g ry fun s' I' => ⟨.bl (!o.isSome), H, I', rfl, q⟩
def rInC (K : PySem.W.Frag) (W : Wd) (cds : Nat → List (Str × D)) (neg : Bool) : R2 := fun x y H Q => ∃ i : {i : Nat // cds i ≠ []}, ∃ (z : Str) (r : Option Value), x = .str z ∧ y = .ref (W.da i.1) ∧ PySem.W.nsIn K (W.da i.1) z = some r ∧ Q (.bl (if neg then !r.isSome else r.isSome)) H
theorem o_inC {X : Cx} (c : CdOk X.K X.w W cds) : OpR X (compareOp .In) (rInC X.K W cds false) := by
  refine OpR.ex fun i => ?_
  obtain ⟨es, n, D⟩ := c.at_ i.1 i.2
  exact op_in_kd D
theorem o_notInC {X : Cx} (c : CdOk X.K X.w W cds) : OpR X (compareOp .NotIn) (rInC X.K W cds true) := by
  refine OpR.ex fun i => ?_
  obtain ⟨es, n, D⟩ := c.at_ i.1 i.2
  exact op_notIn_kd D
def rInT (neg : Bool) : R2 := fun x y H Q => ∃ i j, x = .str i ∧ y = .str j ∧ Q (.bl (if neg then !inStr i j else inStr i j)) H
def rIn4 (K : PySem.W.Frag) (W : Wd) (cds : Nat → List (Str × D)) (neg : Bool) : R2 := fun x y H Q => rInT neg x y H Q ∨ (rIn K neg x y H Q ∨ (rInD neg x y H Q ∨ rInC K W cds neg x y H Q))
theorem o_in4 {X : Cx} (hu : X.A.units + 1 < cLine) (c : CdOk X.K X.w W cds) : OpR X (compareOp .In) (rIn4 X.K W cds false) := OpR.or op_in_str (OpR.or op_in_seq (OpR.or (o_inD hu) (o_inC c)))
theorem o_notIn4 {X : Cx} (hu : X.A.units + 1 < cLine) (c : CdOk X.K X.w W cds) : OpR X (compareOp .NotIn) (rIn4 X.K W cds true) := OpR.or op_notin_str (OpR.or op_notIn_seq (OpR.or (o_notInD hu) (o_notInC c)))
theorem s_inDget {w : World} {neg : Bool} {o : Option D} (c : CdOk W.K w W cds) (rp : Rep W m H S) (hx : VR W m H x X) (hy : VR W m H y Y) (ho : dget cds S y x = some o) (f : Fin W m H S (.bl (if neg = true then !o.isSome else o.isSome)) Q) :
    rInD neg X Y H Q ∨ rInC W.K W cds neg X Y H Q := by
  cases y with
  | ref i =>
    obtain ⟨a, q, rfl, g, r⟩ := dget_of rp hy hx ho
    refine .inl ⟨a, q, rfl, g, ?_⟩
    have e : o.isSome = q.isSome := by
      rcases r with ⟨rfl, rfl⟩ | ⟨d, y, rfl, rfl, _⟩ <;> rfl
    rw [← e]
    exact f.done rp (.bl _)
  | cd i =>
    cases hy
    unfold dget at ho
    dsimp only at ho
    split at ho
    · rename_i z
      obtain rfl := vr_str hx
      split at ho
      · cases ho
      · rename_i q qs hc
        cases ho
        have hne : cds i ≠ [] := by
          rw [hc]
          exact List.cons_ne_nil _ _
        rw [← hc] at f
        refine .inr ⟨⟨i, hne⟩, z, ?_⟩
        cases hl : (cds i).lookup z with
        | none =>
          rw [hl] at f
          exact ⟨none, rfl, rfl, c.none_ i z hne hl, f.done rp (.bl _)⟩
        | some d =>
          rw [hl] at f
          obtain ⟨u, y, e1, _, _⟩ := c.some_ i z d hl
          exact ⟨some u, rfl, rfl, e1, f.done rp (.bl _)⟩
    · cases ho
  | _ => cases ho
theorem s_in {w : World} {neg : Bool} (c : CdOk W.K w W cds) : S2 W (rIn4 W.K W cds neg) (inD cds neg) := by
  intro m H S x y X Y v S' Q rp hx hy h f
  unfold inD at h
  split at h
  · obtain ⟨rfl, rfl⟩ := ok_inj h
    exact .inl ⟨_, _, vr_str hx, vr_str hy, f.done rp (.bl _)⟩
  · split at h
    · rename_i hf
      obtain ⟨rfl, rfl⟩ := ok_inj h
      obtain ⟨a, ys, rfl, sa, ra⟩ := vr_tup hy
      refine .inr (.inl ⟨a, ys, rfl, .inr sa.sq, flat_of hx hf.1, flats_of ra hf.2, ?_⟩)
      rw [any_of hx hf.1 ra hf.2]
      exact f.done rp (.bl _)
    · cases h
  · split at h
    · rename_i o ho
      obtain ⟨rfl, rfl⟩ := ok_inj h
      exact .inr (.inr (s_inDget c rp hx hy ho f))
    · split at h
      · split at h
        · rename_i i _ ys hy2
          split at h
          · rename_i hf
            obtain ⟨rfl, rfl⟩ := ok_inj h
            obtain ⟨a, rfl, _, bs, hb, rb⟩ := vr_obj rp hy hy2
            refine .inr (.inl ⟨a, bs, rfl, .inl (SqL.of hb), flat_of hx hf.1, flats_of rb hf.2, ?_⟩)
            rw [any_of hx hf.1 rb hf.2]
            exact f.done rp (.bl _)
          · cases h
        · cases h
      · cases h
/-! ### any comparison -/
def rCmp (K : PySem.W.Frag) (W : Wd) (cds : Nat → List (Str × D)) : CmpOp → R2
  | .Eq => rEq4 K false
  | .NotEq => rEq4 K true
  | .Is => rIs4 false
  | .IsNot => rIs4 true
  | .In => rIn4 K W cds false
  | .NotIn => rIn4 K W cds true
  | .Lt => rI0 fun i j => .bl (decide (i < j))
  | .LtE => rI0 fun i j => .bl (decide (i ≤ j))
  | .Gt => rI0 fun i j => .bl (decide (j < i))
  | .GtE => rI0 fun i j => .bl (decide (j ≤ i))
theorem o_cmp {X : Cx} (hu : X.A.units + 64 < cLine) (c : CdOk X.K X.w W cds) (op : CmpOp) : OpR X (compareOp op) (rCmp X.K W cds op) := by
  cases op with
  | Eq => exact o_eq4 hu
  | NotEq => exact o_ne4 hu
  | Is => exact o_is4
  | IsNot => exact o_isnot4
  | In => exact o_in4 (by omega) c
  | NotIn => exact o_notIn4 (by omega) c
  | Lt => exact op_lt
  | LtE => exact op_le
  | Gt => exact op_gt
  | GtE => exact op_ge
theorem s_cmp {w : World} (c : CdOk W.K w W cds) (op : CmpOp) : S2 W (rCmp W.K W cds op) (cmpD cds op) := by
  cases op with
  | Eq => exact s_eq
  | NotEq => exact s_eq
  | Is => exact s_is
  | IsNot => exact s_is
  | In => exact s_in c
  | NotIn => exact s_in c
  | _ =>
    intro m H S x y X Y v S' Q rp hx hy h f
    simp only [cmpD] at h
    split at h <;> first | cases h | skip
    exact ⟨_, _, vr_int hx, vr_int hy, f.done rp (.bl _)⟩
end
end Mi
set_option Elab.async false
set_option linter.all false
set_option maxRecDepth 100000
/-! M4: subscripts, slices, truth, built-in functions and methods, stores, by values. -/
namespace Mi
open PySem PySem.Spec L2
open PyProof.Rows hiding St
theorem IxR.ex {X : Cx} {α : Type} {r : α → R2} (h : ∀ i, IxR X (r i)) : IxR X (fun x y H Q => ∃ i, r i x y H Q) := by
  intro value slice pins s σ H x y v u Q I rx ry q hs
  obtain ⟨i, q⟩ := q
  exact h i value slice pins s σ H x y v u Q I rx ry q hs
section
variable {W : Wd} {m : List Addr} {H : Hp} {S S' : Sto} {x y v : D} {X Y : V} {Q : VK} {cds : Nat → List (Str × D)}
theorem atI_of {xs : List D} {ys : List V} {i : Int} {d : D} (h : VRs W m H xs ys) (e : atI xs i = some d) : ∃ y, atI ys i = some y ∧ VR W m H d y := by
  unfold atI at e ⊢
  rw [← h.length]
  cases q : ixN xs.length i with
  | none =>
    rw [q] at e
    cases e
  | some j =>
    rw [q] at e
    exact h.get e
theorem optR_ok {α : Type} {o : Option α} {a : α} {s t : Sto} (h : optR o s = .ok a t) : o = some a ∧ s = t := by
  cases o with
  | none => cases h
  | some b =>
    obtain ⟨rfl, rfl⟩ := ok_inj h
    exact ⟨rfl, rfl⟩
theorem items_of {xs : List D} (rp : Rep W m H S) (h : VR W m H x X) (e : itemsD S x = some xs) : ∃ a ys, X = .ref a ∧ (SqL W.K H a ys ∨ TupAt W H a ys) ∧ VRs W m H xs ys ∧ ((∃ q, x = .tup q) → TupAt W H a ys) ∧ ((¬ ∃ q, x = .tup q) → SqL W.K H a ys) := by
  unfold itemsD at e
  split at e
  · cases e
    obtain ⟨a, ys, rfl, sa, ra⟩ := vr_tup h
    exact ⟨a, ys, rfl, .inr sa, ra, fun _ => sa, fun z => absurd ⟨_, rfl⟩ z⟩
  · cases e
    obtain ⟨a, ys, rfl, sa, ra⟩ := vr_lit h
    exact ⟨a, ys, rfl, .inl sa.sq, ra, fun ⟨_, z⟩ => (D.noConfusion z), fun _ => sa.sq⟩
  · split at e
    · rename_i i _ q
      cases e
      obtain ⟨a, rfl, _, ys, ha, ra⟩ := vr_obj rp h q
      exact ⟨a, ys, rfl, .inl (SqL.of ha), ra, fun ⟨_, z⟩ => (D.noConfusion z), fun _ => SqL.of ha⟩
    · cases e
  · cases e

/-! ### x[i] -/
def rIxDict : R2 := fun x y H Q => ∃ a v, x = .ref a ∧ DGet H a y (some v) ∧ Q v H
theorem ix_dict {X : Cx} (hu : X.A.units + 1 < cLine) : IxR X rIxDict := by
  intro value slice pins s σ H x y v u Q I rx ry h hs
  obtain ⟨a, w, rfl, g, q⟩ := h
  cases rx
  exact tail_any (dict_typeIs I g) slot_dict_getitem.lookup (d_getItem hu I g ry fun w' s' I' rw' => ⟨w, H, I', rw', q⟩) hs
def rIx4 (K : PySem.W.Frag) (w : World) : R2 := fun x y H Q => rIxS x y H Q ∨ (rIxL K x y H Q ∨ (rIxT K x y H Q ∨ (rIxDict x y H Q ∨ rIxD K w x y H Q)))
theorem o_ix4 {X : Cx} (hu : X.A.units + 1 < cLine) : IxR X (rIx4 X.K X.w) := IxR.or ix_str (IxR.or ix_list (IxR.or ix_tup (IxR.or (ix_dict hu) ix_kdict)))
theorem s_subDget {w : World} (c : CdOk W.K w W cds) (rp : Rep W m H S) (hx : VR W m H x X) (hy : VR W m H y Y) (ho : dget cds S x y = some (some v)) (f : Fin W m H S v Q) :
    rIxDict X Y H Q ∨ rIxD W.K w X Y H Q := by
  cases x with
  | ref i =>
    obtain ⟨a, q, rfl, g, r⟩ := dget_of rp hx hy ho
    rcases r with ⟨e, _⟩ | ⟨d, y2, e, rfl, r⟩
    · cases e
    · cases e
      exact .inl ⟨a, y2, rfl, g, f.done rp r⟩
  | cd i =>
    cases hx
    unfold dget at ho
    dsimp only at ho
    split at ho
    · rename_i z
      obtain rfl := vr_str hy
      split at ho
      · cases ho
      · rename_i q qs hc
        have hl : (cds i).lookup z = some v := by
          rw [hc]
          exact Option.some.inj ho
        have hne : cds i ≠ [] := by
          rw [hc]
          exact List.cons_ne_nil _ _
        obtain ⟨u, y2, e1, r1, r2⟩ := c.some_ i z v hl
        obtain ⟨es, n, Dk⟩ := c.at_ i hne
        exact .inr ⟨W.da i, z, y2, rfl, rfl, ⟨es, n, u, Dk.at_, Dk.lit, e1, r1⟩, f.done rp (r2 m H)⟩
    · cases ho
  | _ => cases ho
theorem s_sub4 {w : World} (c : CdOk W.K w W cds) : S2 W (rIx4 W.K w) (subD cds) := by
  intro m H S x y X Y v S' Q rp hx hy h f
  unfold subD at h
  split at h
  · split at h
    · rename_i z i hz
      obtain ⟨e, rfl⟩ := optR_ok h
      obtain rfl := vr_str hx
      obtain rfl := vr_int hy
      cases q : atI z.cps.toList i with
      | none =>
        rw [q] at e
        cases e
      | some c =>
        rw [q] at e
        cases e
        exact .inl ⟨z, i, c, rfl, rfl, hz, q, f.done rp (.str _)⟩
    · cases h
  · split at h
    · rename_i i _ xs hi
      obtain ⟨e, rfl⟩ := optR_ok h
      obtain ⟨a, ys, rfl, sa, ra, _⟩ := items_of rp hx hi
      obtain rfl := vr_int hy
      obtain ⟨z, hz, rz⟩ := atI_of ra e
      rcases sa with sa | sa
      · exact .inr (.inl ⟨a, ys, _, z, rfl, rfl, sa, hz, f.done rp rz⟩)
      · exact .inr (.inr (.inl ⟨a, ys, _, z, rfl, rfl, sa.sq, hz, f.done rp rz⟩))
    · split at h
      · rename_i ho
        obtain ⟨rfl, rfl⟩ := ok_inj h
        exact .inr (.inr (.inr (s_subDget c rp hx hy ho f)))
      · cases h
  · split at h
    · rename_i ho
      obtain ⟨rfl, rfl⟩ := ok_inj h
      exact .inr (.inr (.inr (s_subDget c rp hx hy ho f)))
    · cases h

/-! ### slices -/
theorem cut_of {xs : List D} {ys : List V} (h : VRs W m H xs ys) (lo hi : Option Int) : VRs W m H (cutL xs lo hi) (cutV ys lo hi) := by
  unfold cutL cutV
  rw [h.length]
  exact (h.drop _).take _
theorem cutL_all {α : Type} {xs : List α} {lo hi : Option Int} (h1 : HT.sIx xs.length 0 lo = 0) (h2 : HT.sIx xs.length xs.length hi = xs.length) : cutL xs lo hi = xs := by
  unfold cutL
  rw [h1, h2]
  simp
def rSl4 (K : PySem.W.Frag) : V → Option Int → Option Int → Hp → VK → Prop := fun x lo hi H Q => rSlL K x lo hi H Q ∨ (rSlA K x lo hi H Q ∨ rSlS x lo hi H Q)
theorem o_sl4 {X : Cx} : SlR X (rSl4 X.K) := SlR.or sl_list (SlR.or sl_tupA sl_str)
theorem s_slc {lo hi : Option Int} (rp : Rep W m H S) (hx : VR W m H x X) (h : slcD x lo hi S = .ok v S') (f : Fin W m H S' v Q) : rSl4 W.K X lo hi H Q := by
  unfold slcD at h
  split at h
  · obtain ⟨rfl, rfl⟩ := ok_inj h
    obtain ⟨a, ys, rfl, sa, ra⟩ := vr_tup hx
    refine .inr (.inl ⟨a, ys, rfl, sa.sq, fun ⟨e1, e2⟩ => ?_, fun _ p hp => f.tup rp (cut_of ra lo hi) hp⟩)
    rw [← ra.length] at e1 e2
    rw [cutL_all e1 e2] at f
    exact f.done rp (.tup sa ra)
  · obtain ⟨rfl, rfl⟩ := ok_inj h
    obtain ⟨a, ys, rfl, sa, ra⟩ := vr_lit hx
    exact .inl ⟨a, ys, rfl, sa.sq, fun p hp => f.lst rp (cut_of ra lo hi) hp⟩
  · split at h
    · obtain ⟨rfl, rfl⟩ := ok_inj h
      exact .inr (.inr ⟨_, vr_str hx, by assumption, f.done rp (.str _)⟩)
    · cases h
  · split at h
    · rename_i i _ q
      obtain ⟨rfl, rfl⟩ := ok_inj h
      obtain ⟨a, rfl, _, ys, ha, ra⟩ := vr_obj rp hx q
      exact .inl ⟨a, ys, rfl, SqL.of ha, fun p hp => f.lst rp (cut_of ra lo hi) hp⟩
    · cases h
  · cases h

/-! ### truth -/
theorem s_truth {b : Bool} (rp : Rep W m H S) (hx : VR W m H x X) (h : truth S x = some b) : TruV W.K X H b := by
  unfold truth at h
  split at h
  · cases h
    obtain rfl := vr_non hx
    rfl
  · cases h
    obtain rfl := vr_bl hx
    rfl
  · cases h
    obtain rfl := vr_int hx
    rfl
  · split at h
    · cases h
      obtain rfl := vr_str hx
      exact ⟨by assumption, rfl⟩
    · cases h
  · cases h
    obtain ⟨a, ys, rfl, sa, ra⟩ := vr_tup hx
    refine .inr (.inl ⟨ys, sa.sq, ?_⟩)
    cases ra <;> rfl
  · cases h
    obtain ⟨a, ys, rfl, sa, ra⟩ := vr_lit hx
    refine .inl ⟨ys, sa.sq, ?_⟩
    cases ra <;> rfl
  · split at h
    · rename_i i _ q
      cases h
      obtain ⟨a, rfl, _, ys, ha, ra⟩ := vr_obj rp hx q
      refine .inl ⟨ys, SqL.of ha, ?_⟩
      cases ra <;> rfl
    · rename_i i _ q
      cases h
      obtain ⟨a, rfl, _, ys, ha, ra⟩ := vr_obj rp hx q
      refine .inr (.inr ⟨ys, ha, ?_⟩)
      cases ra <;> rfl
    · cases h
  · cases h

/-! ### built-in functions -/
theorem ints_of : ∀ {xs : List D} {ys : List V} {is : List Int}, VRs W m H xs ys → intsOf xs = some is → ys = is.map V.int
  | [], _, _, h, e => by
    cases h
    cases e
    rfl
  | x :: xs, _, _, h, e => by
    cases h with
    | cons h1 h2 =>
      cases x with
      | int i =>
        have e : (intsOf xs).map (i :: ·) = some _ := e
        cases q : intsOf xs with
        | none =>
          rw [q] at e
          cases e
        | some js =>
          rw [q] at e
          cases e
          rw [vr_int h1, ints_of h2 q]
          rfl
      | _ => cases e
theorem bls_of : ∀ {xs : List D} {ys : List V} {is : List Bool}, VRs W m H xs ys → blsOf xs = some is → ys = is.map V.bl
  | [], _, _, h, e => by
    cases h
    cases e
    rfl
  | x :: xs, _, _, h, e => by
    cases h with
    | cons h1 h2 =>
      cases x with
      | bl i =>
        have e : (blsOf xs).map (i :: ·) = some _ := e
        cases q : blsOf xs with
        | none =>
          rw [q] at e
          cases e
        | some js =>
          rw [q] at e
          cases e
          rw [vr_bl h1, bls_of h2 q]
          rfl
      | _ => cases e
theorem lst_of {xs : List D} (rp : Rep W m H S) (h : VR W m H x X) (e : lstOf S x = some xs) : ∃ a ys, X = .ref a ∧ H a = some (.lst ys) ∧ VRs W m H xs ys := by
  unfold lstOf at e
  split at e
  · split at e
    · rename_i i _ q
      cases e
      obtain ⟨a, rfl, _, ys, ha, ra⟩ := vr_obj rp h q
      exact ⟨a, ys, rfl, ha, ra⟩
    · cases e
  · cases e
theorem lstInts {is : List Int} (rp : Rep W m H S) (h : VR W m H x X) (e : (lstOf S x).bind intsOf = some is) : ∃ a, X = .ref a ∧ SqL W.K H a (is.map V.int) := by
  cases q : lstOf S x with
  | none =>
    rw [q] at e
    cases e
  | some xs =>
    rw [q] at e
    obtain ⟨a, ys, rfl, ha, ra⟩ := lst_of rp h q
    obtain rfl := ints_of ra e
    exact ⟨a, rfl, SqL.of ha⟩
theorem lstBls {is : List Bool} (rp : Rep W m H S) (h : VR W m H x X) (e : (lstOf S x).bind blsOf = some is) : ∃ a, X = .ref a ∧ SqL W.K H a (is.map V.bl) := by
  cases q : lstOf S x with
  | none =>
    rw [q] at e
    cases e
  | some xs =>
    rw [q] at e
    obtain ⟨a, ys, rfl, ha, ra⟩ := lst_of rp h q
    obtain rfl := bls_of ra e
    exact ⟨a, rfl, SqL.of ha⟩
theorem foldl_max : ∀ (is : List Int) (i : Int), i ≤ is.foldl max i ∧ (∀ j ∈ is, j ≤ is.foldl max i) ∧ (is.foldl max i = i ∨ is.foldl max i ∈ is)
  | [], i => ⟨Int.le_refl _, by simp, .inl rfl⟩
  | j :: js, i => by
    obtain ⟨h1, h2, h3⟩ := foldl_max js (max i j)
    rw [List.foldl_cons]
    refine ⟨by omega, fun k hk => ?_, ?_⟩
    · rcases List.mem_cons.mp hk with rfl | hk
      · omega
      · exact h2 k hk
    · rcases h3 with h3 | h3
      · rw [h3]
        by_cases hij : i ≤ j
        · exact .inr (by rw [show max i j = j by omega]; exact List.mem_cons_self)
        · exact .inl (by omega)
      · exact .inr (List.mem_cons_of_mem _ h3)
theorem maxL_eq {i : Int} {is : List Int} {k : Int} (h1 : k ∈ i :: is) (h2 : ∀ y, y ∈ i :: is → y ≤ k) : k = maxL (i :: is) := by
  obtain ⟨a, b, c⟩ := foldl_max is i
  show k = is.foldl max i
  have h3 : is.foldl max i ≤ k := by
    rcases c with c | c
    · rw [c]
      exact h2 i List.mem_cons_self
    · exact h2 _ (List.mem_cons_of_mem _ c)
  rcases List.mem_cons.mp h1 with e | e
  · omega
  · have := b k e
    omega
/-- what is called, as a built-in function (or type) -/
def BF.isTy : BF → Bool
  | .int => true | .str => true | .tuple => true | .list => true | .dict => true | _ => false
def BF.nm : BF → String
  | .len => "len" | .int => "int" | .str => "str" | .max => "max" | .min => "min" | .sum => "sum" | .any => "any" | .all => "all" | .abs => "abs" | .tuple => "tuple" | .list => "list" | .dict => "dict" | .sorted => "sorted"
def BF.val (f : BF) : Value := if f.isTy = true then .type f.nm else .builtin f.nm
def rBf (K : PySem.W.Frag) : BF → List V → Hp → VK → Prop
  | .len => fun xs H Q => (∃ x n, xs = [x] ∧ LenV K x H n ∧ Q (.int n) H) ∨ ∃ a kvs, xs = [V.ref a] ∧ H a = some (.dK kvs) ∧ Q (.int kvs.length) H
  | .int => fun xs H Q => ((∃ i, xs = [.int i] ∧ Q (.int i) H) ∨ ∃ k, xs = [.bl k] ∧ Q (.int (if k then 1 else 0)) H) ∨ ∃ a n, xs = [.str a] ∧ PySem.intText? a = some n ∧ a.length ≤ 640 ∧ Q (.int n) H
  | .str => fun xs H Q => (∃ i, xs = [.int i] ∧ i.natAbs.log2 < 1920 ∧ Q (.str (toString i)) H) ∨ ∃ a, xs = [.str a] ∧ Q (.str a) H
  | .max => fun xs H Q => (∃ i j, xs = [.int i, .int j] ∧ Q (.int (if j > i then j else i)) H) ∨ rMax K xs H Q
  | .min => fun xs H Q => ∃ i j, xs = [.int i, .int j] ∧ Q (.int (if j < i then j else i)) H
  | .sum => rSum K
  | .any => rAny K
  | .all => rAll K
  | .abs => fun xs H Q => ∃ i, xs = [.int i] ∧ Q (.int (if i < 0 then -i else i)) H
  | .tuple => fun xs H Q => ∃ p ys, xs = [.ref p] ∧ ((SqL K H p ys ∧ ∀ l, H l = none → Q (.ref l) (upd H l (.tup ys))) ∨ (SqT K H p ys ∧ Q (.ref p) H))
  | .list => fun xs H Q => ∃ p ys, xs = [.ref p] ∧ (SqL K H p ys ∨ SqT K H p ys) ∧ ∀ l, H l = none → Q (.ref l) (upd H l (.lst ys))
  | .dict => fun xs H Q => ∃ (a : Addr) (kvs : List (Key × V)), xs = [.ref a] ∧ Rd H a (.dK kvs) ∧ ∀ p, H p = none → Q (.ref p) (upd H p (.dK kvs))
  | .sorted => fun _ _ _ => False
theorem o_lenD {X : Cx} : CallR X (.builtin "len") (fun xs H Q => ∃ a kvs, xs = [V.ref a] ∧ H a = some (.dK kvs) ∧ Q (.int kvs.length) H) := by
  intro pins s σ H xs us Q I r h
  obtain ⟨a, kvs, rfl, ha, q⟩ := h
  obtain ⟨u, rfl, rx⟩ := vals1 r
  cases rx
  exact d_len I (.inl ha) fun t s' I' => ⟨.int kvs.length, H, I', ⟨_, rfl⟩, q⟩
theorem o_bf {X : Cx} (hc : X.calm = true) (f : BF) : CallR X f.val (rBf X.K f) := by
  cases f with
  | len => exact CallR.or call_len o_lenD
  | int => exact CallR.or call_int1 call_int_str
  | str => exact CallR.or call_str_int SkE.call_str_str
  | max => exact CallR.or (call_max2 hc) (cr_max hc)
  | min => exact call_min2 hc
  | sum => exact cr_sum hc
  | any => exact cr_any hc
  | all => exact cr_all hc
  | abs => exact call_abs
  | tuple => exact call_tuple_of
  | list => exact call_list_of
  | dict => exact call_dictD
  | sorted => exact fun _ _ _ _ _ _ _ _ _ h => h.elim
theorem s_bf (f : BF) : SA W (rBf W.K f) (bfD f) := by
  intro m H S xs Xs v S' Q rp hxs h fi
  unfold bfD at h
  split at h
  · obtain ⟨X, rfl, hx⟩ := vrs1 hxs
    split at h
    · split at h
      · obtain ⟨rfl, rfl⟩ := ok_inj h
        obtain rfl := vr_str hx
        exact .inl ⟨_, _, rfl, ⟨by assumption, rfl⟩, fi.done rp (.int _)⟩
      · cases h
    · split at h
      · rename_i i _ q
        obtain ⟨rfl, rfl⟩ := ok_inj h
        obtain ⟨a, rfl, _, ys, ha, ra⟩ := vr_obj rp hx q
        refine .inl ⟨_, _, rfl, .inl ⟨ys, SqL.of ha, rfl⟩, ?_⟩
        rw [← ra.length]
        exact fi.done rp (.int _)
      · rename_i i _ q
        obtain ⟨rfl, rfl⟩ := ok_inj h
        obtain ⟨a, rfl, _, ys, ha, ra⟩ := vr_obj rp hx q
        refine .inr ⟨a, ys, rfl, ha, ?_⟩
        rw [← Paired.length ra]
        exact fi.done rp (.int _)
      · cases h
    · obtain ⟨rfl, rfl⟩ := ok_inj h
      obtain ⟨a, ys, rfl, sa, ra⟩ := vr_tup hx
      refine .inl ⟨_, _, rfl, .inr ⟨ys, sa.sq, rfl⟩, ?_⟩
      rw [← ra.length]
      exact fi.done rp (.int _)
    · obtain ⟨rfl, rfl⟩ := ok_inj h
      obtain ⟨a, ys, rfl, sa, ra⟩ := vr_lit hx
      refine .inl ⟨_, _, rfl, .inl ⟨ys, sa.sq, rfl⟩, ?_⟩
      rw [← ra.length]
      exact fi.done rp (.int _)
    · cases h
  · obtain ⟨rfl, rfl⟩ := ok_inj h
    obtain ⟨X, rfl, hx⟩ := vrs1 hxs
    obtain rfl := vr_int hx
    exact .inl (.inl ⟨_, rfl, fi.done rp (.int _)⟩)
  · obtain ⟨rfl, rfl⟩ := ok_inj h
    obtain ⟨X, rfl, hx⟩ := vrs1 hxs
    obtain rfl := vr_bl hx
    exact .inl (.inr ⟨_, rfl, fi.done rp (.int _)⟩)
  · split at h
    · split at h
      · rename_i hl _ n hn
        obtain ⟨rfl, rfl⟩ := ok_inj h
        obtain ⟨X, rfl, hx⟩ := vrs1 hxs
        obtain rfl := vr_str hx
        exact .inr ⟨_, _, rfl, hn, hl, fi.done rp (.int _)⟩
      · cases h
    · cases h
  · obtain ⟨rfl, rfl⟩ := ok_inj h
    obtain ⟨X, rfl, hx⟩ := vrs1 hxs
    obtain rfl := vr_str hx
    exact .inr ⟨_, rfl, fi.done rp (.str _)⟩
  · split at h
    · obtain ⟨rfl, rfl⟩ := ok_inj h
      obtain ⟨X, rfl, hx⟩ := vrs1 hxs
      obtain rfl := vr_int hx
      exact .inl ⟨_, rfl, by assumption, fi.done rp (.str _)⟩
    · cases h
  · obtain ⟨rfl, rfl⟩ := ok_inj h
    obtain ⟨X, Y, rfl, hx, hy⟩ := vrs2 hxs
    obtain rfl := vr_int hx
    obtain rfl := vr_int hy
    exact .inl ⟨_, _, rfl, fi.done rp (.int _)⟩
  · obtain ⟨rfl, rfl⟩ := ok_inj h
    obtain ⟨X, Y, rfl, hx, hy⟩ := vrs2 hxs
    obtain rfl := vr_int hx
    obtain rfl := vr_int hy
    exact ⟨_, _, rfl, fi.done rp (.int _)⟩
  · split at h
    · rename_i i is q
      obtain ⟨rfl, rfl⟩ := ok_inj h
      obtain ⟨X, rfl, hx⟩ := vrs1 hxs
      obtain ⟨a, rfl, sa⟩ := lstInts rp hx q
      refine .inr ⟨a, i :: is, rfl, sa, by simp, fun k h1 h2 => ?_⟩
      rw [maxL_eq h1 h2]
      exact fi.done rp (.int _)
    · cases h
  · split at h
    · rename_i is q
      obtain ⟨rfl, rfl⟩ := ok_inj h
      obtain ⟨X, rfl, hx⟩ := vrs1 hxs
      obtain ⟨a, rfl, sa⟩ := lstInts rp hx q
      exact ⟨a, is, rfl, sa, fi.done rp (.int _)⟩
    · cases h
  · split at h
    · rename_i is q
      obtain ⟨rfl, rfl⟩ := ok_inj h
      obtain ⟨X, rfl, hx⟩ := vrs1 hxs
      obtain ⟨a, rfl, sa⟩ := lstBls rp hx q
      exact ⟨a, is, rfl, sa, fi.done rp (.bl _)⟩
    · cases h
  · split at h
    · rename_i is q
      obtain ⟨rfl, rfl⟩ := ok_inj h
      obtain ⟨X, rfl, hx⟩ := vrs1 hxs
      obtain ⟨a, rfl, sa⟩ := lstBls rp hx q
      exact ⟨a, is, rfl, sa, fi.done rp (.bl _)⟩
    · cases h
  · obtain ⟨rfl, rfl⟩ := ok_inj h
    obtain ⟨X, rfl, hx⟩ := vrs1 hxs
    obtain rfl := vr_int hx
    exact ⟨_, rfl, fi.done rp (.int _)⟩
  · split at h
    · rename_i xs q
      obtain ⟨rfl, rfl⟩ := ok_inj h
      obtain ⟨X, rfl, hx⟩ := vrs1 hxs
      obtain ⟨a, ys, rfl, sa, ra, _⟩ := items_of rp hx q
      rcases sa with sa | sa
      · exact ⟨a, ys, rfl, .inl ⟨sa, fun p hp => fi.tup rp ra hp⟩⟩
      · exact ⟨a, ys, rfl, .inr ⟨sa.sq, fi.done rp (.tup sa ra)⟩⟩
    · cases h
  · split at h
    · rename_i xs q
      obtain ⟨rfl, rfl⟩ := ok_inj h
      obtain ⟨X, rfl, hx⟩ := vrs1 hxs
      obtain ⟨a, ys, rfl, sa, ra, _⟩ := items_of rp hx q
      exact ⟨a, ys, rfl, sa.imp id TupAt.sq, fun p hp => fi.lst rp ra hp⟩
    · cases h
  · split at h
    · rename_i i kvs q
      obtain ⟨rfl, rfl⟩ := ok_inj h
      obtain ⟨X, rfl, hx⟩ := vrs1 hxs
      obtain ⟨a, rfl, _, ys, ha, ra⟩ := vr_obj rp hx q
      exact ⟨a, ys, rfl, .inl ha, fun p hp => fi.new rp hp ⟨ys, upd_same, ra.to ⟨⟨[p], rfl⟩, fun b xs h => by rw [upd_ne (ne_of_none h hp)]; exact h, fun b ob v h => by rw [upd_ne (ne_of_none h hp)]; exact h⟩⟩⟩
    · cases h
  · cases h
end
end Mi
set_option Elab.async false
set_option linter.all false
set_option maxRecDepth 100000
set_option maxHeartbeats 2000000
/-! M4b: for i, x in enumerate(a tuple). -/
namespace Mi
open PySem PySem.Spec PyProof.Rows L2
theorem newB1 {v : Value} {o : Obj} {G : Heap → Prop} (B : Begins v o G) :
    Meets (Builtin.«enumerate.__new__» ⟨[.type "enumerate", v], []⟩) (fun _ Z s => G s.heap ∧
      Z (.ok (.ret (.ref (s.heap.push o).objs.size))) { s with heap := (s.heap.push o).push { cls := .type "enumerate", data := .fields #[.none, .bool false, .ref s.heap.objs.size, rawInt 0, .none, .none] } }) := by
  refine .of_wp fun prog w A Z s hh => ?_
  obtain ⟨hp, g, d, tk, os⟩ := s
  obtain ⟨b1, hh⟩ := hh
  have hsub := sub_enumerate
  have go : ∀ {A' : Around} {E : Value → Shared → Prop} {Q : Value → Shared → Prop}, Q (.ref hp.objs.size) ⟨hp.push o, g, d, tk, os⟩ → wpAny (model prog w) A' (pyIter v) Q E ⟨hp, g, d, tk, os⟩ := fun q => B.iter prog w _ _ ⟨hp, g, d, tk, os⟩ _ b1 q
  wp_walk using go
  refine wpAny_stack_any fun _ => wpAny_pure ?_
  split
  · rename_i c _ _ _ _ _
    cases (c == Value.type "enumerate") <;>
    · wp_walk using go
      exact ⟨_, rfl, hh⟩
  · wp_walk using go
    exact ⟨_, rfl, hh⟩
section
variable {prog : Program} {w : World} {A : Around} {E : Value → Shared → Prop} {s : Shared}
/-- enumerate(v): its two new cells -/
theorem enum_new {v : Value} {o : Obj} {G : Heap → Prop} {Q : Value → Shared → Prop} (B : Begins v o G) (b1 : G s.heap)
    (k : ∀ h', IsEnum h' (s.heap.objs.size + 1) s.heap.objs.size 0 .none → h'.get? s.heap.objs.size = some o → (∀ b o, s.heap.get? b = some o → h'.get? b = some o) → Q (.ref (s.heap.objs.size + 1)) { s with heap := h' }) :
    wpAny (model prog w) A (call (.type "enumerate") [v]) Q E s := by
  refine callType_new F.called_enumerate (by decide) (F.typeCall_enumerate_1 _) (F.newCall_enumerate_1 _) (fun ob => F.args_object_init_2 ob _) F.entry_enumerate_new (newB1 B) ⟨b1, ?_⟩
  have z : (s.heap.push o).objs.size = s.heap.objs.size + 1 := Heap.size_push ..
  have en : IsEnum ((s.heap.push o).push { cls := .type "enumerate", data := .fields #[.none, .bool false, .ref s.heap.objs.size, rawInt 0, .none, .none] }) (s.heap.objs.size + 1) s.heap.objs.size 0 .none := by
    have y := Heap.get?_push_size (s.heap.push o) (o := { cls := .type "enumerate", data := .fields #[.none, .bool false, .ref s.heap.objs.size, rawInt 0, .none, .none] }) rfl
    rw [z] at y
    exact y
  show _ ∧ _
  rw [z]
  exact ⟨⟨_, en, rfl⟩, k _ en (Heap.get?_push_of_some _ (Heap.get?_push_size _ B.free)) fun b o x => Heap.get?_push_of_some _ (Heap.get?_push_of_some _ x)⟩
end
/-- the tuple at a, each item in a new pair -/
def Itet (K : PySem.W.Frag) (a : Addr) : L2.It :=
  ⟨fun i H => ∃ (xs : List V) (x : V), SqT K H a xs ∧ xs[i]? = some x, fun i H v H' => ∃ T x, v = .ref T ∧ H T = none ∧ H' = upd H T (.tup [.int (i : Nat), x]) ∧ ∀ xs, SqT K H a xs → xs[i]? = some x,
    fun i H => ∃ xs : List V, SqT K H a xs ∧ xs.length ≤ i⟩
theorem cls_ne {h : Heap} {a b : Addr} {o p : Obj} {x y : String} (ha : h.get? a = some o) (hb : h.get? b = some p) (e1 : o.cls = .type x) (e2 : p.cls = .type y) (hne : x ≠ y) : a ≠ b := fun e => by
  subst e
  rw [ha] at hb
  cases hb
  rw [e1] at e2
  injection e2 with e2
  exact hne (by first | exact e2 | simpa using e2)
theorem turn_enumT {P : Program} {w : World} {K : PySem.W.Frag} {elts : List Expr} {kk : Nat} {tpos : Pos} (a e it : Addr) :
    Turn P w K (.Tuple elts kk tpos) (Itet K a) [e, it] e (fun i h => (∃ old, IsEnum h e it ((i : Nat) : Int) old) ∧ h.IsTupleIter it a i ∧ e ≠ it) where
  mem := by simp
  obj := fun i h st b hb => by
    obtain ⟨⟨old, he⟩, ⟨o, ho, hc, hd⟩, _⟩ := st
    have q : b = e ∨ b = it := by simpa using hb
    rcases q with z | z
    · exact z ▸ ⟨_, he, fun v q => nomatch q⟩
    · exact z ▸ ⟨o, ho, fun v q => by rw [hd] at q; cases q⟩
  keep := fun i h h' ⟨⟨old, he⟩, hi, hne⟩ k => ⟨⟨old, k e (by simp) _ he⟩, hi.at fun o q => k it (by simp) o q, hne⟩
  item := by
    intro X hP hw hK hc i pins s σ H E I hf st hg
    subst hP hw hK
    obtain ⟨⟨old, he⟩, hit, hne⟩ := st
    obtain ⟨xs, x, hq, hx⟩ := hg
    obtain ⟨its, rv, p, hz⟩ := I.tuple hq
    obtain ⟨u, hu, ru⟩ := rv.get hx
    have tp : s.heap.IsTuple a its.toArray := p
    obtain ⟨oi, goi, coi, doi⟩ := id hit
    obtain ⟨oa, goa, coa, _⟩ := id tp
    have hai : a ≠ it := cls_ne goa goi coa coi (by decide)
    have hae : a ≠ e := cls_ne goa he coa rfl (by decide)
    have hel : e < s.heap.objs.size := Heap.lt_size he
    have hil : it < s.heap.objs.size := Heap.lt_size goi
    have D := Draws.tuple (prog := X.prog) (w := X.w) (A := X.A.in1) (I.ok.hd hc) it a hai its.toArray
    have hlt : i < its.toArray.size := by
      have q := (List.getElem?_eq_some_iff.mp hu).1
      simpa using q
    refine wpAny_pyNext_enum_itemD D he ⟨hit, tp⟩ hlt hne (by simp [hne, Ne.symm hae]) fun y h' tk hy ho st' hT hsz hk => ?_
    have ey : y = u := by
      have q : its[i]? = some y := by simpa using hy
      rw [hu] at q
      injection q with q
      exact q.symm
    subst ey
    refine ⟨_, rfl, wpAny_letOwnedTupleGo_enum (s := { s with heap := h', toks := tk + 1 }) ho fun h'' he' sb => ?_⟩
    have hT2 : h''.get? s.heap.objs.size = some { cls := .type "tuple", data := .seq #[.int i tk, y] } := (sb.2 _ (Nat.ne_of_gt hel)).trans hT
    have nw : ObjOk X.prog X.w (upd H s.heap.objs.size (.tup [.int (i : Nat), x])) h'' s.heap.objs.size (.tup [.int (i : Nat), x]) :=
      ⟨by show 2 ≤ sizeLine; decide, [.int i tk, y], .cons ⟨_, rfl⟩ (.cons ru .nil), ⟨_, hT2, rfl, _, rfl⟩⟩
    have I1 : Inv X pins σ (upd H s.heap.objs.size (.tup [.int (i : Nat), x])) { s with heap := h'', toks := tk + 1 } :=
      I.turnedNew (ch := [e, it]) (fun b ob hb q => (sb.2 b (fun z => hb (by simp [z]))).trans (hk b ob (fun z => hb (by simp [z])) (fun z => hb (by simp [z])) q)) hf (Nat.le_refl _) nw
    refine ⟨.ref s.heap.objs.size, _, I1, rfl, ⟨_, x, rfl, I.hok.fresh (Nat.le_refl _), rfl, fun ys hy => by rw [I.tuple_inj hy hq]; exact hx⟩, ⟨⟨y, ?_⟩, st'.1.at fun o q => (sb.2 it (Ne.symm hne)).trans q, hne⟩, fun b hb => ?_⟩
    · rw [show ((i + 1 : Nat) : Int) = (i : Int) + 1 by omega]
      exact he'
    · have q : b = e ∨ b = it := by simpa using hb
      have hb2 : b < s.heap.objs.size := by rcases q with z | z <;> rw [z] <;> assumption
      rw [upd_ne (Nat.ne_of_lt hb2)]
      exact (hf b hb).1
  done := by
    intro X hP hw hK hc i pins s σ H E I hf st hg
    subst hP hw hK
    obtain ⟨⟨old, he⟩, hit, hne⟩ := st
    obtain ⟨xs, hq, hx⟩ := hg
    obtain ⟨its, rv, p, hz⟩ := I.tuple hq
    obtain ⟨f0, f1, f2, f3, f4, f5⟩ := hf it (by simp)
    have hl := rv.length
    have tp : s.heap.IsTuple a its.toArray := p
    obtain ⟨oi, goi, coi, doi⟩ := id hit
    have hT : s.TypeIs (.ref e) "enumerate" := ⟨_, he, rfl⟩
    unfold pyNext
    refine wpAny_bind (wpAny_attempt (wpAny_callSpecial?_slot (name := Str.ofString "__next__") hT F.slot_enumerate_next (wpAny_call_entry F.slot_enumerate_next hT F.entry_enumerate_next ?_ (F.args_enumerate_next_1 _))))
    show wpAny _ _ (field (.ref e) 2 >>= _) _ _ _
    refine wpAny_bind (wpAny_field he rfl (x := .ref it) rfl ?_)
    refine wpAny_bind (wpAny_nextOf_tuple_end (I.ok.hd hc) hit tp (by simp; omega) fun h' y he2 ⟨o, ho, hcl⟩ => ?_)
    refine wpAny_bind (wpAny_isInstance (T := "StopIteration") (b := true) ⟨o, ho, hcl⟩ isSubtype_stop ?_)
    exact wpAny_pure ⟨rfl, I.turned (t' := s.toks) (fun b o hb q => he2 b o hb q) f0 f1 f3 f4 f5⟩
  self := fun A i s Q E st h => let ⟨⟨_, he⟩, _⟩ := st; wpAny_pyIter_enum he h
/-- over a list or a tuple -/
def iEnumT (K : PySem.W.Frag) (ta : TA) : TI := fun σ H Z => ta σ H fun vs H1 => ∃ a xs, vs = [.ref a] ∧ ((SqL K H1 a xs ∧ Z (Ite K a) H1) ∨ (SqT K H1 a xs ∧ Z (Itet K a) H1))
theorem pi_enumT {X : Cx} {e : Expr} {ta : TA} {p pos tpos : Pos} {elts : List Expr} {kk : Nat} (hg : Gl X "enumerate") (hm : X.mg "enumerate" = none) (ha : PA X [e] ta) (hs : starEach [e] X.env = [(false, eval e X.env)]) :
    PI X (.Tuple elts kk tpos) (.Call (.Name "enumerate" p) [e] [] pos) (iEnumT X.K ta) := by
  refine ⟨fun pins s σ H Z I hh => Call_ (ld_blt I hg hm boot_enumerate (PyProof.Rows.callWith_type1 (thn (ha.run pos pins s σ H _ I hh) fun us s1 ⟨vs, H1, I1, r1, q1⟩ => ?_) hs rfl))⟩
  obtain ⟨a, xs, ex, q⟩ := q1
  subst ex
  cases r1 with
  | cons r rr =>
    cases rr
    cases r
    have fin : ∀ (h' : Heap) (hk : ∀ b o, s1.heap.get? b = some o → h'.get? b = some o) (b : Addr), b ∈ [s1.heap.objs.size + 1, s1.heap.objs.size] → FpOk X pins H1 b := fun h' hk b hb => by
      have z : b = s1.heap.objs.size + 1 ∨ b = s1.heap.objs.size := by simpa using hb
      have hle : s1.heap.objs.size ≤ b := by
        rcases z with z | z <;> rw [z]
        · exact Nat.le_add_right _ _
        · exact Nat.le_refl _
      exact I1.fpOk hle (I1.hok.fresh hle)
    rcases q with ⟨hq, q⟩ | ⟨hq, q⟩
    · obtain ⟨its, rv, p', hz⟩ := I1.list hq
      refine call_enumerate_list p'.isList fun h' he hit hsz hk => wpAny_pyIter_enum he ?_
      have I2 : Inv X pins σ H1 { s1 with heap := h' } := I1.kept (t' := s1.toks) hk
      exact ⟨s1.heap.objs.size + 1, [s1.heap.objs.size + 1, s1.heap.objs.size], _, _, H1, rfl, I2, turn_enum a (s1.heap.objs.size + 1) s1.heap.objs.size, ⟨⟨.none, he⟩, hit, Nat.succ_ne_self _⟩, fin h' hk, q⟩
    · obtain ⟨its, rv, p', hz⟩ := I1.tuple hq
      have tp : s1.heap.IsTuple a its.toArray := p'
      refine enum_new (begins_tuple a its.toArray) tp fun h' he hit hk => wpAny_pyIter_enum he ?_
      have I2 : Inv X pins σ H1 { s1 with heap := h' } := I1.kept (t' := s1.toks) hk
      exact ⟨s1.heap.objs.size + 1, [s1.heap.objs.size + 1, s1.heap.objs.size], _, _, H1, rfl, I2, turn_enumT a (s1.heap.objs.size + 1) s1.heap.objs.size, ⟨⟨.none, he⟩, ⟨_, hit, rfl, rfl⟩, Nat.succ_ne_self _⟩, fin h' hk, q⟩
end Mi
set_option Elab.async false
set_option linter.all false
set_option maxRecDepth 100000
/-! M5: methods, stores, what is walked, targets. -/
namespace Mi
open PySem PySem.Spec L2
open PyProof.Rows hiding St
section
variable {W : Wd} {m : List Addr} {H : Hp} {S S' : Sto} {x y v : D} {X Y : V} {Q : VK} {cds : Nat → List (Str × D)}
/-! ### methods of lists -/
theorem put_lst {i : Nat} {a : Addr} {xs zs : List D} {ys ws : List V} (rp : Rep W m H S) (hi : m[i]? = some a) (ha : H a = some (.lst ys)) (r : VRs W m H zs ws) : Rep W m (upd H a (.lst ws)) (S.set i (.lst zs)) ∧ Ext m H m (upd H a (.lst ws)) := by
  have x : Ext m H m (upd H a (.lst ws)) :=
    ⟨⟨[], by simp⟩, fun b xs h => by rw [upd_ne (ne_of h ha fun e => by cases e)]; exact h, fun b ob v h => by rw [upd_ne (ne_of h ha fun e => by cases e)]; exact h⟩
  exact rp.put hi ha (fun _ e => by cases e) (fun _ _ e => by cases e) ⟨ws, upd_same, r.to x⟩
def rBm (K : PySem.W.Frag) : BM → V → List V → Hp → VK → Prop
  | .append => rAppend
  | .extend => rExtend
  | .pop => rPop
  | .lindex => rIndex K
  | _ => fun _ _ _ _ => False
def BM.isL : BM → Bool
  | .append => true | .extend => true | .pop => true | .lindex => true | _ => false
theorem idx_of {xs : List D} {ys : List V} {j : Nat} (hx : VR W m H x X) (fx : flat x = true) (h : VRs W m H xs ys) (f : xs.all flat = true) (e : idxF x xs = some j) :
    ∃ z, ys[j]? = some z ∧ eqV z X = true ∧ ∀ (k : Nat) (z' : V), k < j → ys[k]? = some z' → eqV z' X = false := by
  unfold idxF at e
  rw [List.findIdx?_eq_some_iff_getElem] at e
  obtain ⟨hj, e1, e2⟩ := e
  obtain ⟨z, hz, rz⟩ := h.get (List.getElem?_eq_getElem hj)
  have fl : ∀ (k : Nat) (hk : k < xs.length), flat xs[k] = true := fun k hk => List.all_eq_true.mp f _ (List.getElem_mem hk)
  refine ⟨z, hz, ?_, fun k z' hk hz' => ?_⟩
  · rw [eqF_of hx rz fx (fl j hj)]
    exact e1
  · have hk' : k < xs.length := by omega
    obtain ⟨z2, hz2, rz2⟩ := h.get (List.getElem?_eq_getElem hk')
    rw [hz'] at hz2
    cases hz2
    rw [eqF_of hx rz2 fx (fl k hk')]
    simpa using e2 k hk
theorem s_bmL (b : BM) (hb : b.isL = true) {xs : List D} {Xs : List V} (rp : Rep W m H S) (hx : VR W m H x X) (hxs : VRs W m H xs Xs) (h : bmD b x xs S = .ok v S') (f : Fin W m H S' v Q) : rBm W.K b X Xs H Q := by
  unfold bmD at h
  split at h <;> first | (cases hb; done) | skip
  · split at h
    · rename_i ys q
      split at h
      · rename_i hz
        obtain ⟨rfl, rfl⟩ := ok_inj h
        obtain ⟨Y, rfl, hy⟩ := vrs1 hxs
        obtain ⟨a, rfl, hi, ws, ha, ra⟩ := vr_obj rp hx q
        obtain ⟨r2, e2⟩ := put_lst (xs := ys) rp hi ha (ra.append (.cons hy .nil))
        exact ⟨a, ws, Y, rfl, rfl, ha, by rw [← ra.length]; exact hz, f _ _ _ e2 r2 .non⟩
      · cases h
    · cases h
  · split at h
    · rename_i ys zs q1 q2
      split at h
      · rename_i hz
        obtain ⟨rfl, rfl⟩ := ok_inj h
        obtain ⟨Y, rfl, hy⟩ := vrs1 hxs
        obtain ⟨a, rfl, hi, ws, ha, ra⟩ := vr_obj rp hx q1
        obtain ⟨b, rfl, _, us, hb2, rb⟩ := vr_obj rp hy q2
        obtain ⟨r2, e2⟩ := put_lst (xs := ys) rp hi ha (ra.append rb)
        exact ⟨a, b, ws, us, rfl, rfl, ha, hb2, by rw [← ra.length, ← rb.length]; exact hz, f _ _ _ e2 r2 .non⟩
      · cases h
    · cases h
  · split at h
    · rename_i ys q
      split at h
      · rename_i y hy
        obtain ⟨rfl, rfl⟩ := ok_inj h
        cases hxs
        obtain ⟨a, rfl, hi, ws, ha, ra⟩ := vr_obj rp hx q
        obtain ⟨z, hz, rz⟩ := ra.get hy
        obtain ⟨r2, e2⟩ := put_lst (xs := ys) rp hi ha ra.dropLast
        rw [ra.length] at hz
        exact ⟨a, ws, z, rfl, rfl, ha, hz, f _ _ _ e2 r2 (rz.to e2)⟩
      · cases h
    · cases h
  · split at h
    · rename_i ys q
      split at h
      · rename_i hf
        obtain ⟨e, rfl⟩ := optR_ok h
        obtain ⟨Y, rfl, hy⟩ := vrs1 hxs
        obtain ⟨a, ws, rfl, ha, ra⟩ := lst_of rp hx q
        obtain ⟨j, q2, rfl⟩ := Option.map_eq_some_iff.mp e
        obtain ⟨z, e1, e3, e4⟩ := idx_of hy hf.1 ra hf.2 q2
        exact ⟨a, ws, Y, j, z, rfl, rfl, SqL.of ha, flat_of hy hf.1, flats_of ra hf.2, e1, e3, e4, f.done rp (.int _)⟩
      · cases h
    · cases h
  · cases h

/-! ### stores at o[i] -/
theorem PSet.or {X : Cx} {t t' : TSet} (h : PSet X t) (h' : PSet X t') : PSet X (fun o i v H Q => t o i v H Q ∨ t' o i v H Q) := by
  intro pins s σ H o i v ov iv u Q I ro ri rv q
  rcases q with q | q
  · exact h pins s σ H o i v ov iv u Q I ro ri rv q
  · exact h' pins s σ H o i v ov iv u Q I ro ri rv q
def rSetD : TSet := fun o i v H Q => ∃ a H', o = .ref a ∧ DPut H a i v H' ∧ Q H'
theorem set_dict {X : Cx} (hu : X.A.units + 1 < cLine) : PSet X rSetD := by
  intro pins s σ H o i v ov iv u Q I ro ri rv h
  obtain ⟨a, H', rfl, g, q⟩ := h
  cases ro
  exact d_setItem hu I g ri rv fun s' I' => ⟨H', I', q⟩
theorem put_any {κ : Type} [DecidableEq κ] {kvs : List (κ × D)} {kws : List (κ × V)} (h : KR W m H kvs kws) (k : κ) : (kvs.any fun kv => decide (kv.1 = k)) = (kws.any fun kv => decide (kv.1 = k)) := by
  unfold KR at h
  induction h with
  | nil => rfl
  | @cons p q ps qs r t ih =>
    rw [List.any_cons, List.any_cons, ih, r.1]
theorem put_map {κ : Type} [DecidableEq κ] {kvs : List (κ × D)} {kws : List (κ × V)} (h : KR W m H kvs kws) (k : κ) (hv : VR W m H v Y) :
    KR W m H (kvs.map fun kv => if kv.1 = k then (kv.1, v) else kv) (kws.map fun kv => if kv.1 = k then (kv.1, Y) else kv) := by
  unfold KR at h ⊢
  induction h with
  | nil => exact .nil
  | @cons p q ps qs r t ih =>
    rw [List.map_cons, List.map_cons]
    refine .cons ?_ ih
    by_cases e : p.1 = k
    · have e2 : q.1 = k := by rw [← r.1]; exact e
      simp only [if_pos e, if_pos e2]
      exact ⟨r.1, hv⟩
    · have e2 : ¬ q.1 = k := by rw [← r.1]; exact e
      simp only [if_neg e, if_neg e2]
      exact r
theorem kr_app {κ : Type} {kvs kvs' : List (κ × D)} {kws kws' : List (κ × V)} (h : KR W m H kvs kws) (h' : KR W m H kvs' kws') : KR W m H (kvs ++ kvs') (kws ++ kws') := by
  unfold KR at h ⊢
  induction h with
  | nil => exact h'
  | cons r t ih => exact .cons r ih
theorem put_of {κ : Type} [DecidableEq κ] {kvs : List (κ × D)} {kws : List (κ × V)} (h : KR W m H kvs kws) (k : κ) (hv : VR W m H v Y) : KR W m H (putKD kvs k v) (putK kws k Y) := by
  unfold putKD putK
  rw [put_any h k]
  split
  · exact put_map h k hv
  · exact kr_app h (.cons ⟨rfl, hv⟩ .nil)
theorem drop_of {κ : Type} [DecidableEq κ] {kvs : List (κ × D)} {kws : List (κ × V)} (h : KR W m H kvs kws) (k : κ) : KR W m H (dropKD kvs k) (dropK kws k) := by
  unfold dropKD dropK
  unfold KR at h ⊢
  induction h with
  | nil => exact .nil
  | @cons p q ps qs r t ih =>
    by_cases e : p.1 = k
    · have e2 : q.1 = k := by rw [← r.1]; exact e
      rw [List.filter_cons_of_neg (by simpa using e), List.filter_cons_of_neg (by simpa using e2)]
      exact ih
    · have e2 : ¬ q.1 = k := by rw [← r.1]; exact e
      rw [List.filter_cons_of_pos (by simpa using e), List.filter_cons_of_pos (by simpa using e2)]
      exact .cons r ih
def rSet4 : TSet := fun o i v H Q => rSetL o i v H Q ∨ rSetD o i v H Q
theorem o_set4 {X : Cx} (hu : X.A.units + 1 < cLine) : PSet X rSet4 := PSet.or set_list (set_dict hu)
theorem s_set {o i : D} {Oo Oi : V} {K : Hp → Prop} (rp : Rep W m H S) (ho : VR W m H o Oo) (hi : VR W m H i Oi) (hv : VR W m H v Y) {u : Unit} (h : setD o i v S = .ok u S') (f : ∀ H', Ext m H m H' → Rep W m H' S' → K H') :
    rSet4 Oo Oi Y H K := by
  unfold setD at h
  split at h
  · split at h
    · rename_i a xs q
      split at h
      · rename_i j
        split at h
        · rename_i n hn
          obtain ⟨_, rfl⟩ := ok_inj h
          obtain ⟨p, rfl, hi2, ws, hp, ra⟩ := vr_obj rp ho q
          obtain rfl := vr_int hi
          obtain ⟨r2, e2⟩ := put_lst (xs := xs) rp hi2 hp (ra.set n hv)
          rw [ra.length] at hn
          exact .inl ⟨p, ws, j, n, rfl, rfl, hp, hn, f _ e2 r2⟩
        · cases h
      · cases h
    · rename_i a kvs q
      split at h
      · rename_i k hk
        split at h
        · rename_i hz
          obtain ⟨_, rfl⟩ := ok_inj h
          obtain ⟨p, rfl, hi2, ws, hp, ra⟩ := vr_obj rp ho q
          obtain rfl := key_of hi hk
          have x : Ext m H m (upd H p (.dK (putK ws k Y))) :=
            ⟨⟨[], by simp⟩, fun b xs h => by rw [upd_ne (ne_of h hp fun e => by cases e)]; exact h, fun b ob v h => by rw [upd_ne (ne_of h hp fun e => by cases e)]; exact h⟩
          obtain ⟨r2, e2⟩ := rp.put (ob := .dK (putKD kvs k v)) hi2 hp (fun _ e => by cases e) (fun _ _ e => by cases e) ⟨putK ws k Y, upd_same, (put_of ra k hv).to x⟩
          exact .inr ⟨p, _, rfl, DPut.k hp (by rw [← Paired.length ra]; exact hz), f _ e2 r2⟩
        · cases h
      · cases h
    · rename_i a kvs q
      split at h
      · rename_i ks
        split at h
        · rename_i k hk
          split at h
          · rename_i hz
            obtain ⟨_, rfl⟩ := ok_inj h
            obtain ⟨p, rfl, hi2, ws, hp, ra⟩ := vr_obj rp ho q
            obtain ⟨b, ys, rfl, sb, rb⟩ := vr_tup hi
            obtain ⟨e3, e4⟩ := keys_of rb hk
            have hb := tup_key sb e4
            rw [e3] at hb
            have x : Ext m H m (upd H p (.dT (putK ws k Y))) :=
              ⟨⟨[], by simp⟩, fun b xs h => by rw [upd_ne (ne_of h hp fun e => by cases e)]; exact h, fun b ob v h => by rw [upd_ne (ne_of h hp fun e => by cases e)]; exact h⟩
            obtain ⟨r2, e2⟩ := rp.put (ob := .dT (putKD kvs k v)) hi2 hp (fun _ e => by cases e) (fun _ _ e => by cases e) ⟨putK ws k Y, upd_same, (put_of ra k hv).to x⟩
            exact .inr ⟨p, _, rfl, DPut.t hp hb (by rw [← Paired.length ra]; exact hz), f _ e2 r2⟩
          · cases h
        · cases h
      · cases h
    · cases h
  · cases h

/-! ### what is walked -/
/-- the layer's iterator gives the items -/
structure ItR (W : Wd) (m : List Addr) (H : Hp) (J : L2.It) (it : It) : Prop where
  go : ∀ (i : Nat) (m' : List Addr) (H' : Hp) (S : Sto) (x : D), Ext m H m' H' → Rep W m' H' S → it.still S = true → it.items[i]? = some x → J.go i H'
  yld : ∀ (i : Nat) (m' : List Addr) (H' : Hp) (S : Sto) (x : D) (v : V) (H2 : Hp), Ext m H m' H' → Rep W m' H' S → it.still S = true → it.items[i]? = some x → J.yld i H' v H2 → Ext m' H' m' H2 ∧ Rep W m' H2 S ∧ VR W m' H2 x v
  stop : ∀ (i : Nat) (m' : List Addr) (H' : Hp) (S : Sto), Ext m H m' H' → Rep W m' H' S → it.still S = true → it.items.length ≤ i → J.stop i H'
theorem itr_tup {a : Addr} {xs : List D} {ys : List V} (h : TupAt W H a ys) (r : VRs W m H xs ys) : ItR W m H (Itt W.K a) ⟨xs, none⟩ := by
  refine ⟨fun i m' H' S x e rp _ hx => ?_, fun i m' H' S x v H2 e rp _ hx y => ?_, fun i m' H' S e rp _ hl => ?_⟩
  · obtain ⟨z, hz, _⟩ := r.get hx
    exact ⟨ys, z, (e.tupAt h).sq, hz⟩
  · obtain ⟨rfl, y⟩ := y
    obtain ⟨z, hz, rz⟩ := r.get hx
    have := y ys (e.tupAt h).sq
    rw [hz] at this
    cases this
    exact ⟨.refl, rp, rz.to e⟩
  · exact ⟨ys, (e.tupAt h).sq, by rw [← r.length]; exact hl⟩
theorem still_own {i : Nat} {xs its : List D} {S : Sto} (h : (It.mk its (some (i, xs))).still S = true) : S[i]? = some (.lst xs) := by
  unfold It.still at h
  simpa using h
theorem itr_lst {i : Nat} {a : Addr} {xs : List D} (hi : m[i]? = some a) : ItR W m H (Itl W.K a) ⟨xs, some (i, xs)⟩ := by
  refine ⟨fun k m' H' S x e rp st hx => ?_, fun k m' H' S x v H2 e rp st hx y => ?_, fun k m' H' S e rp st hl => ?_⟩
  · obtain ⟨ys, ha, r⟩ := rp.obj i a _ (e.get hi) (still_own st)
    obtain ⟨z, hz, _⟩ := r.get hx
    exact ⟨ys, z, SqL.of ha, hz⟩
  · obtain ⟨rfl, y⟩ := y
    obtain ⟨ys, ha, r⟩ := rp.obj i a _ (e.get hi) (still_own st)
    obtain ⟨z, hz, rz⟩ := r.get hx
    have := y ys (SqL.of ha)
    rw [hz] at this
    cases this
    exact ⟨.refl, rp, rz⟩
  · obtain ⟨ys, ha, r⟩ := rp.obj i a _ (e.get hi) (still_own st)
    exact ⟨ys, SqL.of ha, by rw [← r.length]; exact hl⟩
theorem itr_lit {a : Addr} {xs : List D} {ys : List V} (h : LitAt W H a ys) (r : VRs W m H xs ys) : ItR W m H (Itl W.K a) ⟨xs, none⟩ := by
  refine ⟨fun i m' H' S x e rp _ hx => ?_, fun i m' H' S x v H2 e rp _ hx y => ?_, fun i m' H' S e rp _ hl => ?_⟩
  · obtain ⟨z, hz, _⟩ := r.get hx
    exact ⟨ys, z, (e.litAt h).sq, hz⟩
  · obtain ⟨rfl, y⟩ := y
    obtain ⟨z, hz, rz⟩ := r.get hx
    have := y ys ((e.litAt h).sq)
    rw [hz] at this
    cases this
    exact ⟨.refl, rp, rz.to e⟩
  · exact ⟨ys, (e.litAt h).sq, by rw [← r.length]; exact hl⟩
theorem itr_str {z : Str} : ItR W m H (Its z) ⟨z.cps.toList.map fun c => D.str ⟨#[c]⟩, none⟩ := by
  refine ⟨fun i m' H' S x e rp _ hx => ?_, fun i m' H' S x v H2 e rp _ hx y => ?_, fun i m' H' S e rp _ hl => ?_⟩
  · have h := (List.getElem?_eq_some_iff.mp hx).1
    show i < z.cps.size
    simpa using h
  · obtain ⟨rfl, c, hc, rfl⟩ := y
    rw [List.getElem?_map] at hx
    have hc' : z.cps.toList[i]? = some c := by simpa using hc
    rw [hc'] at hx
    cases hx
    exact ⟨.refl, rp, .str _⟩
  · show z.cps.size ≤ i
    simpa using hl
theorem rngL_get {lo : Int} {n i : Nat} {x : D} (h : (rngL lo n)[i]? = some x) : i < n ∧ x = .int (lo + (i : Nat)) := by
  unfold rngL at h
  rw [List.getElem?_map] at h
  cases q : (List.range n)[i]? with
  | none =>
    rw [q] at h
    cases h
  | some j =>
    rw [q] at h
    cases h
    obtain ⟨h1, h2⟩ := List.getElem?_eq_some_iff.mp q
    rw [List.getElem_range] at h2
    subst h2
    exact ⟨by simpa using h1, rfl⟩
theorem itr_rng {lo : Int} {n : Nat} : ItR W m H (Itr lo n) ⟨rngL lo n, none⟩ := by
  refine ⟨fun i m' H' S x e rp _ hx => (rngL_get hx).1, fun i m' H' S x v H2 e rp _ hx y => ?_, fun i m' H' S e rp _ hl => ?_⟩
  · obtain ⟨rfl, rfl⟩ := y
    obtain ⟨_, rfl⟩ := rngL_get hx
    exact ⟨.refl, rp, .int _⟩
  · show n ≤ i
    have e : (rngL lo n).length = n := by simp [rngL]
    rw [← e]
    exact hl
theorem itr_enum {i : Nat} {a : Addr} {xs : List D} (hi : m[i]? = some a) : ItR W m H (Ite W.K a) ⟨xs.zipIdx.map fun p => D.tup [.int (p.2 : Nat), p.1], some (i, xs)⟩ := by
  have gx : ∀ {k : Nat} {x : D}, (xs.zipIdx.map fun p => D.tup [.int (p.2 : Nat), p.1])[k]? = some x → ∃ d, xs[k]? = some d ∧ x = .tup [.int (k : Nat), d] := fun {k x} h => by
    rw [List.getElem?_map, List.getElem?_zipIdx] at h
    cases q : xs[k]? with
    | none =>
      rw [q] at h
      cases h
    | some d =>
      rw [q] at h
      cases h
      exact ⟨d, rfl, by simp⟩
  refine ⟨fun k m' H' S x e rp st hx => ?_, fun k m' H' S x v H2 e rp st hx y => ?_, fun k m' H' S e rp st hl => ?_⟩
  · obtain ⟨ys, ha, r⟩ := rp.obj i a _ (e.get hi) (still_own st)
    obtain ⟨d, hd, rfl⟩ := gx hx
    obtain ⟨z, hz, _⟩ := r.get hd
    exact ⟨ys, z, SqL.of ha, hz⟩
  · obtain ⟨T, w, rfl, hT, rfl, y⟩ := y
    obtain ⟨ys, ha, r⟩ := rp.obj i a _ (e.get hi) (still_own st)
    obtain ⟨d, hd, rfl⟩ := gx hx
    obtain ⟨z, hz, rz⟩ := r.get hd
    have := y ys (SqL.of ha)
    rw [hz] at this
    cases this
    exact ⟨ext_new hT, rp.lay hT, .tup (.inl upd_same) (.cons (.int _) (.cons (rz.to (ext_new hT)) .nil))⟩
  · obtain ⟨ys, ha, r⟩ := rp.obj i a _ (e.get hi) (still_own st)
    exact ⟨ys, SqL.of ha, by rw [← r.length]; simpa using hl⟩
theorem itr_enumT {a : Addr} {xs : List D} {ys : List V} (h : TupAt W H a ys) (r : VRs W m H xs ys) : ItR W m H (Itet W.K a) ⟨xs.zipIdx.map fun p => D.tup [.int (p.2 : Nat), p.1], none⟩ := by
  have gx : ∀ {k : Nat} {x : D}, (xs.zipIdx.map fun p => D.tup [.int (p.2 : Nat), p.1])[k]? = some x → ∃ d, xs[k]? = some d ∧ x = .tup [.int (k : Nat), d] := fun {k x} h => by
    rw [List.getElem?_map, List.getElem?_zipIdx] at h
    cases q : xs[k]? with
    | none =>
      rw [q] at h
      cases h
    | some d =>
      rw [q] at h
      cases h
      exact ⟨d, rfl, by simp⟩
  refine ⟨fun k m' H' S x e rp st hx => ?_, fun k m' H' S x v H2 e rp st hx y => ?_, fun k m' H' S e rp st hl => ?_⟩
  · obtain ⟨d, hd, rfl⟩ := gx hx
    obtain ⟨z, hz, _⟩ := r.get hd
    exact ⟨ys, z, (e.tupAt h).sq, hz⟩
  · obtain ⟨T, w, rfl, hT, rfl, y⟩ := y
    obtain ⟨d, hd, rfl⟩ := gx hx
    obtain ⟨z, hz, rz⟩ := r.get hd
    have := y ys (e.tupAt h).sq
    rw [hz] at this
    cases this
    exact ⟨ext_new hT, rp.lay hT, .tup (.inl upd_same) (.cons (.int _) (.cons ((rz.to e).to (ext_new hT)) .nil))⟩
  · exact ⟨ys, (e.tupAt h).sq, by rw [← r.length]; simpa using hl⟩
end
/-- a walked thing's reading -/
def liftI (W : Wd) (f : En → Sto → R It) : TI := fun σ H K => ∃ m e S it S', ER W m H e σ ∧ Rep W m H S ∧ f e S = .ok it S' ∧ ∀ J H' m', Ext m H m' H' → Rep W m' H' S' → ItR W m' H' J it → K J H'
section
variable {X : Cx} {tg iter : Expr}
theorem pi_imp {t t' : TI} (h : PI X tg iter t) (k : ∀ σ H R, t' σ H R → t σ H R) : PI X tg iter t' := ⟨fun pins s σ H R I q => h.run pins s σ H R I (k σ H R q)⟩
def iSeq (K : PySem.W.Frag) (te : TE) : TI := fun σ H R => te σ H fun x H1 => (∃ a, x = .ref a ∧ (∃ xs, SqL K H1 a xs) ∧ R (Itl K a) H1) ∨ (∃ a, x = .ref a ∧ (∃ xs, SqT K H1 a xs) ∧ R (Itt K a) H1) ∨ ∃ z, x = .str z ∧ R (Its z) H1
theorem pi_seq {te : TE} (he : PE X iter te) : PI X tg iter (iSeq X.K te) := by
  refine ⟨fun pins s σ H R I h => ?_⟩
  refine thn (he.run pins s σ H _ I h) fun v s1 ⟨x, H1, I1, r1, q1⟩ => ?_
  have fp : ∀ b ∈ [s1.heap.objs.size], FpOk X pins H1 b := fun b hb => by
    have e : b = s1.heap.objs.size := by simpa using hb
    subst e
    exact I1.fpOk (Nat.le_refl _) (I1.hok.fresh (Nat.le_refl _))
  rcases q1 with ⟨a, rfl, ⟨xs, hq⟩, q⟩ | ⟨a, rfl, ⟨xs, hq⟩, q⟩ | ⟨z, rfl, q⟩
  · cases r1
    obtain ⟨its, rv, p, hz⟩ := I1.list hq
    refine wpAny_pyIter_list p.isList ?_
    exact ⟨s1.heap.objs.size, [s1.heap.objs.size], _, _, H1, rfl, I1.kept (t' := s1.toks) fun b o e => Heap.get?_push_of_some _ e, turn_list a _, ⟨_, Heap.get?_push_size _ rfl, rfl, rfl⟩, fp, q⟩
  · cases r1
    obtain ⟨its, rv, p, hz⟩ := I1.tuple hq
    refine wpAny_pyIter_tuple (show s1.heap.IsTuple a its.toArray from p) ?_
    exact ⟨s1.heap.objs.size, [s1.heap.objs.size], _, _, H1, rfl, I1.kept (t' := s1.toks) fun b o e => Heap.get?_push_of_some _ e, turn_tuple a _, ⟨_, Heap.get?_push_size _ rfl, rfl, rfl⟩, fp, q⟩
  · obtain ⟨t, rfl⟩ := r1
    cases ha : z.cps.all (· < 128)
    · exact wpAny_pyIter_wide ha (pi_one (tk := s1.toks) I1 _ (turn_str _ z t "str_iterator" (.inr rfl)) ⟨_, Heap.get?_push_size _ rfl, rfl, rfl⟩ q)
    · exact wpAny_pyIter_ascii ha (pi_one (tk := s1.toks) I1 _ (turn_str _ z t "str_ascii_iterator" (.inl rfl)) ⟨_, Heap.get?_push_size _ rfl, rfl, rfl⟩ q)
end
end Mi
set_option Elab.async false
set_option linter.all false
set_option maxRecDepth 100000
/-! M6: from the row's syntax to mine, and what the translation gives of the row's text. -/
namespace Mi
open PySem PySem.Spec L2
open PyProof.Rows hiding St
/-- what a translation knows: the def's names by slot, the module's names, the fields, the dicts with pairs as keys (by their places) -/
structure Tx where
  N : List Str
  fns : List Str
  cls : List Str
  con : List Str
  fields : List Str
  dts : List (Nat × Nat)
def visB (sc : Scope) (x : Str) : Bool := match sc.names.lookup x with
  | some .local => true
  | some .cell => true
  | some .free => true
  | _ => false
def locB (sc : Scope) (x : Str) : Bool := match sc.names.lookup x with
  | some .local => true
  | some .cell => true
  | _ => false
def glB (sc : Scope) (x : Str) : Bool := match sc.names.lookup x with
  | some .globalImplicit => true
  | _ => false
def plainName (x : Str) : Bool := !(x == ("__debug__" : Str)) && !(x == ("__classdict__" : Str)) && !(x == ("__name__" : Str))
def slot (N : List Str) (x : Str) : Option Nat := N.findIdx? fun y => decide (y = x)
def bfTab : List (Str × BF) := [("len", .len), ("int", .int), ("str", .str), ("max", .max), ("min", .min), ("sum", .sum), ("any", .any), ("all", .all), ("abs", .abs), ("tuple", .tuple), ("list", .list), ("dict", .dict)]
def tyTab : List (Str × Ty) := [("int", .int), ("str", .str), ("tuple", .tup), ("bool", .bool)]
/-- the built-in names that are leaned on -/
def bltNames : List Str := ["len", "int", "str", "max", "min", "sum", "any", "all", "abs", "tuple", "list", "dict", "bool", "isinstance", "range", "enumerate"]
def bmOf (m : Str) (n : Nat) : Option BM :=
  if m = "append" then some .append else if m = "extend" then some .extend else if m = "pop" ∧ n = 0 then some .pop else if m = "index" then some .lindex
  else if m = "get" ∧ n = 1 then some .get1 else if m = "get" ∧ n = 2 then some .get2 else if m = "pop" ∧ n = 2 then some .pop2 else if m = "join" then some .join else none
def notSuper : Expr → Bool
  | .Call (.Name id _) [] [] _ => !(id == ("super" : Str))
  | _ => true
def isIf : Expr → Bool
  | .IfExp .. => true
  | _ => false
def isSlc : Expr → Bool
  | .Slice .. => true
  | _ => false
def trs (f : Expr → Option E) : List Expr → Option Es
  | [] => some .nil
  | x :: xs => match f x, trs f xs with
    | some a, some as => some (.cons a as)
    | _, _ => none
/-- all of them, none an if-expression (for tests) -/
def trTs (f : Expr → Option E) : List Expr → Option Es
  | [] => some .nil
  | x :: xs => match isIf x, f x, trTs f xs with
    | false, some a, some as => some (.cons a as)
    | _, _, _ => none
def trP (f : Expr → Option E) : Option Expr → Option E
  | none => some .nop
  | some x => match f x with
    | some a => if isNop a = true then none else some a
    | none => none
def trI (sc : Scope) (f : Expr → Option E) : Expr → Option I
  | .Call (.Name g p) as ks pos =>
    if g = "range" then (match ks, as with
      | [], [a] => if glB sc "range" = true then (f a).map fun a => .rng (.cons a .nil) else none
      | [], [a, b] => if glB sc "range" = true then (match f a, f b with | some a, some b => some (.rng (.cons a (.cons b .nil))) | _, _ => none) else none
      | _, _ => none)
    else if g = "enumerate" then none else (f (.Call (.Name g p) as ks pos)).map .seq
  | x => (f x).map .seq
/-- enumerate goes to a tuple of targets alone -/
def trE (sc : Scope) (f : Expr → Option E) : Expr → Expr → Option I
  | .Tuple .., .Call (.Name g _) [a] [] _ => if g = "enumerate" ∧ glB sc "enumerate" = true then (f a).map .enum else none
  | _, _ => none
def trNm (N : List Str) (sc : Scope) : Expr → Option Nat
  | .Name x _ => if locB sc x = true then slot N x else none
  | _ => none
def trNms (N : List Str) (sc : Scope) : List Expr → Option (List Nat)
  | [] => some []
  | x :: xs => match trNm N sc x, trNms N sc xs with
    | some i, some is => some (i :: is)
    | _, _ => none
def trTg (N : List Str) (sc : Scope) : Expr → Option Tg
  | .Tuple es _ _ => (trNms N sc es).map .tp
  | x => (trNm N sc x).map .nm
def Tg.slots : Tg → List Nat
  | .nm i => [i]
  | .tp is => is
/-- a comprehension's own names -/
def ownOf (N : List Str) (sc : Scope) : List (Str × Nat) := sc.names.filterMap fun y => if locB sc y.1 = true then (slot N y.1).map fun i => (y.1, i) else none
def nilB : List Expr → Bool
  | [] => true
  | _ => false
def trG (t : Tx) (sc : Scope) (f : Expr → Option E) (g : Str) (as : List Expr) : Option E :=
  if g ∈ t.fns then (trs f as).map (.call g) else if g ∈ t.cls then (trs f as).map (.make g) else match bfTab.lookup g, as with
    | some b, x :: xs => (trs f (x :: xs)).map (.bf b)
    | _, _ => if g = "isinstance" then (match as with
      | [a, .Name ty _] => if glB sc ty = true then (match f a, tyTab.lookup ty with
        | some a, some u => some (.isi a u)
        | _, _ => none) else none
      | _ => none) else none
def tr (t : Tx) : Nat → Scope → Expr → Option E
  | 0, _, _ => none
  | n + 1, sc, x => match x with
    | .Constant (.int i) _ _ => some (.int i)
    | .Constant (.str s) _ _ => some (.str s)
    | .Constant (.bool b) _ _ => some (.bl b)
    | .Constant .none _ _ => some .non
    | .Name x _ => if plainName x = true then (if visB sc x = true then (slot t.N x).map .var else if glB sc x = true ∧ x ∈ t.con then some (.con x) else none) else none
    | .BinOp a op b _ => match tr t n sc a, tr t n sc b with
      | some a, some b => some (.bin op a b)
      | _, _ => none
    | .UnaryOp .USub a _ => (tr t n sc a).map .neg
    | .UnaryOp .Not a _ => if isIf a = true then none else (tr t n sc a).map .not
    | .Compare a [op] [b] _ => match tr t n sc a, tr t n sc b with
      | some a, some b => some (.cmp op a b)
      | _, _ => none
    | .Compare a [o1, o2] [b, c] _ => match tr t n sc a, tr t n sc b, tr t n sc c with
      | some a, some b, some c => some (.chn o1 o2 a b c)
      | _, _, _ => none
    | .BoolOp .And (v :: vs) _ => (trTs (tr t n sc) (v :: vs)).map .and
    | .BoolOp .Or (v :: vs) _ => (trTs (tr t n sc) (v :: vs)).map .or
    | .IfExp c a b _ => if isIf c = true then none else match tr t n sc c, tr t n sc a, tr t n sc b with
      | some c, some a, some b => some (.ife c a b)
      | _, _, _ => none
    | .Call (.Name g _) as [] _ => if plainName g = true ∧ glB sc g = true then trG t sc (tr t n sc) g as else none
    | .Call (.Attribute o m apos) as [] cpos => if notSuper o = true ∧ (apos.endLine == cpos.line) = true ∧ as.length < 28 then (match tr t n sc o, trs (tr t n sc) as, bmOf m as.length with
      | some o, some as, some b => some (.bm b o as)
      | some o, some as, none => some (.meth m o as)
      | _, _, _ => none) else none
    | .Attribute o f _ => if notSuper o = true ∧ f ∈ t.fields then (tr t n sc o).map fun o => .fld o f else none
    | .Subscript a (.Slice lo hi none _) _ => match tr t n sc a, trP (tr t n sc) lo, trP (tr t n sc) hi with
      | some a, some lo, some hi => some (.slc a lo hi)
      | _, _, _ => none
    | .Subscript a (.Slice none none (some (.UnaryOp .USub (.Constant (.int 1) _ _) _)) _) _ => (tr t n sc a).map .rev
    | .Subscript a b _ => if isSlc b = true then none else match tr t n sc a, tr t n sc b with
      | some a, some b => some (.sub a b)
      | _, _ => none
    | .Tuple es _ _ => if es.length < 10000 then (trs (tr t n sc) es).map .tup else none
    | .List es _ => if es.length < 10000 then (trs (tr t n sc) es).map .lst else none
    | .Dict [] [] pos => some (if (pos.line, pos.col) ∈ t.dts then .dT else .dK)
    | .ListComp elt [⟨tg, iter, ifs, 0⟩] scope _ =>
      if blkC t.N sc scope (ownOf t.N scope) = true then (match (match trE sc (tr t n sc) tg iter with | some i => some i | none => trI sc (tr t n sc) iter), trTg t.N scope tg, tr t n scope elt, (match ifs with
          | [] => some E.nop
          | [c] => if isIf c = true then none else (match tr t n scope c with | some c => if isNop c = true then none else some c | none => none)
          | _ => none) with
        | some it, some tg, some elt, some c => if tg.slots.all (fun i => decide (i ∈ (ownOf t.N scope).map (·.2))) = true then some (.lc tg it c elt ((ownOf t.N scope).map (·.2))) else none
        | _, _, _, _ => none) else none
    | .ListComp elt [⟨tg, iter, [], 0⟩, ⟨tg1, iter1, [], 0⟩] scope _ =>
      if blkC t.N sc scope (ownOf t.N scope) = true then (match trI sc (tr t n sc) iter, trTg t.N scope tg, trI scope (tr t n scope) iter1, trTg t.N scope tg1, tr t n scope elt with
        | some it, some tg, some it1, some tg1, some elt => if (tg.slots.all (fun i => decide (i ∈ (ownOf t.N scope).map (·.2))) && tg1.slots.all (fun i => decide (i ∈ (ownOf t.N scope).map (·.2)))) = true then
            some (.lc2 tg it tg1 it1 elt ((ownOf t.N scope).map (·.2)) tg1.slots) else none
        | _, _, _, _, _ => none) else none
    | _ => none

/-! ### what a translated expression is not -/
section
variable {t : Tx} {n : Nat} {sc : Scope} {x : Expr} {e : E}
theorem star_of (h : tr t n sc x = some e) (xs : List Expr) (env : Env) : starEach (x :: xs) env = (false, eval x env) :: starEach xs env := by
  cases n with
  | zero => cases h
  | succ n => cases x <;> first | rfl | cases h
theorem stars_of {xs : List Expr} {es : Es} (h : trs (tr t n sc) xs = some es) (env : Env) (pos : Pos) : (backTo pos (starEach xs env)).any (·.1) = false ∧ (backTo pos (starEach xs env)).all (fun x => !x.1) = true := by
  induction xs generalizing es with
  | nil => exact ⟨rfl, rfl⟩
  | cons y ys ih =>
    unfold trs at h
    split at h
    · rename_i a as h1 h2
      obtain ⟨i1, i2⟩ := ih h2
      rw [star_of h1]
      show ((false || (backTo pos (starEach ys env)).any (·.1)) = false) ∧ ((!false && (backTo pos (starEach ys env)).all (fun x => !x.1)) = true)
      rw [i1, i2]
      exact ⟨rfl, rfl⟩
    · cases h
theorem base_of {o : Expr} (h : notSuper o = true) (m : Str) (env : Env) (whole : Sem Value) : attributeBase o m env whole = whole := by
  unfold attributeBase
  split
  · rename_i id p pos
    have h1 : (!(id == ("super" : Str))) = true := h
    have h2 : (id != ("super" : Str)) = true := h1
    rw [h2]
    rfl
  · rfl
theorem fold_of (h : tr t n sc x = some e) (env : Env) (v : Value) : foldedSetIterable x env v = pure v := by
  cases n with
  | zero => cases h
  | succ n => cases x <;> first | rfl | cases h
theorem mark_of (h : tr t n sc x = some e) (op : CmpOp) : behindInMarks op x = false := by
  cases n with
  | zero => cases h
  | succ n => cases x <;> first | rfl | cases h
theorem slot_ok {N : List Str} {x : Str} {i : Nat} (h : slot N x = some i) : N[i]? = some x := by
  unfold slot at h
  rw [List.findIdx?_eq_some_iff_getElem] at h
  obtain ⟨hi, e, _⟩ := h
  rw [List.getElem?_eq_getElem hi]
  simpa using e
theorem isT_of (h : tr t n sc x = some e) (hb : ∀ op vs p, x ≠ .BoolOp op vs p) (hc : ∀ a b c p, x ≠ .Compare a b c p) (hn : ∀ a p, x ≠ .UnaryOp .Not a p) (hi : isIf x = false) (env : Env) : ∀ whole, isTrue x env whole = (do let v ← whole; standAt x.pos; holding [v] (truthy v)) := by
  intro whole
  cases x with
  | BoolOp op vs p => exact absurd rfl (hb _ _ _)
  | Compare a b c p => exact absurd rfl (hc _ _ _ _)
  | IfExp a b c p => cases hi
  | UnaryOp op a p =>
    cases op with
    | Not => exact absurd rfl (hn _ _)
    | _ => rfl
  | _ => rfl
theorem subs_of {b : Expr} (h : isSlc b = false) (o i : Value) : subscripted b false o i = operate [o, i] (getItem o i) := by
  cases b <;> first | rfl | cases h
end
end Mi
set_option Elab.async false
set_option linter.all false
set_option maxRecDepth 100000
/-! M7: each construct's reading is what the evaluator says. -/
namespace Mi
open PySem PySem.Spec L2
open PyProof.Rows hiding St
section
variable {X : Cx} {W : Wd} {a b c : Expr} {fa fb fc : En → Sto → R D} {pos : Pos}
theorem truth_of {v : D} {y : V} {m : List Addr} {H : Hp} {S : Sto} {bo : Bool} {Q : Bool → Hp → Prop} (rp : Rep W m H S) (hx : VR W m H v y) (h : truth S v = some bo) (q : Q bo H) : ∃ k, TruV W.K y H k ∧ Q k H := ⟨bo, s_truth rp hx h, q⟩
theorem truthR_ok {v : D} {S S' : Sto} {bo : Bool} (h : truthR v S = .ok bo S') : truth S v = some bo ∧ S = S' := by
  unfold truthR at h
  split at h
  · obtain ⟨rfl, rfl⟩ := ok_inj h
    exact ⟨by assumption, rfl⟩
  · cases h
/-- as a test, of what is no and, or, not, comparison -/
theorem e_truth (hK : X.K = W.K) (ha : PE X a (lift W fa)) (he : ∀ whole, isTrue a X.env whole = (do let v ← whole; standAt a.pos; holding [v] (truthy v))) :
    PT X a (liftT W fun e S => (fa e S).bind fun x S1 => truthR x S1) := by
  refine pt_imp (pt_truth ha he) fun σ H Q h => ?_
  obtain ⟨m, e, S, bo, S', er, rp, h, f⟩ := h
  obtain ⟨v, S1, h1, h2⟩ := R.bind_eq h
  obtain ⟨h3, rfl⟩ := truthR_ok h2
  refine ⟨m, e, S, v, S1, er, rp, h1, fun y H' m' x r vr => ?_⟩
  rw [hK]
  exact truth_of r vr h3 (f H' m' x r)
theorem e_const {v : D} {y : V} {e : Expr} (h : PE X e (tC y)) (vr : ∀ m H, VR W m H v y) : PE X e (lift W fun _ S => .ok v S) := by
  refine pe_imp h fun σ H Q h => ?_
  obtain ⟨m, e, S, w, S', er, rp, h, f⟩ := h
  obtain ⟨rfl, rfl⟩ := ok_inj h
  exact f.done rp (vr m H)
theorem e_constO {o : Option D} {y : D → V} {e : Expr} (h : ∀ d, o = some d → PE X e (tC (y d))) (vr : ∀ d, o = some d → ∀ m H, VR W m H d (y d)) : PE X e (lift W fun _ S => optR o S) := by
  cases o with
  | none => exact ⟨fun pins s σ H Q I q => by
      obtain ⟨m, e, S, w, S', er, rp, h, f⟩ := q
      cases h⟩
  | some d => exact e_const (h d rfl) (vr d rfl)
theorem e_var {i : Nat} {x : Str} (hN : X.N[i]? = some x) (hv : Vis X.env.scope x) (hd : (x == ("__debug__" : Str)) = false) (hcd : (x == ("__classdict__" : Str)) = false) :
    PE X (.Name x pos) (lift W fun e S => optR ((e[i]?).bind id) S) := by
  refine pe_imp (pe_var hN hv hd hcd) fun σ H Q h => ?_
  obtain ⟨m, e, S, w, S', er, rp, h, f⟩ := h
  obtain ⟨h1, rfl⟩ := optR_ok h
  cases q : e[i]? with
  | none =>
    rw [q] at h1
    cases h1
  | some o =>
    rw [q] at h1
    have h2 : o = some w := h1
    subst h2
    obtain ⟨y, hy, vr⟩ := er.at_ i w q
    exact ⟨y, hy, f.done rp vr⟩
theorem e_two {e : Expr} {r : R2} {g : D → D → Sto → R D} (hr : S2 W r g) (h : PE X e (tOp r (lift W fa) (lift W fb))) :
    PE X e (lift W fun e S => (fa e S).bind fun x S1 => (fb e S1).bind fun y S2 => g x y S2) := by
  refine pe_imp h fun σ H Q h => ?_
  obtain ⟨m, e, S, w, S', er, rp, h, f⟩ := h
  obtain ⟨x, S1, h1, h⟩ := R.bind_eq h
  obtain ⟨y, S2, h2, h3⟩ := R.bind_eq h
  refine ⟨m, e, S, x, S1, er, rp, h1, fun X1 H1 m1 x1 r1 v1 => ?_⟩
  refine ⟨m1, e, S1, y, S2, er.to x1, r1, h2, fun Y1 H2 m2 x2 r2 v2 => ?_⟩
  exact hr m2 H2 S2 x y X1 Y1 w S' Q r2 (v1.to x2) v2 h3 (f.to (x1.trans x2))
theorem e_neg (ha : PE X a (lift W fa)) : PE X (.UnaryOp .USub a pos) (lift W fun e S => (fa e S).bind fun x S1 => match x with
    | .int i => .ok (.int (-i)) S1
    | _ => .bad) := by
  refine pe_imp (pe_un un_neg ha) fun σ H Q h => ?_
  obtain ⟨m, e, S, w, S', er, rp, h, f⟩ := h
  obtain ⟨x, S1, h1, h⟩ := R.bind_eq h
  refine ⟨m, e, S, x, S1, er, rp, h1, fun X1 H1 m1 x1 r1 v1 => ?_⟩
  cases x with
  | int i =>
    obtain ⟨rfl, rfl⟩ := ok_inj h
    exact ⟨i, vr_int v1, (f.to x1).done r1 (.int _)⟩
  | _ => cases h
/-- a comparison gives a truth value -/
theorem cmp_bl {cds : Nat → List (Str × D)} {op : CmpOp} {x y v : D} {S S' : Sto} (h : cmpD cds op x y S = .ok v S') : ∃ bo, v = .bl bo ∧ S = S' := by
  have e : ∀ {neg : Bool}, eqD neg x y S = .ok v S' → ∃ bo, v = .bl bo ∧ S = S' := fun {neg} h => by
    unfold eqD at h
    split at h
    · obtain ⟨rfl, rfl⟩ := ok_inj h
      exact ⟨_, rfl, rfl⟩
    · obtain ⟨rfl, rfl⟩ := ok_inj h
      exact ⟨_, rfl, rfl⟩
    · split at h
      · split at h
        · obtain ⟨rfl, rfl⟩ := ok_inj h
          exact ⟨_, rfl, rfl⟩
        · cases h
      · cases h
  have i : ∀ {neg : Bool}, isD neg x y S = .ok v S' → ∃ bo, v = .bl bo ∧ S = S' := fun {neg} h => by
    unfold isD at h
    split at h
    · obtain ⟨rfl, rfl⟩ := ok_inj h
      exact ⟨_, rfl, rfl⟩
    · obtain ⟨rfl, rfl⟩ := ok_inj h
      exact ⟨_, rfl, rfl⟩
    · cases h
  have n : ∀ {neg : Bool}, inD cds neg x y S = .ok v S' → ∃ bo, v = .bl bo ∧ S = S' := fun {neg} h => by
    unfold inD at h
    split at h
    · obtain ⟨rfl, rfl⟩ := ok_inj h
      exact ⟨_, rfl, rfl⟩
    · split at h
      · obtain ⟨rfl, rfl⟩ := ok_inj h
        exact ⟨_, rfl, rfl⟩
      · cases h
    · split at h
      · obtain ⟨rfl, rfl⟩ := ok_inj h
        exact ⟨_, rfl, rfl⟩
      · split at h
        · split at h
          · split at h
            · obtain ⟨rfl, rfl⟩ := ok_inj h
              exact ⟨_, rfl, rfl⟩
            · cases h
          · cases h
        · cases h
  cases op with
  | Eq => exact e h
  | NotEq => exact e h
  | Is => exact i h
  | IsNot => exact i h
  | In => exact n h
  | NotIn => exact n h
  | _ =>
    simp only [cmpD] at h
    split at h <;> first | cases h | skip
    exact ⟨_, rfl, rfl⟩
theorem t_cmp {e : Expr} {r : R2} {cds : Nat → List (Str × D)} {op : CmpOp} (hr : S2 W r (cmpD cds op)) (h : PT X e (tTest (tOp r (lift W fa) (lift W fb)))) :
    PT X e (liftT W fun e S => ((fa e S).bind fun x S1 => (fb e S1).bind fun y S2 => cmpD cds op x y S2).bind fun x S1 => truthR x S1) := by
  refine pt_imp h fun σ H Q h => ?_
  obtain ⟨m, e, S, w, S', er, rp, h, f⟩ := h
  obtain ⟨v, S3, h0, h4⟩ := R.bind_eq h
  obtain ⟨x, S1, h1, h⟩ := R.bind_eq h0
  obtain ⟨y, S2, h2, h3⟩ := R.bind_eq h
  refine ⟨m, e, S, x, S1, er, rp, h1, fun X1 H1 m1 x1 r1 v1 => ?_⟩
  refine ⟨m1, e, S1, y, S2, er.to x1, r1, h2, fun Y1 H2 m2 x2 r2 v2 => ?_⟩
  obtain ⟨bo, rfl, rfl⟩ := cmp_bl h3
  obtain ⟨h5, rfl⟩ := truthR_ok h4
  cases h5
  refine hr m2 H2 S2 x y X1 Y1 (.bl w) S2 _ r2 (v1.to x2) v2 h3 fun z H3 m3 x3 r3 v3 => ?_
  exact ⟨w, vr_bl v3, f H3 m3 ((x1.trans x2).trans x3) r3⟩
def chnD (cds : Nat → List (Str × D)) (o1 o2 : CmpOp) (fa fb fc : En → Sto → R D) : En → Sto → R D := fun e S => (fa e S).bind fun x S1 => (fb e S1).bind fun y S2 => (cmpD cds o1 x y S2).bind fun z S3 => match z with
  | .bl true => (fc e S3).bind fun w S4 => cmpD cds o2 y w S4
  | .bl false => .ok (.bl false) S3
  | _ => .bad
theorem s_chn {cds : Nat → List (Str × D)} {o1 o2 : CmpOp} {r1 r2 : R2} (hr1 : S2 W r1 (cmpD cds o1)) (hr2 : S2 W r2 (cmpD cds o2)) {σ : St} {H : Hp} {Q : VK} (h : lift W (chnD cds o1 o2 fa fb fc) σ H Q) :
    tChain r1 r2 (lift W fa) (lift W fb) (lift W fc) σ H Q := by
  obtain ⟨m, e, S, w, S', er, rp, h, f⟩ := h
  obtain ⟨x, S1, h1, h⟩ := R.bind_eq h
  obtain ⟨y, S2, h2, h⟩ := R.bind_eq h
  obtain ⟨z, S3, h3, h4⟩ := R.bind_eq h
  refine ⟨m, e, S, x, S1, er, rp, h1, fun X1 H1 m1 x1 r1 v1 => ?_⟩
  refine ⟨m1, e, S1, y, S2, er.to x1, r1, h2, fun Y1 H2 m2 x2 r2 v2 => ?_⟩
  obtain ⟨b0, e1, e2⟩ := cmp_bl h3
  subst e1 e2
  refine hr1 m2 H2 S2 x y X1 Y1 (.bl b0) S2 _ r2 (v1.to x2) v2 h3 fun z H3 m3 x3 r3 v3 => ?_
  refine ⟨b0, vr_bl v3, ?_⟩
  cases b0 with
  | true =>
    rw [if_pos rfl]
    obtain ⟨u, S4, h5, h6⟩ := R.bind_eq h4
    refine ⟨m3, e, S2, u, S4, ((er.to x1).to x2).to x3, r3, h5, fun Z1 H4 m4 x4 r4 v4 => ?_⟩
    exact hr2 m4 H4 S4 y u Y1 Z1 w S' Q r4 (v2.to (x3.trans x4)) v4 h6 (f.to (((x1.trans x2).trans x3).trans x4))
  | false =>
    rw [if_neg Bool.false_ne_true]
    obtain ⟨rfl, rfl⟩ := ok_inj h4
    exact (f.to ((x1.trans x2).trans x3)).done r3 (.bl _)
theorem e_chn {e : Expr} {cds : Nat → List (Str × D)} {o1 o2 : CmpOp} {r1 r2 : R2} (hr1 : S2 W r1 (cmpD cds o1)) (hr2 : S2 W r2 (cmpD cds o2)) (h : PE X e (tChain r1 r2 (lift W fa) (lift W fb) (lift W fc))) :
    PE X e (lift W (chnD cds o1 o2 fa fb fc)) := pe_imp h fun σ H Q h => s_chn hr1 hr2 h
theorem t_chn {e : Expr} {cds : Nat → List (Str × D)} {o1 o2 : CmpOp} {r1 r2 : R2} (hr1 : S2 W r1 (cmpD cds o1)) (hr2 : S2 W r2 (cmpD cds o2)) (h : PT X e (tTest (tChain r1 r2 (lift W fa) (lift W fb) (lift W fc)))) :
    PT X e (liftT W fun e S => (chnD cds o1 o2 fa fb fc e S).bind fun x S1 => truthR x S1) := by
  refine pt_imp h fun σ H Q h => ?_
  obtain ⟨m, e, S, w, S', er, rp, h, f⟩ := h
  obtain ⟨v, S3, h0, h4⟩ := R.bind_eq h
  have hv : ∃ bo, v = .bl bo := by
    obtain ⟨x, S1, h1, h⟩ := R.bind_eq h0
    obtain ⟨y, S2, h2, h⟩ := R.bind_eq h
    obtain ⟨z, S5, h3, h5⟩ := R.bind_eq h
    obtain ⟨b0, e1, e2⟩ := cmp_bl h3
    subst e1 e2
    cases b0 with
    | true =>
      obtain ⟨u, S4, h6, h7⟩ := R.bind_eq h5
      obtain ⟨b2, e2, _⟩ := cmp_bl h7
      exact ⟨b2, e2⟩
    | false =>
      obtain ⟨rfl, rfl⟩ := ok_inj h5
      exact ⟨_, rfl⟩
  obtain ⟨b0, e0⟩ := hv
  subst e0
  obtain ⟨h5, h6⟩ := truthR_ok h4
  subst h6
  have h7 : b0 = w := Option.some.inj h5
  subst h7
  exact s_chn hr1 hr2 ⟨m, e, S, _, _, er, rp, h0, fun z H3 m3 x3 r3 v3 => ⟨b0, vr_bl v3, f H3 m3 x3 r3⟩⟩
/-! ### not, and, or, if -/
variable {ta tb : En → Sto → R Bool}
theorem t_not (ha : PT X a (liftT W ta)) : PT X (.UnaryOp .Not a pos) (liftT W fun e S => (ta e S).bind fun b S1 => .ok (!b) S1) := by
  refine pt_imp (pt_not ha) fun σ H Q h => ?_
  obtain ⟨m, e, S, w, S', er, rp, h, f⟩ := h
  obtain ⟨v, S1, h1, h2⟩ := R.bind_eq h
  obtain ⟨rfl, rfl⟩ := ok_inj h2
  exact ⟨m, e, S, v, S1, er, rp, h1, fun H' m' x r => f H' m' x r⟩
theorem e_not (ha : PE X a (lift W fa)) : PE X (.UnaryOp .Not a pos) (lift W fun e S => (fa e S).bind fun x S1 => match x with
    | .bl b => .ok (.bl (!b)) S1
    | _ => .bad) := by
  refine pe_imp (pe_not ha) fun σ H Q h => ?_
  obtain ⟨m, e, S, w, S', er, rp, h, f⟩ := h
  obtain ⟨x, S1, h1, h⟩ := R.bind_eq h
  refine ⟨m, e, S, x, S1, er, rp, h1, fun X1 H1 m1 x1 r1 v1 => ?_⟩
  cases x with
  | bl i =>
    obtain ⟨rfl, rfl⟩ := ok_inj h
    exact ⟨i, vr_bl v1, (f.to x1).done r1 (.bl _)⟩
  | _ => cases h
theorem e_ife (ht : PT X c (liftT W ta)) (ha : PE X a (lift W fa)) (hb : PE X b (lift W fb)) : PE X (.IfExp c a b pos) (lift W fun e S => (ta e S).bind fun t S1 => if t = true then fa e S1 else fb e S1) := by
  refine pe_imp (pe_ifExp ht ha hb) fun σ H Q h => ?_
  obtain ⟨m, e, S, w, S', er, rp, h, f⟩ := h
  obtain ⟨t, S1, h1, h⟩ := R.bind_eq h
  refine ⟨m, e, S, t, S1, er, rp, h1, fun H1 m1 x1 r1 => ?_⟩
  cases t with
  | true =>
    rw [if_pos rfl] at h ⊢
    exact ⟨m1, e, S1, w, S', er.to x1, r1, h, f.to x1⟩
  | false =>
    rw [if_neg Bool.false_ne_true] at h ⊢
    exact ⟨m1, e, S1, w, S', er.to x1, r1, h, f.to x1⟩
theorem w_and1 (ha : PT X a (liftT W ta)) : PW X (.BoolOp .And [a] pos) (liftT W fun e S => (ta e S).bind fun b S1 => if b = true then .ok true S1 else .ok false S1) := by
  refine pw_imp (pw_and1 ha) fun σ H Q h => ?_
  obtain ⟨m, e, S, w, S', er, rp, h, f⟩ := h
  obtain ⟨t, S1, h1, h⟩ := R.bind_eq h
  cases t <;> (obtain ⟨rfl, rfl⟩ := ok_inj h; exact ⟨m, e, S, _, S1, er, rp, h1, f⟩)
theorem w_or1 (ha : PT X a (liftT W ta)) : PW X (.BoolOp .Or [a] pos) (liftT W fun e S => (ta e S).bind fun b S1 => if b = true then .ok true S1 else .ok false S1) := by
  refine pw_imp (pw_or1 ha) fun σ H Q h => ?_
  obtain ⟨m, e, S, w, S', er, rp, h, f⟩ := h
  obtain ⟨t, S1, h1, h⟩ := R.bind_eq h
  cases t <;> (obtain ⟨rfl, rfl⟩ := ok_inj h; exact ⟨m, e, S, _, S1, er, rp, h1, f⟩)
theorem w_and {rest : List Expr} (ha : PT X a (liftT W ta)) (hb : PW X (.BoolOp .And (b :: rest) pos) (liftT W tb)) :
    PW X (.BoolOp .And (a :: b :: rest) pos) (liftT W fun e S => (ta e S).bind fun b S1 => if b = true then tb e S1 else .ok false S1) := by
  refine pw_imp (pw_and ha hb) fun σ H Q h => ?_
  obtain ⟨m, e, S, w, S', er, rp, h, f⟩ := h
  obtain ⟨t, S1, h1, h⟩ := R.bind_eq h
  refine ⟨m, e, S, t, S1, er, rp, h1, fun H1 m1 x1 r1 => ?_⟩
  cases t with
  | true =>
    rw [if_pos rfl] at h ⊢
    exact ⟨m1, e, S1, w, S', er.to x1, r1, h, fun H' m' x r => f H' m' (x1.trans x) r⟩
  | false =>
    rw [if_neg Bool.false_ne_true] at h ⊢
    obtain ⟨rfl, rfl⟩ := ok_inj h
    exact f H1 m1 x1 r1
theorem w_or {rest : List Expr} (ha : PT X a (liftT W ta)) (hb : PW X (.BoolOp .Or (b :: rest) pos) (liftT W tb)) :
    PW X (.BoolOp .Or (a :: b :: rest) pos) (liftT W fun e S => (ta e S).bind fun b S1 => if b = true then .ok true S1 else tb e S1) := by
  refine pw_imp (pw_or ha hb) fun σ H Q h => ?_
  obtain ⟨m, e, S, w, S', er, rp, h, f⟩ := h
  obtain ⟨t, S1, h1, h⟩ := R.bind_eq h
  refine ⟨m, e, S, t, S1, er, rp, h1, fun H1 m1 x1 r1 => ?_⟩
  cases t with
  | true =>
    rw [if_pos rfl] at h ⊢
    obtain ⟨rfl, rfl⟩ := ok_inj h
    exact f H1 m1 x1 r1
  | false =>
    rw [if_neg Bool.false_ne_true] at h ⊢
    exact ⟨m1, e, S1, w, S', er.to x1, r1, h, fun H' m' x r => f H' m' (x1.trans x) r⟩
theorem v_and {rest : List Expr} (ha : PE X a (lift W fa)) (hb : PE X (.BoolOp .And (b :: rest) pos) (lift W fb)) :
    PE X (.BoolOp .And (a :: b :: rest) pos) (lift W fun e S => (fa e S).bind fun x S1 => match x with
      | .bl true => fb e S1
      | .bl false => .ok (.bl false) S1
      | _ => .bad) := by
  refine pe_imp (pe_and ha hb) fun σ H Q h => ?_
  obtain ⟨m, e, S, w, S', er, rp, h, f⟩ := h
  obtain ⟨x, S1, h1, h⟩ := R.bind_eq h
  refine ⟨m, e, S, x, S1, er, rp, h1, fun X1 H1 m1 x1 r1 v1 => ?_⟩
  cases x with
  | bl t =>
    refine ⟨t, vr_bl v1, ?_⟩
    cases t with
    | true =>
      rw [if_pos rfl]
      exact ⟨m1, e, S1, w, S', er.to x1, r1, h, f.to x1⟩
    | false =>
      rw [if_neg Bool.false_ne_true]
      obtain ⟨rfl, rfl⟩ := ok_inj h
      exact (f.to x1).done r1 (.bl _)
  | _ => cases h
theorem v_or {rest : List Expr} (ha : PE X a (lift W fa)) (hb : PE X (.BoolOp .Or (b :: rest) pos) (lift W fb)) :
    PE X (.BoolOp .Or (a :: b :: rest) pos) (lift W fun e S => (fa e S).bind fun x S1 => match x with
      | .bl true => .ok (.bl true) S1
      | .bl false => fb e S1
      | _ => .bad) := by
  refine pe_imp (pe_or ha hb) fun σ H Q h => ?_
  obtain ⟨m, e, S, w, S', er, rp, h, f⟩ := h
  obtain ⟨x, S1, h1, h⟩ := R.bind_eq h
  refine ⟨m, e, S, x, S1, er, rp, h1, fun X1 H1 m1 x1 r1 v1 => ?_⟩
  cases x with
  | bl t =>
    refine ⟨t, vr_bl v1, ?_⟩
    cases t with
    | true =>
      rw [if_pos rfl]
      obtain ⟨rfl, rfl⟩ := ok_inj h
      exact (f.to x1).done r1 (.bl _)
    | false =>
      rw [if_neg Bool.false_ne_true]
      exact ⟨m1, e, S1, w, S', er.to x1, r1, h, f.to x1⟩
  | _ => cases h
/-! ### lists of arguments, displays -/
theorem a_nil : PA X [] (liftA W fun _ S => .ok [] S) := by
  refine pa_imp pa_nil fun σ H Q h => ?_
  obtain ⟨m, e, S, w, S', er, rp, h, f⟩ := h
  obtain ⟨rfl, rfl⟩ := ok_inj h
  exact f [] H m .refl rp .nil
theorem a_cons {xs : List Expr} {fs : En → Sto → R (List D)} (ha : PE X a (lift W fa)) (hs : PA X xs (liftA W fs)) (hst : starEach (a :: xs) X.env = (false, eval a X.env) :: starEach xs X.env) :
    PA X (a :: xs) (liftA W fun e S => (fa e S).bind fun x S1 => (fs e S1).bind fun ys S2 => .ok (x :: ys) S2) := by
  refine pa_imp (pa_cons ha hs hst) fun σ H Q h => ?_
  obtain ⟨m, e, S, w, S', er, rp, h, f⟩ := h
  obtain ⟨x, S1, h1, h⟩ := R.bind_eq h
  obtain ⟨ys, S2, h2, h3⟩ := R.bind_eq h
  obtain ⟨rfl, rfl⟩ := ok_inj h3
  refine ⟨m, e, S, x, S1, er, rp, h1, fun X1 H1 m1 x1 r1 v1 => ?_⟩
  refine ⟨m1, e, S1, ys, S2, er.to x1, r1, h2, fun Y1 H2 m2 x2 r2 v2 => ?_⟩
  exact f _ H2 m2 (x1.trans x2) r2 (.cons (v1.to x2) v2)
/-- so many come out as go in -/
theorem es_len {C : Cxt} : ∀ {xs : List Expr} {g : Expr → Option E} {es : Es}, trs g xs = some es → ∀ {e : En} {S S' : Sto} {vs : List D}, evEs C es e S = .ok vs S' → vs.length = xs.length
  | [], g, es, h, e, S, S', vs, q => by
    cases h
    obtain ⟨rfl, rfl⟩ := ok_inj q
    rfl
  | x :: xs, g, es, h, e, S, S', vs, q => by
    unfold trs at h
    split at h
    · rename_i a as h1 h2
      cases h
      obtain ⟨y, S1, q1, q⟩ := R.bind_eq q
      obtain ⟨ys, S2, q2, q3⟩ := R.bind_eq q
      obtain ⟨rfl, rfl⟩ := ok_inj q3
      rw [List.length_cons, List.length_cons, es_len h2 q2]
    · cases h
theorem e_tup {xs : List Expr} {fs : En → Sto → R (List D)} {k : Nat} (hs : PA X xs (liftA W fs)) (hl : ∀ e S vs S', fs e S = .ok vs S' → vs.length < 10000) :
    PE X (.Tuple xs k pos) (lift W fun e S => (fs e S).bind fun vs S1 => .ok (.tup vs) S1) := by
  refine pe_imp (pe_tup hs) fun σ H Q h => ?_
  obtain ⟨m, e, S, w, S', er, rp, h, f⟩ := h
  obtain ⟨vs, S1, h1, h2⟩ := R.bind_eq h
  obtain ⟨rfl, rfl⟩ := ok_inj h2
  refine ⟨m, e, S, vs, S1, er, rp, h1, fun ys H1 m1 x1 r1 v1 => ⟨?_, fun p hp => (f.to x1).tup r1 v1 hp⟩⟩
  have h3 := hl e S vs S1 h1
  rw [← v1.length, sizeLine_eq]
  omega
theorem e_lst {xs : List Expr} {fs : En → Sto → R (List D)} (hs : PA X xs (liftA W fs)) (hl : ∀ e S vs S', fs e S = .ok vs S' → vs.length < 10000) :
    PE X (.List xs pos) (lift W fun e S => (fs e S).bind fun vs S1 => .ok (.ref S1.length) (S1 ++ [.lst vs])) := by
  refine pe_imp (pe_lst hs) fun σ H Q h => ?_
  obtain ⟨m, e, S, w, S', er, rp, h, f⟩ := h
  obtain ⟨vs, S1, h1, h2⟩ := R.bind_eq h
  obtain ⟨rfl, rfl⟩ := ok_inj h2
  refine ⟨m, e, S, vs, S1, er, rp, h1, fun ys H1 m1 x1 r1 v1 => ⟨?_, fun p hp => (f.to x1).lst r1 v1 hp⟩⟩
  have h3 := hl e S vs S1 h1
  rw [← v1.length, sizeLine_eq]
  omega
theorem e_dK : PE X (.Dict [] [] pos) (lift W fun _ S => .ok (.ref S.length) (S ++ [.dK []])) := by
  refine pe_imp pe_dnewK fun σ H Q h => ?_
  obtain ⟨m, e, S, w, S', er, rp, h, f⟩ := h
  obtain ⟨rfl, rfl⟩ := ok_inj h
  exact fun p hp => f.new rp hp ⟨[], upd_same, .nil⟩
theorem e_dT : PE X (.Dict [] [] pos) (lift W fun _ S => .ok (.ref S.length) (S ++ [.dT []])) := by
  refine pe_imp pe_dnewT fun σ H Q h => ?_
  obtain ⟨m, e, S, w, S', er, rp, h, f⟩ := h
  obtain ⟨rfl, rfl⟩ := ok_inj h
  exact fun p hp => f.new rp hp ⟨[], upd_same, .nil⟩
end
end Mi
set_option Elab.async false
set_option linter.all false
set_option maxRecDepth 100000
/-! M7b: room counted call by call. -/
namespace Mi
open PySem PySem.Spec L2
open PyProof.Rows hiding St
/-- room for so many calls in one another -/
structure Rm (k : Nat) (A : Around) : Prop where
  h0 : A.handled = none
  d0 : A.depth + k + 1 < recursionLimit
  u0 : A.units + 5 * k + 300 < cLine
theorem Rm.less {i k : Nat} {A : Around} (r : Rm k A) (h : i ≤ k) : Rm i A := ⟨r.h0, by have := r.d0; omega, by have := r.u0; omega⟩
theorem Rm.sub {k : Nat} {A : Around} (r : Rm (k + 1) A) (env : Env) : Rm k (A.deeper env) := by
  obtain ⟨a, b, c⟩ := r
  refine ⟨a, ?_, ?_⟩
  · show A.depth + 1 + k + 1 < recursionLimit
    omega
  · show A.units + 3 + 5 * k + 300 < cLine
    omega
theorem Rm.new {k : Nat} {A : Around} (r : Rm (k + 1) A) (C : Addr) (us : List Value) (kw : List (Str × Value)) : Rm k (A.under (.builtin "type.__call__" ⟨.ref C :: us, kw⟩)) := by
  obtain ⟨a, b, c⟩ := r
  refine ⟨a, ?_, ?_⟩
  · rw [make_depth]
    omega
  · rw [make_units]
    omega
theorem Rm.low {k : Nat} {A : Around} (r : Rm k A) : A.depth < recursionLimit := by
  have := r.d0
  omega
/-- a def's promise where there is such room -/
structure FnR (P : Program) (w : World) (K : PySem.W.Frag) (mg : Str → Option Value) (base : Heap) (CX : CXT) (k : Nat) (f : Addr) (fd : FuncData) (ps : List Str) (sp : Sp) : Prop where
  many : ∀ vs H Q E, sp vs H Q E → vs.length = ps.length
  goes : ∀ (A : Around) (up : List Env) (s : Shared) (H : Hp) (gs : Args) (us : List Value) (vs : List V) (Q : VK) (E : XK), Rm k A → Env0 P w K mg base A up s H → BindsTo s fd gs (ps.zip us) → Vals vs us → sp vs H Q E →
    codeAny (model P w) A (.call (.ref f) gs) (CR CX up P w H s Q E) s
section
variable {P : Program} {w : World} {K : PySem.W.Frag} {mg : Str → Option Value} {base : Heap} {CX : CXT} {i k : Nat} {f : Addr} {fd : FuncData} {ps : List Str} {sp : Sp}
theorem FnR.more (F : FnR P w K mg base CX i f fd ps sp) (h : i ≤ k) : FnR P w K mg base CX k f fd ps sp :=
  ⟨F.many, fun A up s H gs us vs Q E r => F.goes A up s H gs us vs Q E (r.less h)⟩
/-- at the foot of all calls -/
theorem FnR.top (F : FnR P w K mg base CX 697 f fd ps sp) : FnOk P w K mg base CX 231 f fd ps sp :=
  ⟨F.many, fun A up s H gs us vs Q E r => F.goes A up s H gs us vs Q E ⟨r.hd, by have := r.dp; unfold recursionLimit at *; omega, by have := r.un; unfold cLine at *; omega⟩⟩
end
theorem room_top : Room 231 callerA := ⟨rfl, by decide +kernel, by decide +kernel⟩
section
variable {X : Cx} {pins : List (Addr × Obj)} {σ : St} {H : Hp} {s s' : Shared} {k : Nat} {f C : Addr} {fd : FuncData} {ps : List Str} {sp : Sp} {x : Str} {p pos : Pos} {b : Expr} {bs : List Expr} {t : TA}
/-- what a callee ends with -/
theorem back {Q : VK} {E : XK} {r : Result} (hx : Passes CX0 X E) (I : Inv X pins σ H s) (h : CR CX0 X.stack X.prog X.w H s Q E r s') : (match r with
    | .error e => X.xe e s'
    | .ok (.ret u) => EP X pins σ Q u s'
    | .ok _ => False) := by
  cases r with
  | error e => exact hx pins σ H s e s' I h
  | ok o => cases o <;> first | exact I.after h | exact h
theorem goR_fn {Q : VK} {us : List Value} {vs : List V} (F : FnR X.prog X.w X.K X.mg X.base CX0 k f fd ps sp) (r : Rm k X.A) (hb : Binds X.K fd ps []) (I : Inv X pins σ H s) (v : Vals vs us) (h : sp (vs ++ []) H Q E0) :
    wpAny (model X.prog X.w) X.A (call (.ref f) us) (EP X pins σ Q) X.xe s := by
  have v2 : Vals (vs ++ []) (us ++ []) := v.append .nil
  have hl : (us ++ []).length = ps.length := v2.length.symm.trans (F.many _ _ _ _ h)
  refine wpAny_call (codeAny_mono (F.goes _ _ _ _ ⟨us, []⟩ _ _ _ _ r I.env0 (hb s us I.kIn hl) v2 h) fun r s' q => ?_)
  have z := back pass0 I q
  cases r with
  | error e => exact z
  | ok o => cases o <;> exact z
theorem goR_make {Q : VK} {us : List Value} {vs : List V} (M : Mk X.K C f) (F : FnR X.prog X.w X.K X.mg X.base CX0 k f fd ps sp) (r : Rm (k + 1) X.A) (hb : Binds X.K fd ps []) (I : Inv X pins σ H s) (v : Vals vs us)
    (h : ∀ y dy, H y = none → H dy = none → dy ≠ y → sp (.ref y :: (vs ++ [])) (upd (upd H dy (.own y)) y (.ins C dy [])) (fun z H2 => z = .non ∧ Q (.ref y) H2) E0) : wpAny (model X.prog X.w) X.A (call (.ref C) us) (EP X pins σ Q) X.xe s := by
  have q := h (s.heap.objs.size + 1) s.heap.objs.size (I.hok.fresh (Nat.le_succ _)) (I.hok.fresh (Nat.le_refl _)) (Nat.ne_of_lt (Nat.lt_succ_self _))
  have J := Inv.made (C := C) I
  have v2 : Vals (V.ref (s.heap.objs.size + 1) :: (vs ++ [])) (Value.ref (s.heap.objs.size + 1) :: (us ++ [])) := .cons rfl (v.append .nil)
  have hl : (Value.ref (s.heap.objs.size + 1) :: us ++ []).length = ps.length := v2.length.symm.trans (F.many _ _ _ _ q)
  refine wpAny_call (make_map (f := f) I.kIn M.makes M.init (beq_iff_eq.mp M.fn) (codeAny_mono (F.goes _ _ _ _ ⟨_ :: us, []⟩ _ _ _ _ (r.new C us []) (J.env0.make C us []) (hb _ (_ :: us) J.kIn hl) v2 q) fun r s' q2 => ?_))
  have z := back pass0 J q2
  cases r with
  | error e => exact z
  | ok o =>
    cases o with
    | ret u =>
      obtain ⟨z, H', J2, rz, ez, q3⟩ := z
      subst ez
      exact ⟨rz, V.ref (s.heap.objs.size + 1), H', J2, rfl, q3⟩
    | next => exact z.elim
    | brk => exact z.elim
    | cont => exact z.elim
theorem peR_call (F : FnR X.prog X.w X.K X.mg X.base CX0 k f fd ps sp) (r : Rm k X.A) (hg : Gl X x) (hm : X.mg x = some (.ref f)) (hk : PySem.W.keepIn X.K (.ref f) = true) (hb : Binds X.K fd ps []) (ha : PA X (b :: bs) t) (hdb : (x == ("__debug__" : Str)) = false)
    (h1 : starEach (b :: bs) X.env = (false, eval b X.env) :: starEach bs X.env) (h2 : (backTo pos (starEach bs X.env)).any (·.1) = false) : PE X (.Call (.Name x p) (b :: bs) [] pos) (tCall sp [] E0 t) :=
  ⟨fun pins s σ H Q I h => wpAny_Call_Name_kw (ld_glob I hg hm (PySem.W.callWith_K (h₀ := X.base) I.ok.mod.kin hk (thn (ha.run pos pins s σ H _ I h) fun us s1 ⟨vs, H1, J, v, q⟩ => ⟨J.kIn, goR_fn F r hb J v q⟩) h1 h2) hdb)⟩
theorem peR_call0 (F : FnR X.prog X.w X.K X.mg X.base CX0 k f fd ps sp) (r : Rm k X.A) (hg : Gl X x) (hm : X.mg x = some (.ref f)) (hk : PySem.W.keepIn X.K (.ref f) = true) (hb : Binds X.K fd ps []) (hdb : (x == ("__debug__" : Str)) = false) :
    PE X (.Call (.Name x p) [] [] pos) (tCall sp [] E0 tNil) :=
  ⟨fun pins s σ H Q I h => wpAny_Call_Name_kw (ld_glob I hg hm (PySem.W.callWith_K0 I.kIn hk (goR_fn (us := []) F r hb I .nil h)) hdb)⟩
theorem peR_make (M : Mk X.K C f) (F : FnR X.prog X.w X.K X.mg X.base CX0 k f fd ps sp) (r : Rm (k + 1) X.A) (hg : Gl X x) (hm : X.mg x = some (.ref C)) (hb : Binds X.K fd ps []) (ha : PA X (b :: bs) t) (hdb : (x == ("__debug__" : Str)) = false)
    (h1 : starEach (b :: bs) X.env = (false, eval b X.env) :: starEach bs X.env) (h2 : (backTo pos (starEach bs X.env)).any (·.1) = false) : PE X (.Call (.Name x p) (b :: bs) [] pos) (tMake C sp [] E0 t) :=
  ⟨fun pins s σ H Q I h => wpAny_Call_Name_kw (ld_glob I hg hm (PySem.W.callWith_K (h₀ := X.base) I.ok.mod.kin M.kp (thn (ha.run pos pins s σ H _ I h) fun us s1 ⟨vs, H1, J, v, q⟩ => ⟨J.kIn, goR_make M F r hb J v q⟩) h1 h2) hdb)⟩
theorem peR_make0 (M : Mk X.K C f) (F : FnR X.prog X.w X.K X.mg X.base CX0 k f fd ps sp) (r : Rm (k + 1) X.A) (hg : Gl X x) (hm : X.mg x = some (.ref C)) (hb : Binds X.K fd ps []) (hdb : (x == ("__debug__" : Str)) = false) :
    PE X (.Call (.Name x p) [] [] pos) (tMake C sp [] E0 tNil) :=
  ⟨fun pins s σ H Q I h => wpAny_Call_Name_kw (ld_glob I hg hm (PySem.W.callWith_K0 I.kIn M.kp (goR_make (us := []) M F r hb I .nil h)) hdb)⟩
end
/-- a def, by its body -/
theorem FunD.okR {P : Program} {w : World} {K : PySem.W.Frag} {mg : Str → Option Value} {base : Heap} {x qual : Str} {params : Arguments} {body : List Stmt} {scope : Scope} {dvs : List V} {kws : List (Str × V)} {f : Addr} {fd : FuncData} {CX : CXT} {N ps : List Str} {k : Nat} {sp : Sp}
    (F : FunD K x qual params body scope dvs kws f fd) (S : FnScope N ps scope) (many : ∀ vs H Q E, sp vs H Q E → vs.length = ps.length)
    (hb : ∀ (cd : Value) (A : Around) (up : List Env) (s : Shared) (H : Hp) (vs : List V) (Q : VK) (E : XK), Rm k (A.deeper (envOfC qual scope s.heap.objs.size f cd)) → sp vs H Q E →
      ∃ t, PSs (cxOf CX P w K mg base N qual scope f cd A up s H E) body t ∧ t { nx := fun _ H' => Q .non H', rt := Q } (start N vs) H) : FnR P w K mg base CX (k + 1) f fd ps sp := by
  obtain ⟨oc, od, dV, kV, doc, pm, an, cd, ct, osl, rfl, lk, hcd, _, _⟩ := F.ex
  refine ⟨many, fun A up s H gs us vs Q E r e0 hbs v hsp => ?_⟩
  have ln := many _ _ _ _ hsp
  have KX : K.In s.heap := e0.mod.kin.keeps fun b o e => (e0.bs b o e).1
  have nl : s.heap.NoLimit := e0.mod.nolimit.keeps fun b o e => (e0.bs b o e).1
  have kinds : ∀ y ∈ ps.zip us, scope.names.lookup y.1 = some .local ∨ (scope.names.lookup y.1 = some .cell ∧ ((cellsFrom (s.heap.objs.size + 1) scope.names []).lookup y.1).isSome = true) := fun y hy =>
    (S.par y.1 (List.of_mem_zip hy).1).imp_right fun q => ⟨q, PySem.W.cellsFrom_some _ _ _ (.inl q)⟩
  refine codeAny_call_function r.low (KX _ _ lk) rfl S.co S.gen rfl (PySem.W.codeRec_of KX hcd) (hbs _ _ _ _ ?_)
  refine wpAny_newFunctionEnv_cells S.kind kinds fun env he s1 z => ?_
  subst he
  obtain ⟨t, pt, ht⟩ := hb cd A up s H vs Q E (r.sub _) hsp
  refine ⟨nl.keeps z.toInCall.keep, codeAny_func ?_⟩
  refine wpAny_mono (pt.run [] s1 (start N vs) H _ (inv_start S r.h0 e0 ln v z) ht) (fun o s' q => ?_) fun _ _ q => q
  cases o with
  | ret u =>
    obtain ⟨y, _, H', J, ry, qy⟩ := q
    exact ⟨y, H', J.os, J.bare, J.base, J.hok, ry, qy⟩
  | next =>
    obtain ⟨_, H', J, qy⟩ := q
    exact ⟨V.non, H', J.os, J.bare, J.base, J.hok, rfl, qy⟩
  | brk =>
    obtain ⟨_, _, _, q⟩ := q
    exact q.elim
  | cont =>
    obtain ⟨_, _, _, q⟩ := q
    exact q.elim
end Mi
set_option Elab.async false
set_option linter.all false
set_option maxRecDepth 100000
/-! M8: calls, fields, subscripts, slices, methods, comprehensions: their readings are what the evaluator says. -/
namespace Mi
open PySem PySem.Spec L2
open PyProof.Rows hiding St
/-- a def's promise: what the evaluator says of it -/
def spD (W : Wd) (g : List D → Sto → R D) : Sp := fun vs H Q _ => ∃ m S ds v S', Rep W m H S ∧ VRs W m H ds vs ∧ g ds S = .ok v S' ∧ Fin W m H S' v Q
section
variable {X : Cx} {W : Wd} {a b c o : Expr} {fa fb fc fo : En → Sto → R D} {pos apos : Pos} {k : Nat} {f : Addr} {fd : FuncData} {ps : List Str} {g : List D → Sto → R D} {x mm : Str} {p : Pos} {es : List Expr} {fs : En → Sto → R (List D)}
theorem lookKR {W : Wd} {m : List Addr} {H : Hp} {fs : List (Str × D)} {gs : List (Str × V)} (h : KR W m H fs gs) (f : Str) : (fs.lookup f = none ∧ gs.lookup f = none) ∨ ∃ d y, fs.lookup f = some d ∧ gs.lookup f = some y ∧ VR W m H d y := by
  unfold KR at h
  induction h with
  | nil => exact .inl ⟨rfl, rfl⟩
  | @cons p q ps qs r t ih =>
    obtain ⟨k1, d1⟩ := p
    obtain ⟨k2, v2⟩ := q
    obtain ⟨e, r2⟩ := r
    have e : k1 = k2 := e
    subst e
    rw [List.lookup_cons, List.lookup_cons]
    cases f == k1 with
    | true => exact .inr ⟨d1, v2, rfl, rfl, r2⟩
    | false => exact ih
theorem putKR {W : Wd} {m : List Addr} {H : Hp} {fs : List (Str × D)} {gs : List (Str × V)} (h : KR W m H fs gs) (f : Str) {d : D} {y : V} (r : VR W m H d y) : KR W m H (putFD f d fs) (putF f y gs) := by
  unfold KR at h ⊢
  induction h with
  | nil => exact .cons ⟨rfl, r⟩ .nil
  | @cons p q ps qs r1 t ih =>
    obtain ⟨k1, d1⟩ := p
    obtain ⟨k2, v2⟩ := q
    obtain ⟨e, r2⟩ := r1
    have e : k1 = k2 := e
    subst e
    show Paired _ (if k1 = f then (k1, d) :: ps else (k1, d1) :: putFD f d ps) (if k1 = f then (k1, y) :: qs else (k1, v2) :: putF f y qs)
    by_cases hk : k1 = f
    · rw [if_pos hk, if_pos hk]
      exact .cons ⟨rfl, r⟩ t
    · rw [if_neg hk, if_neg hk]
      exact .cons ⟨rfl, r2⟩ ih
/-! ### calls -/
theorem s_call {t : TA} {σ : St} {H : Hp} {Q : VK} (h : lift W (fun e S => (fs e S).bind fun vs S1 => g vs S1) σ H Q) : tCall (spD W g) [] E0 (liftA W fs) σ H Q := by
  obtain ⟨m, e, S, w, S', er, rp, h, f⟩ := h
  obtain ⟨vs, S1, h1, h2⟩ := R.bind_eq h
  refine ⟨m, e, S, vs, S1, er, rp, h1, fun ys H1 m1 x1 r1 v1 => ?_⟩
  refine ⟨m1, S1, vs, w, S', r1, ?_, h2, f.to x1⟩
  rw [List.append_nil]
  exact v1
theorem e_call (F : FnR X.prog X.w X.K X.mg X.base CX0 k f fd ps (spD W g)) (hr : Rm k X.A) (hg : Gl X x) (hm : X.mg x = some (.ref f)) (hk : PySem.W.keepIn X.K (.ref f) = true) (hb : Binds X.K fd ps []) (ha : PA X (b :: es) (liftA W fs))
    (hdb : (x == ("__debug__" : Str)) = false) (h1 : starEach (b :: es) X.env = (false, eval b X.env) :: starEach es X.env) (h2 : (backTo pos (starEach es X.env)).any (·.1) = false) :
    PE X (.Call (.Name x p) (b :: es) [] pos) (lift W fun e S => (fs e S).bind fun vs S1 => g vs S1) :=
  pe_imp (peR_call F hr hg hm hk hb ha hdb h1 h2) fun σ H Q h => s_call (t := liftA W fs) h
theorem e_call0 (F : FnR X.prog X.w X.K X.mg X.base CX0 k f fd ps (spD W g)) (hr : Rm k X.A) (hg : Gl X x) (hm : X.mg x = some (.ref f)) (hk : PySem.W.keepIn X.K (.ref f) = true) (hb : Binds X.K fd ps [])
    (hdb : (x == ("__debug__" : Str)) = false) : PE X (.Call (.Name x p) [] [] pos) (lift W fun _ S => g [] S) := by
  refine pe_imp (peR_call0 F hr hg hm hk hb hdb) fun σ H Q h => ?_
  obtain ⟨m, e, S, w, S', er, rp, h, f⟩ := h
  exact ⟨m, S, [], w, S', rp, .nil, h, f⟩
/-- making an instance -/
def mkD (n : Nat) (g : List D → Sto → R D) (vs : List D) (S : Sto) : R D := (g (.ref S.length :: vs) (S ++ [.ins n []])).bind fun v S1 => match v with
  | .non => .ok (.ref S.length) S1
  | _ => .bad
theorem s_make {n : Nat} (hn : n < W.nc) {m : List Addr} {H : Hp} {S S' : Sto} {vs : List D} {ys : List V} {w : D} {Q : VK} (rp : Rep W m H S) (v1 : VRs W m H vs ys) (h : mkD n g vs S = .ok w S') (f : Fin W m H S' w Q) :
    ∀ x dx, H x = none → H dx = none → dx ≠ x → spD W g (.ref x :: (ys ++ [])) (upd (upd H dx (.own x)) x (.ins (W.ca n) dx [])) (fun v H2 => v = .non ∧ Q (.ref x) H2) E0 := by
  intro x dx hx hdx hne
  obtain ⟨z, S1, h1, h2⟩ := R.bind_eq h
  have hz : z = .non ∧ w = .ref S.length ∧ S1 = S' := by
    cases z with
    | non =>
      obtain ⟨rfl, rfl⟩ := ok_inj h2
      exact ⟨rfl, rfl, rfl⟩
    | _ => cases h2
  obtain ⟨rfl, rfl, rfl⟩ := hz
  have r1 := rp.lay (o := .own x) hdx
  have hx1 : (upd H dx (.own x)) x = none := by
    rw [upd_ne hne.symm]
    exact hx
  obtain ⟨r2, x2⟩ := r1.new (o := .ins (W.ca n) dx []) (ob := .ins n []) hx1 ⟨hn, dx, [], upd_same, .nil⟩
  have x1 : Ext m H m (upd H dx (.own x)) := ext_new hdx
  have vx : VR W (m ++ [x]) (upd (upd H dx (.own x)) x (.ins (W.ca n) dx [])) (.ref S.length) (.ref x) := .ref (by rw [← rp.len]; simp)
  refine ⟨_, _, .ref S.length :: vs, .non, S1, r2, ?_, h1, fun y H' m' x' r' v' => ?_⟩
  · rw [List.append_nil]
    exact .cons vx (v1.to (x1.trans x2))
  · exact ⟨vr_non v', f _ _ _ ((x1.trans x2).trans x') r' (vx.to x')⟩
theorem e_make {n : Nat} {j : Nat} (hn : n < W.nc) (M : Mk X.K (W.ca n) f) (F : FnR X.prog X.w X.K X.mg X.base CX0 j f fd ps (spD W g)) (hr : Rm (j + 1) X.A) (hg : Gl X x) (hm : X.mg x = some (.ref (W.ca n))) (hb : Binds X.K fd ps []) (ha : PA X (b :: es) (liftA W fs))
    (hdb : (x == ("__debug__" : Str)) = false) (h1 : starEach (b :: es) X.env = (false, eval b X.env) :: starEach es X.env) (h2 : (backTo pos (starEach es X.env)).any (·.1) = false) :
    PE X (.Call (.Name x p) (b :: es) [] pos) (lift W fun e S => (fs e S).bind fun vs S1 => mkD n g vs S1) := by
  refine pe_imp (peR_make M F hr hg hm hb ha hdb h1 h2) fun σ H Q h => ?_
  obtain ⟨m, e, S, w, S', er, rp, h, f⟩ := h
  obtain ⟨vs, S1, h1, h2⟩ := R.bind_eq h
  exact ⟨m, e, S, vs, S1, er, rp, h1, fun ys H1 m1 x1 r1 v1 => s_make hn r1 v1 h2 (f.to x1)⟩
theorem e_make0 {n : Nat} {j : Nat} (hn : n < W.nc) (M : Mk X.K (W.ca n) f) (F : FnR X.prog X.w X.K X.mg X.base CX0 j f fd ps (spD W g)) (hr : Rm (j + 1) X.A) (hg : Gl X x) (hm : X.mg x = some (.ref (W.ca n))) (hb : Binds X.K fd ps [])
    (hdb : (x == ("__debug__" : Str)) = false) : PE X (.Call (.Name x p) [] [] pos) (lift W fun _ S => mkD n g [] S) := by
  refine pe_imp (peR_make0 M F hr hg hm hb hdb) fun σ H Q h => ?_
  obtain ⟨m, e, S, w, S', er, rp, h, f⟩ := h
  exact s_make hn rp .nil h f
/-! ### methods of own classes -/
/-- what is known of each class's methods -/
structure MtOk (X : Cx) (W : Wd) (k : Nat) (mt : Nat → Str → List D → Sto → R D) : Prop where
  cls : ∀ n, n < W.nc → Cls X.K (W.ca n)
  ok : ∀ n m ds S v S', n < W.nc → mt n m ds S = .ok v S' → ∃ fa fd ps, Meth X.K (W.ca n) m fa ∧ Binds X.K fd ps [] ∧ FnR X.prog X.w X.K X.mg X.base CX0 k fa fd ps (spD W (mt n m))
theorem methEq {args : List Expr} {env : Env} (hbase : attributeBase o mm env (eval o env) = eval o env) (hline : (apos.endLine == pos.line) = true) (hall : (backTo pos (starEach args env)).all (fun x => !x.1) = true) (hlen : args.length < 28) :
    eval (.Call (.Attribute o mm apos) args [] pos) env = (do
      let ov ← eval o env
      standAt apos.atName
      let (f, first) ← holding [ov] (getMethod ov mm (do return (← importBound o env).getD true))
      callWith pos f first (backTo pos (starEach args env)) (backToKw pos (keywordEach [] env))) := by
  rw [PySem.arm_eval_Call, hbase]
  have hform : methodCallForm (args.length + ([] : List Keyword).length) (backTo pos (starEach args env)) (backToKw pos (keywordEach [] env)) = true := by
    unfold methodCallForm
    rw [hall]
    simp [backToKw, keywordEach]
    omega
  have hpos : methodCallPos true o env apos pos = pure pos := by
    unfold methodCallPos
    simp [hline]
  unfold methodCall
  rw [hform, hpos]
  rfl
theorem e_meth {mt : Nat → Str → List D → Sto → R D} (M : MtOk X W k mt) (hr : Rm k X.A) (ho : PE X o (lift W fo)) (ha : PA X es (liftA W fs)) (hbase : attributeBase o mm X.env (eval o X.env) = eval o X.env) (hline : (apos.endLine == pos.line) = true)
    (hall : (backTo pos (starEach es X.env)).all (fun x => !x.1) = true) (hlen : es.length < 28) (hfs : es = [] → ∀ e S, fs e S = .ok [] S) (hs : ∀ y ys, es = y :: ys → starEach (y :: ys) X.env = (false, eval y X.env) :: starEach ys X.env ∧ (backTo pos (starEach ys X.env)).any (·.1) = false) :
    PE X (.Call (.Attribute o mm apos) es [] pos) (lift W fun e S => (fo e S).bind fun x S1 => match x with
      | .ref a => match S1[a]? with
        | some (.ins c gs) => match gs.lookup mm with
          | none => (fs e S1).bind fun vs S2 => mt c mm (.ref a :: vs) S2
          | some _ => .bad
        | _ => .bad
      | _ => .bad) := by
  refine ⟨fun pins s σ H Q I h => ?_⟩
  obtain ⟨m, e, S, w, S', er, rp, h, f⟩ := h
  obtain ⟨x, S1, h1, h⟩ := R.bind_eq h
  refine methcall_of (pos := pos) ho I ?_ (methEq hbase hline hall hlen)
  refine ⟨m, e, S, x, S1, er, rp, h1, fun X1 H1 m1 x1 r1 v1 => ?_⟩
  cases x with
  | ref i =>
    dsimp only at h
    split at h
    · rename_i cc gs hi
      split at h
      · rename_i hl
        obtain ⟨vs, S2, h2, h3⟩ := R.bind_eq h
        obtain ⟨aa, rfl, hmi, hn, dx, hs', haa, kr⟩ := vr_obj r1 v1 hi
        obtain ⟨fa, fd, ps, hm, hb, F⟩ := M.ok cc mm _ _ _ _ hn h3
        have hl2 : hs'.lookup mm = none := by
          rcases lookKR kr mm with ⟨_, e2⟩ | ⟨d, y, e1, _⟩
          · exact e2
          · rw [hl] at e1
            cases e1
        refine ⟨aa, _, dx, hs', fa, rfl, haa, M.cls cc hn, hm, hl2, fun s1 I1 => ?_⟩
        have key : ∀ (us : List Value) (s2 : Shared) (ys : List V) (H2 : Hp) (m2 : List Addr), Inv X pins σ H2 s2 → Ext m1 H1 m2 H2 → Rep W m2 H2 S2 → VRs W m2 H2 vs ys → Vals ys us → wpAny (model X.prog X.w) X.A (call (.ref fa) (.ref aa :: us)) (EP X pins σ Q) X.xe s2 :=
          fun us s2 ys H2 m2 I2 x2 r2 v2 rl => goR_fn (us := .ref aa :: us) (vs := .ref aa :: ys) F hr hb I2 (.cons rfl rl)
            ⟨m2, S2, .ref i :: vs, w, S', r2, by rw [List.append_nil]; exact .cons (v1.to x2) v2, h3, f.to (x1.trans x2)⟩
        cases es with
        | nil =>
          refine PySem.W.callWith_K0 (first := [.ref aa]) I1.kIn hm.kp ?_
          rw [hfs rfl] at h2
          obtain ⟨e1, e2⟩ := ok_inj h2
          subst e1 e2
          exact key [] s1 [] H1 m1 I1 .refl r1 .nil .nil
        | cons y ys =>
          obtain ⟨hst, hpl⟩ := hs y ys rfl
          refine PySem.W.callWith_K (first := [.ref aa]) (h₀ := X.base) I1.ok.mod.kin hm.kp (thn (ha.run pos pins s1 σ H1 (fun zs H2 => ∃ m2, Ext m1 H1 m2 H2 ∧ Rep W m2 H2 S2 ∧ VRs W m2 H2 vs zs) I1 ⟨m1, e, S1, vs, S2, er.to x1, r1, h2, fun zs H2 m2 x2 r2 v2 => ⟨m2, x2, r2, v2⟩⟩)
            fun us s2 ⟨zs, H2, I2, rl, m2, x2, r2, v2⟩ => ⟨I2.kIn, ?_⟩) hst hpl
          exact key us s2 zs H2 m2 I2 x2 r2 v2 rl
      · cases h
    · cases h
  | _ => cases h
/-! ### fields -/
theorem e_fld {f : Str} (cl : ∀ n, n < W.nc → Cls X.K (W.ca n) ∧ NoAttr X.K (W.ca n) f) (ho : PE X o (lift W fo)) (hb : attributeBase o f X.env (eval o X.env) = eval o X.env) :
    PE X (.Attribute o f pos) (lift W fun e S => (fo e S).bind fun x S1 => fldD x f S1) := by
  refine pe_imp (pe_fld ho hb) fun σ H Q h => ?_
  obtain ⟨m, e, S, w, S', er, rp, h, fi⟩ := h
  obtain ⟨x, S1, h1, h⟩ := R.bind_eq h
  refine ⟨m, e, S, x, S1, er, rp, h1, fun X1 H1 m1 x1 r1 v1 => ?_⟩
  unfold fldD at h
  split at h
  · split at h
    · rename_i i cc gs hi
      obtain ⟨e1, rfl⟩ := optR_ok h
      obtain ⟨aa, rfl, hmi, hn, dx, hs', haa, kr⟩ := vr_obj r1 v1 hi
      rcases lookKR kr f with ⟨e2, _⟩ | ⟨d, y, e2, e3, vr⟩
      · rw [e1] at e2
        cases e2
      · rw [e1] at e2
        cases e2
        exact ⟨aa, _, dx, hs', y, rfl, haa, (cl cc hn).1, (cl cc hn).2, e3, (fi.to x1).done r1 vr⟩
    · cases h
  · cases h
/-! ### subscripts, slices, xs[::-1] -/
theorem e_sub {w : World} {cds : Nat → List (Str × D)} (hK : X.K = W.K) (hu : X.A.units + 1 < cLine) (cd : CdOk X.K X.w W cds) (ha : PE X a (lift W fa)) (hb : PE X b (lift W fb)) (hs : PlainIx b) :
    PE X (.Subscript a b pos) (lift W fun e S => (fa e S).bind fun x S1 => (fb e S1).bind fun y S2 => subD cds x y S2) := by
  have h := pe_ix (pos := pos) (o_ix4 hu) ha hb hs
  rw [hK] at h cd
  exact e_two (s_sub4 cd) h
theorem e_slc0 {lo hi : Option Expr} {fl fh : En → Sto → R (Option Int)} {tl th : TO} {p2 : Pos} (hK : X.K = W.K) (ha : PE X a (lift W fa)) (hl : PO X lo tl) (hh : PO X hi th)
    (kl : ∀ {m e S o S' σ H K}, ER W m H e σ → Rep W m H S → fl e S = .ok o S' → (∀ H' m', Ext m H m' H' → Rep W m' H' S' → K o H') → tl σ H K)
    (kh : ∀ {m e S o S' σ H K}, ER W m H e σ → Rep W m H S → fh e S = .ok o S' → (∀ H' m', Ext m H m' H' → Rep W m' H' S' → K o H') → th σ H K) :
    PE X (.Subscript a (.Slice lo hi none p) pos) (lift W fun e S => (fa e S).bind fun x S1 => (fl e S1).bind fun l S2 => (fh e S2).bind fun u S3 => slcD x l u S3) := by
  have q := pe_slice (p2 := p) (pos := pos) o_sl4 ha hl hh
  rw [hK] at q
  refine pe_imp q fun σ H Q h => ?_
  obtain ⟨m, e, S, w, S', er, rp, h, fi⟩ := h
  obtain ⟨x, S1, h1, h⟩ := R.bind_eq h
  obtain ⟨l, S2, h2, h⟩ := R.bind_eq h
  obtain ⟨u, S3, h3, h4⟩ := R.bind_eq h
  refine ⟨m, e, S, x, S1, er, rp, h1, fun X1 H1 m1 x1 r1 v1 => ?_⟩
  refine kl (er.to x1) r1 h2 fun H2 m2 x2 r2 => ?_
  refine kh ((er.to x1).to x2) r2 h3 fun H3 m3 x3 r3 => ?_
  exact s_slc r3 (v1.to (x2.trans x3)) h4 (fi.to ((x1.trans x2).trans x3))
theorem k_none {m : List Addr} {e : En} {S S' : Sto} {o : Option Int} {σ : St} {H : Hp} {K : Option Int → Hp → Prop} (_er : ER W m H e σ) (rp : Rep W m H S) (h : (R.ok none S : R (Option Int)) = .ok o S') (q : ∀ H' m', Ext m H m' H' → Rep W m' H' S' → K o H') : tNoPart σ H K := by
  obtain ⟨rfl, rfl⟩ := ok_inj h
  exact q H m .refl rp
theorem k_some {m : List Addr} {e : En} {S S' : Sto} {o : Option Int} {σ : St} {H : Hp} {K : Option Int → Hp → Prop} (er : ER W m H e σ) (rp : Rep W m H S) (h : ((fa e S).bind fun l S2 => partR l S2) = .ok o S') (q : ∀ H' m', Ext m H m' H' → Rep W m' H' S' → K o H') : tPart (lift W fa) σ H K := by
  obtain ⟨x, S1, h1, h2⟩ := R.bind_eq h
  refine ⟨m, e, S, x, S1, er, rp, h1, fun X1 H1 m1 x1 r1 v1 => ?_⟩
  unfold partR at h2
  split at h2
  · obtain ⟨rfl, rfl⟩ := ok_inj h2
    exact ⟨_, vr_int v1, q H1 m1 x1 r1⟩
  · cases h2
/-! ### methods of lists -/
def BM.id : BM → String
  | .append => "list.append" | .extend => "list.extend" | .pop => "list.pop" | .lindex => "list.index" | _ => ""
theorem o_bmL (bm : BM) (hb : bm.isL = true) : MtR X bm.id (rBm X.K bm) := by
  cases bm <;> first
    | exact mt_append
    | exact mt_extend
    | exact mt_pop
    | exact mt_index
    | cases hb
theorem pre_lst {bm : BM} (hb : bm.isL = true) {v : D} {S : Sto} (h : bmPre bm v S = true) : ∃ i xs, v = .ref i ∧ S[i]? = some (.lst xs) := by
  cases v with
  | ref i =>
    cases hS : S[i]? with
    | none => cases bm <;> first | (exact absurd hb Bool.false_ne_true) | (simp only [bmPre, hS] at h; exact absurd h Bool.false_ne_true)
    | some ob =>
      cases ob with
      | lst xs => exact ⟨i, xs, rfl, hS⟩
      | _ => cases bm <;> first | (exact absurd hb Bool.false_ne_true) | (simp only [bmPre, hS] at h; exact absurd h Bool.false_ne_true)
  | _ => cases bm <;> first | (exact absurd hb Bool.false_ne_true) | (exact absurd h Bool.false_ne_true)
theorem s_bm {bm : BM} (hK : X.K = W.K) (hb : bm.isL = true) {σ : St} {H : Hp} {Q : VK}
    (h : lift W (fun e S => (fo e S).bind fun x S1 => if bmPre bm x S1 = true then (fs e S1).bind fun vs S2 => bmD bm x vs S2 else .bad) σ H Q) : tBM X.K "list" (rBm X.K bm) (lift W fo) (liftA W fs) σ H Q := by
  rw [hK]
  obtain ⟨m, e, S, w, S', er, rp, h, fi⟩ := h
  obtain ⟨x, S1, h1, h⟩ := R.bind_eq h
  split at h
  · rename_i hp
    obtain ⟨vs, S2, h2, h3⟩ := R.bind_eq h
    refine ⟨m, e, S, x, S1, er, rp, h1, fun X1 H1 m1 x1 r1 v1 => ?_⟩
    obtain ⟨i, xs, rfl, hi⟩ := pre_lst hb hp
    obtain ⟨aa, rfl, hmi, ys, haa, ra⟩ := vr_obj r1 v1 hi
    refine ⟨.inl ⟨rfl, ys, SqL.of haa⟩, m1, e, S1, vs, S2, er.to x1, r1, h2, fun zs H2 m2 x2 r2 v2 => ?_⟩
    exact s_bmL bm hb r2 (v1.to x2) v2 h3 (fi.to (x1.trans x2))
  · cases h
/-! ### built-in functions -/
theorem e_bf {bf : BF} (hK : X.K = W.K) (hc : X.calm = true) (hg : Gl X x) (hm : X.mg x = none) (hv : bootBuiltins x = some bf.val) (hn : x ≠ "__name__") (hdb : (x == ("__debug__" : Str)) = false) (ha : PA X (b :: es) (liftA W fs))
    (h1 : starEach (b :: es) X.env = (false, eval b X.env) :: starEach es X.env) (h2 : (backTo pos (starEach es X.env)).any (·.1) = false) :
    PE X (.Call (.Name x p) (b :: es) [] pos) (lift W fun e S => (fs e S).bind fun vs S1 => bfD bf vs S1) := by
  have key : PE X (.Call (.Name x p) (b :: es) [] pos) (tCB (rBf X.K bf) (liftA W fs)) := by
    have hc2 := o_bf (X := X) hc bf
    unfold BF.val at hv hc2
    cases hi : bf.isTy with
    | true =>
      rw [hi, if_pos rfl] at hv hc2
      exact pe_callTy hc2 hg hm hv ha hn hdb h1 h2
    | false =>
      rw [hi, if_neg Bool.false_ne_true] at hv hc2
      exact pe_callB hc2 hg hm hv ha hn hdb h1 h2
  rw [hK] at key
  refine pe_imp key fun σ H Q h => ?_
  obtain ⟨m, e, S, w, S', er, rp, h, fi⟩ := h
  obtain ⟨vs, S1, h1, h2⟩ := R.bind_eq h
  exact ⟨m, e, S, vs, S1, er, rp, h1, fun ys H1 m1 x1 r1 v1 => s_bf bf m1 H1 S1 vs ys w S' Q r1 v1 h2 (fi.to x1)⟩
end
end Mi
set_option Elab.async false
set_option linter.all false
set_option maxRecDepth 100000
/-! M8b: xs[::-1] of lists and tuples. -/
namespace Mi
open PySem PySem.Spec L2
open PyProof.Rows hiding St
section
variable {prog : Program} {w : World} {A : Around} {E : Value → Shared → Prop} {s : Shared}
theorem places_back (n : Nat) : Builtin.Slice.slicePlaces ((n : Int) - 1) (-1) (-1) = n := by
  unfold Builtin.Slice.slicePlaces
  have h1 : ¬ ((-1 : Int) > 0) := by omega
  rw [if_neg h1]
  by_cases h : (n : Int) - 1 > -1
  · rw [if_pos h]
    have e : ((n : Int) - 1 - -1 - 1) / (- -1) = (n : Int) - 1 := by
      rw [show (- -1 : Int) = 1 by omega, Int.ediv_one]
      omega
    rw [e]
    omega
  · rw [if_neg h]
    omega
theorem applied_back {sl : Addr} {vl vu vs : Value} {n : Nat} {Q : Int × Int × Nat → Shared → Prop} (hs : s.heap.IsSliceOf sl vl vu vs) (pl : IsPart vl none) (pu : IsPart vu none) (ps : IsPart vs (some (-1)))
    (h : Q ((n : Int) - 1, -1, n) s) : wpAny (model prog w) A (Builtin.Slice.sliceApplied (.ref sl) (pure (n : Int))) Q E s := by
  obtain ⟨os, h1, h2, h3⟩ := id hs
  unfold Builtin.Slice.sliceApplied Builtin.Slice.sliceFields
  refine wpAny_bind (wpAny_bind (wpAny_field h1 h3 (x := vl) rfl (wpAny_bind (wpAny_field h1 h3 (x := vu) rfl (wpAny_bind (wpAny_field h1 h3 (x := vs) rfl (wpAny_pure ?_)))))))
  refine wpAny_bind (HT.slicePart_ ps ?_)
  show wpAny _ _ (if ((-1 : Int) == 0) = true then _ else _) _ _ s
  rw [if_neg (by decide)]
  refine wpAny_bind (HT.slicePart_ pl (wpAny_bind (HT.slicePart_ pu (wpAny_bind (wpAny_pure ?_)))))
  show wpAny _ _ (pure ((n : Int) - 1, (-1 : Int), Builtin.Slice.slicePlaces ((n : Int) - 1) (-1) (-1))) _ _ s
  rw [places_back]
  exact wpAny_pure h
theorem fm_map {α β : Type} {f : α → Option β} {g : α → β} : ∀ (l : List α), (∀ m ∈ l, f m = some (g m)) → l.filterMap f = l.map g
  | [], _ => rfl
  | a :: l, h => by
    rw [List.filterMap_cons, h a List.mem_cons_self, List.map_cons, fm_map l fun m hm => h m (List.mem_cons_of_mem _ hm)]
theorem pick_back (xs : Array Value) : ((List.range xs.size).filterMap fun (m : Nat) => xs[(((xs.size : Nat) : Int) - 1 + (m : Int) * -1).toNat]?).toArray = xs.toList.reverse.toArray := by
  congr 1
  apply List.ext_getElem?
  intro i
  have e : ((List.range xs.size).filterMap fun (m : Nat) => xs[(((xs.size : Nat) : Int) - 1 + (m : Int) * -1).toNat]?) = (List.range xs.size).map fun m => xs.toList.getD (xs.size - 1 - m) .none := by
    refine fm_map _ fun m hm => ?_
    have hm : m < xs.size := by simpa using hm
    have e1 : (((xs.size : Nat) : Int) - 1 + (m : Int) * -1).toNat = xs.size - 1 - m := by omega
    rw [e1]
    show xs[xs.size - 1 - m]? = some _
    have hl : xs.size - 1 - m < xs.size := by omega
    rw [Array.getElem?_eq_getElem hl]
    simp [List.getD, hl]
  rw [e, List.getElem?_map]
  by_cases hi : i < xs.size
  · rw [List.getElem?_range hi, List.getElem?_reverse (by simpa using hi)]
    have hl : xs.size - 1 - i < xs.size := by omega
    simp [List.getD, hl]
  · rw [List.getElem?_eq_none (by simp; omega), List.getElem?_eq_none (by simp; omega)]
    rfl
theorem getItem_back {t sl : Addr} {items : Array Value} {vl vu vs : Value} {Q : Value → Shared → Prop} (ht : IsTup s.heap t items) (hs : s.heap.IsSliceOf sl vl vu vs) (pl : IsPart vl none) (pu : IsPart vu none) (ps : IsPart vs (some (-1)))
    (h : Q (.ref s.heap.objs.size) { s with heap := s.heap.push { cls := .type "tuple", data := .seq items.toList.reverse.toArray } }) (hz : items.size ≤ sizeLine) : wpAny (model prog w) A (getItem (.ref t) (.ref sl)) Q E s := by
  have hk : sizeOk (.seq items.toList.reverse.toArray) := by
    show items.toList.reverse.toArray.size ≤ sizeLine
    simpa using hz
  obtain ⟨os, h1, h2, h3⟩ := id hs
  have tS : s.TypeIs (.ref sl) "slice" := ⟨os, h1, h2⟩
  unfold getItem
  try with_reducible refine wpAny_holding ?_
  first | refine wpAny_bind (wpAny_pure ?_) | skip
  refine wpAny_bind (wpAny_sequenceKey (s := s) ht.typeIs (by decide) ?_)
  refine wpAny_bind (wpAny_callSpecial?_slot (name := Str.ofString "__getitem__") (s := s) ht.typeIs PyProof.Rows.slot_tuple_getitem
    (wpAny_call_entry PyProof.Rows.slot_tuple_getitem (s := s) ht.typeIs entry_tuple_getitem ?_ (args_tuple_getitem _ _)))
  show wpAny _ _ (Builtin.Tuple.tupleItemsOf (.ref t) >>= _) _ _ (s : Shared)
  refine wpAny_bind (tupleItemsOf_ (s := s) ht ?_)
  refine wpAny_bind (wpAny_typeOf (s := s) tS ?_)
  rw [if_pos (by decide)]
  refine wpAny_bind (applied_back hs pl pu ps ?_)
  have hno : ¬ ((((items.size : Nat) : Int) - 1 == 0 && (-1 : Int) == 1 && items.size == items.size) = true) := by
    intro q
    rw [Bool.and_eq_true, Bool.and_eq_true] at q
    exact absurd q.1.2 (by decide)
  show wpAny _ _ (if (((items.size : Nat) : Int) - 1 == 0 && (-1 : Int) == 1 && items.size == items.size) = true then _ else _) _ _ s
  rw [if_neg hno, pick_back]
  first
    | exact wpAny_bind (m := Builtin.Tuple.tupleExact _) (wpAny_newObj_type (s := s) (wpAny_pure ⟨_, rfl, wpAny_pure h⟩) hk)
    | exact wpAny_bind (m := Builtin.Tuple.tupleExact _) (wpAny_newObj_type (s := s) (wpAny_bind (wpAny_pure (wpAny_pure ⟨_, rfl, wpAny_pure h⟩))) hk)
    | exact wpAny_bind (wpAny_bind (m := Builtin.Tuple.tupleExact _) (wpAny_newObj_type (s := s) (wpAny_pure (wpAny_pure ⟨_, rfl, wpAny_pure h⟩)) hk))
    | exact wpAny_bind (wpAny_bind (m := Builtin.Tuple.tupleExact _) (wpAny_newObj_type (s := s) (wpAny_pure ⟨_, rfl, wpAny_pure h⟩) hk))
end
/-- a list or tuple backwards, new -/
def tRev (K : PySem.W.Frag) (te : TE) : TE := fun σ H Q => te σ H fun x H1 => ∃ a xs, x = .ref a ∧ ((SqL K H1 a xs ∧ ∀ p, H1 p = none → Q (.ref p) (upd H1 p (.lst xs.reverse))) ∨ (SqT K H1 a xs ∧ ∀ p, H1 p = none → Q (.ref p) (upd H1 p (.tup xs.reverse))))
section
variable {X : Cx} {W : Wd}
theorem pe_rev {e : Expr} {te : TE} {k : Nat} {p1 p2 p3 pos : Pos} (he : PE X e te) : PE X (.Subscript e (.Slice none none (some (.UnaryOp .USub (.Constant (.int 1) k p1) p2)) p3) pos) (tRev X.K te) := by
  refine ⟨fun pins s σ H Q I h => ?_⟩
  refine Subscript_ (thn (he.run pins s σ H _ I h) fun v s1 ⟨x, H1, I1, r1, a, xs, ex, q⟩ => ?_)
  subst ex
  obtain rfl : v = Value.ref a := r1
  have hst : PO X (some (.UnaryOp .USub (.Constant (.int 1) k p1) p2)) (tPart (tUn (rU fun i => .int (-i)) (tC (.int 1)))) := po_some (pe_un un_neg pe_int)
  refine wpAny_Slice (thn (po_none.run pins s1 σ H1 (fun o K2 => o = none ∧ K2 = H1) I1 ⟨rfl, rfl⟩) fun vl s2 ⟨l, H2, I2, pl, el, e2⟩ => ?_)
  subst el e2
  refine thn (po_none.run pins s2 σ H2 (fun o K3 => o = none ∧ K3 = H2) I2 ⟨rfl, rfl⟩) fun vu s3 ⟨u, H3, I3, pu, eu, e3⟩ => ?_
  subst eu e3
  refine thn (hst.run pins s3 σ H3 (fun o K4 => o = some (-1) ∧ K4 = H3) I3 ⟨1, rfl, -1, rfl, rfl, rfl⟩) fun vs s4 ⟨o, H4, I4, ps, eo, e4⟩ => ?_
  subst eo e4
  have I5 : Inv X pins σ H4 { s4 with heap := s4.heap.push { cls := .type "slice", data := .fields #[vl, vu, vs] } } := Inv.kept (t' := s4.toks) I4 fun b ob q => Heap.get?_push_of_some _ q
  rcases q with ⟨hx, q⟩ | ⟨hx, q⟩
  · obtain ⟨its, r, ht, hz⟩ := I5.list hx
    have hl := r.length
    show wpAny (model X.prog X.w) X.A (subscriptTail e (.Slice none none (some (.UnaryOp .USub (.Constant (.int 1) k p1) p2)) p3) (.ref a) (.ref s4.heap.objs.size)) _ X.xe { s4 with heap := s4.heap.push { cls := .type "slice", data := .fields #[vl, vu, vs] } }
    refine tail_any (ops := [.ref a, .ref s4.heap.objs.size]) ht.isList.typeIs PySem.slot_list_getitem.lookup ?_ (by with_unfolding_all rfl)
    refine wpAny_getItem_list_slice ht.isList (.new _ vl vu vs) pl pu ps (by decide) ?_ (by rw [List.size_toArray]; omega)
    rw [PySem.W.krv_pick]
    refine ⟨.ref _, _, Inv.laid (t' := s4.toks) (o := .lst xs.reverse) I5 (fun b ob q => Heap.get?_push_of_some _ q) (Nat.le_refl _) ?_, rfl, q _ (I5.hok.fresh (Nat.le_refl _))⟩
    exact ⟨by rw [List.length_reverse]; omega, _, 0, r.reverse, Heap.get?_push_size _ rfl⟩
  · obtain ⟨its, r, ht, hz⟩ := I5.tuple hx
    have hl := r.length
    show wpAny (model X.prog X.w) X.A (subscriptTail e (.Slice none none (some (.UnaryOp .USub (.Constant (.int 1) k p1) p2)) p3) (.ref a) (.ref s4.heap.objs.size)) _ X.xe { s4 with heap := s4.heap.push { cls := .type "slice", data := .fields #[vl, vu, vs] } }
    refine tail_any (ops := [.ref a, .ref s4.heap.objs.size]) ht.typeIs PyProof.Rows.slot_tuple_getitem.lookup ?_ (by with_unfolding_all rfl)
    refine getItem_back ht (.new _ vl vu vs) pl pu ps ?_ (by rw [List.size_toArray]; omega)
    refine ⟨.ref _, _, Inv.laid (t' := s4.toks) (o := .tup xs.reverse) I5 (fun b ob q => Heap.get?_push_of_some _ q) (Nat.le_refl _) ?_, rfl, q _ (I5.hok.fresh (Nat.le_refl _))⟩
    exact ⟨by rw [List.length_reverse]; omega, _, r.reverse, IsTup.new _ _⟩
theorem e_rev {e : Expr} {fa : En → Sto → R D} {k : Nat} {p1 p2 p3 pos : Pos} (hK : X.K = W.K) (ha : PE X e (lift W fa)) :
    PE X (.Subscript e (.Slice none none (some (.UnaryOp .USub (.Constant (.int 1) k p1) p2)) p3) pos) (lift W fun e S => (fa e S).bind fun x S1 => revD x S1) := by
  have q := pe_rev (k := k) (p1 := p1) (p2 := p2) (p3 := p3) (pos := pos) ha
  rw [hK] at q
  refine pe_imp q fun σ H Q h => ?_
  obtain ⟨m, e, S, w, S', er, rp, h, fi⟩ := h
  obtain ⟨x, S1, h1, h⟩ := R.bind_eq h
  refine ⟨m, e, S, x, S1, er, rp, h1, fun X1 H1 m1 x1 r1 v1 => ?_⟩
  unfold revD at h
  split at h
  · obtain ⟨rfl, rfl⟩ := ok_inj h
    obtain ⟨a, ys, rfl, sa, ra⟩ := vr_tup v1
    exact ⟨a, ys, rfl, .inr ⟨sa.sq, fun p hp => (fi.to x1).tup r1 ra.reverse hp⟩⟩
  · split at h
    · rename_i i _ q
      obtain ⟨rfl, rfl⟩ := ok_inj h
      obtain ⟨a, rfl, _, ys, haa, ra⟩ := vr_obj r1 v1 q
      exact ⟨a, ys, rfl, .inl ⟨SqL.of haa, fun p hp => (fi.to x1).lst r1 ra.reverse hp⟩⟩
    · cases h
  · cases h
end
end Mi
set_option Elab.async false
set_option linter.all false
set_option maxRecDepth 100000
/-! M9: isinstance, dicts' methods, targets, comprehensions. -/
namespace Mi
open PySem PySem.Spec L2
open PyProof.Rows hiding St
section
variable {X : Cx} {W : Wd} {a b c o : Expr} {fa fb fc fo : En → Sto → R D} {pos apos p p2 : Pos} {x : Str}
def Ty.nm : Ty → String
  | .int => "int" | .str => "str" | .tup => "tuple" | .bool => "bool"
theorem kit_all : ∀ (t : Ty), (kitB "NoneType" t.nm = some false) ∧ kitB "bool" t.nm = some (match t with | .int => true | .bool => true | _ => false) ∧ kitB "int" t.nm = some (match t with | .int => true | _ => false) ∧
    kitB "str" t.nm = some (match t with | .str => true | _ => false) ∧ kitB "tuple" t.nm = some (match t with | .tup => true | _ => false) := by
  intro t
  cases t <;> exact ⟨by decide +kernel, by decide +kernel, by decide +kernel, by decide +kernel, by decide +kernel⟩
theorem isi_of {m : List Addr} {H : Hp} {S : Sto} {v : D} {y : V} {t : Ty} {bo : Bool} (vr : VR W m H v y) (h : isiD t v = some bo) : ∃ u, TyX W.K H y u ∧ PySem.W.kitOne W.K u (.type t.nm) = some bo := by
  obtain ⟨k1, k2, k3, k4, k5⟩ := kit_all t
  cases vr with
  | non =>
    cases h
    exact ⟨_, .base .non, kit_ty k1⟩
  | bl q =>
    refine ⟨_, .base (.bl q), kit_ty (k2.trans ?_)⟩
    rw [← h]
    cases t <;> rfl
  | int q =>
    refine ⟨_, .base (.int q), kit_ty (k3.trans ?_)⟩
    rw [← h]
    cases t <;> rfl
  | str q =>
    refine ⟨_, .base (.str q), kit_ty (k4.trans ?_)⟩
    rw [← h]
    cases t <;> rfl
  | tup h1 h2 =>
    have k6 : PySem.W.kitOne W.K (.type "tuple") (.type t.nm) = some bo := by
      refine kit_ty (k5.trans ?_)
      rw [← h]
      cases t <;> rfl
    rcases h1 with h1 | ⟨(h1 | ⟨ob, h1⟩) | ⟨ob, its, n, h1, hc, _⟩, _⟩
    · exact ⟨_, .base (.tup h1), k6⟩
    · exact ⟨_, .base (.tup h1), k6⟩
    · exact ⟨_, .fTuple h1, k6⟩
    · exact ⟨_, .kTuple h1 hc, k6⟩
  | lit _ _ => cases h
  | ref _ => cases h
  | cd _ => cases h
theorem e_isi {ty : Str} {t : Ty} (hK : X.K = W.K) (hg : Gl X "isinstance") (hm : X.mg "isinstance" = none) (hgt : Gl X ty) (hmt : X.mg ty = none) (hvt : bootBuiltins ty = some (.type t.nm)) (hn : ty ≠ "__name__") (hd : (ty == ("__debug__" : Str)) = false)
    (ha : PE X a (lift W fa)) (h1 : ∀ xs, starEach (a :: xs) X.env = (false, eval a X.env) :: starEach xs X.env) :
    PE X (.Call (.Name "isinstance" p) [a, .Name ty p2] [] pos) (lift W fun e S => (fa e S).bind fun x S1 => optR ((isiD t x).map .bl) S1) := by
  have ht : PE X (.Name ty p2) (tC (.ty t.nm)) := pe_bltn hgt hmt hvt rfl hn hd
  have q := pe_callB (X := X) (p := p) (pos := pos) call_isi hg hm PyProof.Rows.boot_isinstance (pa_cons ha (pa_cons ht pa_nil rfl) (h1 _)) (by decide) (by decide) (h1 _) rfl
  rw [hK] at q
  refine pe_imp q fun σ H Q h => ?_
  obtain ⟨m, e, S, w, S', er, rp, h, fi⟩ := h
  obtain ⟨v, S1, h1, h⟩ := R.bind_eq h
  refine ⟨m, e, S, v, S1, er, rp, h1, fun y H1 m1 x1 r1 v1 => ?_⟩
  obtain ⟨e1, rfl⟩ := optR_ok h
  obtain ⟨bo, e2, rfl⟩ := Option.map_eq_some_iff.mp e1
  obtain ⟨u, k1, k2⟩ := isi_of (S := S1) v1 e2
  exact ⟨y, _, u, _, bo, rfl, .ty _, k1, k2, (fi.to x1).done r1 (.bl _)⟩
/-! ### get, pop of dicts -/
theorem pre_dic {bm : BM} (hb : bm = .get1 ∨ bm = .get2 ∨ bm = .pop2) {v : D} {S : Sto} (h : bmPre bm v S = true) : ∃ i, v = .ref i ∧ ((∃ kvs, S[i]? = some (.dK kvs)) ∨ ∃ kvs, S[i]? = some (.dT kvs)) := by
  cases v with
  | ref i =>
    cases hS : S[i]? with
    | none => rcases hb with rfl | rfl | rfl <;> (simp only [bmPre, hS] at h; exact absurd h Bool.false_ne_true)
    | some ob =>
      cases ob with
      | dK kvs => exact ⟨i, rfl, .inl ⟨kvs, hS⟩⟩
      | dT kvs => exact ⟨i, rfl, .inr ⟨kvs, hS⟩⟩
      | _ => rcases hb with rfl | rfl | rfl <;> (simp only [bmPre, hS] at h; exact absurd h Bool.false_ne_true)
  | _ => rcases hb with rfl | rfl | rfl <;> exact absurd h Bool.false_ne_true
theorem isD_of {m : List Addr} {H : Hp} {S : Sto} {i : Nat} {y : V} (rp : Rep W m H S) (vr : VR W m H (.ref i) y) (h : (∃ kvs, S[i]? = some (.dK kvs)) ∨ ∃ kvs, S[i]? = some (.dT kvs)) : ∃ aa, y = .ref aa ∧ m[i]? = some aa ∧ IsD H aa ∧ ((∃ kvs, H aa = some (.dK kvs)) ∨ ∃ kvs, H aa = some (.dT kvs)) := by
  rcases h with ⟨kvs, h⟩ | ⟨kvs, h⟩
  · obtain ⟨aa, rfl, hm, ks, ha, _⟩ := vr_obj rp vr h
    exact ⟨aa, rfl, hm, .inl ⟨ks, .inl ha⟩, .inl ⟨ks, ha⟩⟩
  · obtain ⟨aa, rfl, hm, ks, ha, _⟩ := vr_obj rp vr h
    exact ⟨aa, rfl, hm, .inr ⟨ks, .inl ha⟩, .inr ⟨ks, ha⟩⟩
theorem dget_ok {m : List Addr} {H : Hp} {S : Sto} {i : Nat} {k dft : D} {y ky dy : V} {oo : Option D} {Q : VK} (rp : Rep W m H S) (v1 : VR W m H (.ref i) y) (v2 : VR W m H k ky) (v3 : VR W m H dft dy) (h : dget (fun _ => []) S (.ref i) k = some oo)
    (fi : Fin W m H S (oo.getD dft) Q) : ∃ aa, y = .ref aa ∧ ∃ q, DGet H aa ky q ∧ Q (q.getD dy) H := by
  obtain ⟨aa, q, rfl, g, r⟩ := dget_of rp v1 v2 h
  refine ⟨aa, rfl, q, g, ?_⟩
  rcases r with ⟨rfl, rfl⟩ | ⟨d, z, rfl, rfl, vr⟩
  · exact fi.done rp v3
  · exact fi.done rp vr
theorem e_get1 (hu : X.A.units + 1 < cLine) (ho : PE X o (lift W fo)) (ha : PE X a (lift W fa)) (m1 : M1 X o "get" apos a pos) :
    PE X (.Call (.Attribute o "get" apos) [a] [] pos) (lift W fun e S => (fo e S).bind fun x S1 => if bmPre .get1 x S1 = true then ((fa e S1).bind fun k S2 => (R.ok [] S2).bind fun ks S3 => .ok (k :: ks) S3).bind fun vs S2 => bmD .get1 x vs S2 else .bad) := by
  refine pe_imp (pe_dget1 hu ho ha m1) fun σ H Q h => ?_
  obtain ⟨m, e, S, w, S', er, rp, h, fi⟩ := h
  obtain ⟨v, S1, h1, h⟩ := R.bind_eq h
  split at h
  · rename_i hp
    obtain ⟨vs, S2, h2, h3⟩ := R.bind_eq h
    obtain ⟨k, S3, h4, h5⟩ := R.bind_eq h2
    obtain ⟨rfl, rfl⟩ := ok_inj h5
    refine ⟨m, e, S, v, S1, er, rp, h1, fun y H1 m1 x1 r1 v1 => ?_⟩
    obtain ⟨i, rfl, hd⟩ := pre_dic (.inl rfl) hp
    obtain ⟨aa, rfl, hmi, hD, _⟩ := isD_of r1 v1 hd
    refine ⟨aa, rfl, hD, m1, e, S1, k, S3, er.to x1, r1, h4, fun z H2 m2 x2 r2 v2 => ?_⟩
    have h6 : (match dget (fun _ => []) S3 (.ref i) k with | some o => R.ok (o.getD .non) S3 | none => .bad) = .ok w S' := h3
    cases q : dget (fun _ => []) S3 (.ref i) k with
    | none =>
      rw [q] at h6
      cases h6
    | some oo =>
      rw [q] at h6
      obtain ⟨rfl, rfl⟩ := ok_inj h6
      obtain ⟨a2, e2, q2, g, hq⟩ := dget_ok r2 (v1.to x2) v2 .non q (fi.to (x1.trans x2))
      cases e2
      exact ⟨q2, g, hq⟩
  · cases h
theorem e_get2 (hu : X.A.units + 1 < cLine) (ho : PE X o (lift W fo)) (ha : PE X a (lift W fa)) (hb : PE X b (lift W fb)) (m1 : M2 X o "get" apos a b pos) :
    PE X (.Call (.Attribute o "get" apos) [a, b] [] pos) (lift W fun e S => (fo e S).bind fun x S1 => if bmPre .get2 x S1 = true then
      ((fa e S1).bind fun k S2 => ((fb e S2).bind fun l S3 => (R.ok [] S3).bind fun ks S3 => .ok (l :: ks) S3).bind fun ks S3 => .ok (k :: ks) S3).bind fun vs S2 => bmD .get2 x vs S2 else .bad) := by
  refine pe_imp (pe_dget2 hu ho ha hb m1) fun σ H Q h => ?_
  obtain ⟨m, e, S, w, S', er, rp, h, fi⟩ := h
  obtain ⟨v, S1, h1, h⟩ := R.bind_eq h
  split at h
  · rename_i hp
    obtain ⟨vs, S2, h2, h3⟩ := R.bind_eq h
    obtain ⟨k, S3, h4, h5⟩ := R.bind_eq h2
    obtain ⟨ls, S4, h7, h8⟩ := R.bind_eq h5
    obtain ⟨l, S5, h9, h10⟩ := R.bind_eq h7
    obtain ⟨rfl, rfl⟩ := ok_inj h10
    obtain ⟨rfl, rfl⟩ := ok_inj h8
    refine ⟨m, e, S, v, S1, er, rp, h1, fun y H1 m1 x1 r1 v1 => ?_⟩
    obtain ⟨i, rfl, hd⟩ := pre_dic (.inr (.inl rfl)) hp
    obtain ⟨aa, rfl, hmi, hD, _⟩ := isD_of r1 v1 hd
    refine ⟨aa, rfl, hD, m1, e, S1, k, S3, er.to x1, r1, h4, fun z H2 m2 x2 r2 v2 => ?_⟩
    refine ⟨m2, e, S3, l, S5, (er.to x1).to x2, r2, h9, fun z2 H3 m3 x3 r3 v3 => ?_⟩
    have h6 : (match dget (fun _ => []) S5 (.ref i) k with | some o => R.ok (o.getD l) S5 | none => .bad) = .ok w S' := h3
    cases q : dget (fun _ => []) S5 (.ref i) k with
    | none =>
      rw [q] at h6
      cases h6
    | some oo =>
      rw [q] at h6
      obtain ⟨rfl, rfl⟩ := ok_inj h6
      obtain ⟨a2, e2, q2, g, hq⟩ := dget_ok r3 (v1.to (x2.trans x3)) (v2.to x3) v3 q (fi.to ((x1.trans x2).trans x3))
      cases e2
      exact ⟨q2, g, hq⟩
  · cases h
/-- pop(key, default) of a dict with pairs as keys -/
theorem s_pop2 {fs : En → Sto → R (List D)} (hK : X.K = W.K) {σ : St} {H : Hp} {Q : VK}
    (h : lift W (fun e S => (fo e S).bind fun x S1 => if bmPre .pop2 x S1 = true then (fs e S1).bind fun vs S2 => bmD .pop2 x vs S2 else .bad) σ H Q) : tBM X.K "dict" L2.DX.rPopT (lift W fo) (liftA W fs) σ H Q := by
  rw [hK]
  obtain ⟨m, e, S, w, S', er, rp, h, fi⟩ := h
  obtain ⟨x, S1, h1, h⟩ := R.bind_eq h
  split at h
  · rename_i hp
    obtain ⟨vs, S2, h2, h3⟩ := R.bind_eq h
    refine ⟨m, e, S, x, S1, er, rp, h1, fun X1 H1 m1 x1 r1 v1 => ?_⟩
    obtain ⟨i, rfl, hd⟩ := pre_dic (.inr (.inr rfl)) hp
    obtain ⟨aa, rfl, hmi, _, hD⟩ := isD_of r1 v1 hd
    refine ⟨.inr (.inr (.inl ⟨rfl, hD⟩)), m1, e, S1, vs, S2, er.to x1, r1, h2, fun zs H2 m2 x2 r2 v2 => ?_⟩
    rcases vs with _ | ⟨k, _ | ⟨z, _ | ⟨_, _⟩⟩⟩
    · cases h3
    · cases h3
    · simp only [bmD] at h3
      split at h3
      · rename_i kvs hS
        split at h3
        · rename_i ks
          split at h3
          · rename_i kk hk
            obtain ⟨Y, Z, rfl, vy, vz⟩ := vrs2 v2
            obtain ⟨p, e3, hmi2, ws, hp2, kr⟩ := vr_obj r2 (v1.to x2) hS
            cases e3
            obtain ⟨bb, ys, rfl, sb, rb⟩ := vr_tup vy
            obtain ⟨e4, e5⟩ := keys_of rb hk
            have hbb := tup_key sb e5
            rw [e4] at hbb
            have fi2 := fi.to (x1.trans x2)
            unfold L2.DX.rPopT
            refine ⟨aa, ws, kk, bb, Z, rfl, rfl, hp2, hbb, fun u hu => ?_, fun hu => ?_⟩
            · rcases look_of kr kk with ⟨_, e7⟩ | ⟨d, y, e6, e7, vr⟩
              · rw [hu] at e7
                cases e7
              · rw [hu] at e7
                cases e7
                rw [e6] at h3
                obtain ⟨rfl, rfl⟩ := ok_inj h3
                have x3 : Ext m2 H2 m2 (upd H2 aa (.dT (dropK ws kk))) :=
                  ⟨⟨[], by simp⟩, fun b xs h => by rw [upd_ne (ne_of h hp2 fun e => by cases e)]; exact h, fun b ob v h => by rw [upd_ne (ne_of h hp2 fun e => by cases e)]; exact h⟩
                obtain ⟨r3, x4⟩ := r2.put (ob := .dT (dropKD kvs kk)) hmi2 hp2 (fun _ e => by cases e) (fun _ _ e => by cases e) ⟨dropK ws kk, upd_same, (drop_of kr kk).to x3⟩
                exact fi2 _ _ _ x4 r3 (vr.to x4)
            · rcases look_of kr kk with ⟨e6, _⟩ | ⟨d, y, _, e7, _⟩
              · rw [e6] at h3
                obtain ⟨rfl, rfl⟩ := ok_inj h3
                exact fi2.done r2 vz
              · rw [hu] at e7
                cases e7
          · cases h3
        · cases h3
      · cases h3
    · cases h3
  · cases h
/-! ### targets -/
def gNms : List Nat → TGs
  | [] => gNil
  | i :: is => gCons (gName i) (gNms is)
def gTg (K : PySem.W.Frag) : Tg → TG
  | .nm i => gName i
  | .tp is => fun v σ H Q => gTup K is.length (gNms is) v σ H Q ∨ gLst K is.length (gNms is) v σ H Q
/-- the slots that a target stores to -/
inductive SetsAt : List Nat → St → St → Prop
  | refl {is : List Nat} {σ : St} : SetsAt is σ σ
  | step {is : List Nat} {σ σ' : St} {i : Nat} {v : V} : i ∈ is → SetsAt is (σ.set i (some v)) σ' → SetsAt is σ σ'
theorem SetsAt.mono {is js : List Nat} {σ σ' : St} (h : SetsAt is σ σ') (k : ∀ i ∈ is, i ∈ js) : SetsAt js σ σ' := by
  induction h with
  | refl => exact .refl
  | step hi _ ih => exact .step (k _ hi) ih
theorem s_nms {m : List Addr} {H : Hp} {K : St → Hp → Prop} : ∀ (is : List Nat) (xs : List D) (ys : List V) (e : En) (σ : St), xs.length = is.length → VRs W m H xs ys → ER W m H e σ →
    (∀ σ', ER W m H ((is.zip xs).foldl (fun e p => e.set p.1 (some p.2)) e) σ' → SetsAt is σ σ' → K σ' H) → gNms is ys σ H K
  | [], xs, ys, e, σ, hl, r, er, k => by
    have hx : xs = [] := List.eq_nil_of_length_eq_zero hl
    subst hx
    cases r
    exact ⟨rfl, k σ er .refl⟩
  | i :: is, xs, ys, e, σ, hl, r, er, k => by
    cases r with
    | nil => cases hl
    | @cons x y xs ys h1 h2 =>
      refine ⟨y, ys, rfl, ?_⟩
      refine s_nms is xs ys (e.set i (some x)) (σ.set i (some y)) (by simpa using hl) h2 (er.set i h1) fun σ' er' st => ?_
      exact k σ' er' (.step List.mem_cons_self (st.mono fun j hj => List.mem_cons_of_mem _ hj))
theorem s_tg {m : List Addr} {H : Hp} {S : Sto} {K : St → Hp → Prop} {t : Tg} {x : D} {v : V} {e e2 : En} {σ : St} (rp : Rep W m H S) (h : setTg t x e S = some e2) (r : VR W m H x v) (er : ER W m H e σ) (k : ∀ σ', ER W m H e2 σ' → SetsAt t.slots σ σ' → K σ' H) : gTg W.K t v σ H K := by
  cases t with
  | nm i =>
    simp only [setTg] at h
    split at h
    · cases h
      exact k _ (er.set i r) (.step List.mem_cons_self .refl)
    · cases h
  | tp is =>
    simp only [setTg] at h
    split at h
    · split at h
      · rename_i xs hu hc
        cases h
        unfold unpD at hu
        split at hu
        · cases hu
          obtain ⟨a, ys, rfl, sa, ra⟩ := vr_tup r
          exact .inl ⟨a, ys, rfl, sa.sq, by rw [← ra.length]; exact hc.1, s_nms is xs ys e σ hc.1 ra er k⟩
        · split at hu
          · rename_i i zs hi
            cases hu
            obtain ⟨a, rfl, _, ys, haa, ra⟩ := vr_obj rp r hi
            exact .inr ⟨a, ys, rfl, SqL.of haa, by rw [← ra.length]; exact hc.1, s_nms is xs ys e σ hc.1 ra er k⟩
          · cases hu
        · cases hu
      · cases h
    · cases h
/-- the names of a scope, as the context has them -/
structure ScOk (X : Cx) (sc : Scope) : Prop where
  cf : ∀ x, sc.names.lookup x = some .cell ∨ sc.names.lookup x = some .free → X.env.scope.names.lookup x = some .cell ∨ X.env.scope.names.lookup x = some .free
  kind : X.env.scope.kind = .function
  vis : ∀ x, visB sc x = true → Vis X.env.scope x
  gl : ∀ x, glB sc x = true → Gl X x
  loc : ∀ x, locB sc x = true → Loc X.env.scope x ∧ (X.fn x = true ∨ X.env.scope.names.lookup x = some .local)
theorem nm_pg {N : List Str} {sc : Scope} {x : Expr} {i : Nat} (hX : X.N = N) (hN : N.Nodup) (so : ScOk X sc) (h : trNm N sc x = some i) : PG X x (gName i) := by
  unfold trNm at h
  split at h
  · rename_i y pos
    split at h
    · rename_i hl
      obtain ⟨h1, h2⟩ := so.loc y hl
      exact pg_name (by rw [hX]; exact hN) (by rw [hX]; exact slot_ok h) h1 h2
    · cases h
  · cases h
theorem nm_ass {N : List Str} {sc : Scope} {x : Expr} {i : Nat} (h : trNm N sc x = some i) (xs : List Expr) (env : Env) : assignEach (x :: xs) env = (false, assign x env) :: assignEach xs env := by
  unfold trNm at h
  split at h
  · rfl
  · cases h
theorem nms_pg {N : List Str} {sc : Scope} (hX : X.N = N) (hN : N.Nodup) (so : ScOk X sc) : ∀ {xs : List Expr} {is : List Nat}, trNms N sc xs = some is → PGs X xs (gNms is) ∧ (assignEach xs X.env).length = is.length ∧ (assignEach xs X.env).findIdx? (·.1) = none
  | [], is, h => by
    cases h
    exact ⟨pgs_nil, rfl, rfl⟩
  | x :: xs, is, h => by
    unfold trNms at h
    split at h
    · rename_i i is' h1 h2
      cases h
      obtain ⟨i1, i2, i3⟩ := nms_pg hX hN so h2
      have e := nm_ass h1 xs X.env
      refine ⟨pgs_cons (nm_pg hX hN so h1) i1 (by rw [e]; rfl), by rw [e, List.length_cons, List.length_cons, i2], ?_⟩
      rw [e, List.findIdx?_cons, i3]
      rfl
    · cases h
theorem pg_tl {x : Expr} {t t' : TG} (h : PG X x t) (h' : PG X x t') : PG X x (fun v σ H Q => t v σ H Q ∨ t' v σ H Q) := by
  refine ⟨fun pins s σ H v u Q I r hw => ?_⟩
  rcases hw with hw | hw
  · exact h.run pins s σ H v u Q I r hw
  · exact h'.run pins s σ H v u Q I r hw
theorem tg_pg {N : List Str} {sc : Scope} {x : Expr} {t : Tg} (hX : X.N = N) (hN : N.Nodup) (hc : X.calm = true) (so : ScOk X sc) (h : trTg N sc x = some t) : PG X x (gTg X.K t) := by
  unfold trTg at h
  split at h
  · obtain ⟨is, h1, rfl⟩ := Option.map_eq_some_iff.mp h
    obtain ⟨i1, i2, i3⟩ := nms_pg hX hN so h1
    exact pg_tl (pg_tup hc i1 i2 i3) (pg_lst hc i1 i2 i3)
  · obtain ⟨i, h1, rfl⟩ := Option.map_eq_some_iff.mp h
    exact nm_pg hX hN so h1
/-! ### comprehensions -/
theorem wipe_set {σ : St} {i : Nat} {v : Option V} : ∀ {vs : List Nat}, i ∈ vs → wipe (σ.set i v) vs = wipe σ vs
  | u :: us, h => by
    show (wipe (σ.set i v) us).set u none = (wipe σ us).set u none
    by_cases hu : i ∈ us
    · rw [wipe_set hu]
    · have e : u = i := by
        rcases List.mem_cons.mp h with e | e
        · exact e.symm
        · exact absurd e hu
      subst e
      have c : ∀ (ws : List Nat), u ∉ ws → wipe (σ.set u v) ws = (wipe σ ws).set u v := fun ws => by
        induction ws with
        | nil => exact fun _ => rfl
        | cons w ws ih =>
          intro hw
          simp only [List.mem_cons, not_or] at hw
          show (wipe (σ.set u v) ws).set w none = ((wipe σ ws).set w none).set u v
          rw [ih hw.2, List.set_comm _ _ (Ne.symm hw.1)]
      rw [c us hu, List.set_set]
theorem wipe_set_none {σ : St} {w : Nat} : ∀ (vs : List Nat), wipe (σ.set w none) vs = (wipe σ vs).set w none
  | [] => rfl
  | u :: us => by
    show (wipe (σ.set w none) us).set u none = ((wipe σ us).set u none).set w none
    rw [wipe_set_none us]
    by_cases e : u = w
    · rw [e]
    · rw [List.set_comm _ _ (Ne.symm e)]
theorem wipe_wipe {σ : St} : ∀ (us vs : List Nat), (∀ u ∈ us, u ∈ vs) → wipe (wipe σ us) vs = wipe σ vs
  | [], vs, _ => rfl
  | u :: us, vs, h => by
    show wipe ((wipe σ us).set u none) vs = wipe σ vs
    rw [wipe_set (h u List.mem_cons_self)]
    exact wipe_wipe us vs fun w hw => h w (List.mem_cons_of_mem _ hw)
theorem SetsAt.wipe {is vs : List Nat} {σ σ' : St} (h : SetsAt is σ σ') (k : ∀ i ∈ is, i ∈ vs) : wipe σ' vs = wipe σ vs := by
  induction h with
  | refl => rfl
  | step hi _ ih => rw [ih, wipe_set (k _ hi)]
def lcBody (t : Tg) (own : List Nat) (fc : En → Sto → R Bool) (fe : En → Sto → R D) (e : En) : D → Sto → R (Option D) := fun x S2 => match setTg t x (wipeE e own) S2 with
  | none => .bad
  | some e2 => (fc e2 S2).bind fun b S3 => if b = true then (fe e2 S3).bind fun y S4 => .ok (some y) S4 else .ok none S3
theorem s_lc {t : Tg} {own : List Nat} {fi : En → Sto → R It} {fc : En → Sto → R Bool} {fe : En → Sto → R D} {tt : TT} (hs : ∀ i ∈ t.slots, i ∈ own) {σ : St} {H : Hp} {Q : VK}
    (ktt : ∀ {σ H K}, liftT W fc σ H K → tt σ H K)
    (h : lift W (fun e S => (fi e S).bind fun J S1 => (lcLoop J (lcBody t own fc fe e) S1.length J.items (S1 ++ [.lst []])).bind fun _ S5 => .ok (.ref S1.length) S5) σ H Q) : tLc (liftI W fi) (gTg W.K t) tt (lift W fe) own σ H Q := by
  obtain ⟨m, e, S, w, S', er, rp, h, fin⟩ := h
  obtain ⟨it, S1, h1, h⟩ := R.bind_eq h
  obtain ⟨u, S5, h2, h3⟩ := R.bind_eq h
  obtain ⟨rfl, rfl⟩ := ok_inj h3
  refine ⟨m, e, S, it, S1, er, rp, h1, fun J H1 m1 x1 r1 jr => ?_⟩
  intro Dd hD
  obtain ⟨r2, x2⟩ := r1.new (o := .lst []) (ob := .lst []) hD ⟨[], upd_same, .nil⟩
  refine ⟨fun i n H' => n = it.items.length - i ∧ i ≤ it.items.length ∧ ∃ m' S0, Ext (m1 ++ [Dd]) (upd H1 Dd (.lst [])) m' H' ∧ Rep W m' H' S0 ∧ lcLoop it (lcBody t own fc fe e) S1.length (it.items.drop i) S0 = .ok u S5,
    ⟨_, rfl, Nat.zero_le _, m1 ++ [Dd], _, .refl, r2, h2⟩, ?_⟩
  rintro i n H' ⟨rfl, hi, m', S0, x3, r3, hl⟩
  have mD : m'[S1.length]? = some Dd := x3.get (by rw [← r1.len]; simp)
  by_cases hlt : i < it.items.length
  · rw [List.drop_eq_getElem_cons hlt] at hl
    have gi : it.items[i]? = some it.items[i] := List.getElem?_eq_getElem hlt
    generalize it.items[i] = x at hl gi
    unfold lcLoop at hl
    split at hl
    · rename_i st
      obtain ⟨yo, S6, h4, h5⟩ := R.bind_eq hl
      refine .inr ⟨jr.go i m' H' S0 x (x2.trans x3) r3 st gi, fun H2 => ∃ m2 S7, Ext (m1 ++ [Dd]) (upd H1 Dd (.lst [])) m2 H2 ∧ Rep W m2 H2 S7 ∧ lcLoop it (lcBody t own fc fe e) S1.length (it.items.drop (i + 1)) S7 = .ok u S5,
        fun H2 ⟨m2, S7, y1, y2, y3⟩ => ⟨it.items.length - (i + 1), by omega, rfl, hlt, m2, S7, y1, y2, y3⟩, fun v H2 hy => ?_⟩
      obtain ⟨x4, r4, vr⟩ := jr.yld i m' H' S0 x v H2 (x2.trans x3) r3 st gi hy
      unfold lcBody at h4
      split at h4
      · cases h4
      · rename_i e2 he2
        have xa := x1.trans (x2.trans (x3.trans x4))
        refine s_tg r4 he2 vr ((er.to xa).wipe own) fun σ2 er2 sa => ⟨?_, ?_⟩
        · rw [sa.wipe hs]
          exact wipe_wipe own own fun _ z => z
        · obtain ⟨bo, S8, h6, h7⟩ := R.bind_eq h4
          refine ktt ⟨m', e2, S0, bo, S8, er2, r4, h6, fun H3 m3 x5 r5 => ?_⟩
          cases bo with
          | true =>
            rw [if_pos rfl] at h7 ⊢
            obtain ⟨y, S9, h8, h9⟩ := R.bind_eq h7
            obtain ⟨rfl, rfl⟩ := ok_inj h9
            refine ⟨m3, e2, S8, y, S9, er2.to x5, r5, h8, fun Y H4 m4 x6 r6 vy => ?_⟩
            dsimp only at h5
            split at h5
            · rename_i acc hacc
              split at h5
              · rename_i hz
                have m4D : m4[S1.length]? = some Dd := x6.get (x5.get (x4.get mD))
                obtain ⟨ys, hys, ra⟩ := r6.obj _ _ _ m4D hacc
                obtain ⟨r7, x7⟩ := put_lst (xs := acc) r6 m4D hys (ra.append (.cons vy .nil))
                exact ⟨ys, hys, by rw [← ra.length]; exact hz, m4, _, x3.trans (x4.trans (x5.trans (x6.trans x7))), r7, h5⟩
              · cases h5
            · cases h5
          | false =>
            rw [if_neg Bool.false_ne_true] at h7 ⊢
            obtain ⟨rfl, rfl⟩ := ok_inj h7
            exact ⟨m3, _, x3.trans (x4.trans x5), r5, h5⟩
    · cases hl
  · have hie : i = it.items.length := by omega
    subst hie
    rw [List.drop_length] at hl
    unfold lcLoop at hl
    split at hl
    · rename_i st
      obtain ⟨_, rfl⟩ := ok_inj hl
      exact .inl ⟨jr.stop _ m' H' S0 (x2.trans x3) r3 st (Nat.le_refl _), fin _ _ _ (x1.trans (x2.trans x3)) r3 (.ref mD)⟩
    · cases hl
end
end Mi
set_option Elab.async false
set_option linter.all false
set_option maxRecDepth 100000
/-! M9b: two clauses. -/
namespace Mi
open PySem PySem.Spec L2
open PyProof.Rows hiding St
section
variable {X : Cx} {W : Wd}
noncomputable def lc2Body (t t1 : Tg) (own own1 : List Nat) (fi1 : En → Sto → R It) (fe : En → Sto → R D) (e : En) (p : Nat) : D → Sto → R Unit := fun x S2 => match setTg t x (wipeE e own) S2 with
  | none => .bad
  | some e2 => (fi1 e2 S2).bind fun J1 S3 => lcLoop J1 (lcBody t1 own1 (fun _ S => .ok true S) fe e2) p J1.items S3
theorem s_lc2 {t t1 : Tg} {own own1 : List Nat} {fi fi1 : En → Sto → R It} {fe : En → Sto → R D} (hs : ∀ i ∈ t.slots, i ∈ own) (hs1 : ∀ i ∈ t1.slots, i ∈ own1) {σ : St} {H : Hp} {Q : VK}
    (h : lift W (fun e S => (fi e S).bind fun J S1 => (lc2Loop J (lc2Body t t1 own own1 fi1 fe e S1.length) J.items (S1 ++ [.lst []])).bind fun _ S5 => .ok (.ref S1.length) S5) σ H Q) :
    tLc2 (liftI W fi) (gTg W.K t) tYes (liftI W fi1) (gTg W.K t1) tYes (lift W fe) own own1 σ H Q := by
  obtain ⟨m, e, S, w, S', er, rp, h, fin⟩ := h
  obtain ⟨it, S1, h1, h⟩ := R.bind_eq h
  obtain ⟨u, S5, h2, h3⟩ := R.bind_eq h
  obtain ⟨rfl, rfl⟩ := ok_inj h3
  refine ⟨m, e, S, it, S1, er, rp, h1, fun J H1 m1 x1 r1 jr => ?_⟩
  intro Dd hD
  obtain ⟨r2, x2⟩ := r1.new (o := .lst []) (ob := .lst []) hD ⟨[], upd_same, .nil⟩
  refine ⟨fun i n H' => n = it.items.length - i ∧ i ≤ it.items.length ∧ ∃ m' S0, Ext (m1 ++ [Dd]) (upd H1 Dd (.lst [])) m' H' ∧ Rep W m' H' S0 ∧ lc2Loop it (lc2Body t t1 own own1 fi1 fe e S1.length) (it.items.drop i) S0 = .ok u S5,
    ⟨_, rfl, Nat.zero_le _, m1 ++ [Dd], _, .refl, r2, h2⟩, ?_⟩
  rintro i n H' ⟨rfl, hi, m', S0, x3, r3, hl⟩
  have mD : m'[S1.length]? = some Dd := x3.get (by rw [← r1.len]; simp)
  by_cases hlt : i < it.items.length
  · rw [List.drop_eq_getElem_cons hlt] at hl
    have gi : it.items[i]? = some it.items[i] := List.getElem?_eq_getElem hlt
    generalize it.items[i] = x at hl gi
    unfold lc2Loop at hl
    split at hl
    · rename_i st
      obtain ⟨u1, S6, h4, h5⟩ := R.bind_eq hl
      refine .inr ⟨jr.go i m' H' S0 x (x2.trans x3) r3 st gi, fun H2 => ∃ m2 S7, Ext (m1 ++ [Dd]) (upd H1 Dd (.lst [])) m2 H2 ∧ Rep W m2 H2 S7 ∧ lc2Loop it (lc2Body t t1 own own1 fi1 fe e S1.length) (it.items.drop (i + 1)) S7 = .ok u S5,
        fun H2 ⟨m2, S7, y1, y2, y3⟩ => ⟨it.items.length - (i + 1), by omega, rfl, hlt, m2, S7, y1, y2, y3⟩, fun v H2 hy => ?_⟩
      obtain ⟨x4, r4, vr⟩ := jr.yld i m' H' S0 x v H2 (x2.trans x3) r3 st gi hy
      unfold lc2Body at h4
      split at h4
      · cases h4
      · rename_i e2 he2
        have xa := x1.trans (x2.trans (x3.trans x4))
        refine s_tg r4 he2 vr ((er.to xa).wipe own) fun σ2 er2 sa => ⟨?_, ?_⟩
        · rw [sa.wipe hs]
          exact wipe_wipe own own fun _ z => z
        · unfold tYes
          dsimp only
          rw [if_pos rfl]
          obtain ⟨it1, S8, h6, h7⟩ := R.bind_eq h4
          refine ⟨m', e2, S0, it1, S8, er2, r4, h6, fun J1 H3 m3 x5 r5 jr1 => ?_⟩
          refine ⟨fun j k H => k = it1.items.length - j ∧ j ≤ it1.items.length ∧ ∃ m4 S9, Ext m3 H3 m4 H ∧ Rep W m4 H S9 ∧ lcLoop it1 (lcBody t1 own1 (fun _ S => .ok true S) fe e2) S1.length (it1.items.drop j) S9 = .ok u1 S6,
            ⟨_, rfl, Nat.zero_le _, m3, S8, .refl, r5, h7⟩, ?_⟩
          rintro j k H4 ⟨rfl, hj, m4, S9, x6, r6, hl1⟩
          have m4D : m4[S1.length]? = some Dd := x6.get (x5.get (x4.get mD))
          by_cases hlt1 : j < it1.items.length
          · rw [List.drop_eq_getElem_cons hlt1] at hl1
            have gj : it1.items[j]? = some it1.items[j] := List.getElem?_eq_getElem hlt1
            generalize it1.items[j] = z at hl1 gj
            unfold lcLoop at hl1
            split at hl1
            · rename_i st1
              obtain ⟨yo, S10, g4, g5⟩ := R.bind_eq hl1
              refine .inr ⟨jr1.go j m4 H4 S9 z x6 r6 st1 gj, fun H5 => ∃ m5 S11, Ext m3 H3 m5 H5 ∧ Rep W m5 H5 S11 ∧ lcLoop it1 (lcBody t1 own1 (fun _ S => .ok true S) fe e2) S1.length (it1.items.drop (j + 1)) S11 = .ok u1 S6,
                fun H5 ⟨m5, S11, y1, y2, y3⟩ => ⟨it1.items.length - (j + 1), by omega, rfl, hlt1, m5, S11, y1, y2, y3⟩, fun v1 H5 hy1 => ?_⟩
              obtain ⟨x7, r7, vr1⟩ := jr1.yld j m4 H4 S9 z v1 H5 x6 r6 st1 gj hy1
              unfold lcBody at g4
              split at g4
              · cases g4
              · rename_i e3 he3
                refine s_tg r7 he3 vr1 ((((er2.to x5).to x6).to x7).wipe own1) fun σ3 er3 sa1 => ⟨?_, ?_⟩
                · rw [sa1.wipe hs1]
                  exact wipe_wipe own1 own1 fun _ z => z
                · rw [if_pos rfl]
                  obtain ⟨bo, S12, g6, g7⟩ := R.bind_eq g4
                  obtain ⟨rfl, rfl⟩ := ok_inj g6
                  rw [if_pos rfl] at g7
                  obtain ⟨y, S13, g8, g9⟩ := R.bind_eq g7
                  obtain ⟨rfl, rfl⟩ := ok_inj g9
                  refine ⟨m4, e3, S9, y, S13, er3, r7, g8, fun Y H6 m6 x8 r8 vy => ?_⟩
                  dsimp only at g5
                  split at g5
                  · rename_i acc hacc
                    split at g5
                    · rename_i hz
                      have m6D : m6[S1.length]? = some Dd := x8.get (x7.get m4D)
                      obtain ⟨ys, hys, ra⟩ := r8.obj _ _ _ m6D hacc
                      obtain ⟨r9, x9⟩ := put_lst (xs := acc) r8 m6D hys (ra.append (.cons vy .nil))
                      exact ⟨ys, hys, by rw [← ra.length]; exact hz, m6, _, x6.trans (x7.trans (x8.trans x9)), r9, g5⟩
                    · cases g5
                  · cases g5
            · cases hl1
          · have hje : j = it1.items.length := by omega
            subst hje
            rw [List.drop_length] at hl1
            unfold lcLoop at hl1
            split at hl1
            · rename_i st1
              obtain ⟨_, rfl⟩ := ok_inj hl1
              exact .inl ⟨jr1.stop _ m4 H4 S9 x6 r6 st1 (Nat.le_refl _), m4, _, x3.trans (x4.trans (x5.trans x6)), r6, h5⟩
            · cases hl1
    · cases hl
  · have hie : i = it.items.length := by omega
    subst hie
    rw [List.drop_length] at hl
    unfold lc2Loop at hl
    split at hl
    · rename_i st
      obtain ⟨_, rfl⟩ := ok_inj hl
      exact .inl ⟨jr.stop _ m' H' S0 (x2.trans x3) r3 st (Nat.le_refl _), fin _ _ _ (x1.trans (x2.trans x3)) r3 (.ref mD)⟩
    · cases hl
end
end Mi
set_option Elab.async false
set_option linter.all false
set_option maxRecDepth 100000
/-! M10: the translation of expressions is sound. -/
namespace Mi
open PySem PySem.Spec L2
open PyProof.Rows hiding St
/-- what is known where a def's body runs, with room for so many calls -/
structure Good (X : Cx) (W : Wd) (P : Pr) (t : Tx) (k : Nat) : Prop where
  hK : X.K = W.K
  hN : X.N = t.N
  nd : t.N.Nodup
  calm : X.calm = true
  room : Rm k X.A
  cds : CdOk X.K X.w W fun i => P.cds.getD i []
  con : ∀ x d, x ∈ t.con → P.con.lookup x = some d → ∃ u y, X.mg x = some u ∧ RelV y u ∧ ∀ m H, VR W m H d y
  blt : ∀ x ∈ bltNames, X.mg x = none
  fns : ∀ f ∈ t.fns, ∃ fa fd ps, X.mg f = some (.ref fa) ∧ PySem.W.keepIn X.K (.ref fa) = true ∧ Binds X.K fd ps [] ∧ FnR X.prog X.w X.K X.mg X.base CX0 k fa fd ps (spD W ((cxt P k).call f))
  cls : ∀ c ∈ t.cls, ∃ n fa fd ps, n < W.nc ∧ P.cl c = some n ∧ Mk X.K (W.ca n) fa ∧ X.mg c = some (.ref (W.ca n)) ∧ Binds X.K fd ps [] ∧ ∀ j, k = j + 1 → FnR X.prog X.w X.K X.mg X.base CX0 j fa fd ps (spD W ((cxt P j).meth n "__init__"))
  mts : MtOk X W k (cxt P k).meth
  flds : ∀ f ∈ t.fields, ∀ n, n < W.nc → NoAttr X.K (W.ca n) f
section
variable {X : Cx} {W : Wd} {P : Pr} {t : Tx} {k : Nat}
theorem Good.blk (G : Good X W P t k) {s : Shared} {H : Hp} {scope : Scope} {cenv : Env} {fp : List Addr} : Good (X.blk s H scope cenv fp) W P t k :=
  ⟨G.hK, G.hN, G.nd, G.calm, G.room, G.cds, G.con, G.blt, G.fns, G.cls, ⟨G.mts.cls, G.mts.ok⟩, G.flds⟩
theorem Good.u64 (G : Good X W P t k) : X.A.units + 64 < cLine := by
  have h := G.room.u0
  unfold cLine at h ⊢
  omega
theorem Good.u1 (G : Good X W P t k) : X.A.units + 1 < cLine := by
  have h := G.u64
  omega
theorem pe_bad {x : Expr} {f : En → Sto → R D} (h : ∀ e S v S', f e S ≠ .ok v S') : PE X x (lift W f) := ⟨fun pins s σ H Q I q => by
  obtain ⟨m, e, S, v, S', _, _, h1, _⟩ := q
  exact absurd h1 (h e S v S')⟩
/-! ### scopes of blocks -/
theorem ScOk.blk {sc scope : Scope} {own : List (Str × Nat)} (so : ScOk X sc) (hb : blkC X.N sc scope own = true) {s : Shared} {H : Hp} {cl : List (Str × Addr)} {C : Addr} {fp : List Addr} : ScOk (X.blk s H scope (compEnvC scope cl C X.env) fp) scope := by
  have ok := blkOk_by hb
  have hsc : (compEnvC scope cl C X.env).scope = relS scope X.env.scope := rfl
  have up : ∀ {x : Str} {kd : NameKind}, kd ≠ .free → scope.names.lookup x = some kd → (relS scope X.env.scope).names.lookup x = some kd := fun {x kd} hk h => lookup_relS_keep hk h
  have upF : ∀ {x : Str}, scope.names.lookup x = some .free → (relS scope X.env.scope).names.lookup x = some .cell ∨ (relS scope X.env.scope).names.lookup x = some .free := fun {x} h => by
    cases q : (relS scope X.env.scope).names.lookup x with
    | some kd =>
      obtain ⟨k', e, r⟩ := lookup_relS q
      rw [h] at e
      cases e
      rcases r with rfl | ⟨_, rfl⟩
      · exact .inr rfl
      · exact .inl rfl
    | none =>
      exfalso
      have hm : (x, NameKind.free) ∈ scope.names := PySem.mem_of_lookup h
      have : ∀ (names : List (Str × NameKind)), (x, NameKind.free) ∈ names → (names.map fun (n, k) => if (k == NameKind.free && X.env.scope.kind == .function && X.env.scope.names.lookup n == some .cell) then (n, NameKind.cell) else (n, k)).lookup x ≠ none := fun names => by
        induction names with
        | nil => intro h; cases h
        | cons p ps ih =>
          intro hp
          obtain ⟨n, k0⟩ := p
          show List.lookup x ((if (k0 == NameKind.free && X.env.scope.kind == .function && X.env.scope.names.lookup n == some .cell) = true then (n, NameKind.cell) else (n, k0)) :: (ps.map _)) ≠ none
          cases hx : x == n with
          | true =>
            by_cases hc : (k0 == NameKind.free && X.env.scope.kind == .function && X.env.scope.names.lookup n == some .cell) = true
            · rw [if_pos hc, List.lookup_cons, hx]
              exact fun e => by cases e
            · rw [if_neg hc, List.lookup_cons, hx]
              exact fun e => by cases e
          | false =>
            have hp2 : (x, NameKind.free) ∈ ps := by
              rcases List.mem_cons.mp hp with e | e
              · cases e
                simp at hx
              · exact e
            by_cases hc : (k0 == NameKind.free && X.env.scope.kind == .function && X.env.scope.names.lookup n == some .cell) = true
            · rw [if_pos hc, List.lookup_cons, hx]
              exact ih hp2
            · rw [if_neg hc, List.lookup_cons, hx]
              exact ih hp2
      exact this _ hm q
  refine ⟨fun x h => ?_, ok.kind, fun x h => ?_, fun x h => ?_, fun x h => ?_⟩
  · rcases h with h | h
    · exact .inl (up (by decide) h)
    · exact upF h
  · unfold visB at h
    show Vis (relS scope X.env.scope) x
    split at h
    · exact .inl (up (by decide) (by assumption))
    · exact .inr (.inl (up (by decide) (by assumption)))
    · rcases upF (by assumption) with e | e
      · exact .inr (.inl e)
      · exact .inr (.inr e)
    · cases h
  · unfold glB at h
    split at h
    · exact up (by decide) (by assumption)
    · cases h
  · unfold locB at h
    show Loc (relS scope X.env.scope) x ∧ ((scope.names.lookup x == some .cell) = true ∨ (relS scope X.env.scope).names.lookup x = some .local)
    split at h
    · rename_i e
      exact ⟨.inl (up (by decide) e), .inr (up (by decide) e)⟩
    · rename_i e
      exact ⟨.inr (up (by decide) e), .inl (by rw [e]; rfl)⟩
    · cases h
theorem blk_ok {sc scope : Scope} {own : List (Str × Nat)} (so : ScOk X sc) (hb : blkC X.N sc scope own = true) : BlkOk X.N X.env.scope scope own := by
  have ok := blkOk_by hb
  exact ⟨ok.kind, ok.uniq, ok.ix, fun y hy e => so.cf _ (ok.free y hy e), ok.own⟩
theorem p62 : (2 : Int) ^ 62 = 4611686018427387904 := by decide +kernel
/-! ### what is walked -/
theorem s_seq {fa : En → Sto → R D} {σ : St} {H : Hp} {K : L2.It → Hp → Prop} (h : liftI W (fun e S => (fa e S).bind fun x S1 => seqIt x S1) σ H K) : iSeq W.K (lift W fa) σ H K := by
  obtain ⟨m, e, S, it, S', er, rp, h, f⟩ := h
  obtain ⟨x, S1, h1, h⟩ := R.bind_eq h
  refine ⟨m, e, S, x, S1, er, rp, h1, fun X1 H1 m1 x1 r1 v1 => ?_⟩
  unfold seqIt at h
  split at h
  · obtain ⟨rfl, rfl⟩ := ok_inj h
    obtain ⟨a, ys, rfl, sa, ra⟩ := vr_tup v1
    exact .inr (.inl ⟨a, rfl, ⟨ys, sa.sq⟩, f _ H1 m1 x1 r1 (itr_tup sa ra)⟩)
  · obtain ⟨rfl, rfl⟩ := ok_inj h
    obtain ⟨a, ys, rfl, sa, ra⟩ := vr_lit v1
    exact .inl ⟨a, rfl, ⟨ys, sa.sq⟩, f _ H1 m1 x1 r1 (itr_lit sa ra)⟩
  · split at h
    · obtain ⟨rfl, rfl⟩ := ok_inj h
      obtain rfl := vr_str v1
      exact .inr (.inr ⟨_, rfl, f _ H1 m1 x1 r1 itr_str⟩)
    · cases h
  · split at h
    · rename_i i _ xs q
      obtain ⟨rfl, rfl⟩ := ok_inj h
      obtain ⟨a, rfl, hm, ys, haa, ra⟩ := vr_obj r1 v1 q
      exact .inl ⟨a, rfl, ⟨ys, SqL.of haa⟩, f _ H1 m1 x1 r1 (itr_lst hm)⟩
    · cases h
  · cases h
theorem s_rng1 {fs : En → Sto → R (List D)} {σ : St} {H : Hp} {K : L2.It → Hp → Prop} (hl : ∀ e S vs S', fs e S = .ok vs S' → vs.length = 1) (h : liftI W (fun e S => (fs e S).bind fun x S1 => rngIt x S1) σ H K) : iRng1 (liftA W fs) σ H K := by
  obtain ⟨m, e, S, it, S', er, rp, h, f⟩ := h
  obtain ⟨x, S1, h1, h⟩ := R.bind_eq h
  refine ⟨m, e, S, x, S1, er, rp, h1, fun X1 H1 m1 x1 r1 v1 => ?_⟩
  have hl := hl _ _ _ _ h1
  unfold rngIt at h
  split at h
  · rename_i j
    split at h
    · rename_i hj
      obtain ⟨rfl, rfl⟩ := ok_inj h
      obtain ⟨Y, rfl, hy⟩ := vrs1 v1
      obtain rfl := vr_int hy
      exact ⟨j, rfl, by rw [p62]; exact hj.1, by rw [p62]; exact hj.2, f _ H1 m1 x1 r1 itr_rng⟩
    · cases h
  · cases hl
  · cases h
theorem s_rng2 {fs : En → Sto → R (List D)} {σ : St} {H : Hp} {K : L2.It → Hp → Prop} (hl : ∀ e S vs S', fs e S = .ok vs S' → vs.length = 2) (h : liftI W (fun e S => (fs e S).bind fun x S1 => rngIt x S1) σ H K) : iRng2 (liftA W fs) σ H K := by
  obtain ⟨m, e, S, it, S', er, rp, h, f⟩ := h
  obtain ⟨x, S1, h1, h⟩ := R.bind_eq h
  refine ⟨m, e, S, x, S1, er, rp, h1, fun X1 H1 m1 x1 r1 v1 => ?_⟩
  have hl := hl _ _ _ _ h1
  unfold rngIt at h
  split at h
  · cases hl
  · rename_i i j
    split at h
    · rename_i hj
      obtain ⟨rfl, rfl⟩ := ok_inj h
      obtain ⟨Y, Z, rfl, hy, hz⟩ := vrs2 v1
      obtain rfl := vr_int hy
      obtain rfl := vr_int hz
      exact ⟨i, j, rfl, by rw [p62]; exact ⟨hj.1.1, hj.1.2, hj.2.1, hj.2.2⟩, f _ H1 m1 x1 r1 itr_rng⟩
    · cases h
  · cases h
theorem s_enum {fa : En → Sto → R D} {σ : St} {H : Hp} {K : L2.It → Hp → Prop} (h : liftI W (fun e S => (fa e S).bind fun x S1 => enumIt x S1) σ H K) :
    iEnumT W.K (liftA W fun e S => (fa e S).bind fun x S1 => (R.ok [] S1).bind fun ys S2 => .ok (x :: ys) S2) σ H K := by
  obtain ⟨m, e, S, it, S', er, rp, h, f⟩ := h
  obtain ⟨x, S1, h1, h⟩ := R.bind_eq h
  have h1' : ((fa e S).bind fun x S1 => (R.ok [] S1).bind fun ys S2 => R.ok (x :: ys) S2) = .ok [x] S1 := by rw [h1]; rfl
  refine ⟨m, e, S, [x], S1, er, rp, h1', fun X1 H1 m1 x1 r1 v1 => ?_⟩
  obtain ⟨Y, rfl, hy⟩ := vrs1 v1
  unfold enumIt at h
  split at h
  · split at h
    · rename_i i _ xs q
      obtain ⟨rfl, rfl⟩ := ok_inj h
      obtain ⟨a, rfl, hm, ys, haa, ra⟩ := vr_obj r1 hy q
      exact ⟨a, ys, rfl, .inl ⟨SqL.of haa, f _ H1 m1 x1 r1 (itr_enum hm)⟩⟩
    · cases h
  · obtain ⟨rfl, rfl⟩ := ok_inj h
    obtain ⟨a, ys, rfl, sa, ra⟩ := vr_tup hy
    exact ⟨a, ys, rfl, .inr ⟨sa.sq, f _ H1 m1 x1 r1 (itr_enumT sa ra)⟩⟩
  · cases h
end
end Mi
set_option Elab.async false
set_option linter.all false
set_option maxRecDepth 100000
set_option maxHeartbeats 2000000
/-! M8c: sep.join(list of texts). -/
namespace Mi
open PySem PySem.Spec PyProof.Rows PySem.Builtin L2
theorem svals : ∀ {ts : List Str} {its : List Value}, Vals (ts.map V.str) its → ∃ l : List (Str × Tok), its = strValues l ∧ l.map (·.1) = ts
  | [], _, .nil => ⟨[], rfl, rfl⟩
  | x :: ts, _, .cons r1 r2 => by
    obtain ⟨t, rfl⟩ := (show ∃ t, _ = Value.str x t from r1)
    obtain ⟨l, rfl, h⟩ := svals r2
    exact ⟨(x, t) :: l, rfl, by simp [h]⟩
theorem glued_one (sep x : Str) : Str.glued sep [x] = x := rfl
/-- sep.join(list of texts) -/
def rSjoin (K : PySem.W.Frag) : V → List V → Hp → VK → Prop := fun x xs H Q => ∃ (sep : Str) (p : Addr) (ts : List Str), x = .str sep ∧ xs = [.ref p] ∧ SqL K H p (ts.map V.str) ∧
  Str.tooLong (ts.toArray.foldl (· + ·.length + sep.length) 0) = false ∧ (Str.glued sep ts).length ≤ sizeLine ∧ Q (.str (Str.glued sep ts)) H
theorem mt_sjoin {X : Cx} : MtR X "str.join" (rSjoin X.K) := fun pins s σ H x xs v us Q I rx rxs h => by
  obtain ⟨sep, p, ts, rfl, rfl, hs, h1, h2, q⟩ := h
  obtain ⟨t, rfl⟩ := (show ∃ t, v = Value.str sep t from rx)
  obtain ⟨u, rfl, ru⟩ := vals1 rxs
  obtain rfl : u = Value.ref p := ru
  obtain ⟨its, rv, pl, hz⟩ := I.list hs
  obtain ⟨l, rfl, rfl⟩ := svals rv
  refine call_meets PySem.F.slot_str_join (typeIs_str s sep t) PySem.F.entry_str_join (PySem.F.args_str_join_2 _ _) (meets_str_join_list sep t p l h1) ⟨pl.isList, ?_⟩
  match l with
  | [] => exact ⟨h2, ⟨.str _, H, I.tok _, ⟨_, rfl⟩, q⟩⟩
  | [w] => exact ⟨.str _, H, I, ⟨_, rfl⟩, q⟩
  | w :: z :: r => exact ⟨h2, ⟨.str _, H, I.tok _, ⟨_, rfl⟩, q⟩⟩
theorem strs_of {W : Wd} {m : List Addr} {H : Hp} : ∀ {xs : List D} {ys : List V} {ts : List Str}, VRs W m H xs ys → strsOf xs = some ts → ys = ts.map V.str
  | [], _, ts, .nil, e => by
    cases e
    rfl
  | x :: xs, _, ts, .cons r1 r2, e => by
    cases x <;> first
      | (cases e; done)
      | skip
    rename_i i
    obtain ⟨us, e1, rfl⟩ := Option.map_eq_some_iff.mp (show (strsOf xs).map (i :: ·) = some ts from e)
    obtain rfl := vr_str r1
    rw [strs_of r2 e1]
    rfl
theorem lstStrs {W : Wd} {m : List Addr} {H : Hp} {S : Sto} {x : D} {X : V} {ts : List Str} (rp : Rep W m H S) (h : VR W m H x X) (e : (lstOf S x).bind strsOf = some ts) : ∃ a, X = .ref a ∧ SqL W.K H a (ts.map V.str) := by
  cases q : lstOf S x with
  | none =>
    rw [q] at e
    cases e
  | some xs =>
    rw [q] at e
    obtain ⟨a, ys, rfl, ha, ra⟩ := lst_of rp h q
    obtain rfl := strs_of ra e
    exact ⟨a, rfl, SqL.of ha⟩
theorem pre_join {v : D} {S : Sto} (h : bmPre .join v S = true) : ∃ sep, v = .str sep := by
  cases v with
  | str sep => exact ⟨sep, rfl⟩
  | ref i =>
    cases hS : S[i]? with
    | none => simp only [bmPre, hS] at h; exact absurd h Bool.false_ne_true
    | some ob => cases ob <;> (simp only [bmPre, hS] at h; exact absurd h Bool.false_ne_true)
  | _ => exact absurd h Bool.false_ne_true
theorem s_join {X : Cx} {W : Wd} {fo : En → Sto → R D} {fs : En → Sto → R (List D)} (hK : X.K = W.K) {σ : L2.St} {H : Hp} {Q : VK}
    (h : lift W (fun e S => (fo e S).bind fun x S1 => if bmPre .join x S1 = true then (fs e S1).bind fun vs S2 => bmD .join x vs S2 else .bad) σ H Q) : tBM X.K "str" (rSjoin X.K) (lift W fo) (liftA W fs) σ H Q := by
  rw [hK]
  obtain ⟨m, e, S, w, S', er, rp, h, fi⟩ := h
  obtain ⟨x, S1, h1, h⟩ := R.bind_eq h
  split at h
  · rename_i hp
    obtain ⟨vs, S2, h2, h3⟩ := R.bind_eq h
    refine ⟨m, e, S, x, S1, er, rp, h1, fun X1 H1 m1 x1 r1 v1 => ?_⟩
    obtain ⟨sep, rfl⟩ := pre_join hp
    obtain rfl := vr_str v1
    refine ⟨rfl, m1, e, S1, vs, S2, er.to x1, r1, h2, fun zs H2 m2 x2 r2 v2 => ?_⟩
    match vs, v2, h3 with
    | [], _, h3 => cases h3
    | x :: y :: r, _, h3 => cases h3
    | [x], v2, h3 =>
      obtain ⟨Y, rfl, hy⟩ := vrs1 v2
      have h3 : (match (lstOf S2 x).bind strsOf with
        | some ts => if Builtin.Str.tooLong ((ts : List Str).toArray.foldl (fun (n : Nat) (y : Str) => n + y.length + sep.length) 0) = false ∧ (Builtin.Str.glued sep ts).length ≤ sizeLine then R.ok (D.str (Builtin.Str.glued sep ts)) S2 else R.bad
        | none => R.bad) = .ok w S' := h3
      split at h3
      · rename_i ts q
        split at h3
        · rename_i hz
          obtain ⟨rfl, rfl⟩ := ok_inj h3
          obtain ⟨a, rfl, hs⟩ := lstStrs r2 hy q
          exact ⟨sep, a, ts, rfl, rfl, hs, hz.1, hz.2, (fi.to (x1.trans x2)).done r2 (.str _)⟩
        · cases h3
      · cases h3
  · cases h
end Mi
set_option Elab.async false
set_option linter.all false
set_option maxRecDepth 100000
/-! M11: the translation of expressions is sound: the theorem. -/
namespace Mi
open PySem PySem.Spec L2
open PyProof.Rows hiding St
theorem boot_tab {x : Str} {b : BF} (h : bfTab.lookup x = some b) : bootBuiltins x = some b.val ∧ x ∈ bltNames ∧ x ≠ "__name__" ∧ (x == ("__debug__" : Str)) = false := by
  have hm := PySem.mem_of_lookup h
  have key : ∀ p ∈ bfTab, bootBuiltins p.1 = some p.2.val ∧ p.1 ∈ bltNames ∧ p.1 ≠ "__name__" ∧ (p.1 == ("__debug__" : Str)) = false := by
    intro p hp
    simp only [bfTab, List.mem_cons, List.not_mem_nil, or_false] at hp
    rcases hp with rfl | rfl | rfl | rfl | rfl | rfl | rfl | rfl | rfl | rfl | rfl | rfl <;> exact ⟨by decide +kernel, by decide +kernel, by decide +kernel, by decide +kernel⟩
  exact key _ hm
theorem boot_ty {x : Str} {b : Ty} (h : tyTab.lookup x = some b) : bootBuiltins x = some (.type b.nm) ∧ x ∈ bltNames ∧ x ≠ "__name__" ∧ (x == ("__debug__" : Str)) = false := by
  have hm := PySem.mem_of_lookup h
  have key : ∀ p ∈ tyTab, bootBuiltins p.1 = some (.type p.2.nm) ∧ p.1 ∈ bltNames ∧ p.1 ≠ "__name__" ∧ (p.1 == ("__debug__" : Str)) = false := by
    intro p hp
    simp only [tyTab, List.mem_cons, List.not_mem_nil, or_false] at hp
    rcases hp with rfl | rfl | rfl | rfl <;> exact ⟨by decide +kernel, by decide +kernel, by decide +kernel, by decide +kernel⟩
  exact key _ hm
section
variable {X : Cx} {W : Wd} {P : Pr} {t : Tx} {k : Nat} {n : Nat} {sc : Scope} {x : Expr}
/-- what is to be shown of an expression -/
def OkE (X : Cx) (W : Wd) (C : Cxt) (x : Expr) (e : E) : Prop := PE X x (lift W (ev C e).v) ∧ (isIf x = false → PT X x (liftT W (ev C e).t))
theorem plain_ok {e : E} {C : Cxt} {f : En → Sto → R D} (hK : X.K = W.K) (h : tr t n sc x = some e) (he : ev C e = .of f) (hp : PE X x (lift W f)) (hb : ∀ op vs p, x ≠ .BoolOp op vs p) (hc : ∀ a b c p, x ≠ .Compare a b c p) (hn : ∀ a p, x ≠ .UnaryOp .Not a p) : OkE X W C x e := by
  unfold OkE
  rw [he]
  exact ⟨hp, fun hi => e_truth hK hp (isT_of h hb hc hn hi X.env)⟩
theorem plain_nm {y : Str} (h : plainName y = true) : (y == ("__debug__" : Str)) = false ∧ (y == ("__classdict__" : Str)) = false ∧ y ≠ "__name__" := by
  unfold plainName at h
  rw [Bool.and_eq_true, Bool.and_eq_true] at h
  refine ⟨by simpa using h.1.1, by simpa using h.1.2, ?_⟩
  have h2 := h.2
  intro e
  rw [e] at h2
  simp at h2
/-- lists of expressions -/
theorem as_ok {C : Cxt} (IH : ∀ x e, tr t n sc x = some e → OkE X W C x e) : ∀ {xs : List Expr} {es : Es}, trs (tr t n sc) xs = some es → PA X xs (liftA W (evEs C es))
  | [], es, h => by
    cases h
    exact a_nil
  | x :: xs, es, h => by
    unfold trs at h
    split at h
    · rename_i a as h1 h2
      cases h
      exact a_cons (IH _ _ h1).1 (as_ok IH h2) (star_of h1 xs X.env)
    · cases h
theorem w_ok {C : Cxt} {pos : Pos} (IH : ∀ x e, tr t n sc x = some e → OkE X W C x e) : ∀ {xs : List Expr} {y : Expr} {es : Es}, trTs (tr t n sc) (y :: xs) = some es →
    PW X (.BoolOp .And (y :: xs) pos) (liftT W (evAnd C es)) ∧ PW X (.BoolOp .Or (y :: xs) pos) (liftT W (evOr C es)) ∧ PE X (.BoolOp .And (y :: xs) pos) (lift W (evAndV C es)) ∧ PE X (.BoolOp .Or (y :: xs) pos) (lift W (evOrV C es))
  | [], y, es, h => by
    unfold trTs at h
    split at h
    · rename_i a as h1 h2 h3
      cases h
      cases h3
      obtain ⟨p1, p2⟩ := IH _ _ h2
      exact ⟨w_and1 (p2 h1), w_or1 (p2 h1), pe_one p1, pe_one p1⟩
    · cases h
  | z :: xs, y, es, h => by
    unfold trTs at h
    split at h
    · rename_i a as h1 h2 h3
      cases h
      obtain ⟨p1, p2⟩ := IH _ _ h2
      obtain ⟨q1, q2, q3, q4⟩ := w_ok (pos := pos) IH h3
      cases as with
      | nil =>
        exfalso
        unfold trTs at h3
        split at h3 <;> cases h3
      | cons b bs => exact ⟨w_and (p2 h1) q1, w_or (p2 h1) q2, v_and p1 q3, v_or p1 q4⟩
    · cases h
theorem es_cons {C : Cxt} {f : Expr → Option E} {xs : List Expr} {es : Es} (h : trs f xs = some es) {e : En} {S S' : Sto} {vs : List D} (q : evEs C es e S = .ok vs S') : vs.length = xs.length := es_len h q
/-- a slice's part -/
theorem part_ok {C : Cxt} (IH : ∀ x e, tr t n sc x = some e → OkE X W C x e) {o : Option Expr} {e : E} (h : trP (tr t n sc) o = some e) : ∃ tp : TO, PO X o tp ∧ ∀ {m en S r S' σ H K}, ER W m H en σ → Rep W m H S →
    (if isNop e = true then R.ok none S else ((ev C e).v en S).bind fun l S2 => partR l S2) = .ok r S' → (∀ H' m', Ext m H m' H' → Rep W m' H' S' → K r H') → tp σ H K := by
  cases o with
  | none =>
    cases h
    refine ⟨_, po_none, fun {m en S r S' σ H K} er rp h q => ?_⟩
    have h2 : (R.ok none S : R (Option Int)) = .ok r S' := h
    exact k_none er rp h2 q
  | some x =>
    unfold trP at h
    dsimp only at h
    split at h
    · rename_i a h1
      split at h
      · cases h
      · rename_i hn
        cases h
        refine ⟨_, po_some (IH _ _ h1).1, fun {m en S r S' σ H K} er rp h q => ?_⟩
        rw [if_neg hn] at h
        exact k_some er rp h q
    · cases h
/-! ### calls -/
theorem call_ok (so : ScOk X sc) (G : Good X W P t k) (IH : ∀ x e, tr t n sc x = some e → OkE X W (cxt P k) x e) {g : Str} {p pos : Pos} {as : List Expr} {e : E} (hp : plainName g = true) (hg : glB sc g = true) (h : trG t sc (tr t n sc) g as = some e) :
    ∃ f, ev (cxt P k) e = .of f ∧ PE X (.Call (.Name g p) as [] pos) (lift W f) := by
  obtain ⟨hd, hcd, hnm⟩ := plain_nm hp
  have hG : Gl X g := so.gl g hg
  unfold trG at h
  split at h
  · rename_i hf
    obtain ⟨es, h1, rfl⟩ := Option.map_eq_some_iff.mp h
    obtain ⟨fa, fd, ps, m1, m2, m3, m4⟩ := G.fns g hf
    refine ⟨_, rfl, ?_⟩
    cases as with
    | nil =>
      cases h1
      exact e_call0 m4 G.room hG m1 m2 m3 hd
    | cons b bs =>
      have ha := as_ok IH h1
      obtain ⟨a0, as0, hb, hbs⟩ : ∃ a0 as0, tr t n sc b = some a0 ∧ trs (tr t n sc) bs = some as0 := by
        unfold trs at h1
        split at h1
        · exact ⟨_, _, by assumption, by assumption⟩
        · cases h1
      exact e_call m4 G.room hG m1 m2 m3 ha hd (star_of hb bs X.env) (stars_of hbs X.env pos).1
  · split at h
    · rename_i hf
      obtain ⟨es, h1, rfl⟩ := Option.map_eq_some_iff.mp h
      obtain ⟨nc, fa, fd, ps, l, hcl, M, m1, m3, m4⟩ := G.cls g hf
      cases k with
      | zero => exact ⟨_, rfl, pe_bad fun e S v S' q => by
          obtain ⟨vs, S1, _, q2⟩ := R.bind_eq q
          cases q2⟩
      | succ j =>
        have hmk : (cxt P (j + 1)).make g = mkD nc ((cxt P j).meth nc "__init__") := by
          funext vs S
          show (match P.cl g with | some n => _ | none => _) = _
          rw [hcl]
          rfl
        refine ⟨fun e S => (evEs (cxt P (j + 1)) es e S).bind fun vs S1 => mkD nc ((cxt P j).meth nc "__init__") vs S1, by rw [← hmk]; rfl, ?_⟩
        cases as with
        | nil =>
          cases h1
          exact e_make0 l M (m4 j rfl) G.room hG m1 m3 hd
        | cons b bs =>
          have ha := as_ok IH h1
          obtain ⟨a0, as0, hb, hbs⟩ : ∃ a0 as0, tr t n sc b = some a0 ∧ trs (tr t n sc) bs = some as0 := by
            unfold trs at h1
            split at h1
            · exact ⟨_, _, by assumption, by assumption⟩
            · cases h1
          exact e_make l M (m4 j rfl) G.room hG m1 m3 ha hd (star_of hb bs X.env) (stars_of hbs X.env pos).1
    · split at h
      · rename_i b x xs hb
        obtain ⟨es, h1, rfl⟩ := Option.map_eq_some_iff.mp h
        obtain ⟨b1, b2, b3, b4⟩ := boot_tab hb
        have ha := as_ok IH h1
        obtain ⟨a0, as0, hb, hbs⟩ : ∃ a0 as0, tr t n sc x = some a0 ∧ trs (tr t n sc) xs = some as0 := by
          unfold trs at h1
          split at h1
          · exact ⟨_, _, by assumption, by assumption⟩
          · cases h1
        exact ⟨_, rfl, e_bf G.hK G.calm hG (G.blt _ b2) b1 b3 b4 ha (star_of hb xs X.env) (stars_of hbs X.env pos).1⟩
      · split at h
        · rename_i hi
          subst hi
          split at h
          · rename_i a ty p2 _
            split at h
            · rename_i hgt
              split at h
              · rename_i a' u h1 h2
                cases h
                obtain ⟨b1, b2, b3, b4⟩ := boot_ty h2
                exact ⟨_, rfl, e_isi G.hK hG (G.blt _ (by decide)) (so.gl ty hgt) (G.blt _ b2) b1 b3 b4 (IH _ _ h1).1 fun xs => star_of h1 xs X.env⟩
              · cases h
            · cases h
          · cases h
        · cases h
/-! ### methods -/
theorem bmOf_id {m : Str} {j : Nat} {b : BM} (h : bmOf m j = some b) : (b = .append ∧ m = "append") ∨ (b = .extend ∧ m = "extend") ∨ (b = .pop ∧ m = "pop" ∧ j = 0) ∨ (b = .lindex ∧ m = "index") ∨ (b = .get1 ∧ m = "get" ∧ j = 1) ∨ (b = .get2 ∧ m = "get" ∧ j = 2) ∨ (b = .pop2 ∧ m = "pop" ∧ j = 2) ∨ (b = .join ∧ m = "join") := by
  unfold bmOf at h
  split at h
  · cases h
    exact .inl ⟨rfl, by assumption⟩
  split at h
  · cases h
    exact .inr (.inl ⟨rfl, by assumption⟩)
  split at h
  · cases h
    exact .inr (.inr (.inl ⟨rfl, by assumption⟩))
  split at h
  · cases h
    exact .inr (.inr (.inr (.inl ⟨rfl, by assumption⟩)))
  split at h
  · cases h
    exact .inr (.inr (.inr (.inr (.inl ⟨rfl, by assumption⟩))))
  split at h
  · cases h
    exact .inr (.inr (.inr (.inr (.inr (.inl ⟨rfl, by assumption⟩)))))
  split at h
  · cases h
    exact .inr (.inr (.inr (.inr (.inr (.inr (.inl ⟨rfl, by assumption⟩))))))
  split at h
  · cases h
    exact .inr (.inr (.inr (.inr (.inr (.inr (.inr ⟨rfl, by assumption⟩))))))
  · cases h
theorem bm_one {b : BM} (hb : b = .append ∨ b = .extend ∨ b = .lindex ∨ b = .join) (x : D) (vs : List D) (S : Sto) : bmD b x vs S = .bad ∨ vs.length = 1 := by
  unfold bmD
  split <;> first | exact .inr rfl | exact .inl rfl | (exfalso; rcases hb with h | h | h | h <;> cases h)
theorem few_of {es : List Expr} {as : Es} {cpos : Pos} (h : trs (tr t n sc) es = some as) (hl : es.length < 28) :
    ((backTo cpos (starEach es X.env)).all (fun x => !x.1) && (backToKw cpos (keywordEach [] X.env)).all (fun x => x.1.isSome) && decide (es.length + ([] : List Keyword).length + (if ([] : List Keyword).isEmpty then 0 else 1) < 30)) = true := by
  rw [(stars_of h X.env cpos).2]
  show (true && true && _) = true
  simp
  omega
theorem bm_ok (G : Good X W P t k) {C : Cxt} (IH : ∀ x e, tr t n sc x = some e → OkE X W C x e) {o : Expr} {m : Str} {apos pos : Pos} {as : List Expr} {eo : E} {es : Es} {b : BM} (hs : notSuper o = true) (hline : (apos.endLine == pos.line) = true) (hl : as.length < 28)
    (ho : tr t n sc o = some eo) (ha : trs (tr t n sc) as = some es) (hb : bmOf m as.length = some b) : PE X (.Call (.Attribute o m apos) as [] pos) (lift W fun e S => ((ev C eo).v e S).bind fun x S1 => if bmPre b x S1 = true then (evEs C es e S1).bind fun vs S2 => bmD b x vs S2 else .bad) := by
  have pO := (IH _ _ ho).1
  have pA := as_ok IH ha
  have hbase := base_of (o := o) hs m X.env (eval o X.env)
  have few := few_of (X := X) (cpos := pos) ha hl
  have bad : ∀ (c : BM), (∀ vs x S, bmD c x vs S = .bad ∨ vs.length = 1) → as.length ≠ 1 → b = c → PE X (.Call (.Attribute o m apos) as [] pos) (lift W fun e S => ((ev C eo).v e S).bind fun x S1 => if bmPre b x S1 = true then (evEs C es e S1).bind fun vs S2 => bmD b x vs S2 else .bad) := by
    intro c hc hne e
    subst e
    refine pe_bad fun e S v S' q => ?_
    obtain ⟨x, S1, _, q⟩ := R.bind_eq q
    split at q
    · obtain ⟨vs, S2, q1, q2⟩ := R.bind_eq q
      rcases hc vs x S2 with z | z
      · rw [z] at q2
        cases q2
      · exact hne ((es_len ha q1).symm.trans z)
    · cases q
  have one : ∀ {z : Expr} {zs : List Expr}, as = z :: zs → starEach (z :: zs) X.env = (false, eval z X.env) :: starEach zs X.env ∧ (backTo pos (starEach zs X.env)).any (·.1) = false := by
    intro z zs e
    subst e
    unfold trs at ha
    split at ha
    · rename_i h1 h2
      exact ⟨star_of h1 zs X.env, (stars_of h2 X.env pos).1⟩
    · cases ha
  rcases bmOf_id hb with ⟨rfl, rfl⟩ | ⟨rfl, rfl⟩ | ⟨rfl, rfl, hj⟩ | ⟨rfl, rfl⟩ | ⟨rfl, rfl, hj⟩ | ⟨rfl, rfl, hj⟩ | ⟨rfl, rfl, hj⟩ | ⟨rfl, rfl⟩
  · cases as with
    | nil => exact bad _ (fun vs x S => bm_one (by simp) x vs S) (by simp) rfl
    | cons z zs =>
      obtain ⟨o1, o2⟩ := one rfl
      exact pe_imp (pe_bm PySem.F.plainAttrs_list PySem.F.slot_list_append PySem.F.type_list_append (o_bmL .append rfl) pO pA hbase few hline o1 o2) fun σ H Q h => s_bm G.hK rfl h
  · cases as with
    | nil => exact bad _ (fun vs x S => bm_one (by simp) x vs S) (by simp) rfl
    | cons z zs =>
      obtain ⟨o1, o2⟩ := one rfl
      exact pe_imp (pe_bm PySem.F.plainAttrs_list PySem.F.slot_list_extend PySem.F.type_list_extend (o_bmL .extend rfl) pO pA hbase few hline o1 o2) fun σ H Q h => s_bm G.hK rfl h
  · obtain rfl : as = [] := List.eq_nil_of_length_eq_zero hj
    cases ha
    refine pe_imp (pe_bm0 PySem.F.plainAttrs_list PySem.F.slot_list_pop PySem.F.type_list_pop (o_bmL .pop rfl) pO hbase hline) fun σ H Q h => ?_
    obtain ⟨m, e, S, v, S', er, rp, h, fi⟩ := s_bm (X := X) (fo := (ev C eo).v) (fs := evEs C .nil) G.hK rfl h
    refine ⟨m, e, S, v, S', er, rp, h, fun X1 H1 m1 x1 r1 v1 => ?_⟩
    obtain ⟨q1, q2⟩ := fi X1 H1 m1 x1 r1 v1
    refine ⟨q1, ?_⟩
    obtain ⟨m2, e2, S2, vs, S3, er2, rp2, h2, fi2⟩ := q2
    obtain ⟨rfl, rfl⟩ := ok_inj h2
    exact fi2 [] H1 m2 .refl rp2 .nil
  · cases as with
    | nil => exact bad _ (fun vs x S => bm_one (by simp) x vs S) (by simp) rfl
    | cons z zs =>
      obtain ⟨o1, o2⟩ := one rfl
      exact pe_imp (pe_bm PySem.F.plainAttrs_list PySem.F.slot_list_index PySem.F.type_list_index (o_bmL .lindex rfl) pO pA hbase few hline o1 o2) fun σ H Q h => s_bm G.hK rfl h
  · rcases as with _ | ⟨z, _ | ⟨z2, zs⟩⟩
    · cases hj
    · unfold trs at ha
      split at ha
      · rename_i a1 as1 h1 h2
        cases ha
        cases h2
        exact e_get1 G.u1 pO (IH _ _ h1).1 ⟨hbase, few, hline, by rw [star_of h1]; rfl⟩
      · cases ha
    · simp at hj
  · rcases as with _ | ⟨z, _ | ⟨z2, _ | ⟨z3, zs⟩⟩⟩
    · cases hj
    · simp at hj
    · unfold trs at ha
      split at ha
      · rename_i a1 as1 h1 h2
        cases ha
        unfold trs at h2
        split at h2
        · rename_i a2 as2 h3 h4
          cases h2
          cases h4
          exact e_get2 G.u1 pO (IH _ _ h1).1 (IH _ _ h3).1 ⟨hbase, few, hline, by rw [star_of h1, star_of h3]; rfl⟩
        · cases h2
      · cases ha
    · simp at hj
  · cases as with
    | nil => cases hj
    | cons z zs =>
      obtain ⟨o1, o2⟩ := one rfl
      exact pe_imp (pe_bm PySem.F.plainAttrs_dict PySem.F.slot_dict_pop PySem.F.type_dict_pop (L2.DX.mt_popT G.u1) pO pA hbase few hline o1 o2) fun σ H Q h => s_pop2 G.hK h
  · cases as with
    | nil => exact bad _ (fun vs x S => bm_one (by simp) x vs S) (by simp) rfl
    | cons z zs =>
      obtain ⟨o1, o2⟩ := one rfl
      exact pe_imp (pe_bm PySem.F.plainAttrs_str PySem.F.slot_str_join PySem.F.type_str_join mt_sjoin pO pA hbase few hline o1 o2) fun σ H Q h => s_join G.hK h
end
end Mi
set_option Elab.async false
set_option linter.all false
set_option maxRecDepth 100000
/-! M12: every expression. -/
namespace Mi
open PySem PySem.Spec L2
open PyProof.Rows hiding St
section
variable {W : Wd} {P : Pr} {t : Tx} {k : Nat}
theorem i_ok {X : Cx} {sc : Scope} {n : Nat} {tg x : Expr} {it : I} (so : ScOk X sc) (G : Good X W P t k) (IH : ∀ x e, tr t n sc x = some e → OkE X W (cxt P k) x e) (h : trI sc (tr t n sc) x = some it) :
    PI X tg x (liftI W (evI (cxt P k) it)) ∧ ∀ env v, foldedSetIterable x env v = pure v := by
  have seq : ∀ {a : E}, tr t n sc x = some a → PI X tg x (liftI W (evI (cxt P k) (.seq a))) ∧ ∀ env v, foldedSetIterable x env v = pure v := fun {a} h => by
    have q := pi_seq (tg := tg) (IH _ _ h).1
    rw [G.hK] at q
    exact ⟨pi_imp q fun σ H R h => s_seq h, fun env v => fold_of h env v⟩
  unfold trI at h
  split at h
  · rename_i g p as ks pos
    split at h
    · rename_i hg
      subst hg
      split at h
      · rename_i a
        split at h
        · rename_i hgl
          obtain ⟨a', h1, rfl⟩ := Option.map_eq_some_iff.mp h
          have ha : PA X [a] (liftA W (evEs (cxt P k) (.cons a' .nil))) := a_cons (IH _ _ h1).1 a_nil (star_of h1 [] X.env)
          refine ⟨pi_imp (pi_range1 (so.gl _ hgl) (G.blt _ (by decide)) ha (star_of h1 [] X.env)) fun σ H Rr h => s_rng1 (fun e S vs S' q => ?_) h, fun env v => rfl⟩
          obtain ⟨y, S1, _, q⟩ := R.bind_eq q
          obtain ⟨ys, S2, q2, q3⟩ := R.bind_eq q
          obtain ⟨rfl, rfl⟩ := ok_inj q3
          obtain ⟨rfl, rfl⟩ := ok_inj q2
          rfl
        · cases h
      · rename_i a b
        split at h
        · rename_i hgl
          split at h
          · rename_i a' b' h1 h2
            cases h
            have ha : PA X [a, b] (liftA W (evEs (cxt P k) (.cons a' (.cons b' .nil)))) := a_cons (IH _ _ h1).1 (a_cons (IH _ _ h2).1 a_nil (star_of h2 [] X.env)) (star_of h1 [b] X.env)
            refine ⟨pi_imp (pi_range2 (so.gl _ hgl) (G.blt _ (by decide)) ha (by rw [star_of h1, star_of h2]; rfl) (star_of h2 [] X.env)) fun σ H Rr h => s_rng2 (fun e S vs S' q => ?_) h, fun env v => rfl⟩
            obtain ⟨y, S1, _, q⟩ := R.bind_eq q
            obtain ⟨ys, S2, q2, q3⟩ := R.bind_eq q
            obtain ⟨rfl, rfl⟩ := ok_inj q3
            obtain ⟨z, S3, _, q⟩ := R.bind_eq q2
            obtain ⟨zs, S4, q4, q5⟩ := R.bind_eq q
            obtain ⟨rfl, rfl⟩ := ok_inj q5
            obtain ⟨rfl, rfl⟩ := ok_inj q4
            rfl
          · cases h
        · cases h
      · cases h
    · split at h
      · cases h
      · obtain ⟨a, h1, rfl⟩ := Option.map_eq_some_iff.mp h
        exact seq h1
  · obtain ⟨a, h1, rfl⟩ := Option.map_eq_some_iff.mp h
    exact seq h1
theorem i_fold {sc : Scope} {n : Nat} {x : Expr} {it : I} (h : trI sc (tr t n sc) x = some it) : ∀ env v, foldedSetIterable x env v = pure v := by
  unfold trI at h
  split at h
  · exact fun env v => rfl
  · obtain ⟨a, h1, rfl⟩ := Option.map_eq_some_iff.mp h
    exact fun env v => fold_of h1 env v
theorem enum_ok {X : Cx} {sc : Scope} {n : Nat} {tg x : Expr} {it : I} (so : ScOk X sc) (G : Good X W P t k) (IH : ∀ x e, tr t n sc x = some e → OkE X W (cxt P k) x e) (h : trE sc (tr t n sc) tg x = some it) :
    PI X tg x (liftI W (evI (cxt P k) it)) ∧ ∀ env v, foldedSetIterable x env v = pure v := by
  unfold trE at h
  split at h
  · split at h
    · rename_i hg
      obtain ⟨hg, hgl⟩ := hg
      subst hg
      obtain ⟨a', h1, rfl⟩ := Option.map_eq_some_iff.mp h
      have ha : PA X _ (liftA W (evEs (cxt P k) (.cons a' .nil))) := a_cons (IH _ _ h1).1 a_nil (star_of h1 [] X.env)
      refine ⟨pi_imp (pi_enumT (so.gl _ hgl) (G.blt _ (by decide)) ha (star_of h1 [] X.env)) fun σ H Rr h => ?_, fun env v => rfl⟩
      rw [G.hK]
      exact s_enum h
    · cases h
  · cases h
/-- a part of the source of a for or a clause -/
theorem it_ok {X : Cx} {sc : Scope} {n : Nat} {tg x : Expr} {it : I} (so : ScOk X sc) (G : Good X W P t k) (IH : ∀ x e, tr t n sc x = some e → OkE X W (cxt P k) x e)
    (h : (match trE sc (tr t n sc) tg x with | some i => some i | none => trI sc (tr t n sc) x) = some it) : PI X tg x (liftI W (evI (cxt P k) it)) ∧ ∀ env v, foldedSetIterable x env v = pure v := by
  split at h
  · rename_i q
    cases h
    exact enum_ok so G IH q
  · exact i_ok so G IH h
theorem all_in {is js : List Nat} (h : is.all (fun i => decide (i ∈ js)) = true) : ∀ i ∈ is, i ∈ js := fun i hi => by simpa using List.all_eq_true.mp h i hi
theorem isT_lc {elt : Expr} {gs : List Comprehension} {scope : Scope} {pos : Pos} {env : Env} : ∀ whole, isTrue (.ListComp elt gs scope pos) env whole = (do let v ← whole; standAt (Expr.ListComp elt gs scope pos).pos; holding [v] (truthy v)) := fun whole => rfl
/-- a comprehension: what it reads as, and what is stored by name = [..] -/
def LcOk (X : Cx) (W : Wd) (C : Cxt) (x : Expr) (e : E) : Prop := ∃ te : TE, (∀ σ H Q, lift W (ev C e).v σ H Q → te σ H Q) ∧ PE X x te ∧
  ∀ (y : Str) (py spos : Pos) (i : Nat), X.N[i]? = some y → X.env.scope.names.lookup y = some .local → swapsWith x (some (.Name y py)) spos.line X.env = pure true → PS X (.Assign [.Name y py] x spos) (tAsg te (gName i))
theorem lc_parts {n : Nat} {X : Cx} {sc : Scope} (so : ScOk X sc) (G : Good X W P t k) (IA : ∀ (X : Cx) (sc : Scope), ScOk X sc → Good X W P t k → ∀ (x : Expr) (e : E), tr t n sc x = some e → OkE X W (cxt P k) x e)
    {elt : Expr} {gs : List Comprehension} {scope : Scope} {pos : Pos} {e : E} (h : tr t (n + 1) sc (.ListComp elt gs scope pos) = some e) : LcOk X W (cxt P k) (.ListComp elt gs scope pos) e ∧ ∃ f, ev (cxt P k) e = .of f := by
  have IH := IA X sc so G
  unfold tr at h
  split at h <;> try contradiction
  · rename_i _ elt tg iter ifs scope pos heq
    cases heq
    split at h
    · rename_i hb
      split at h
      · rename_i it' tg' elt' c' h1 h2 h3 h4
        split at h
        · rename_i hsl
          cases h
          have hb : blkC X.N sc scope (ownOf t.N scope) = true := by
            rw [G.hN]
            exact hb
          obtain ⟨pi, hf⟩ := it_ok so G IH h1
          have go : ∀ (s : Shared) (H : Hp) (C : Addr) (cl : List (Str × Addr)) (fp : List Addr), ScOk (X.blk s H scope (compEnvC scope cl C X.env) fp) scope ∧ Good (X.blk s H scope (compEnvC scope cl C X.env) fp) W P t k := fun s H C cl fp => ⟨so.blk hb, G.blk⟩
          have hg : ∀ (s : Shared) (H : Hp) (C : Addr) (cl : List (Str × Addr)) (fp : List Addr), PG (X.blk s H scope (compEnvC scope cl C X.env) fp) tg (gTg X.K tg') := fun s H C cl fp =>
            tg_pg (X := X.blk s H scope (compEnvC scope cl C X.env) fp) G.hN G.nd G.calm (go s H C cl fp).1 h2
          have he : ∀ (s : Shared) (H : Hp) (C : Addr) (cl : List (Str × Addr)) (fp : List Addr), PE (X.blk s H scope (compEnvC scope cl C X.env) fp) elt (lift W (ev (cxt P k) elt').v) := fun s H C cl fp =>
            (IA _ scope (go s H C cl fp).1 (go s H C cl fp).2 elt elt' h3).1
          rw [G.hK] at hg
          have ht : ∃ tt : TT, (∀ (s : Shared) (H : Hp) (C : Addr) (cl : List (Str × Addr)) (fp : List Addr), PTs (X.blk s H scope (compEnvC scope cl C X.env) fp) ifs tt) ∧
              ∀ {σ H K}, liftT W (fun e2 S2 => if isNop c' = true then .ok true S2 else (ev (cxt P k) c').t e2 S2) σ H K → tt σ H K := by
            split at h4
            · cases h4
              refine ⟨_, fun s H C cl fp => pts_nil, fun {σ H K} q => ?_⟩
              obtain ⟨m, e, S, b, S', er, rp, h, f⟩ := q
              have h : (R.ok true S : R Bool) = .ok b S' := h
              obtain ⟨rfl, rfl⟩ := ok_inj h
              exact f H m .refl rp
            · split at h4
              · cases h4
              · rename_i hi
                split at h4
                · split at h4
                  · cases h4
                  · rename_i h5 h6
                    cases h4
                    refine ⟨_, fun s H C cl fp => pts_one ((IA _ scope (go s H C cl fp).1 (go s H C cl fp).2 _ _ h5).2 (by simpa using hi)), fun {σ H K} q => ?_⟩
                    have e0 : (fun (e2 : En) (S2 : Sto) => if isNop c' = true then R.ok true S2 else (ev (cxt P k) c').t e2 S2) = (ev (cxt P k) c').t := by
                      funext e2 S2
                      rw [if_neg h6]
                    rw [e0] at q
                    exact q
                · cases h4
            · cases h4
          obtain ⟨tt, ht1, ht2⟩ := ht
          have hnd : X.N.Nodup := by
            rw [G.hN]
            exact G.nd
          exact ⟨⟨_, fun σ H Q h => s_lc (all_in hsl) (fun {σ H K} z => ht2 z) h, pe_lc G.calm hnd pi (blk_ok so hb) hg ht1 he (hf X.env), fun y py spos i h1 h2 h3 => ps_setLc G.calm hnd h1 h2 h3 pi (blk_ok so hb) hg ht1 he (hf X.env)⟩, _, rfl⟩
        · cases h
      · cases h
    · cases h
  · rename_i _ elt tg iter tg1 iter1 scope pos heq
    cases heq
    split at h
    · rename_i hb
      split at h
      · rename_i it' tg' it1' tg1' elt' h1 h2 h3 h4 h5
        split at h
        · rename_i hsl
          cases h
          rw [Bool.and_eq_true] at hsl
          have hb : blkC X.N sc scope (ownOf t.N scope) = true := by
            rw [G.hN]
            exact hb
          obtain ⟨pi, hf⟩ := i_ok (tg := tg) so G IH h1
          have go : ∀ (s : Shared) (H : Hp) (C : Addr) (cl : List (Str × Addr)) (fp : List Addr), ScOk (X.blk s H scope (compEnvC scope cl C X.env) fp) scope ∧ Good (X.blk s H scope (compEnvC scope cl C X.env) fp) W P t k := fun s H C cl fp => ⟨so.blk hb, G.blk⟩
          have hg : ∀ (s : Shared) (H : Hp) (C : Addr) (cl : List (Str × Addr)) (fp : List Addr), PG (X.blk s H scope (compEnvC scope cl C X.env) fp) tg (gTg X.K tg') := fun s H C cl fp =>
            tg_pg (X := X.blk s H scope (compEnvC scope cl C X.env) fp) G.hN G.nd G.calm (go s H C cl fp).1 h2
          have hg1 : ∀ (s : Shared) (H : Hp) (C : Addr) (cl : List (Str × Addr)) (fp : List Addr), PG (X.blk s H scope (compEnvC scope cl C X.env) fp) tg1 (gTg X.K tg1') := fun s H C cl fp =>
            tg_pg (X := X.blk s H scope (compEnvC scope cl C X.env) fp) G.hN G.nd G.calm (go s H C cl fp).1 h4
          have he : ∀ (s : Shared) (H : Hp) (C : Addr) (cl : List (Str × Addr)) (fp : List Addr), PE (X.blk s H scope (compEnvC scope cl C X.env) fp) elt (lift W (ev (cxt P k) elt').v) := fun s H C cl fp =>
            (IA _ scope (go s H C cl fp).1 (go s H C cl fp).2 elt elt' h5).1
          have hi1 : ∀ (s : Shared) (H : Hp) (C : Addr) (cl : List (Str × Addr)) (fp : List Addr), PI (X.blk s H scope (compEnvC scope cl C X.env) fp) tg1 iter1 (liftI W (evI (cxt P k) it1')) ∧ ∀ env v, foldedSetIterable iter1 env v = pure v := fun s H C cl fp =>
            i_ok (go s H C cl fp).1 (go s H C cl fp).2 (IA _ scope (go s H C cl fp).1 (go s H C cl fp).2) h3
          rw [G.hK] at hg hg1
          have hnd : X.N.Nodup := by rw [G.hN]; exact G.nd
          exact ⟨⟨_, fun σ H Q h => s_lc2 (all_in hsl.1) (fun _ z => z) h, pe_lc2 (vs1 := tg1'.slots) G.calm hnd pi (blk_ok so hb) (all_in hsl.2) hg (fun _ _ _ _ _ => pts_nil) (fun s H C cl fp => (hi1 s H C cl fp).1) hg1 (fun _ _ _ _ _ => pts_nil) he (hf X.env) (i_fold h3),
            fun y py spos i h1 h2 h3' => ps_setLc2 (vs1 := tg1'.slots) G.calm hnd h1 h2 h3' pi (blk_ok so hb) (all_in hsl.2) hg (fun _ _ _ _ _ => pts_nil) (fun s H C cl fp => (hi1 s H C cl fp).1) hg1 (fun _ _ _ _ _ => pts_nil) he (hf X.env) (i_fold h3)⟩, _, rfl⟩
        · cases h
      · cases h
    · cases h
theorem tr_ok : ∀ (n : Nat) (X : Cx) (sc : Scope), ScOk X sc → Good X W P t k → ∀ (x : Expr) (e : E), tr t n sc x = some e → OkE X W (cxt P k) x e
  | 0, X, sc, so, G, x, e, h => by cases h
  | n + 1, X, sc, so, G, x, e, h => by
    have IH := tr_ok n X sc so G
    have h0 := h
    unfold tr at h
    split at h
    · cases h
      exact plain_ok G.hK h0 rfl (e_const pe_int fun _ _ => .int _) (fun _ _ _ q => by cases q) (fun _ _ _ _ q => by cases q) (fun _ _ q => by cases q)
    · cases h
      exact plain_ok G.hK h0 rfl (e_const pe_str fun _ _ => .str _) (fun _ _ _ q => by cases q) (fun _ _ _ _ q => by cases q) (fun _ _ q => by cases q)
    · cases h
      exact plain_ok G.hK h0 rfl (e_const pe_bl fun _ _ => .bl _) (fun _ _ _ q => by cases q) (fun _ _ _ _ q => by cases q) (fun _ _ q => by cases q)
    · cases h
      exact plain_ok G.hK h0 rfl (e_const pe_non fun _ _ => .non) (fun _ _ _ q => by cases q) (fun _ _ _ _ q => by cases q) (fun _ _ q => by cases q)
    · split at h
      · rename_i hp
        obtain ⟨hd, hcd, hnm⟩ := plain_nm hp
        split at h
        · rename_i hv
          obtain ⟨i, h1, rfl⟩ := Option.map_eq_some_iff.mp h
          exact plain_ok G.hK h0 rfl (e_var (by rw [G.hN]; exact slot_ok h1) (so.vis _ hv) hd hcd) (fun _ _ _ q => by cases q) (fun _ _ _ _ q => by cases q) (fun _ _ q => by cases q)
        · split at h
          · rename_i hg
            cases h
            refine plain_ok G.hK h0 rfl ?_ (fun _ _ _ q => by cases q) (fun _ _ _ _ q => by cases q) (fun _ _ q => by cases q)
            have hcon : (cxt P k).con = fun x => P.con.lookup x := by cases k <;> rfl
            rw [hcon]
            show PE X _ (lift W fun _ S => optR (P.con.lookup _) S)
            cases q : P.con.lookup _ with
            | none => exact pe_bad fun e S v S' q => by cases q
            | some d =>
              obtain ⟨u, y, m1, r, vr⟩ := G.con _ d hg.2 q
              exact e_const (pe_glob (so.gl _ hg.1) m1 r hd) vr
          · cases h
      · cases h
    · split at h
      · rename_i a' b' h1 h2
        cases h
        have q := fun (op : Operator) (pos : Pos) => pe_op (pos := pos) (o_bin (X := X) op) (IH _ _ h1).1 (IH _ _ h2).1
        rw [G.hK] at q
        exact plain_ok G.hK h0 rfl (e_two (s_bin _) (q _ _)) (fun _ _ _ q => by cases q) (fun _ _ _ _ q => by cases q) (fun _ _ q => by cases q)
      · cases h
    · obtain ⟨a', h1, rfl⟩ := Option.map_eq_some_iff.mp h
      exact plain_ok G.hK h0 rfl (e_neg (IH _ _ h1).1) (fun _ _ _ q => by cases q) (fun _ _ _ _ q => by cases q) (fun _ _ q => by cases q)
    · split at h
      · cases h
      · rename_i hi
        obtain ⟨a', h1, rfl⟩ := Option.map_eq_some_iff.mp h
        obtain ⟨p1, p2⟩ := IH _ _ h1
        exact ⟨e_not p1, fun _ => t_not (p2 (by simpa using hi))⟩
    · split at h
      · rename_i a' b' h1 h2
        cases h
        have c := G.cds
        have hC : (cxt P k).cds = fun i => P.cds.getD i [] := by cases k <;> rfl
        have o := o_cmp (X := X) G.u64 c
        have m := mark_of h2
        have q1 := fun (op : CmpOp) (pos : Pos) => pe_cmpR (pos := pos) (o op) (IH _ _ h1).1 (IH _ _ h2).1 (m op)
        have q2 := fun (op : CmpOp) (pos : Pos) => pt_cmpR (pos := pos) (o op) (IH _ _ h1).1 (IH _ _ h2).1 (m op)
        rw [G.hK] at q1 q2 c
        have s := fun op => s_cmp (W := W) c op
        rw [← hC] at s q1 q2
        exact ⟨e_two (s _) (q1 _ _), fun _ => t_cmp (s _) (q2 _ _)⟩
      · cases h
    · split at h
      · rename_i a' b' c' h1 h2 h3
        cases h
        have c := G.cds
        have hC : (cxt P k).cds = fun i => P.cds.getD i [] := by cases k <;> rfl
        have o := o_cmp (X := X) G.u64 c
        have q1 := fun (o1 o2 : CmpOp) (pos : Pos) => pe_chain (pos := pos) (o o1) (o o2) (IH _ _ h1).1 (IH _ _ h2).1 (IH _ _ h3).1 (mark_of h3 o2)
        have q2 := fun (o1 o2 : CmpOp) (pos : Pos) => pt_chain (pos := pos) (o o1) (o o2) (IH _ _ h1).1 (IH _ _ h2).1 (IH _ _ h3).1 (mark_of h3 o2)
        rw [G.hK] at q1 q2 c
        have s := fun op => s_cmp (W := W) c op
        rw [← hC] at s q1 q2
        exact ⟨e_chn (s _) (s _) (q1 _ _ _), fun _ => t_chn (s _) (s _) (q2 _ _ _)⟩
      · cases h
    · obtain ⟨es, h1, rfl⟩ := Option.map_eq_some_iff.mp h
      obtain ⟨w1, w2, w3, w4⟩ := w_ok IH h1
      exact ⟨w3, fun _ => w1.pt⟩
    · obtain ⟨es, h1, rfl⟩ := Option.map_eq_some_iff.mp h
      obtain ⟨w1, w2, w3, w4⟩ := w_ok IH h1
      exact ⟨w4, fun _ => w2.pt⟩
    · split at h
      · cases h
      · rename_i hi
        split at h
        · rename_i c' a' b' h1 h2 h3
          cases h
          exact plain_ok G.hK h0 rfl (e_ife ((IH _ _ h1).2 (by simpa using hi)) (IH _ _ h2).1 (IH _ _ h3).1) (fun _ _ _ q => by cases q) (fun _ _ _ _ q => by cases q) (fun _ _ q => by cases q)
        · cases h
    · split at h
      · rename_i hg
        obtain ⟨f, he, hp⟩ := call_ok so G IH hg.1 hg.2 h
        exact plain_ok G.hK h0 he hp (fun _ _ _ q => by cases q) (fun _ _ _ _ q => by cases q) (fun _ _ q => by cases q)
      · cases h
    · split at h
      · rename_i hg
        obtain ⟨g1, g2, g3⟩ := hg
        split at h
        · rename_i o' as' b' h1 h2 h3
          cases h
          exact plain_ok G.hK h0 rfl (bm_ok G IH g1 g2 g3 h1 h2 h3) (fun _ _ _ q => by cases q) (fun _ _ _ _ q => by cases q) (fun _ _ q => by cases q)
        · rename_i o' as' h1 h2 h3
          cases h
          refine plain_ok G.hK h0 rfl (e_meth G.mts G.room (IH _ _ h1).1 (as_ok IH h2) (base_of g1 _ _ _) g2 (stars_of h2 X.env _).2 g3 (fun e => ?_) fun y ys e => ?_) (fun _ _ _ q => by cases q) (fun _ _ _ _ q => by cases q) (fun _ _ q => by cases q)
          · subst e
            cases h2
            exact fun _ _ => rfl
          · subst e
            unfold trs at h2
            split at h2
            · rename_i q1 q2
              exact ⟨star_of q1 ys X.env, (stars_of q2 X.env _).1⟩
            · cases h2
        · cases h
      · cases h
    · split at h
      · rename_i hg
        obtain ⟨o', h1, rfl⟩ := Option.map_eq_some_iff.mp h
        exact plain_ok G.hK h0 rfl (e_fld (fun n hn => ⟨G.mts.cls n hn, G.flds _ hg.2 n hn⟩) (IH _ _ h1).1 (base_of hg.1 _ _ _)) (fun _ _ _ q => by cases q) (fun _ _ _ _ q => by cases q) (fun _ _ q => by cases q)
      · cases h
    · split at h
      · rename_i a' lo' hi' h1 h2 h3
        cases h
        obtain ⟨tl, pl, kl⟩ := part_ok IH h2
        obtain ⟨th, ph, kh⟩ := part_ok IH h3
        exact plain_ok G.hK h0 rfl (e_slc0 (p2 := default) G.hK (IH _ _ h1).1 pl ph kl kh) (fun _ _ _ q => by cases q) (fun _ _ _ _ q => by cases q) (fun _ _ q => by cases q)
      · cases h
    · obtain ⟨a', h1, rfl⟩ := Option.map_eq_some_iff.mp h
      exact plain_ok G.hK h0 rfl (e_rev G.hK (IH _ _ h1).1) (fun _ _ _ q => by cases q) (fun _ _ _ _ q => by cases q) (fun _ _ q => by cases q)
    · split at h
      · cases h
      · rename_i hs
        split at h
        · rename_i a' b' h1 h2
          cases h
          have hC : (cxt P k).cds = fun i => P.cds.getD i [] := by cases k <;> rfl
          have c := G.cds
          rw [← hC] at c
          exact plain_ok G.hK h0 rfl (e_sub (w := X.w) G.hK G.u1 c (IH _ _ h1).1 (IH _ _ h2).1 fun o i => subs_of (by simpa using hs) o i) (fun _ _ _ q => by cases q) (fun _ _ _ _ q => by cases q) (fun _ _ q => by cases q)
        · cases h
    · split at h
      · rename_i hl
        obtain ⟨es, h1, rfl⟩ := Option.map_eq_some_iff.mp h
        exact plain_ok G.hK h0 rfl (e_tup (as_ok IH h1) fun e S vs S' q => by rw [es_len h1 q]; exact hl) (fun _ _ _ q => by cases q) (fun _ _ _ _ q => by cases q) (fun _ _ q => by cases q)
      · cases h
    · split at h
      · rename_i hl
        obtain ⟨es, h1, rfl⟩ := Option.map_eq_some_iff.mp h
        exact plain_ok G.hK h0 rfl (e_lst (as_ok IH h1) fun e S vs S' q => by rw [es_len h1 q]; exact hl) (fun _ _ _ q => by cases q) (fun _ _ _ _ q => by cases q) (fun _ _ q => by cases q)
      · cases h
    · cases h
      split
      · exact plain_ok G.hK (h0.trans (by rw [if_pos (by assumption)])) rfl e_dT (fun _ _ _ q => by cases q) (fun _ _ _ _ q => by cases q) (fun _ _ q => by cases q)
      · exact plain_ok G.hK (h0.trans (by rw [if_neg (by assumption)])) rfl e_dK (fun _ _ _ q => by cases q) (fun _ _ _ _ q => by cases q) (fun _ _ q => by cases q)
    · obtain ⟨⟨te, q1, q2, _⟩, f, hf⟩ := lc_parts so G (tr_ok n) h0
      refine plain_ok G.hK h0 hf (pe_imp q2 fun σ H Q h => q1 σ H Q (by rw [hf]; exact h)) (fun _ _ _ q => by cases q) (fun _ _ _ _ q => by cases q) (fun _ _ q => by cases q)
    · obtain ⟨⟨te, q1, q2, _⟩, f, hf⟩ := lc_parts so G (tr_ok n) h0
      refine plain_ok G.hK h0 hf (pe_imp q2 fun σ H Q h => q1 σ H Q (by rw [hf]; exact h)) (fun _ _ _ q => by cases q) (fun _ _ _ _ q => by cases q) (fun _ _ q => by cases q)
    · cases h
end
end Mi
set_option Elab.async false
set_option linter.all false
set_option maxRecDepth 100000
/-! M13: statements: the translation. -/
namespace Mi
open PySem PySem.Spec L2
open PyProof.Rows hiding St
def notLc : Expr → Bool
  | .ListComp .. => false
  | .SetComp .. => false
  | .DictComp .. => false
  | _ => true
def notTl : Expr → Bool
  | .Tuple .. => false
  | .List .. => false
  | _ => true
def trT (t : Tx) (n : Nat) (sc : Scope) : Expr → Option T
  | .Name x p => (trNm t.N sc (.Name x p)).map .nm
  | .Tuple es _ _ => (trNms t.N sc es).map .tp
  | .Attribute o f _ => if f ∈ t.fields then (tr t n sc o).map fun o => .fld o f else none
  | .Subscript o i _ => if isSlc i = true then none else match tr t n sc o, tr t n sc i with
    | some o, some i => some (.sub o i)
    | _, _ => none
  | _ => none
def lcl (sc : Scope) (x : Str) : Bool := match sc.names.lookup x with
  | some .local => true
  | _ => false
def pass1 : Option (List Stmt) → Bool
  | some [.Pass _] => true
  | _ => false
def augOk : Operator → Bool
  | .Add => true
  | .Sub => true
  | _ => false
def isCst : Expr → Bool
  | .Constant .. => true
  | .Tuple .. => true
  | _ => false
def trS (t : Tx) : Nat → Scope → Stmt → Option Sm
  | 0, _, _ => none
  | n + 1, sc, s => match s with
    | .Expr (.Constant (.str _) _ _) _ => some .pas
    | .Expr e _ => if notLc e = true then (tr t n sc e).map .exp else none
    | .Assign [.Tuple [.Name x px, .Name y py] _ _] (.Tuple [a, b] _ _) _ =>
      if lcl sc x = true ∧ lcl sc y = true ∧ (x == y) = false ∧ (px.line == py.line) = true ∧ ([a, b].all (foldedForSure 8)) = false ∧ ([a, b].all (constantsAlone 8)) = false then
        (match slot t.N x, slot t.N y, tr t n sc a, tr t n sc b with
          | some i, some j, some a, some b => if i = j then none else some (.par i j a b)
          | _, _, _, _ => none) else none
    | .Assign [.Name y py] (.ListComp elt gs scope pos) _ =>
      if lcl sc y = true ∧ (py.line == pos.line) = true ∧ (scope.names.any fun (n, k) => n == y && (k == .local || k == .cell)) = false then
        (match slot t.N y, tr t n sc (.ListComp elt gs scope pos) with
          | some i, some e => some (.asg (.nm i) e)
          | _, _ => none) else none
    | .Assign [tg] e _ => if notLc e = true ∧ notTl e = true then (match trT t n sc tg, tr t n sc e with
      | some g, some e => some (.asg g e)
      | _, _ => none) else if notLc e = true ∧ notTl tg = true then (match trT t n sc tg, tr t n sc e with
      | some g, some e => some (.asg g e)
      | _, _ => none) else none
    | .AugAssign (.Name x p) op e _ => if augOk op = true then (match trNm t.N sc (.Name x p), tr t n sc e with
      | some i, some e => some (.aug i op e)
      | _, _ => none) else none
    | .AugAssign (.Attribute o f _) op e _ => if augOk op = true ∧ f ∈ t.fields then (match tr t n sc o, tr t n sc e with
      | some o, some e => some (.faug o f op e)
      | _, _ => none) else none
    | .If c a b _ => if isIf c = true then none else (match tr t n sc c, trSs (trS t n sc) a, trSs (trS t n sc) b with
      | some c, some a, some b => some (.ifs c a b)
      | _, _, _ => none)
    | .While c b [] _ => if isIf c = true then none else (match tr t n sc c, trSs (trS t n sc) b with
      | some c, some b => some (.whl c b)
      | _, _ => none)
    | .For tg it b [] _ => (match (match trE sc (tr t n sc) tg it with | some i => some i | none => trI sc (tr t n sc) it), trTg t.N sc tg, trSs (trS t n sc) b with
      | some it, some tg, some b => some (.for_ tg it b)
      | _, _, _ => none)
    | .Return (some e) _ => (tr t n sc e).map .ret
    | .Return none _ => some .retN
    | .Pass _ => some .pas
    | .Continue _ => some .cnt
    | .Raise _ _ _ => some .never
    | _ => none
where trSs (f : Stmt → Option Sm) : List Stmt → Option Sms
  | [] => some .nil
  | s :: ss => match f s, trSs f ss with
    | some s, some ss => some (.cons s ss)
    | _, _ => none
end Mi
set_option Elab.async false
set_option linter.all false
set_option maxRecDepth 100000
/-! M14: my syntax compared. -/
namespace Mi
open PySem PySem.Spec L2
mutual
def eqE : E → E → Bool
  | .var i, .var j => decide (i = j)
  | .int i, .int j => decide (i = j)
  | .str i, .str j => decide (i = j)
  | .bl i, .bl j => decide (i = j)
  | .non, .non => true
  | .con i, .con j => decide (i = j)
  | .bin o a b, .bin o' a' b' => decide (o = o') && eqE a a' && eqE b b'
  | .neg a, .neg a' => eqE a a'
  | .cmp o a b, .cmp o' a' b' => decide (o = o') && eqE a a' && eqE b b'
  | .chn o p a b c, .chn o' p' a' b' c' => decide (o = o') && decide (p = p') && eqE a a' && eqE b b' && eqE c c'
  | .and a, .and a' => eqEs a a'
  | .or a, .or a' => eqEs a a'
  | .not a, .not a' => eqE a a'
  | .ife a b c, .ife a' b' c' => eqE a a' && eqE b b' && eqE c c'
  | .call f a, .call f' a' => decide (f = f') && eqEs a a'
  | .make f a, .make f' a' => decide (f = f') && eqEs a a'
  | .meth f o a, .meth f' o' a' => decide (f = f') && eqE o o' && eqEs a a'
  | .fld o f, .fld o' f' => decide (f = f') && eqE o o'
  | .sub a b, .sub a' b' => eqE a a' && eqE b b'
  | .slc a b c, .slc a' b' c' => eqE a a' && eqE b b' && eqE c c'
  | .rev a, .rev a' => eqE a a'
  | .nop, .nop => true
  | .tup a, .tup a' => eqEs a a'
  | .lst a, .lst a' => eqEs a a'
  | .dK, .dK => true
  | .dT, .dT => true
  | .bm m o a, .bm m' o' a' => decide (m = m') && eqE o o' && eqEs a a'
  | .bf m a, .bf m' a' => decide (m = m') && eqEs a a'
  | .isi a m, .isi a' m' => decide (m = m') && eqE a a'
  | .lc t i c e w, .lc t' i' c' e' w' => decide (t = t') && decide (w = w') && eqI i i' && eqE c c' && eqE e e'
  | .lc2 t i t1 i1 e w w1, .lc2 t' i' t1' i1' e' w' w1' => decide (t = t') && decide (w = w') && decide (t1 = t1') && decide (w1 = w1') && eqI i i' && eqI i1 i1' && eqE e e'
  | _, _ => false
def eqEs : Es → Es → Bool
  | .nil, .nil => true
  | .cons a b, .cons a' b' => eqE a a' && eqEs b b'
  | _, _ => false
def eqI : I → I → Bool
  | .seq a, .seq a' => eqE a a'
  | .rng a, .rng a' => eqEs a a'
  | .enum a, .enum a' => eqE a a'
  | _, _ => false
end
def eqT : T → T → Bool
  | .nm i, .nm j => decide (i = j)
  | .tp i, .tp j => decide (i = j)
  | .fld o f, .fld o' f' => decide (f = f') && eqE o o'
  | .sub a b, .sub a' b' => eqE a a' && eqE b b'
  | _, _ => false
mutual
def eqS : Sm → Sm → Bool
  | .exp a, .exp a' => eqE a a'
  | .asg a b, .asg a' b' => eqT a a' && eqE b b'
  | .par i j a b, .par i' j' a' b' => decide (i = i') && decide (j = j') && eqE a a' && eqE b b'
  | .aug i o a, .aug i' o' a' => decide (i = i') && decide (o = o') && eqE a a'
  | .faug e f o a, .faug e' f' o' a' => decide (f = f') && decide (o = o') && eqE e e' && eqE a a'
  | .ifs c a b, .ifs c' a' b' => eqE c c' && eqSs a a' && eqSs b b'
  | .whl c a, .whl c' a' => eqE c c' && eqSs a a'
  | .for_ t i a, .for_ t' i' a' => decide (t = t') && eqI i i' && eqSs a a'
  | .ret a, .ret a' => eqE a a'
  | .retN, .retN => true
  | .pas, .pas => true
  | .cnt, .cnt => true
  | .never, .never => true
  | _, _ => false
def eqSs : Sms → Sms → Bool
  | .nil, .nil => true
  | .cons a b, .cons a' b' => eqS a a' && eqSs b b'
  | _, _ => false
end
mutual
theorem eqE_eq : ∀ (a b : E), eqE a b = true → a = b
  | a, b, h => by
    cases a <;> cases b <;> first
      | (exact absurd h Bool.false_ne_true)
      | rfl
      | (simp only [eqE, Bool.and_eq_true, decide_eq_true_eq] at h
         first
           | (obtain rfl := h; rfl)
           | (exact congrArg _ (eqE_eq _ _ h))
           | (exact congrArg _ (eqEs_eq _ _ h))
           | (obtain ⟨rfl, h1⟩ := h; exact congrArg _ (eqEs_eq _ _ h1))
           | (obtain ⟨rfl, h1⟩ := h; rw [eqE_eq _ _ h1])
           | (obtain ⟨h1, h2⟩ := h; rw [eqE_eq _ _ h1, eqE_eq _ _ h2])
           | (obtain ⟨⟨rfl, h1⟩, h2⟩ := h; rw [eqE_eq _ _ h1, eqE_eq _ _ h2])
           | (obtain ⟨⟨rfl, h1⟩, h2⟩ := h; rw [eqE_eq _ _ h1, eqEs_eq _ _ h2])
           | (obtain ⟨⟨h0, h1⟩, h2⟩ := h; rw [eqE_eq _ _ h0, eqE_eq _ _ h1, eqE_eq _ _ h2])
           | (obtain ⟨⟨⟨⟨rfl, rfl⟩, h1⟩, h2⟩, h3⟩ := h; rw [eqE_eq _ _ h1, eqE_eq _ _ h2, eqE_eq _ _ h3])
           | (obtain ⟨⟨⟨⟨rfl, rfl⟩, h1⟩, h2⟩, h3⟩ := h; rw [eqI_eq _ _ h1, eqE_eq _ _ h2, eqE_eq _ _ h3])
           | (obtain ⟨⟨⟨⟨⟨⟨rfl, rfl⟩, rfl⟩, rfl⟩, h1⟩, h2⟩, h3⟩ := h; rw [eqI_eq _ _ h1, eqI_eq _ _ h2, eqE_eq _ _ h3]))
theorem eqEs_eq : ∀ (a b : Es), eqEs a b = true → a = b
  | a, b, h => by
    cases a <;> cases b <;> first
      | (exact absurd h Bool.false_ne_true)
      | rfl
      | (simp only [eqEs, Bool.and_eq_true] at h
         obtain ⟨h1, h2⟩ := h
         rw [eqE_eq _ _ h1, eqEs_eq _ _ h2])
theorem eqI_eq : ∀ (a b : I), eqI a b = true → a = b
  | a, b, h => by
    cases a <;> cases b <;> first
      | (exact absurd h Bool.false_ne_true)
      | (simp only [eqI] at h
         first
           | (exact congrArg _ (eqE_eq _ _ h))
           | (exact congrArg _ (eqEs_eq _ _ h)))
end
theorem eqT_eq {a b : T} (h : eqT a b = true) : a = b := by
  cases a <;> cases b <;> first
    | (exact absurd h Bool.false_ne_true)
    | (simp only [eqT, Bool.and_eq_true, decide_eq_true_eq] at h
       first
         | (obtain rfl := h; rfl)
         | (obtain ⟨rfl, h1⟩ := h; rw [eqE_eq _ _ h1])
         | (obtain ⟨h1, h2⟩ := h; rw [eqE_eq _ _ h1, eqE_eq _ _ h2]))
mutual
theorem eqS_eq : ∀ (a b : Sm), eqS a b = true → a = b
  | a, b, h => by
    cases a <;> cases b <;> first
      | (exact absurd h Bool.false_ne_true)
      | rfl
      | (simp only [eqS, Bool.and_eq_true, decide_eq_true_eq] at h
         first
           | (exact congrArg _ (eqE_eq _ _ h))
           | (obtain ⟨h1, h2⟩ := h; rw [eqT_eq h1, eqE_eq _ _ h2])
           | (obtain ⟨h1, h2⟩ := h; rw [eqE_eq _ _ h1, eqSs_eq _ _ h2])
           | (obtain ⟨⟨h0, h1⟩, h2⟩ := h; rw [eqE_eq _ _ h0, eqSs_eq _ _ h1, eqSs_eq _ _ h2])
           | (obtain ⟨⟨rfl, rfl⟩, h1⟩ := h; rw [eqE_eq _ _ h1])
           | (obtain ⟨⟨rfl, h1⟩, h2⟩ := h; rw [eqI_eq _ _ h1, eqSs_eq _ _ h2])
           | (obtain ⟨⟨⟨rfl, rfl⟩, h1⟩, h2⟩ := h; rw [eqE_eq _ _ h1, eqE_eq _ _ h2]))
theorem eqSs_eq : ∀ (a b : Sms), eqSs a b = true → a = b
  | a, b, h => by
    cases a <;> cases b <;> first
      | (exact absurd h Bool.false_ne_true)
      | rfl
      | (simp only [eqSs, Bool.and_eq_true] at h
         obtain ⟨h1, h2⟩ := h
         rw [eqS_eq _ _ h1, eqSs_eq _ _ h2])
end
/-- the row's text is this -/
def isTxt (t : Tx) (sc : Scope) (body : List Stmt) (b : Sms) : Bool := match trS.trSs (trS t 60 sc) body with
  | some b' => eqSs b' b
  | none => false
theorem isTxt_eq {t : Tx} {sc : Scope} {body : List Stmt} {b : Sms} (h : isTxt t sc body b = true) : trS.trSs (trS t 60 sc) body = some b := by
  unfold isTxt at h
  split at h
  · rename_i q
    rw [q, eqSs_eq _ _ h]
  · cases h
end Mi
set_option Elab.async false
set_option linter.all false
set_option maxRecDepth 100000
/-! M15: statements: the readings. -/
namespace Mi
open PySem PySem.Spec L2
open PyProof.Rows hiding St
section
variable {X : Cx} {W : Wd} {fa fb fo : En → Sto → R D} {tc : En → Sto → R Bool} {ba bb : En → Sto → R Out} {D : Ends} {σ : St} {H : Hp}
theorem Fin.to' {m m' : List Addr} {H H' : Hp} {S : Sto} {v : Mi.D} {Q : VK} (f : Fin W m H S v Q) (x : Ext m H m' H') : Fin W m' H' S v Q := f.to x
theorem s_next (h : liftS W (fun e S => .ok (.nx e) S) D σ H) : tNext D σ H := by
  obtain ⟨m, e, S, o, S', er, rp, h, f⟩ := h
  obtain ⟨rfl, rfl⟩ := ok_inj h
  exact f σ H m .refl rp er
theorem s_cont (h : liftS W (fun e S => .ok (.cnt e) S) D σ H) : tCont D σ H := by
  obtain ⟨m, e, S, o, S', er, rp, h, f⟩ := h
  obtain ⟨rfl, rfl⟩ := ok_inj h
  exact f σ H m .refl rp er
theorem s_retN (h : liftS W (fun _ S => .ok (.ret .non) S) D σ H) : tRetN D σ H := by
  obtain ⟨m, e, S, o, S', er, rp, h, f⟩ := h
  obtain ⟨rfl, rfl⟩ := ok_inj h
  exact Fin.done f rp .non
theorem s_never {f : En → Sto → R Out} (hf : ∀ e S, f e S = .bad) (h : liftS W f D σ H) : tNever D σ H := by
  obtain ⟨m, e, S, o, S', er, rp, h, f⟩ := h
  rw [hf] at h
  cases h
theorem s_drop (h : liftS W (fun e S => (fa e S).bind fun _ S1 => .ok (.nx e) S1) D σ H) : tDrop (lift W fa) D σ H := by
  obtain ⟨m, e, S, o, S', er, rp, h, f⟩ := h
  obtain ⟨x, S1, h1, h2⟩ := R.bind_eq h
  obtain ⟨rfl, rfl⟩ := ok_inj h2
  exact ⟨m, e, S, x, S1, er, rp, h1, fun y H1 m1 x1 r1 _ => f σ H1 m1 x1 r1 (er.to x1)⟩
theorem s_ret (h : liftS W (fun e S => (fa e S).bind fun v S1 => .ok (.ret v) S1) D σ H) : tRet (lift W fa) D σ H := by
  obtain ⟨m, e, S, o, S', er, rp, h, f⟩ := h
  obtain ⟨x, S1, h1, h2⟩ := R.bind_eq h
  obtain ⟨rfl, rfl⟩ := ok_inj h2
  exact ⟨m, e, S, x, S1, er, rp, h1, f⟩
theorem s_if (h : liftS W (fun e S => (tc e S).bind fun t S1 => if t = true then ba e S1 else bb e S1) D σ H) : tIfS (liftT W tc) (liftS W ba) (liftS W bb) D σ H := by
  obtain ⟨m, e, S, o, S', er, rp, h, f⟩ := h
  obtain ⟨t, S1, h1, h2⟩ := R.bind_eq h
  refine ⟨m, e, S, t, S1, er, rp, h1, fun H1 m1 x1 r1 => ?_⟩
  cases t with
  | true =>
    rw [if_pos rfl] at h2 ⊢
    refine ⟨m1, e, S1, o, S', er.to x1, r1, h2, ?_⟩
    cases o with
    | nx e' => exact fun σ' H' m' x r er => f σ' H' m' (x1.trans x) r er
    | cnt e' => exact fun σ' H' m' x r er => f σ' H' m' (x1.trans x) r er
    | ret v => exact Fin.to f x1
  | false =>
    rw [if_neg Bool.false_ne_true] at h2 ⊢
    refine ⟨m1, e, S1, o, S', er.to x1, r1, h2, ?_⟩
    cases o with
    | nx e' => exact fun σ' H' m' x r er => f σ' H' m' (x1.trans x) r er
    | cnt e' => exact fun σ' H' m' x r er => f σ' H' m' (x1.trans x) r er
    | ret v => exact Fin.to f x1
theorem s_seqs (h : liftS W (fun e S => (ba e S).bind fun o S1 => match o with
    | .nx e2 => bb e2 S1
    | .ret v => .ok (.ret v) S1
    | .cnt e2 => .ok (.cnt e2) S1) D σ H) : tSeq (liftS W ba) (liftS W bb) D σ H := by
  obtain ⟨m, e, S, o, S', er, rp, h, f⟩ := h
  obtain ⟨p, S1, h1, h2⟩ := R.bind_eq h
  refine ⟨m, e, S, p, S1, er, rp, h1, ?_⟩
  cases p with
  | nx e2 =>
    intro σ' H' m' x r er'
    refine ⟨m', e2, S1, o, S', er', r, h2, ?_⟩
    cases o with
    | nx e' => exact fun σ2 H2 m2 x2 r2 er2 => f σ2 H2 m2 (x.trans x2) r2 er2
    | cnt e' => exact fun σ2 H2 m2 x2 r2 er2 => f σ2 H2 m2 (x.trans x2) r2 er2
    | ret v => exact Fin.to f x
  | ret v =>
    obtain ⟨rfl, rfl⟩ := ok_inj h2
    exact f
  | cnt e2 =>
    obtain ⟨rfl, rfl⟩ := ok_inj h2
    exact f
theorem s_while (h : liftS W (fun e S => whileX tc bb e S) D σ H) : tWhile (liftT W tc) (liftS W bb) D σ H := by
  obtain ⟨m, e, S, o, S', er, rp, h, f⟩ := h
  obtain ⟨n, h⟩ := whileX_eq h
  refine ⟨fun n σ1 H1 => ∃ m1 e1 S1, Ext m H m1 H1 ∧ Rep W m1 H1 S1 ∧ ER W m1 H1 e1 σ1 ∧ whileN tc bb n e1 S1 = .ok o S', ⟨n, m, e, S, .refl, rp, er, h⟩, ?_⟩
  rintro k σ1 H1 ⟨m1, e1, S1, x1, r1, er1, h1⟩
  cases k with
  | zero => cases h1
  | succ k =>
    obtain ⟨c, S2, h2, h3⟩ := R.bind_eq h1
    refine ⟨m1, e1, S1, c, S2, er1, r1, h2, fun H2 m2 x2 r2 => ?_⟩
    cases c with
    | true =>
      rw [if_pos rfl] at h3 ⊢
      obtain ⟨o2, S3, h4, h5⟩ := R.bind_eq h3
      refine ⟨fun σ' H' => ∃ m' e' S4, Ext m H m' H' ∧ Rep W m' H' S4 ∧ ER W m' H' e' σ' ∧ whileN tc bb k e' S4 = .ok o S', fun σ' H' z => ⟨k, Nat.lt_succ_self _, z⟩, m2, e1, S2, o2, S3, er1.to x2, r2, h4, ?_⟩
      cases o2 with
      | nx e2 => exact fun σ' H' m' x r er' => ⟨m', e2, S3, x1.trans (x2.trans x), r, er', h5⟩
      | cnt e2 => exact fun σ' H' m' x r er' => ⟨m', e2, S3, x1.trans (x2.trans x), r, er', h5⟩
      | ret v =>
        obtain ⟨rfl, rfl⟩ := ok_inj h5
        exact Fin.to f (x1.trans x2)
    | false =>
      rw [if_neg Bool.false_ne_true] at h3 ⊢
      obtain ⟨rfl, rfl⟩ := ok_inj h3
      exact f σ1 H2 m2 (x1.trans x2) r2 (er1.to x2)
theorem s_for {t : Tg} {fi : En → Sto → R Mi.It} (h : liftS W (fun e S => (fi e S).bind fun J S1 => forL J t bb J.items e S1) D σ H) : tFor (liftI W fi) (gTg W.K t) (liftS W bb) D σ H := by
  obtain ⟨m, e, S, o, S', er, rp, h, f⟩ := h
  obtain ⟨it, S1, h1, h2⟩ := R.bind_eq h
  refine ⟨m, e, S, it, S1, er, rp, h1, fun J H1 m1 x1 r1 jr => ?_⟩
  refine ⟨fun i n σ1 H' => n = it.items.length - i ∧ i ≤ it.items.length ∧ ∃ m' e1 S0, Ext m1 H1 m' H' ∧ Rep W m' H' S0 ∧ ER W m' H' e1 σ1 ∧ forL it t bb (it.items.drop i) e1 S0 = .ok o S',
    ⟨_, rfl, Nat.zero_le _, m1, e, S1, .refl, r1, er.to x1, h2⟩, ?_⟩
  rintro i n σ1 H' ⟨rfl, hi, m', e1, S0, x3, r3, er3, hl⟩
  by_cases hlt : i < it.items.length
  · rw [List.drop_eq_getElem_cons hlt] at hl
    have gi : it.items[i]? = some it.items[i] := List.getElem?_eq_getElem hlt
    generalize it.items[i] = x at hl gi
    unfold forL at hl
    split at hl
    · rename_i st
      split at hl
      · cases hl
      · rename_i e2 he2
        obtain ⟨o2, S6, h4, h5⟩ := R.bind_eq hl
        refine .inr ⟨jr.go i m' H' S0 x x3 r3 st gi, fun σ' H2 => ∃ m2 e5 S7, Ext m1 H1 m2 H2 ∧ Rep W m2 H2 S7 ∧ ER W m2 H2 e5 σ' ∧ forL it t bb (it.items.drop (i + 1)) e5 S7 = .ok o S',
          fun σ' H2 ⟨m2, e5, S7, y1, y2, y3, y4⟩ => ⟨it.items.length - (i + 1), by omega, rfl, hlt, m2, e5, S7, y1, y2, y3, y4⟩, fun v H2 hy => ?_⟩
        obtain ⟨x4, r4, vr⟩ := jr.yld i m' H' S0 x v H2 x3 r3 st gi hy
        refine s_tg r4 he2 vr (er3.to x4) fun σ2 er2 _ => ?_
        refine ⟨m', e2, S0, o2, S6, er2, r4, h4, ?_⟩
        cases o2 with
        | nx e5 => exact fun σ' H3 m3 x5 r5 er5 => ⟨m3, e5, S6, x3.trans (x4.trans x5), r5, er5, h5⟩
        | cnt e5 => exact fun σ' H3 m3 x5 r5 er5 => ⟨m3, e5, S6, x3.trans (x4.trans x5), r5, er5, h5⟩
        | ret v2 =>
          obtain ⟨rfl, rfl⟩ := ok_inj h5
          exact Fin.to f (x1.trans (x3.trans x4))
    · cases hl
  · have hie : i = it.items.length := by omega
    subst hie
    rw [List.drop_length] at hl
    unfold forL at hl
    split at hl
    · rename_i st
      obtain ⟨rfl, rfl⟩ := ok_inj hl
      exact .inl ⟨jr.stop _ m' H' S0 x3 r3 st (Nat.le_refl _), f σ1 H' m' (x1.trans x3) r3 er3⟩
    · cases hl
/-! ### stores -/
theorem s_asgTg {C : Cxt} {t : T} {g : Tg} (hg : ∀ v e S, setT C t v e S = optR (setTg g v e S) S) (h : liftS W (fun e S => (fa e S).bind fun v S1 => (setT C t v e S1).bind fun e2 S2 => .ok (.nx e2) S2) D σ H) : tAsg (lift W fa) (gTg W.K g) D σ H := by
  obtain ⟨m, e, S, o, S', er, rp, h, f⟩ := h
  obtain ⟨x, S1, h1, h2⟩ := R.bind_eq h
  obtain ⟨e2, S2, h3, h4⟩ := R.bind_eq h2
  obtain ⟨rfl, rfl⟩ := ok_inj h4
  rw [hg] at h3
  obtain ⟨h5, rfl⟩ := optR_ok h3
  exact ⟨m, e, S, x, S1, er, rp, h1, fun y H1 m1 x1 r1 v1 => s_tg r1 h5 v1 (er.to x1) fun σ' er' _ => f σ' H1 m1 x1 r1 er'⟩
theorem s_asgSub {C : Cxt} {o i : E} (h : liftS W (fun e S => (fa e S).bind fun v S1 => (setT C (.sub o i) v e S1).bind fun e2 S2 => .ok (.nx e2) S2) D σ H) :
    tAsg (lift W fa) (gSub (lift W (ev C o).v) (lift W (ev C i).v) rSet4) D σ H := by
  obtain ⟨m, e, S, ou, S', er, rp, h, f⟩ := h
  obtain ⟨x, S1, h1, h2⟩ := R.bind_eq h
  obtain ⟨e2, S2, h3, h4⟩ := R.bind_eq h2
  obtain ⟨rfl, rfl⟩ := ok_inj h4
  obtain ⟨xo, S3, h5, h3⟩ := R.bind_eq h3
  obtain ⟨xi, S4, h6, h3⟩ := R.bind_eq h3
  obtain ⟨u, S5, h7, h8⟩ := R.bind_eq h3
  obtain ⟨rfl, rfl⟩ := ok_inj h8
  refine ⟨m, e, S, x, S1, er, rp, h1, fun y H1 m1 x1 r1 v1 => ?_⟩
  refine ⟨m1, e, S1, xo, S3, er.to x1, r1, h5, fun yo H2 m2 x2 r2 v2 => ?_⟩
  refine ⟨m2, e, S3, xi, S4, (er.to x1).to x2, r2, h6, fun yi H3 m3 x3 r3 v3 => ?_⟩
  refine s_set r3 (v2.to x3) v3 (v1.to (x2.trans x3)) h7 fun H4 x4 r4 => ?_
  exact f σ H4 m3 (x1.trans (x2.trans (x3.trans x4))) r4 (((er.to x1).to x2).to (x3.trans x4))
theorem put_ins {m : List Addr} {H : Hp} {S : Sto} {i : Nat} {a dx : Addr} {c : Nat} {fs : List (Str × Mi.D)} {gs : List (Str × V)} {f : Str} {d : Mi.D} {y : V} (rp : Rep W m H S) (hi : m[i]? = some a) (hc : c < W.nc) (ha : H a = some (.ins (W.ca c) dx gs)) (kr : KR W m H fs gs) (r : VR W m H d y) :
    Rep W m (upd H a (.ins (W.ca c) dx (putF f y gs))) (S.set i (.ins c (putFD f d fs))) ∧ Ext m H m (upd H a (.ins (W.ca c) dx (putF f y gs))) := by
  have x : Ext m H m (upd H a (.ins (W.ca c) dx (putF f y gs))) :=
    ⟨⟨[], by simp⟩, fun b xs h => by rw [upd_ne (ne_of h ha fun e => by cases e)]; exact h, fun b ob v h => by rw [upd_ne (ne_of h ha fun e => by cases e)]; exact h⟩
  exact rp.put hi ha (fun _ e => by cases e) (fun _ _ e => by cases e) ⟨hc, dx, _, upd_same, (putKR kr f r).to x⟩
theorem setF_ok {o v : Mi.D} {f : Str} {S S' : Sto} {u : Unit} (h : setF o f v S = .ok u S') : ∃ a c fs, o = .ref a ∧ S[a]? = some (.ins c fs) ∧ fs.length < 1000 ∧ S' = S.set a (.ins c (putFD f v fs)) := by
  unfold setF at h
  split at h
  · split at h
    · split at h
      · obtain ⟨_, rfl⟩ := ok_inj h
        exact ⟨_, _, _, rfl, by assumption, by assumption, rfl⟩
      · cases h
    · cases h
  · cases h
theorem kr_len {m : List Addr} {H : Hp} {fs : List (Str × Mi.D)} {gs : List (Str × V)} (h : KR W m H fs gs) : fs.length = gs.length := Paired.length h
theorem s_asgFld {C : Cxt} {o : E} {f : Str} (cl : ∀ n, n < W.nc → Cls W.K (W.ca n) ∧ NoAttr W.K (W.ca n) f) (h : liftS W (fun e S => (fa e S).bind fun v S1 => (setT C (.fld o f) v e S1).bind fun e2 S2 => .ok (.nx e2) S2) D σ H) :
    sFld W.K (lift W (ev C o).v) (lift W fa) f D σ H := by
  obtain ⟨m, e, S, ou, S', er, rp, h, fi⟩ := h
  obtain ⟨x, S1, h1, h2⟩ := R.bind_eq h
  obtain ⟨e2, S2, h3, h4⟩ := R.bind_eq h2
  obtain ⟨rfl, rfl⟩ := ok_inj h4
  obtain ⟨xo, S3, h5, h3⟩ := R.bind_eq h3
  obtain ⟨u, S5, h7, h8⟩ := R.bind_eq h3
  obtain ⟨rfl, rfl⟩ := ok_inj h8
  refine ⟨m, e, S, x, S1, er, rp, h1, fun y H1 m1 x1 r1 v1 => ?_⟩
  refine ⟨m1, e, S1, xo, S3, er.to x1, r1, h5, fun yo H2 m2 x2 r2 v2 => ?_⟩
  obtain ⟨a, c, fs, rfl, hS, hl, rfl⟩ := setF_ok h7
  obtain ⟨aa, rfl, hmi, hn, dx, gs, haa, kr⟩ := vr_obj r2 v2 hS
  obtain ⟨r3, x3⟩ := put_ins (f := f) r2 hmi hn haa kr (v1.to x2)
  exact ⟨aa, _, dx, gs, rfl, haa, (cl c hn).1, (cl c hn).2, by rw [← kr_len kr]; exact hl, fi σ _ m2 (x1.trans (x2.trans x3)) r3 ((er.to x1).to (x2.trans x3))⟩
def rAug : Operator → TIp
  | .Add => ipI fun i j => i + j
  | .Sub => ipI fun i j => i - j
  | _ => fun _ _ _ _ => False
theorem p_aug : ∀ op, PIp X op (rAug op)
  | .Add => ip_add
  | .Sub => ip_sub
  | .Mult => fun _ _ _ _ _ _ _ _ _ _ _ _ h => h.elim
  | .MatMult => fun _ _ _ _ _ _ _ _ _ _ _ _ h => h.elim
  | .Div => fun _ _ _ _ _ _ _ _ _ _ _ _ h => h.elim
  | .Mod => fun _ _ _ _ _ _ _ _ _ _ _ _ h => h.elim
  | .Pow => fun _ _ _ _ _ _ _ _ _ _ _ _ h => h.elim
  | .LShift => fun _ _ _ _ _ _ _ _ _ _ _ _ h => h.elim
  | .RShift => fun _ _ _ _ _ _ _ _ _ _ _ _ h => h.elim
  | .BitOr => fun _ _ _ _ _ _ _ _ _ _ _ _ h => h.elim
  | .BitXor => fun _ _ _ _ _ _ _ _ _ _ _ _ h => h.elim
  | .BitAnd => fun _ _ _ _ _ _ _ _ _ _ _ _ h => h.elim
  | .FloorDiv => fun _ _ _ _ _ _ _ _ _ _ _ _ h => h.elim
theorem s_augD {op : Operator} {x y z : Mi.D} {X Y : V} {m : List Addr} {H : Hp} {S S' : Sto} {Q : VK} (hx : VR W m H x X) (hy : VR W m H y Y) (h : augD op x y S = .ok z S') (k : S = S' → ∀ i, z = .int i → Q (.int i) H) : rAug op X Y H Q := by
  unfold augD at h
  split at h
  · obtain ⟨rfl, rfl⟩ := ok_inj h
    obtain rfl := vr_int hx
    obtain rfl := vr_int hy
    exact ⟨_, _, rfl, rfl, k rfl _ rfl⟩
  · obtain ⟨rfl, rfl⟩ := ok_inj h
    obtain rfl := vr_int hx
    obtain rfl := vr_int hy
    exact ⟨_, _, rfl, rfl, k rfl _ rfl⟩
  · cases h
theorem s_aug {i : Nat} {op : Operator} (h : liftS W (fun e S => (optR ((e[i]?).bind id) S).bind fun x S0 => (fa e S0).bind fun y S1 => (augD op x y S1).bind fun z S2 => .ok (.nx (e.set i (some z))) S2) D σ H) : tAug i (lift W fa) (rAug op) D σ H := by
  obtain ⟨m, e, S, o, S', er, rp, h, f⟩ := h
  obtain ⟨x, S0, h0, h⟩ := R.bind_eq h
  obtain ⟨h5, rfl⟩ := optR_ok h0
  obtain ⟨y, S1, h1, h⟩ := R.bind_eq h
  obtain ⟨z, S2, h2, h3⟩ := R.bind_eq h
  obtain ⟨rfl, rfl⟩ := ok_inj h3
  obtain ⟨q1, q2⟩ : ∃ d, e[i]? = some (some d) ∧ d = x := by
    cases q : e[i]? with
    | none =>
      rw [q] at h5
      cases h5
    | some d =>
      rw [q] at h5
      exact ⟨x, by rw [show d = some x from h5], rfl⟩
  obtain ⟨q2, rfl⟩ := q2
  obtain ⟨v, hv, vr⟩ := er.at_ i _ q2
  refine ⟨v, hv, m, e, S, y, S1, er, rp, h1, fun Y H1 m1 x1 r1 v1 => ?_⟩
  exact s_augD (vr.to x1) v1 h2 fun es j ej => by
    subst es ej
    exact f _ H1 m1 x1 r1 ((er.to x1).set i (.int j))
theorem s_faug {op : Operator} {f : Str} (cl : ∀ n, n < W.nc → Cls W.K (W.ca n) ∧ NoAttr W.K (W.ca n) f)
    (h : liftS W (fun e S => (fo e S).bind fun x S1 => (fldD x f S1).bind fun v S2 => (fa e S2).bind fun y S3 => (augD op v y S3).bind fun z S4 => if clsD x S4 = clsD x S2 then (setF x f z S4).bind fun _ S5 => .ok (.nx e) S5 else .bad) D σ H) : sFldAug W.K (lift W fo) (lift W fa) (rAug op) f D σ H := by
  obtain ⟨m, e, S, o, S', er, rp, h, fi⟩ := h
  obtain ⟨x, S1, h1, h⟩ := R.bind_eq h
  obtain ⟨v, S2, h2, h⟩ := R.bind_eq h
  obtain ⟨y, S3, h3, h⟩ := R.bind_eq h
  obtain ⟨z, S4, h4, h⟩ := R.bind_eq h
  split at h
  rotate_left
  · cases h
  rename_i hcls
  obtain ⟨u, S5, h5, h6⟩ := R.bind_eq h
  obtain ⟨rfl, rfl⟩ := ok_inj h6
  refine ⟨m, e, S, x, S1, er, rp, h1, fun X1 H1 m1 x1 r1 v1 => ?_⟩
  unfold fldD at h2
  split at h2
  · split at h2
    · rename_i a _ c gs hS
      obtain ⟨e1, rfl⟩ := optR_ok h2
      obtain ⟨aa, rfl, hmi, hn, dx, hs, haa, kr⟩ := vr_obj r1 v1 hS
      rcases lookKR kr f with ⟨e2, _⟩ | ⟨d, w, e2, e3, vr⟩
      · rw [e1] at e2
        cases e2
      · rw [e1] at e2
        cases e2
        refine ⟨aa, _, dx, hs, w, rfl, haa, (cl c hn).1, (cl c hn).2, e3, m1, e, S1, y, S3, er.to x1, r1, h3, fun Y H2 m2 x2 r2 v2 => ?_⟩
        refine s_augD (vr.to x2) v2 h4 fun es j ej => ?_
        subst es ej
        obtain ⟨a', c', fs', ea, hS', hl, rfl⟩ := setF_ok h5
        cases ea
        obtain ⟨aa', ea', hmi', hn', dx', gs', haa', kr'⟩ := vr_obj r2 (v1.to x2) hS'
        cases ea'
        obtain ⟨r3, x3⟩ := put_ins (f := f) r2 hmi' hn' haa' kr' (.int j)
        have hc : c' = c := by
          unfold clsD at hcls
          dsimp only at hcls
          rw [hS', hS] at hcls
          exact Option.some.inj hcls
        subst hc
        exact ⟨dx', gs', haa', by rw [← kr_len kr']; exact hl, fi σ _ m2 (x1.trans (x2.trans x3)) r3 ((er.to x1).to (x2.trans x3))⟩
    · cases h2
  · cases h2
end
end Mi
set_option Elab.async false
set_option linter.all false
set_option maxRecDepth 100000
/-! M16: every statement; every def. -/
namespace Mi
open PySem PySem.Spec L2
open PyProof.Rows hiding St
theorem sw_no {e : Expr} (h : notLc e = true) (tg : Option Expr) (l : Nat) (env : Env) : swapsWith e tg l env = pure false := by
  cases e <;> first | rfl | cases h
theorem sws_no {e : Expr} (h : notLc e = true) (tg : Expr) (l : Nat) (env : Env) : swapsWithSole [tg] e l env = pure false := by
  unfold swapsWithSole
  exact sw_no h _ _ _
theorem trTg_nm {N : List Str} {sc : Scope} {x : Str} {p : Pos} {i : Nat} (h : trNm N sc (.Name x p) = some i) : trTg N sc (.Name x p) = some (.nm i) := by
  unfold trTg
  dsimp only
  rw [h]
  rfl
theorem ss_e {tg e : Expr} (h : notTl e = true) (env : Env) : swappedStores [tg] e env = pure none := by
  cases e <;> first
    | (exact absurd h Bool.false_ne_true)
    | (cases tg <;> rfl)
theorem ss_t {tg e : Expr} (h : notTl tg = true) (env : Env) : swappedStores [tg] e env = pure none := by
  cases tg <;> first
    | (exact absurd h Bool.false_ne_true)
    | (cases e <;> rfl)
theorem as_sub {o i : Expr} {p : Pos} {env : Env} (h : isSlc i = false) : ∀ v, assign (.Subscript o i p) env v = (do
    let ov ← holding [v] (eval o env)
    let iv ← holding [v, ov] (eval i env)
    standAt p
    holding [v, ov, iv] (setItem ov iv v)
    release [v, ov, iv] []) := by
  intro v
  cases i <;> first | rfl | cases h
section
variable {W : Wd} {P : Pr} {t : Tx} {k : Nat} {X : Cx} {sc : Scope}
theorem lcl_ok {x : Str} (h : lcl sc x = true) : locB sc x = true ∧ sc.names.lookup x = some .local := by
  unfold lcl at h
  split at h
  · rename_i q
    unfold locB
    rw [q]
    exact ⟨rfl, rfl⟩
  · cases h
theorem nm_slot {N : List Str} {x : Str} {p : Pos} {i : Nat} (h : trNm N sc (.Name x p) = some i) : locB sc x = true ∧ slot N x = some i := by
  unfold trNm at h
  dsimp only at h
  split at h
  · exact ⟨by assumption, h⟩
  · cases h
/-- name, tuple, o.f, o[i] = e -/
theorem asg_ok {n : Nat} {tg x : Expr} {pos : Pos} {g : T} {e : E} (so : ScOk X sc) (G : Good X W P t k) (hl : notLc x = true) (hs : swappedStores [tg] x X.env = pure none) (ht : trT t n sc tg = some g) (he : tr t n sc x = some e) :
    PS X (.Assign [tg] x pos) (liftS W (evS (cxt P k) (.asg g e))) := by
  have IH := tr_ok n X sc so G
  have pe := (IH _ _ he).1
  unfold trT at ht
  split at ht
  · obtain ⟨i, h1, rfl⟩ := Option.map_eq_some_iff.mp ht
    have pg := tg_pg (t := .nm i) G.hN G.nd G.calm so (trTg_nm h1)
    rw [G.hK] at pg
    exact ps_imp (ps_asg pe pg (sws_no hl _ _ _) hs rfl) fun D σ H h => s_asgTg (fun v e S => rfl) h
  · obtain ⟨is, h1, rfl⟩ := Option.map_eq_some_iff.mp ht
    have pg := fun kk p => tg_pg (x := .Tuple _ kk p) (t := .tp is) G.hN G.nd G.calm so (by show (trNms t.N sc _).map Tg.tp = _; rw [h1]; rfl)
    rw [G.hK] at pg
    exact ps_imp (ps_asg pe (pg _ _) (sws_no hl _ _ _) hs rfl) fun D σ H h => s_asgTg (fun v e S => rfl) h
  · split at ht
    · rename_i hf
      obtain ⟨o, h1, rfl⟩ := Option.map_eq_some_iff.mp ht
      have q := fun (f : Str) (p' : Pos) => ps_fld (pos := pos) (pos' := p') (f := f) (IH _ _ h1).1 pe (sw_no hl (some (.Attribute _ f p')) _ _)
      rw [G.hK] at q
      refine ps_imp (q _ _) fun D σ H h => s_asgFld (fun n hn => ?_) h
      rw [← G.hK]
      exact ⟨G.mts.cls n hn, G.flds _ hf n hn⟩
    · cases ht
  · split at ht
    · cases ht
    · rename_i hsl
      split at ht
      · rename_i o' i' h1 h2
        cases ht
        have pg := fun p => pg_sub (pos := p) (IH _ _ h1).1 (IH _ _ h2).1 (o_set4 G.u1) (as_sub (by simpa using hsl))
        exact ps_imp (ps_asg pe (pg _) (sws_no hl _ _ _) hs rfl) fun D σ H h => s_asgSub h
      · cases ht
  · cases ht
theorem sss_ok {C : Cxt} {f : Stmt → Option Sm} (IH : ∀ st s, f st = some s → PS X st (liftS W (evS C s))) : ∀ {ss : List Stmt} {b : Sms}, trS.trSs f ss = some b → PSs X ss (liftS W (evSs C b))
  | [], b, h => by
    cases h
    exact pss_imp pss_nil fun D σ H h => s_next h
  | s :: ss, b, h => by
    unfold trS.trSs at h
    split at h
    · rename_i s' ss' h1 h2
      cases h
      exact pss_imp (pss_cons (IH _ _ h1) (sss_ok IH h2)) fun D σ H h => s_seqs h
    · cases h
theorem lc_ok {n : Nat} {y : Str} {py pos spos : Pos} {elt : Expr} {gs : List Comprehension} {scope : Scope} {i : Nat} {e : E} (so : ScOk X sc) (G : Good X W P t k) (hy : lcl sc y = true) (hXl : X.env.scope.names.lookup y = some .local) (hl : (py.line == pos.line) = true)
    (ha : (scope.names.any fun (n, k) => n == y && (k == .local || k == .cell)) = false) (hi : slot t.N y = some i) (he : tr t n sc (.ListComp elt gs scope pos) = some e) :
    PS X (.Assign [.Name y py] (.ListComp elt gs scope pos) spos) (liftS W (evS (cxt P k) (.asg (.nm i) e))) := by
  have hiN : X.N[i]? = some y := by
    rw [G.hN]
    exact slot_ok hi
  have hnd : X.N.Nodup := by
    rw [G.hN]
    exact G.nd
  have hsw := sw_true (elt := elt) (gs := gs) (scope := scope) (pos := pos) (py := py) (y := y) (l := spos.line) so.kind hXl hl ha
  cases n with
  | zero => cases he
  | succ n =>
    obtain ⟨⟨te, q1, _, q3⟩, _⟩ := lc_parts so G (tr_ok n) he
    refine ps_imp (q3 y py spos i hiN hXl hsw) fun D σ H h => ?_
    obtain ⟨m, en, S, o, S', er, rp, h, f⟩ := h
    obtain ⟨v, S1, h1, h2⟩ := R.bind_eq h
    obtain ⟨e2, S2, h3, h4⟩ := R.bind_eq h2
    obtain ⟨rfl, rfl⟩ := ok_inj h4
    obtain ⟨h5, rfl⟩ := optR_ok h3
    refine q1 σ H _ ⟨m, en, S, v, S1, er, rp, h1, fun y H1 m1 x1 r1 v1 => ?_⟩
    exact s_tg (t := .nm i) r1 h5 v1 (er.to x1) fun σ' er' _ => f σ' H1 m1 x1 r1 er'
theorem par_ok {n : Nat} {x y : Str} {px py pt pos pt2 : Pos} {kt k2 : Nat} {a b : Expr} {i j : Nat} {ea eb : E} (so : ScOk X sc) (G : Good X W P t k) (hx : X.env.scope.names.lookup x = some .local) (hy : X.env.scope.names.lookup y = some .local) (hne : (x == y) = false) (hl : (px.line == py.line) = true)
    (h1 : ([a, b].all (foldedForSure 8)) = false) (h2 : ([a, b].all (constantsAlone 8)) = false) (hi : slot t.N x = some i) (hj : slot t.N y = some j) (hij : i ≠ j) (ha : tr t n sc a = some ea) (hb : tr t n sc b = some eb) :
    PS X (.Assign [.Tuple [.Name x px, .Name y py] kt pt] (.Tuple [a, b] k2 pt2) pos) (liftS W (evS (cxt P k) (.par i j ea eb))) := by
  have IH := tr_ok n X sc so G
  have hnd : X.N.Nodup := by
    rw [G.hN]
    exact G.nd
  have pa : PA X [a, b] (liftA W (evEs (cxt P k) (.cons ea (.cons eb .nil)))) := a_cons (IH _ _ ha).1 (a_cons (IH _ _ hb).1 a_nil (star_of hb [] X.env)) (star_of ha [b] X.env)
  have st : ([a, b].any fun | .Starred .. => true | _ => false) = false := by
    have z : ∀ {x : Expr} {e : E}, tr t n sc x = some e → (match x with | .Starred .. => true | _ => false) = false := fun {x e} h => by
      cases n with
      | zero => cases h
      | succ n => cases x <;> first | rfl | cases h
    simp only [List.any_cons, List.any_nil, Bool.or_false, z ha, z hb]
  have hw : swappedStores [.Tuple [.Name x px, .Name y py] kt pt] (.Tuple [a, b] k2 pt2) X.env = pure (some [x, y]) := by
    have kx : X.env.kindOf x = some .local := hx
    have ky : X.env.kindOf y = some .local := hy
    have hbk : X.env.blockKind = .function := by
      unfold Env.blockKind
      rw [so.kind]
      rfl
    have el : px.line = py.line := by simpa using hl
    have ene : ¬ x = y := by simpa using hne
    have hd : [x, y].eraseDups = [x, y] := by
      have hyx : (y == x) = false := by simpa using fun z : y = x => ene z.symm
      simp [List.eraseDups_cons, hyx]
    have hf : ([Expr.Name x px, Expr.Name y py].filterMap fun | .Name id pos => if X.env.kindOf id == some .local && pos.line == px.line then some id else none | _ => none) = [x, y] := by
      simp [kx, ky, el]
    unfold swappedStores
    simp only [hbk]
    refine (if_neg (fun hh => Bool.false_ne_true hh)).trans ?_
    refine (if_neg (fun hh => absurd (hh.symm.trans st) (by decide))).trans ?_
    have two : ([x, y].length != [Expr.Name x px, Expr.Name y py].length || [x, y].eraseDups.length != [x, y].length) = false := by
      rw [hd]
      rfl
    refine Eq.trans (congrArg (fun (l : List Str) => if (l.length != [Expr.Name x px, Expr.Name y py].length || l.eraseDups.length != l.length) = true then (pure none : Sem (Option (List Str))) else
      if [a, b].all (foldedForSure 8) = true then pure none else if [a, b].all (constantsAlone 8) = true then (do unsupported "assign.tuple-of-constant-expressions:order-of-the-stores"; pure (some l)) else pure (some l)) hf) ?_
    rw [two, h1, h2]
    rfl
  refine ps_imp (ps_par G.calm hnd (by rw [G.hN]; exact slot_ok hi) (by rw [G.hN]; exact slot_ok hj) hij hx hy pa hw rfl) fun D σ H h => ?_
  obtain ⟨m, e, S, o, S', er, rp, h, f⟩ := h
  obtain ⟨v, S1, h3, h⟩ := R.bind_eq h
  obtain ⟨w, S2, h4, h⟩ := R.bind_eq h
  split at h
  · obtain ⟨rfl, rfl⟩ := ok_inj h
    refine ⟨m, e, S, [v, w], S2, er, rp, ?_, fun ys H1 m1 x1 r1 v1 => ?_⟩
    · show ((ev (cxt P k) ea).v e S).bind _ = _
      rw [h3]
      show (((ev (cxt P k) eb).v e S1).bind _).bind _ = _
      rw [h4]
      rfl
    · obtain ⟨Y, Z, rfl, vy, vz⟩ := vrs2 v1
      exact ⟨Y, Z, rfl, f _ H1 m1 x1 r1 (((er.to x1).set i vy).set j vz)⟩
  · cases h
end
end Mi
set_option Elab.async false
set_option linter.all false
set_option maxRecDepth 100000
/-! M17: every statement; every def. -/
namespace Mi
open PySem PySem.Spec L2
open PyProof.Rows hiding St
section
variable {W : Wd} {P : Pr} {t : Tx} {k : Nat} {X : Cx} {sc : Scope}
theorem trS_ok (hp : PassesOwn (model X.prog X.w) X.A X.env X.xe) (so : ScOk X sc) (hlc : ∀ x, lcl sc x = true → X.env.scope.names.lookup x = some .local) (G : Good X W P t k) :
    ∀ (n : Nat) (st : Stmt) (s : Sm), trS t n sc st = some s → PS X st (liftS W (evS (cxt P k) s))
  | 0, st, s, h => by cases h
  | n + 1, st, s, h => by
    have IH := trS_ok hp so hlc G n
    have IE := tr_ok n X sc so G
    unfold trS at h
    split at h
    · cases h
      exact ps_imp ps_doc fun D σ H h => s_next h
    · split at h
      · rename_i hl
        obtain ⟨e, h1, rfl⟩ := Option.map_eq_some_iff.mp h
        exact ps_imp (ps_expr (IE _ _ h1).1 (sw_no hl _ _ _)) fun D σ H h => s_drop h
      · cases h
    · split at h
      · rename_i hc
        obtain ⟨c1, c2, c3, c4, c5, c6⟩ := hc
        split at h
        · rename_i i j a b h1 h2 h3 h4
          split at h
          · cases h
          · rename_i hij
            cases h
            exact par_ok so G (hlc _ c1) (hlc _ c2) c3 c4 c5 c6 h1 h2 hij h3 h4
        · cases h
      · cases h
    · split at h
      · rename_i hc
        obtain ⟨c1, c2, c3⟩ := hc
        split at h
        · rename_i i e h1 h2
          cases h
          exact lc_ok so G c1 (hlc _ c1) c2 c3 h1 h2
        · cases h
      · cases h
    · split at h
      · rename_i hc
        split at h
        · rename_i g e h1 h2
          cases h
          exact asg_ok so G hc.1 (ss_e hc.2 _) h1 h2
        · cases h
      · split at h
        · rename_i hc
          split at h
          · rename_i g e h1 h2
            cases h
            exact asg_ok so G hc.1 (ss_t hc.2 _) h1 h2
          · cases h
        · cases h
    · split at h
      · split at h
        · rename_i i e h1 h2
          cases h
          obtain ⟨l1, l2⟩ := nm_slot h1
          obtain ⟨l3, l4⟩ := so.loc _ l1
          exact ps_imp (ps_aug (by rw [G.hN]; exact G.nd) (by rw [G.hN]; exact slot_ok l2) l3 (IE _ _ h2).1 (p_aug _) l4) fun D σ H h => s_aug h
        · cases h
      · cases h
    · split at h
      · rename_i hc
        split at h
        · rename_i o e h1 h2
          cases h
          have q := fun (f : Str) (tp pos : Pos) (op : Operator) => ps_fldaug (f := f) (tpos := tp) (pos := pos) (IE _ _ h1).1 (IE _ _ h2).1 (show InOp X op (rAug op) from fun pins s σ H x y u v Q I r1 r2 h => p_aug op pins s σ H x y u v Q I r1 r2 h)
          rw [G.hK] at q
          refine ps_imp (q _ _ _ _) fun D σ H h => s_faug (fun n hn => ?_) h
          rw [← G.hK]
          exact ⟨G.mts.cls n hn, G.flds _ hc.2 n hn⟩
        · cases h
      · cases h
    · split at h
      · cases h
      · rename_i hi
        split at h
        · rename_i c a b h1 h2 h3
          cases h
          exact ps_imp (ps_if ((IE _ _ h1).2 (by simpa using hi)) (sss_ok IH h2) (sss_ok IH h3)) fun D σ H h => s_if h
        · cases h
    · split at h
      · cases h
      · rename_i hi
        split at h
        · rename_i c b h1 h2
          cases h
          exact ps_imp (ps_while hp ((IE _ _ h1).2 (by simpa using hi)) (sss_ok IH h2)) fun D σ H h => s_while h
        · cases h
    · split at h
      · rename_i it tg b h1 h2 h3
        cases h
        obtain ⟨pi, hf⟩ := it_ok so G IE h1
        have pg := tg_pg G.hN G.nd G.calm so h2
        rw [G.hK] at pg
        exact ps_imp (ps_for hp G.calm pi pg (sss_ok IH h3) (hf X.env)) fun D σ H h => s_for h
      · cases h
    · obtain ⟨e, h1, rfl⟩ := Option.map_eq_some_iff.mp h
      exact ps_imp (ps_ret (IE _ _ h1).1) fun D σ H h => s_ret h
    · cases h
      exact ps_imp ps_retN fun D σ H h => s_retN h
    · cases h
      exact ps_imp ps_pass fun D σ H h => s_next h
    · cases h
      exact ps_imp ps_continue fun D σ H h => s_cont h
    · cases h
      exact ps_imp ps_never fun D σ H h => s_never (fun _ _ => rfl) h
    · cases h
end
/-! ### every def -/
/-- a def of the row, read as mine -/
structure DefOk (K : PySem.W.Frag) (T : Tx) (fa : Addr) (fd : FuncData) (ps : List Str) (fn : Fn) : Prop where
  ex : ∃ (x qual : Str) (params : Arguments) (body : List Stmt) (scope : Scope) (N : List Str), FunD K x qual params body scope [] [] fa fd ∧ FnScope N ps scope ∧ trS.trSs (trS { T with N := N } 60 scope) body = some fn.body ∧ fn.np = ps.length ∧ fn.nn = N.length
  binds : Binds K fd ps []
/-- what stands around the defs -/
structure Site (prog : Program) (w : World) (K : PySem.W.Frag) (mg : Str → Option Value) (W : Wd) (P : Pr) (T : Tx) : Prop where
  hK : K = W.K
  cds : CdOk K w W fun i => P.cds.getD i []
  con : ∀ x d, x ∈ T.con → P.con.lookup x = some d → ∃ u y, mg x = some u ∧ RelV y u ∧ ∀ m H, VR W m H d y
  blt : ∀ x ∈ bltNames, mg x = none
  fns : ∀ f ∈ T.fns, ∃ fa fd ps fn, mg f = some (.ref fa) ∧ PySem.W.keepIn K (.ref fa) = true ∧ P.fns.lookup f = some fn ∧ DefOk K T fa fd ps fn
  cls : ∀ c ∈ T.cls, ∃ n fa fd ps fn, n < W.nc ∧ P.cl c = some n ∧ Mk K (W.ca n) fa ∧ mg c = some (.ref (W.ca n)) ∧ P.mt n "__init__" = some fn ∧ DefOk K T fa fd ps fn
  clsA : ∀ n, n < W.nc → Cls K (W.ca n)
  mts : ∀ n m fn, n < W.nc → P.mt n m = some fn → ∃ fa fd ps, Meth K (W.ca n) m fa ∧ DefOk K T fa fd ps fn
  flds : ∀ f ∈ T.fields, ∀ n, n < W.nc → NoAttr K (W.ca n) f
section
variable {prog : Program} {w : World} {K : PySem.W.Frag} {mg : Str → Option Value} {base : Heap} {W : Wd} {P : Pr} {T : Tx}
theorem spD_len {C : Cxt} {fn : Fn} {vs : List V} {H : Hp} {Q : VK} {E : XK} (h : spD W (runF C fn) vs H Q E) : vs.length = fn.np := by
  obtain ⟨m, S, ds, v, S', rp, r, h, f⟩ := h
  unfold runF at h
  split at h
  · rename_i hl
    rw [← r.length]
    exact hl
  · cases h
theorem fnBad {k : Nat} {fa : Addr} {fd : FuncData} {ps : List Str} {g : List D → Sto → R D} (hg : ∀ vs S, g vs S = .bad) : FnR prog w K mg base CX0 k fa fd ps (spD W g) := by
  have no : ∀ vs H Q E, ¬ spD W g vs H Q E := fun vs H Q E h => by
    obtain ⟨m, S, ds, v, S', rp, r, h, f⟩ := h
    rw [hg] at h
    cases h
  exact ⟨fun vs H Q E h => (no _ _ _ _ h).elim, fun A outer s H args us vs Q E _ _ _ _ h => (no _ _ _ _ h).elim⟩
theorem body_ok {C : Cxt} {fn : Fn} {N : List Str} {vs : List V} {H : Hp} {Q : VK} {E : XK} (hn : fn.nn = N.length) (h : spD W (runF C fn) vs H Q E) : liftS W (evSs C fn.body) { nx := fun _ H' => Q .non H', rt := Q } (L2.start N vs) H := by
  obtain ⟨m, S, ds, v, S', rp, r, h, f⟩ := h
  unfold runF at h
  split at h
  · obtain ⟨o, S1, h1, h2⟩ := R.bind_eq h
    have er : ER W m H (startE fn.nn ds) (L2.start N vs) := by
      refine ⟨?_, fun i d hd => ?_⟩
      · unfold startE L2.start
        simp only [List.length_append, List.length_map, List.length_replicate, hn, r.length]
      · unfold startE at hd
        by_cases hi : i < ds.length
        · rw [List.getElem?_append_left (by simpa using hi), List.getElem?_map] at hd
          cases q : ds[i]? with
          | none =>
            rw [q] at hd
            cases hd
          | some x =>
            rw [q] at hd
            cases hd
            obtain ⟨y, hy, vr⟩ := r.get q
            refine ⟨y, ?_, vr⟩
            unfold L2.start
            have hi' : i < vs.length := by
              rw [← r.length]
              exact hi
            rw [List.getElem?_append_left (by simpa using hi'), List.getElem?_map, hy]
            rfl
        · rw [List.getElem?_append_right (by simpa using hi), List.getElem?_replicate] at hd
          split at hd <;> cases hd
    refine ⟨m, startE fn.nn ds, S, o, S1, er, rp, h1, ?_⟩
    cases o with
    | nx e' =>
      obtain ⟨rfl, rfl⟩ := ok_inj h2
      exact fun σ' H' m' x r' _ => f _ H' m' x r' .non
    | ret u =>
      obtain ⟨rfl, rfl⟩ := ok_inj h2
      exact f
    | cnt e' => cases h2
  · cases h
theorem site_ok (Z : Site prog w K mg W P T) : ∀ (k : Nat) (fa : Addr) (fd : FuncData) (ps : List Str) (fn : Fn), DefOk K T fa fd ps fn → FnR prog w K mg base CX0 (k + 1) fa fd ps (spD W (runF (cxt P k) fn)) := by
  intro k
  induction k using Nat.strongRecOn with
  | _ k IH =>
    intro fa fd ps fn dk
    obtain ⟨⟨x, qual, params, body, scope, N, F, S, ht, hnp, hnn⟩, _⟩ := dk
    have at0 : ∀ (j : Nat), j ≤ k → ∀ (g : List D → Sto → R D) (fa : Addr) (fd : FuncData) (ps : List Str) (fn : Fn), DefOk K T fa fd ps fn → (j = 0 → ∀ vs S, g vs S = .bad) → (∀ i, j = i + 1 → g = runF (cxt P i) fn) → FnR prog w K mg base CX0 j fa fd ps (spD W g) := by
      intro j hj g fa fd ps fn d h0 h1
      cases j with
      | zero => exact fnBad (h0 rfl)
      | succ i =>
        rw [h1 i rfl]
        exact IH i (by omega) fa fd ps fn d
    refine FunD.okR F S (fun vs H Q E h => by rw [spD_len h, hnp]) fun cdv A outer s H vs Q E hr h => ⟨_, PSs.nox ?_, body_ok hnn h⟩
    have G : Good (cxOf CX0 prog w K mg base N qual scope fa cdv A outer s H E).nox W P { T with N := N } k := by
      refine ⟨Z.hK, rfl, S.nd, rfl, hr, Z.cds, Z.con, Z.blt, fun f hf => ?_, fun c hc => ?_, ⟨Z.clsA, fun n m ds S v S' hn h => ?_⟩, Z.flds⟩
      · obtain ⟨fa2, fd2, ps2, fn2, m1, m2, m3, d⟩ := Z.fns f hf
        refine ⟨fa2, fd2, ps2, m1, m2, d.binds, at0 k (Nat.le_refl _) _ _ _ _ fn2 d (fun e vs S => by subst e; rfl) fun i e => ?_⟩
        subst e
        funext vs S
        show (match P.fns.lookup f with | some fn => _ | none => _) = _
        rw [m3]
      · obtain ⟨n, fa2, fd2, ps2, fn2, l, hcl, M, m1, m2, d⟩ := Z.cls c hc
        refine ⟨n, fa2, fd2, ps2, l, hcl, M, m1, d.binds, fun j e => at0 j (by omega) _ _ _ _ fn2 d (fun e vs S => by subst e; rfl) fun i e => ?_⟩
        subst e
        funext vs S
        show (match P.mt n "__init__" with | some fn => _ | none => _) = _
        rw [m2]
      · cases k with
        | zero => cases h
        | succ i =>
          have h : (match P.mt n m with | some fn => runF (cxt P i) fn ds S | none => .bad) = .ok v S' := h
          cases q : P.mt n m with
          | none =>
            rw [q] at h
            cases h
          | some fn2 =>
            obtain ⟨fa2, fd2, ps2, me, d⟩ := Z.mts n m fn2 hn q
            refine ⟨fa2, fd2, ps2, me, d.binds, at0 (i + 1) (Nat.le_refl _) _ _ _ _ fn2 d (fun e => by cases e) fun j e => ?_⟩
            cases e
            funext vs S
            show (match P.mt n m with | some fn => _ | none => _) = _
            rw [q]
    have so : ScOk (cxOf CX0 prog w K mg base N qual scope fa cdv A outer s H E).nox scope := by
      refine ⟨fun x h => h, S.kind, fun x h => ?_, fun x h => ?_, fun x h => ?_⟩
      · unfold visB at h
        show Vis scope x
        split at h
        · exact .inl (by assumption)
        · exact .inr (.inl (by assumption))
        · exact .inr (.inr (by assumption))
        · cases h
      · unfold glB at h
        split at h
        · show scope.names.lookup x = _
          assumption
        · cases h
      · refine ⟨?_, .inl rfl⟩
        unfold locB at h
        show Loc scope x
        split at h
        · exact .inl (by assumption)
        · exact .inr (by assumption)
        · cases h
    exact sss_ok (trS_ok PassesOwn.never so (fun x h => (lcl_ok h).2) G 60) ht
end
end Mi
set_option Elab.async false
set_option linter.all false
set_option maxRecDepth 100000
/-! M18: from the head's facts to a site. -/
namespace Mi
open PySem PySem.Spec L2
open PyProof.Rows hiding St
theorem zip_lookup {α : Type} : ∀ {ps : List Str} {us : List α} {x : Str}, ps.length = us.length → x ∈ ps → ∃ u, (ps.zip us).lookup x = some u
  | [], _, x, _, h => by cases h
  | p :: ps, [], x, e, h => by cases e
  | p :: ps, u :: us, x, e, h => by
    rw [List.zip_cons_cons, List.lookup_cons]
    cases q : x == p with
    | true => exact ⟨u, rfl⟩
    | false =>
      have : x ∈ ps := by
        rcases List.mem_cons.mp h with z | z
        · subst z
          simp at q
        · exact z
      exact zip_lookup (by simpa using e) this
theorem zip_selfA {α : Type} (f : Str → Option α) : ∀ {ps : List Str} {us : List α}, ps.length = us.length → (∀ i (h : i < ps.length) (h' : i < us.length), f ps[i] = some us[i]) → ps.filterMap (fun n => (f n).map fun u => (n, u)) = ps.zip us
  | [], [], _, _ => rfl
  | [], _ :: _, e, _ => by cases e
  | p :: ps, [], e, _ => by cases e
  | p :: ps, u :: us, e, h => by
    have h0 : f p = some u := h 0 (by simp) (by simp)
    rw [List.filterMap_cons, List.zip_cons_cons, h0]
    show (p, u) :: _ = _
    rw [zip_selfA f (by simpa using e) fun i hi hi' => h (i + 1) (by simpa using hi) (by simpa using hi')]
theorem zip_at {α : Type} : ∀ {ps : List Str} {us : List α}, ps.Nodup → ∀ i (h : i < ps.length) (h' : i < us.length), (ps.zip us).lookup ps[i] = some us[i]
  | [], _, _, i, h, _ => by simp at h
  | p :: ps, [], _, i, _, h => by simp at h
  | p :: ps, u :: us, nd, 0, _, _ => by simp
  | p :: ps, u :: us, nd, i + 1, h, h' => by
    obtain ⟨n1, n2⟩ := List.nodup_cons.mp nd
    have hi : i < ps.length := by simpa using h
    have hn : (ps[i] == p) = false := by
      have : ps[i] ≠ p := fun z => n1 (z ▸ List.getElem_mem hi)
      simpa using this
    rw [List.zip_cons_cons, List.getElem_cons_succ, List.lookup_cons, hn]
    exact zip_at n2 i hi (by simpa using h')
theorem zip_self {α : Type} {ps : List Str} {us : List α} (e : ps.length = us.length) (nd : ps.Nodup) : ps.filterMap (fun n => ((ps.zip us).lookup n).map fun u => (n, u)) = ps.zip us := zip_selfA _ e (zip_at nd)
theorem binds_plain {x qual : Str} {params : Arguments} {body : List Stmt} {scope : Scope} {kV doc pm : Value} {an : Option Addr} {cdv ct : Value} {us : List Value} {ps : List Str} (h : params = ⟨[], params.args, none, [], [], none, []⟩) (hp : params.args.map (·.arg) = ps) (nd : ps.Nodup) (hl : us.length = ps.length) :
    bindArgs (PySem.W.fnOf x qual params body scope .none kV doc pm an cdv ct) ⟨us, []⟩ = pure (ps.zip us) := by
  obtain ⟨a1, a2, a3, a4, a5, a6, a7⟩ := params
  simp only [Arguments.mk.injEq] at h
  obtain ⟨rfl, _, rfl, rfl, rfl, rfl, rfl⟩ := h
  have hp : a2.map (·.arg) = ps := hp
  have nomiss : (ps.filter fun n => ((ps.zip us).lookup n).isNone) = [] := by
    rw [List.filter_eq_nil_iff]
    intro x hx
    obtain ⟨u, hu⟩ := zip_lookup hl.symm hx
    rw [hu]
    simp
  have sq : seqItems? Value.none = pure none := rfl
  unfold bindArgs
  have e1 : (PySem.W.fnOf x qual ⟨[], a2, none, [], [], none, []⟩ body scope .none kV doc pm an cdv ct).params = ⟨[], a2, none, [], [], none, []⟩ := rfl
  have e2 : (PySem.W.fnOf x qual ⟨[], a2, none, [], [], none, []⟩ body scope .none kV doc pm an cdv ct).defaults = .none := rfl
  simp only [e1, e2, hp, List.map_nil, List.nil_append, List.forIn_nil, pure_bind, sq]
  have e3 : (decide (us.length > ps.length) && (none : Option Arg).isNone) = false := by simp [hl]
  simp only [e3, Option.getD_none, List.length_nil, Nat.zero_sub, List.drop_nil, Nat.sub_zero, List.take_length, nomiss, List.drop_length, List.zip_nil_right, List.forIn_nil, pure_bind, List.append_nil]
  rw [if_neg Bool.false_ne_true]
  refine Eq.trans (b := pure (ps.filterMap fun n => ((ps.zip us).lookup n).map fun u => (n, u))) rfl ?_
  rw [zip_self hl.symm nd]
/-! ### a def's datum -/
structure FD where
  d : He.DefD
  N : List Str
  ps : List Str
  fn : Fn
def argsOk (a : Arguments) (ps : List Str) : Bool := a.posonlyargs.isEmpty && a.vararg.isNone && a.kwonlyargs.isEmpty && a.kw_defaults.isEmpty && a.kwarg.isNone && a.defaults.isEmpty && decide (a.args.map (·.arg) = ps) && decide ps.Nodup
def FD.ok (T : Tx) (x : FD) : Bool := C8.scC x.N x.ps x.d.scope && argsOk x.d.params x.ps && isTxt { T with N := x.N } x.d.scope x.d.body x.fn.body && decide (x.fn.np = x.ps.length) && decide (x.fn.nn = x.N.length) && x.d.dfl.isEmpty && x.d.kwd.isEmpty
theorem args_eq {a : Arguments} {ps : List Str} (h : argsOk a ps = true) : a = ⟨[], a.args, none, [], [], none, []⟩ ∧ a.args.map (·.arg) = ps ∧ ps.Nodup := by
  obtain ⟨a1, a2, a3, a4, a5, a6, a7⟩ := a
  unfold argsOk at h
  simp only [Bool.and_eq_true, List.isEmpty_iff, Option.isNone_iff_eq_none, decide_eq_true_eq] at h
  obtain ⟨⟨⟨⟨⟨⟨⟨rfl, rfl⟩, rfl⟩, rfl⟩, rfl⟩, rfl⟩, h1⟩, h2⟩ := h
  exact ⟨rfl, h1, h2⟩
theorem FD.defOk {K : PySem.W.Frag} {T : Tx} {x : FD} (h : x.ok T = true) {fn : List He.DefD} {fa : List He.Fa} (c : He.SaysD fa fn K) (hm : x.d ∈ fn) : ∃ fd, DefOk K T (He.fAd K x.d.at_) fd x.ps x.fn ∧ ∀ (s : Shared) (us : List Value), us.length = x.ps.length → BindsTo s fd ⟨us, []⟩ (x.ps.zip us) := by
  unfold FD.ok at h
  simp only [Bool.and_eq_true, List.isEmpty_iff, decide_eq_true_eq] at h
  obtain ⟨⟨⟨⟨⟨⟨h1, h2⟩, h3⟩, h4⟩, h5⟩, h6⟩, h7⟩ := h
  obtain ⟨fd, F⟩ := c.defs hm
  have e1 : x.d.dvs K = [] := by
    unfold He.DefD.dvs
    rw [h6]
    rfl
  have e2 : x.d.kws K = [] := by
    unfold He.DefD.kws
    rw [h7]
    rfl
  rw [e1, e2] at F
  obtain ⟨a1, a2, a3⟩ := args_eq h2
  have b := fun (kV doc pm : Value) (an : Option Addr) (cdv ct : Value) (us : List Value) (hl : us.length = x.ps.length) => binds_plain (x := x.d.name) (qual := x.d.qual) (body := x.d.body) (scope := x.d.scope) (kV := kV) (doc := doc) (pm := pm) (an := an) (cdv := cdv) (ct := ct) a1 a2 a3 hl
  exact ⟨fd, ⟨⟨_, _, _, _, _, x.N, F, C8.fnScope_by h1, isTxt_eq h3, h4, h5⟩, F.bindsN b⟩, fun s us hl => F.bindsA b s us hl⟩
end Mi
set_option Elab.async false
set_option linter.all false
set_option maxRecDepth 100000
/-! M19: a law's data, and the site that the head's facts make of it. -/
namespace Mi
open PySem PySem.Spec L2
open PyProof.Rows hiding St
structure LawD where
  P : Pr
  T : Tx
  fds : List (Str × FD)
  mds : List (Str × List (Str × FD))
  dn : List Str
def LawD.W (L : LawD) (K : PySem.W.Frag) : Wd := ⟨K, fun n => He.ga K ((L.mds.map (·.1)).getD n ""), fun i => He.ga K (L.dn.getD i ""), L.mds.length⟩
mutual
/-- a value of the written part is this data -/
def valB (K : PySem.W.Frag) (dn : List Str) : D → Value → Bool
  | .non, .none => true
  | .bl a, .bool b => a == b
  | .int i, .int j _ => decide (i = j)
  | .str x, .str y _ => decide (x = y)
  | .cd i, .ref a => decide (a = He.ga K (dn.getD i ""))
  | .tup xs, .ref a => match K.lookup a with
    | some ⟨.type c, _, .seq its _, _⟩ => decide (c = "tuple") && (decide (its.size ≤ sizeLine) && valsB2 K dn xs its.toList) && (match xs with
      | [_, .str _] => false
      | _ => true)
    | _ => false
  | _, _ => false
def valsB2 (K : PySem.W.Frag) (dn : List Str) : List D → List Value → Bool
  | [], [] => true
  | x :: xs, u :: us => valB K dn x u && valsB2 K dn xs us
  | _, _ => false
end
mutual
theorem valB_ok {L : LawD} {K : PySem.W.Frag} : ∀ (d : D) (u : Value), valB K L.dn d u = true → ∃ y, RelV y u ∧ ∀ m H, VR (L.W K) m H d y
  | .non, u, h => by
    cases u with
    | none => exact ⟨.non, rfl, fun _ _ => .non⟩
    | _ => cases h
  | .bl a, u, h => by
    cases u with
    | bool b =>
      have e : a = b := by simpa using (show (a == b) = true from h)
      subst e
      exact ⟨.bl a, rfl, fun _ _ => .bl a⟩
    | _ => cases h
  | .int i, u, h => by
    cases u with
    | int j t =>
      have e : i = j := of_decide_eq_true h
      subst e
      exact ⟨.int i, ⟨t, rfl⟩, fun _ _ => .int i⟩
    | _ => cases h
  | .str i, u, h => by
    cases u with
    | str j t =>
      have e : i = j := of_decide_eq_true h
      subst e
      exact ⟨.str i, ⟨t, rfl⟩, fun _ _ => .str i⟩
    | _ => cases h
  | .cd i, u, h => by
    cases u with
    | ref a =>
      have e : a = He.ga K (L.dn.getD i "") := of_decide_eq_true h
      subst e
      exact ⟨.ref _, rfl, fun _ _ => .cd i⟩
    | _ => cases h
  | .tup xs, u, h => by
    cases u with
    | ref a =>
      unfold valB at h
      split at h
      · rename_i c _ its n sl q
        simp only [Bool.and_eq_true, decide_eq_true_eq] at h
        obtain ⟨⟨h1, h2, h3⟩, h4⟩ := h
        obtain ⟨ys, r, vs⟩ := valsB2_ok xs its.toList h3
        refine ⟨.ref a, rfl, fun m H => .tup (ys := ys) (.inr ⟨.inr ⟨_, its, n, q, congrArg Value.type h1, rfl, h2, r⟩, ?_⟩) (vs m H)⟩
        have v := vs [] (fun _ => none)
        unfold nk
        split
        · cases v with
          | cons v1 v2 =>
            cases v2 with
            | cons v3 v4 =>
              cases v4
              cases v3
              cases h4
        · rfl
      · cases h
    | _ => cases h
  | .lit xs, u, h => by
    cases u <;> cases h
  | .ref xs, u, h => by
    cases u <;> cases h
theorem valsB2_ok {L : LawD} {K : PySem.W.Frag} : ∀ (d : List D) (u : List Value), valsB2 K L.dn d u = true → ∃ ys, Vals ys u ∧ ∀ m H, VRs (L.W K) m H d ys
  | [], u, h => by
    cases u with
    | nil => exact ⟨[], .nil, fun _ _ => .nil⟩
    | cons _ _ => cases h
  | x :: xs, u, h => by
    cases u with
    | nil => cases h
    | cons u us =>
      obtain ⟨h1, h2⟩ := He.ba (show (valB K L.dn x u && valsB2 K L.dn xs us) = true from h)
      obtain ⟨y, r, v⟩ := valB_ok x u h1
      obtain ⟨ys, rs, vs⟩ := valsB2_ok xs us h2
      exact ⟨y :: ys, .cons r rs, fun m H => .cons (v m H) (vs m H)⟩
end
def conB2 (K : PySem.W.Frag) (dn : List Str) (p : Str × D) : Bool := match PySem.W.nsIn K mainGlobals p.1 with
  | some (some u) => valB K dn p.2 u
  | _ => false
def entB (K : PySem.W.Frag) (dn : List Str) (a : Addr) (p : Str × D) : Bool := match PySem.W.nsIn K a p.1 with
  | some (some u) => valB K dn p.2 u
  | _ => false
def LawD.fa (L : LawD) : List He.Fa := L.fds.map (fun p => .glo p.1) ++ bltNames.map .free ++ L.mds.flatMap fun c => [.glo c.1, .cls c.1, .mkr c.1] ++ L.T.fields.map (.noat c.1) ++ c.2.map fun m => .meth c.1 m.1
def LawD.fn (L : LawD) : List He.DefD := L.fds.map (·.2.d) ++ L.mds.flatMap fun c => c.2.map (·.2.d)
def LawD.ts (L : LawD) : List He.Tab := (L.dn.zip L.P.cds).map fun p => (fun K => He.ga K p.1, p.2.map (·.1))
def LawD.ex (L : LawD) (K : PySem.W.Frag) : Bool := (L.P.con.all fun p => conB2 K L.dn p) && (L.dn.zip L.P.cds).all fun p => p.2.all fun q => entB K L.dn (He.ga K p.1) q
/-- what of the data itself is to be looked at -/
structure LawD.Ok (L : LawD) : Prop where
  fd : ∀ p ∈ L.fds, p.2.ok L.T = true
  md : ∀ c ∈ L.mds, ∀ p ∈ c.2, p.2.ok L.T = true
  fat : ∀ p ∈ L.fds, p.2.d.at_ = (p.1, none)
  mat : ∀ c ∈ L.mds, ∀ p ∈ c.2, p.2.d.at_ = (c.1, some p.1)
  fns : L.P.fns = L.fds.map fun p => (p.1, p.2.fn)
  cls : L.P.cls = L.mds.map fun c => (c.1, c.2.map fun p => (p.1, p.2.fn))
  tf : L.T.fns = L.fds.map (·.1)
  tc : L.T.cls = L.mds.map (·.1)
  con : ∀ x ∈ L.T.con, x ∈ L.P.con.map (·.1)
  ini : ∀ c ∈ L.mds, (c.2.lookup ("__init__" : Str)).isSome = true
  nd : (L.mds.map (·.1)).Nodup
  dn : L.dn.length = L.P.cds.length
theorem lookup_map {α β : Type} {f : α → β} : ∀ {l : List (Str × α)} {x : Str} {b : β}, (l.map fun p => (p.1, f p.2)).lookup x = some b → ∃ a, (x, a) ∈ l ∧ f a = b
  | [], _, _, h => by cases h
  | (k, a) :: l, x, b, h => by
    rw [List.map_cons, List.lookup_cons] at h
    cases q : x == k with
    | true =>
      rw [q] at h
      cases h
      have e : x = k := by simpa using q
      subst e
      exact ⟨a, List.mem_cons_self, rfl⟩
    | false =>
      rw [q] at h
      obtain ⟨a, h1, h2⟩ := lookup_map h
      exact ⟨a, List.mem_cons_of_mem _ h1, h2⟩
theorem lookup_ex {α β : Type} {f : α → β} : ∀ {l : List (Str × α)} {x : Str}, x ∈ l.map (·.1) → ∃ a, (x, a) ∈ l ∧ (l.map fun p => (p.1, f p.2)).lookup x = some (f a)
  | [], _, h => by cases h
  | (k, a) :: l, x, h => by
    rw [List.map_cons, List.lookup_cons]
    cases q : x == k with
    | true =>
      have e : x = k := by simpa using q
      subst e
      exact ⟨a, List.mem_cons_self, rfl⟩
    | false =>
      have : x ∈ l.map (·.1) := by
        rcases List.mem_cons.mp h with z | z
        · subst z
          simp at q
        · exact z
      obtain ⟨a, h1, h2⟩ := lookup_ex (f := f) this
      exact ⟨a, List.mem_cons_of_mem _ h1, h2⟩
theorem nsIn_keys {K : PySem.W.Frag} {a : Addr} {P : Params} {ks : List Str} (h : He.dicW K a = some (He.keysIn P ks)) {z : Str} (hz : z ∉ ks) : PySem.W.nsIn K a z = some none := by
  unfold He.dicW at h
  unfold PySem.W.nsIn
  split at h
  · rename_i c es n sl q
    rw [q]
    dsimp only
    split at h
    · have h := Option.some.inj h
      have hk : ∀ e ∈ es.toList, ∃ y t, e.key = .str y t ∧ y ∈ ks := by
        intro e he
        have : He.keyOf e ∈ He.keysIn P ks := by
          rw [← h]
          exact List.mem_map_of_mem he
        unfold He.keysIn at this
        obtain ⟨y, hy, e2⟩ := List.mem_map.mp this
        unfold He.keyOf at e2
        split at e2
        · rename_i x t hq
          have e3 := congrArg Prod.fst (Option.some.inj e2)
          exact ⟨x, t, hq, (show y = x from e3) ▸ hy⟩
        · cases e2
      have h1 : es.toList.find? (fun e => e.key.isStr z) = none := by
        rw [List.find?_eq_none]
        intro e he
        obtain ⟨y, t, e1, hy⟩ := hk e he
        rw [e1]
        intro w
        have w2 : (y == z) = true ∨ (z == y) = true := by
          first
            | exact .inl w
            | exact .inr w
        have : y = z := by
          rcases w2 with w2 | w2
          · simpa using w2
          · exact (by simpa using w2 : z = y).symm
        exact hz (this ▸ hy)
      have h2 : es.toList.any (·.refKey) = false := by
        rw [List.any_eq_false]
        intro e he
        obtain ⟨y, t, e1, _⟩ := hk e he
        unfold DictEntry.refKey
        rw [e1]
        simp
      rw [h1]
      dsimp only
      rw [h2]
      rfl
    · cases h
  · cases h
end Mi
set_option Elab.async false
set_option linter.all false
set_option maxRecDepth 100000
/-! M20: the site. -/
namespace Mi
open PySem PySem.Spec L2
open PyProof.Rows hiding St
section
variable {prog : Program} {w : World} {K : PySem.W.Frag} {h : Heap} {mg : Str → Option Value} {L : LawD}
theorem FD.kp {K : PySem.W.Frag} {x : FD} {fn : List He.DefD} {fa : List He.Fa} (c : He.SaysD fa fn K) (hm : x.d ∈ fn) : PySem.W.keepIn K (.ref (He.fAd K x.d.at_)) = true := by
  obtain ⟨fd, F⟩ := c.defs hm
  exact F.kp
theorem getD_at {l : List Str} {n : Nat} {x : Str} (h : l[n]? = some x) : l.getD n "" = x := by
  rw [List.getD_eq_getElem?_getD, h]
  rfl
theorem cl_of {L : LawD} (ok : L.Ok) {c : Str} (hc : c ∈ L.T.cls) : ∃ n ms, n < L.mds.length ∧ L.mds[n]? = some (c, ms) ∧ L.P.cl c = some n := by
  rw [ok.tc] at hc
  have key : ∃ n, L.P.cl c = some n := by
    unfold Pr.cl
    rw [ok.cls]
    cases q : (L.mds.map fun c => (c.1, c.2.map fun p => (p.1, p.2.fn))).findIdx? fun q => decide (q.1 = c) with
    | some n => exact ⟨n, rfl⟩
    | none =>
      rw [List.findIdx?_eq_none_iff] at q
      obtain ⟨p, hp, e⟩ := List.mem_map.mp hc
      have := q (p.1, p.2.map fun p => (p.1, p.2.fn)) (List.mem_map_of_mem (f := fun c : Str × List (Str × FD) => (c.1, c.2.map fun p => (p.1, p.2.fn))) hp)
      simp at this
      exact absurd e this
  obtain ⟨n, hn⟩ := key
  have hn2 := hn
  unfold Pr.cl at hn2
  rw [ok.cls, List.findIdx?_eq_some_iff_getElem] at hn2
  obtain ⟨h1, h2, _⟩ := hn2
  rw [List.length_map] at h1
  rw [List.getElem_map] at h2
  have e : L.mds[n].1 = c := by simpa using h2
  exact ⟨n, L.mds[n].2, h1, by rw [List.getElem?_eq_getElem h1, ← e], hn⟩
theorem site_of (ok : L.Ok) (X : K.In h) (G : h.Ns mainGlobals mg) (c : He.SaysX L.fa L.fn L.ts [] L.ex w h K) : Site prog w K mg (L.W K) L.P L.T := by
  have cd := c.t.d
  have ex := c.more
  unfold LawD.ex at ex
  obtain ⟨ex1, ex2⟩ := He.ba ex
  have faF : ∀ p ∈ L.fds, He.Fa.glo p.1 ∈ L.fa := fun p hp => List.mem_append_left _ (List.mem_append_left _ (List.mem_map_of_mem hp))
  have faB : ∀ x ∈ bltNames, He.Fa.free x ∈ L.fa := fun x hx => List.mem_append_left _ (List.mem_append_right _ (List.mem_map_of_mem hx))
  have faC : ∀ q ∈ L.mds, ∀ f ∈ ([.glo q.1, .cls q.1, .mkr q.1] ++ L.T.fields.map (.noat q.1) ++ q.2.map fun m => .meth q.1 m.1 : List He.Fa), f ∈ L.fa := fun q hq f hf => List.mem_append_right _ (List.mem_flatMap.mpr ⟨q, hq, hf⟩)
  have fnF : ∀ p ∈ L.fds, p.2.d ∈ L.fn := fun p hp => List.mem_append_left _ (List.mem_map_of_mem hp)
  have fnM : ∀ q ∈ L.mds, ∀ p ∈ q.2, p.2.d ∈ L.fn := fun q hq p hp => List.mem_append_right _ (List.mem_flatMap.mpr ⟨q, hq, List.mem_map_of_mem hp⟩)
  have tabs : ∀ i t, L.P.cds[i]? = some t → (∃ es n, KDict K w (He.ga K (L.dn.getD i "")) es n) ∧ (∀ z, t.lookup z = none → PySem.W.nsIn K (He.ga K (L.dn.getD i "")) z = some none) ∧ ∀ q ∈ t, entB K L.dn (He.ga K (L.dn.getD i "")) q = true := by
    intro i t ht
    have hi : i < L.P.cds.length := (List.getElem?_eq_some_iff.mp ht).1
    have hi' : i < L.dn.length := by
      rw [ok.dn]
      exact hi
    have hz : (L.dn.zip L.P.cds)[i]? = some (L.dn[i], t) := by
      rw [List.getElem?_zip_eq_some]
      exact ⟨List.getElem?_eq_getElem hi', ht⟩
    have hd : L.dn.getD i "" = L.dn[i] := getD_at (List.getElem?_eq_getElem hi')
    have ht2 : L.ts[i]? = some (fun K => He.ga K L.dn[i], t.map (·.1)) := by
      unfold LawD.ts
      rw [List.getElem?_map, hz]
      rfl
    rw [hd]
    refine ⟨c.t.tab i ht2, fun z hz2 => ?_, fun q hq => ?_⟩
    · have e : L.ts.map (fun t => He.dicW K (t.1 K)) = L.ts.map fun t => some (He.keysIn w.params t.2) := congrArg (fun z : He.AlT => z.2) c.t
      have e2 : (L.ts.map fun t => He.dicW K (t.1 K))[i]? = (L.ts.map fun t => some (He.keysIn w.params t.2))[i]? := by rw [e]
      rw [List.getElem?_map, List.getElem?_map, ht2] at e2
      refine nsIn_keys (Option.some.inj e2) fun hm => ?_
      obtain ⟨d, hd2, e3⟩ := lookup_ex (f := fun d : D => d) hm
      have e4 : (t.map fun p => (p.1, p.2)) = t := by simp
      rw [e4, hz2] at e3
      cases e3
    · have := List.all_eq_true.mp ex2 _ (List.mem_of_getElem? hz)
      exact List.all_eq_true.mp this q hq
  refine ⟨rfl, ⟨fun i hi => ?_, fun i z hi hz => ?_, fun i z d hz => ?_⟩, fun x d hx hd => ?_, fun x hx => He.free_ok X G (cd.facts (faB x hx)), fun f hf => ?_, fun q hq => ?_, fun n hn => ?_, fun n m fn hn hm => ?_, fun f hf n hn => ?_⟩
  · cases q : L.P.cds[i]? with
    | none =>
      rw [List.getD_eq_getElem?_getD, q] at hi
      exact absurd rfl hi
    | some t => exact (tabs i t q).1
  · cases q : L.P.cds[i]? with
    | none =>
      rw [List.getD_eq_getElem?_getD, q] at hi
      exact absurd rfl hi
    | some t =>
      rw [List.getD_eq_getElem?_getD, q] at hz
      exact (tabs i t q).2.1 z hz
  · cases q : L.P.cds[i]? with
    | none =>
      rw [List.getD_eq_getElem?_getD, q] at hz
      cases hz
    | some t =>
      rw [List.getD_eq_getElem?_getD, q] at hz
      have h1 := (tabs i t q).2.2 _ (PySem.mem_of_lookup hz)
      unfold entB at h1
      split at h1
      · rename_i u hu
        obtain ⟨y, r, v⟩ := valB_ok (L := L) _ _ h1
        exact ⟨u, y, hu, r, v⟩
      · cases h1
  · have h1 := List.all_eq_true.mp ex1 _ (PySem.mem_of_lookup hd)
    unfold conB2 at h1
    split at h1
    · rename_i u hu
      obtain ⟨y, r, v⟩ := valB_ok (L := L) _ _ h1
      exact ⟨u, y, PySem.W.mg_of X G hu, r, v⟩
    · cases h1
  · rw [ok.tf] at hf
    obtain ⟨x, hx, e⟩ := lookup_ex (f := FD.fn) hf
    obtain ⟨fd, dk, _⟩ := FD.defOk (ok.fd _ hx) cd (fnF _ hx)
    have ha := ok.fat _ hx
    have kp := FD.kp cd (fnF _ hx)
    rw [ha] at dk kp
    refine ⟨_, fd, x.ps, x.fn, He.glo_ok X G (cd.facts (faF _ hx)), kp, ?_, dk⟩
    rw [ok.fns]
    exact e
  · obtain ⟨n, ms, hn, hnm, hcl⟩ := cl_of ok hq
    have hm : (q, ms) ∈ L.mds := List.mem_of_getElem? hnm
    have hca : (L.W K).ca n = He.ga K q := by
      show He.ga K ((L.mds.map (·.1)).getD n "") = _
      rw [getD_at (by rw [List.getElem?_map, hnm]; rfl)]
    have hi := ok.ini _ hm
    obtain ⟨x, hx⟩ := Option.isSome_iff_exists.mp hi
    have hx2 := PySem.mem_of_lookup hx
    obtain ⟨fd, dk, _⟩ := FD.defOk (ok.md _ hm _ hx2) cd (fnM _ hm _ hx2)
    have ha := ok.mat _ hm _ hx2
    rw [ha] at dk
    refine ⟨n, _, fd, x.ps, x.fn, hn, hcl, ?_, ?_, ?_, dk⟩
    · rw [hca]
      exact He.mkr_ok (cd.facts (faC _ hm _ (by simp)))
    · rw [hca]
      exact He.glo_ok X G (cd.facts (faC _ hm _ (by simp)))
    · unfold Pr.mt
      rw [ok.cls, List.getElem?_map, hnm]
      show (ms.map fun p => (p.1, p.2.fn)).lookup _ = _
      have : ∀ (l : List (Str × FD)), l.lookup ("__init__" : Str) = some x → (l.map fun p => (p.1, p.2.fn)).lookup ("__init__" : Str) = some x.fn := fun l => by
        induction l with
        | nil => intro h; cases h
        | cons p l ih =>
          intro h
          rw [List.lookup_cons] at h
          rw [List.map_cons, List.lookup_cons]
          cases z : (("__init__" : Str) == p.1) with
          | true =>
            rw [z] at h
            cases h
            rfl
          | false =>
            rw [z] at h
            exact ih h
      exact this ms hx
  · have hn : n < L.mds.length := hn
    have hm := List.getElem_mem hn
    have hca : (L.W K).ca n = He.ga K L.mds[n].1 := by
      show He.ga K ((L.mds.map (·.1)).getD n "") = _
      rw [getD_at (by rw [List.getElem?_map, List.getElem?_eq_getElem hn]; rfl)]
    rw [hca]
    exact He.cls_ok (cd.facts (faC _ hm _ (by simp)))
  · have hn : n < L.mds.length := hn
    have hq := List.getElem_mem hn
    have hca : (L.W K).ca n = He.ga K L.mds[n].1 := by
      show He.ga K ((L.mds.map (·.1)).getD n "") = _
      rw [getD_at (by rw [List.getElem?_map, List.getElem?_eq_getElem hn]; rfl)]
    unfold Pr.mt at hm
    rw [ok.cls, List.getElem?_map, List.getElem?_eq_getElem hn] at hm
    obtain ⟨x, hx, e⟩ := lookup_map (f := FD.fn) (show (L.mds[n].2.map fun p => (p.1, p.2.fn)).lookup m = some fn from hm)
    obtain ⟨fd, dk, _⟩ := FD.defOk (ok.md _ hq _ hx) cd (fnM _ hq _ hx)
    have ha := ok.mat _ hq _ hx
    rw [ha] at dk
    subst e
    refine ⟨_, fd, x.ps, ?_, dk⟩
    rw [hca]
    exact He.meth_ok (cd.facts (faC _ hq _ (List.mem_append_right _ (List.mem_map_of_mem (f := fun m : Str × FD => He.Fa.meth L.mds[n].1 m.1) hx))))
  · have hn : n < L.mds.length := hn
    have hq := List.getElem_mem hn
    have hca : (L.W K).ca n = He.ga K L.mds[n].1 := by
      show He.ga K ((L.mds.map (·.1)).getD n "") = _
      rw [getD_at (by rw [List.getElem?_map, List.getElem?_eq_getElem hn]; rfl)]
    rw [hca]
    exact He.noat_ok (cd.facts (faC _ hq _ (List.mem_append_left _ (List.mem_append_right _ (List.mem_map_of_mem hf)))))
end
end Mi
set_option Elab.async false
set_option linter.all false
set_option maxRecDepth 100000
/-! M21: a law's end. -/
namespace Mi
open PySem PySem.Spec L2
open PyProof.Rows hiding St
/-- the law's def answers True at every script -/
def Says (P : Pr) (k n : Nat) : Prop := ∀ ns : List Int, ns.length ≤ n → ∃ S', (cxt P (k + 1)).call "law" [.lit (ns.map .int)] [] = .ok (.bl true) S'
theorem ints_vr {W : Wd} {m : List Addr} {H : Hp} : ∀ ns : List Int, VRs W m H (ns.map .int) (ns.map V.int)
  | [] => .nil
  | n :: ns => .cons (.int n) (ints_vr ns)
theorem rep_nil {W : Wd} {H : Hp} : Rep W [] H [] := ⟨rfl, List.nodup_nil, fun i a o h _ => by simp at h⟩
theorem law_end {l : PySem.W.OpenLaw} {n k : Nat} {q : Program} {loose : List Str} {XP : (Str → Option Value) → Heap → Prop} {d : DefRec} (L : LawD) (ok : L.Ok) {N : Nat} {p : Str}
    (hn : l.most = some n) (hn2 : n ≤ sizeLine) (hdf : d.params.defaults = []) (hr : k + 1 ≤ 697) (hname : d.name = ("law" : Str)) (hT : ("law" : Str) ∈ L.T.fns) (hps : ∀ x, (("law" : Str), x) ∈ L.fds → x.ps = [p]) (ev : Says L.P k n) :
    PySem.W.WalkO q loose XP (He.hookX N L.fa L.fn L.ts [] L.ex).says l.row.toRowW d [] (fun f vs => PySem.call f vs) := by
  refine L2.walk_ofE (l := l) (n := n) (k := 231) (x := p) (CX := L2.CX0) hn hn2 hdf room_top ?_ (fun _ _ _ _ z => z)
  intro w mg fa h Y G hmg
  obtain ⟨K, KX, c⟩ := Y
  have Z := site_of (prog := l.prog) ok KX G c
  rw [ok.tf] at hT
  obtain ⟨x, hx, hlk⟩ := lookup_ex (f := FD.fn) hT
  have hf : x.d ∈ L.fn := List.mem_append_left _ (List.mem_map_of_mem (f := fun p : Str × FD => p.2.d) hx)
  obtain ⟨fd, dk, hb⟩ := FD.defOk (ok.fd _ hx) c.t.d hf
  have ha := ok.fat _ hx
  have e1 : He.fAd K x.d.at_ = He.ga K "law" := by
    rw [ha]
    rfl
  have hg := He.glo_ok KX G (c.t.d.facts (show He.Fa.glo "law" ∈ L.fa from List.mem_append_left _ (List.mem_append_left _ (List.mem_map_of_mem (f := fun p : Str × FD => He.Fa.glo p.1) hx))))
  rw [hname, hg] at hmg
  cases hmg
  have hfn : (cxt L.P (k + 1)).call "law" = runF (cxt L.P k) x.fn := by
    funext vs S
    show (match L.P.fns.lookup ("law" : Str) with | some fn => _ | none => _) = _
    rw [ok.fns, hlk]
  have hps2 := hps x hx
  rw [e1, hps2] at dk
  rw [hps2] at hb
  refine ⟨K, fd, spD (L.W K) (runF (cxt L.P k) x.fn), KX, fun s u => hb s [u] rfl, fun H a ns hl hO hS => ?_, fun base _ _ => ((site_ok Z k _ _ _ _ dk).more hr).top⟩
  obtain ⟨S', h1⟩ := ev ns hl
  rw [hfn] at h1
  have lit : LitAt (L.W K) H a (ns.map V.int) := by
    rcases hS with (hS | ⟨o, hS⟩) | hS
    · rcases hO a with z | ⟨o, xs, z⟩
      · rw [z] at hS
        cases hS
      · rw [z] at hS
        cases hS
    · exact .inl ⟨o, hS⟩
    · exact .inr (.inr hS)
  exact ⟨[], [], _, _, S', rep_nil, .cons (.lit lit (ints_vr ns)) .nil, h1, fun y H' m' _ _ v => vr_bl v⟩
end Mi
set_option Elab.async false
set_option linter.all false
set_option maxRecDepth 100000
namespace K02
open PySem L2 Mi

/-! is_name: word, char -/
def b_is_name_0t : Sms := .cons (.ret (.bl false)) .nil
def b_is_name_1b_0t : Sms := .cons (.ret (.bl false)) .nil
def b_is_name_1b : Sms := .cons (.ifs (.and (.cons (.cmp .NotIn (.var 1) (.con "LETTERS")) (.cons (.cmp .NotIn (.var 1) (.con "DIGITS")) .nil))) b_is_name_1b_0t .nil) .nil
def b_is_name_2 : Sms := .cons (.ret (.bl true)) .nil
def b_is_name_1 : Sms := .cons (.for_ (.nm 1) (.seq (.var 0)) b_is_name_1b) b_is_name_2
def b_is_name : Sms := .cons (.ifs (.or (.cons (.not (.isi (.var 0) .str)) (.cons (.not (.chn .LtE .LtE (.int 1) (.bf .len (.cons (.var 0) .nil)) (.int 8))) (.cons (.cmp .In (.var 0) (.con "WORDS")) (.cons (.cmp .NotIn (.sub (.var 0) (.int 0)) (.con "LETTERS")) .nil))))) b_is_name_0t .nil) b_is_name_1
def fn_is_name : Fn := ⟨1, 2, b_is_name⟩

/-! is_integer: value -/
def b_is_integer : Sms := .cons (.ret (.and (.cons (.isi (.var 0) .int) (.cons (.not (.isi (.var 0) .bool)) .nil)))) .nil
def fn_is_integer : Fn := ⟨1, 1, b_is_integer⟩

/-! expressions: e, kind -/
def b_expressions_1t : Sms := .cons (.ret (.bf .list (.cons (.slc (.var 0) (.int 1) .nop) .nil))) .nil
def b_expressions_2t : Sms := .cons (.ret (.lst (.cons (.sub (.var 0) (.int 2)) .nil))) .nil
def b_expressions_3t : Sms := .cons (.ret (.lst (.cons (.sub (.var 0) (.int 2)) (.cons (.sub (.var 0) (.int 3)) .nil)))) .nil
def b_expressions_4t : Sms := .cons (.ret (.lst (.cons (.sub (.var 0) (.int 1)) .nil))) .nil
def b_expressions_5t : Sms := .cons (.ret (.lst (.cons (.sub (.var 0) (.int 2)) (.cons (.sub (.var 0) (.int 3)) .nil)))) .nil
def b_expressions_6t : Sms := .cons (.ret (.lst (.cons (.sub (.var 0) (.int 2)) .nil))) .nil
def b_expressions_7t : Sms := .cons (.ret (.bf .list (.cons (.sub (.var 0) (.int 1)) .nil))) .nil
def b_expressions_8 : Sms := .cons (.ret (.lst .nil)) .nil
def b_expressions_7 : Sms := .cons (.ifs (.cmp .Eq (.var 1) (.str "do")) b_expressions_7t .nil) b_expressions_8
def b_expressions_6 : Sms := .cons (.ifs (.cmp .Eq (.var 1) (.str "keep")) b_expressions_6t .nil) b_expressions_7
def b_expressions_5 : Sms := .cons (.ifs (.cmp .Eq (.var 1) (.str "rule")) b_expressions_5t .nil) b_expressions_6
def b_expressions_4 : Sms := .cons (.ifs (.or (.cons (.cmp .Eq (.var 1) (.str "say")) (.cons (.cmp .Eq (.var 1) (.str "with")) .nil))) b_expressions_4t .nil) b_expressions_5
def b_expressions_3 : Sms := .cons (.ifs (.cmp .Eq (.var 1) (.str "let")) b_expressions_3t .nil) b_expressions_4
def b_expressions_2 : Sms := .cons (.ifs (.cmp .Eq (.var 1) (.str "fn")) b_expressions_2t .nil) b_expressions_3
def b_expressions_1 : Sms := .cons (.ifs (.cmp .In (.var 1) (.tup (.cons (.str "call") (.cons (.str "sum") (.cons (.str "less") (.cons (.str "if") .nil)))))) b_expressions_1t .nil) b_expressions_2
def b_expressions : Sms := .cons (.asg (.nm 1) (.sub (.var 0) (.int 0))) b_expressions_1
def fn_expressions : Fn := ⟨1, 2, b_expressions⟩

/-! has_form: e, kind -/
def b_has_form_0t : Sms := .cons (.ret (.bl false)) .nil
def b_has_form_2t : Sms := .cons (.ret (.bl false)) .nil
def b_has_form_3t : Sms := .cons (.ret (.and (.cons (.call "is_integer" (.cons (.sub (.var 0) (.int 1)) .nil)) (.cons (.chn .LtE .LtE (.neg (.con "GREATEST")) (.sub (.var 0) (.int 1)) (.con "GREATEST")) .nil)))) .nil
def b_has_form_4t : Sms := .cons (.ret (.call "is_name" (.cons (.sub (.var 0) (.int 1)) .nil))) .nil
def b_has_form_5t : Sms := .cons (.ret (.and (.cons (.isi (.sub (.var 0) (.int 1)) .str) (.cons (.cmp .In (.sub (.var 0) (.int 1)) (.con "KINDS")) .nil)))) .nil
def b_has_form_6t : Sms := .cons (.ret (.call "is_integer" (.cons (.sub (.var 0) (.int 1)) .nil))) .nil
def b_has_form_7t : Sms := .cons (.ret (.isi (.sub (.var 0) (.int 1)) .tup)) .nil
def b_has_form_8 : Sms := .cons (.ret (.bl true)) .nil
def b_has_form_7 : Sms := .cons (.ifs (.cmp .Eq (.var 1) (.str "do")) b_has_form_7t .nil) b_has_form_8
def b_has_form_6 : Sms := .cons (.ifs (.cmp .Eq (.var 1) (.str "part")) b_has_form_6t .nil) b_has_form_7
def b_has_form_5 : Sms := .cons (.ifs (.or (.cons (.cmp .Eq (.var 1) (.str "rule")) (.cons (.cmp .Eq (.var 1) (.str "keep")) .nil))) b_has_form_5t .nil) b_has_form_6
def b_has_form_4 : Sms := .cons (.ifs (.or (.cons (.cmp .Eq (.var 1) (.str "name")) (.cons (.cmp .Eq (.var 1) (.str "fn")) (.cons (.cmp .Eq (.var 1) (.str "let")) .nil)))) b_has_form_4t .nil) b_has_form_5
def b_has_form_3 : Sms := .cons (.ifs (.cmp .Eq (.var 1) (.str "num")) b_has_form_3t .nil) b_has_form_4
def b_has_form_2 : Sms := .cons (.ifs (.cmp .NotEq (.bf .len (.cons (.var 0) .nil)) (.sub (.con "LENGTHS") (.var 1))) b_has_form_2t .nil) b_has_form_3
def b_has_form_1 : Sms := .cons (.asg (.nm 1) (.sub (.var 0) (.int 0))) b_has_form_2
def b_has_form : Sms := .cons (.ifs (.or (.cons (.not (.isi (.var 0) .tup)) (.cons (.cmp .Eq (.bf .len (.cons (.var 0) .nil)) (.int 0)) (.cons (.not (.isi (.sub (.var 0) (.int 0)) .str)) (.cons (.cmp .NotIn (.sub (.var 0) (.int 0)) (.con "LENGTHS")) .nil))))) b_has_form_0t .nil) b_has_form_1
def fn_has_form : Fn := ⟨1, 2, b_has_form⟩

/-! is_allowed: e, about, kind -/
def b_is_allowed_1t : Sms := .cons (.ret (.bl true)) .nil
def b_is_allowed_2t : Sms := .cons (.ret (.bl false)) .nil
def b_is_allowed_3t : Sms := .cons (.ret (.chn .LtE .Lt (.int 0) (.sub (.var 0) (.int 1)) (.sub (.con "PARTS") (.var 1)))) .nil
def b_is_allowed_4t : Sms := .cons (.ret (.cmp .Eq (.var 1) (.str "let"))) .nil
def b_is_allowed_5t : Sms := .cons (.ret (.and (.cons (.cmp .In (.var 1) (.con "DONE")) (.cons (.cmp .Eq (.bf .len (.cons (.sub (.var 0) (.int 1)) .nil)) (.sub (.con "DONE") (.var 1))) .nil)))) .nil
def b_is_allowed_6 : Sms := .cons (.ret (.bl true)) .nil
def b_is_allowed_5 : Sms := .cons (.ifs (.cmp .Eq (.var 2) (.str "do")) b_is_allowed_5t .nil) b_is_allowed_6
def b_is_allowed_4 : Sms := .cons (.ifs (.cmp .Eq (.var 2) (.str "with")) b_is_allowed_4t .nil) b_is_allowed_5
def b_is_allowed_3 : Sms := .cons (.ifs (.cmp .Eq (.var 2) (.str "part")) b_is_allowed_3t .nil) b_is_allowed_4
def b_is_allowed_2 : Sms := .cons (.ifs (.cmp .Eq (.var 1) (.str "")) b_is_allowed_2t .nil) b_is_allowed_3
def b_is_allowed_1 : Sms := .cons (.ifs (.cmp .NotIn (.var 2) (.tup (.cons (.str "part") (.cons (.str "with") (.cons (.str "usual") (.cons (.str "do") .nil)))))) b_is_allowed_1t .nil) b_is_allowed_2
def b_is_allowed : Sms := .cons (.asg (.nm 2) (.sub (.var 0) (.int 0))) b_is_allowed_1
def fn_is_allowed : Fn := ⟨2, 3, b_is_allowed⟩

/-! inner: e, about, names, kind, part -/
def b_inner_1t : Sms := .cons (.ret (.lst (.cons (.tup (.cons (.sub (.var 0) (.int 2)) (.cons (.var 1) (.cons (.bin .Add (.var 2) (.tup (.cons (.sub (.var 0) (.int 1)) .nil))) .nil)))) .nil))) .nil
def b_inner_2t : Sms := .cons (.ret (.lst (.cons (.tup (.cons (.sub (.var 0) (.int 2)) (.cons (.var 1) (.cons (.var 2) .nil)))) (.cons (.tup (.cons (.sub (.var 0) (.int 3)) (.cons (.var 1) (.cons (.bin .Add (.var 2) (.tup (.cons (.sub (.var 0) (.int 1)) .nil))) .nil)))) .nil)))) .nil
def b_inner_3t : Sms := .cons (.ret (.lst (.cons (.tup (.cons (.sub (.var 0) (.int 2)) (.cons (.sub (.var 0) (.int 1)) (.cons (.tup .nil) .nil)))) (.cons (.tup (.cons (.sub (.var 0) (.int 3)) (.cons (.var 1) (.cons (.var 2) .nil)))) .nil)))) .nil
def b_inner_4t : Sms := .cons (.ret (.lst (.cons (.tup (.cons (.sub (.var 0) (.int 2)) (.cons (.sub (.var 0) (.int 1)) (.cons (.tup .nil) .nil)))) .nil))) .nil
def b_inner_5 : Sms := .cons (.ret (.lc (.nm 4) (.seq (.call "expressions" (.cons (.var 0) .nil))) .nop (.tup (.cons (.var 4) (.cons (.var 1) (.cons (.var 2) .nil)))) [4])) .nil
def b_inner_4 : Sms := .cons (.ifs (.cmp .Eq (.var 3) (.str "keep")) b_inner_4t .nil) b_inner_5
def b_inner_3 : Sms := .cons (.ifs (.cmp .Eq (.var 3) (.str "rule")) b_inner_3t .nil) b_inner_4
def b_inner_2 : Sms := .cons (.ifs (.cmp .Eq (.var 3) (.str "let")) b_inner_2t .nil) b_inner_3
def b_inner_1 : Sms := .cons (.ifs (.cmp .Eq (.var 3) (.str "fn")) b_inner_1t .nil) b_inner_2
def b_inner : Sms := .cons (.asg (.nm 3) (.sub (.var 0) (.int 0))) b_inner_1
def fn_inner : Fn := ⟨3, 5, b_inner⟩

/-! is_well_formed: program, steps, e, about, names -/
def b_is_well_formed_1b_1t : Sms := .cons (.ret (.bl false)) .nil
def b_is_well_formed_1b_2t : Sms := .cons (.ret (.bl false)) .nil
def b_is_well_formed_1b_3 : Sms := .cons (.exp (.bm .extend (.var 1) (.cons (.call "inner" (.cons (.var 2) (.cons (.var 3) (.cons (.var 4) .nil)))) .nil))) .nil
def b_is_well_formed_1b_2 : Sms := .cons (.ifs (.and (.cons (.cmp .Eq (.sub (.var 2) (.int 0)) (.str "name")) (.cons (.cmp .NotIn (.sub (.var 2) (.int 1)) (.var 4)) .nil))) b_is_well_formed_1b_2t .nil) b_is_well_formed_1b_3
def b_is_well_formed_1b_1 : Sms := .cons (.ifs (.or (.cons (.not (.call "has_form" (.cons (.var 2) .nil))) (.cons (.not (.call "is_allowed" (.cons (.var 2) (.cons (.var 3) .nil)))) .nil))) b_is_well_formed_1b_1t .nil) b_is_well_formed_1b_2
def b_is_well_formed_1b : Sms := .cons (.asg (.tp [2, 3, 4]) (.bm .pop (.var 1) .nil)) b_is_well_formed_1b_1
def b_is_well_formed_2 : Sms := .cons (.ret (.bl true)) .nil
def b_is_well_formed_1 : Sms := .cons (.whl (.var 1) b_is_well_formed_1b) b_is_well_formed_2
def b_is_well_formed : Sms := .cons (.asg (.nm 1) (.lst (.cons (.tup (.cons (.var 0) (.cons (.str "") (.cons (.tup .nil) .nil)))) .nil))) b_is_well_formed_1
def fn_is_well_formed : Fn := ⟨1, 5, b_is_well_formed⟩

/-! size: program, level, nodes, depth, e, part -/
def b_size_3b_2 : Sms := .cons (.asg (.nm 1) (.lc2 (.nm 4) (.seq (.var 1)) (.nm 5) (.seq (.call "expressions" (.cons (.var 4) .nil))) (.var 5) [4, 5] [5])) .nil
def b_size_3b_1 : Sms := .cons (.aug 2 .Add (.bf .len (.cons (.var 1) .nil))) b_size_3b_2
def b_size_3b : Sms := .cons (.aug 3 .Add (.int 1)) b_size_3b_1
def b_size_4 : Sms := .cons (.ret (.tup (.cons (.var 2) (.cons (.var 3) .nil)))) .nil
def b_size_3 : Sms := .cons (.whl (.var 1) b_size_3b) b_size_4
def b_size_2 : Sms := .cons (.asg (.nm 3) (.int 0)) b_size_3
def b_size_1 : Sms := .cons (.asg (.nm 2) (.int 0)) b_size_2
def b_size : Sms := .cons (.asg (.nm 1) (.lst (.cons (.var 0) .nil))) b_size_1
def fn_size : Fn := ⟨1, 6, b_size⟩

/-! height: program, highest, steps, e, level, part -/
def b_height_2b_2t_1 : Sms := .cons (.exp (.bm .append (.var 2) (.cons (.tup (.cons (.sub (.var 3) (.int 3)) (.cons (.var 4) .nil))) .nil))) .nil
def b_height_2b_2t : Sms := .cons (.exp (.bm .append (.var 2) (.cons (.tup (.cons (.sub (.var 3) (.int 2)) (.cons (.bin .Add (.var 4) (.int 1)) .nil))) .nil))) b_height_2b_2t_1
def b_height_2b_2e_0t : Sms := .cons (.exp (.bm .append (.var 2) (.cons (.tup (.cons (.sub (.var 3) (.int 2)) (.cons (.bin .Add (.var 4) (.int 1)) .nil))) .nil))) .nil
def b_height_2b_2e_0e : Sms := .cons (.exp (.bm .extend (.var 2) (.cons (.lc (.nm 5) (.seq (.call "expressions" (.cons (.var 3) .nil))) .nop (.tup (.cons (.var 5) (.cons (.var 4) .nil))) [5]) .nil))) .nil
def b_height_2b_2e : Sms := .cons (.ifs (.cmp .Eq (.sub (.var 3) (.int 0)) (.str "keep")) b_height_2b_2e_0t b_height_2b_2e_0e) .nil
def b_height_2b_2 : Sms := .cons (.ifs (.cmp .Eq (.sub (.var 3) (.int 0)) (.str "rule")) b_height_2b_2t b_height_2b_2e) .nil
def b_height_2b_1 : Sms := .cons (.asg (.nm 1) (.bf .max (.cons (.var 1) (.cons (.var 4) .nil)))) b_height_2b_2
def b_height_2b : Sms := .cons (.asg (.tp [3, 4]) (.bm .pop (.var 2) .nil)) b_height_2b_1
def b_height_3 : Sms := .cons (.ret (.var 1)) .nil
def b_height_2 : Sms := .cons (.whl (.var 2) b_height_2b) b_height_3
def b_height_1 : Sms := .cons (.asg (.nm 2) (.lst (.cons (.tup (.cons (.var 0) (.cons (.int 0) .nil))) .nil))) b_height_2
def b_height : Sms := .cons (.asg (.nm 1) (.int 0)) b_height_1
def fn_height : Fn := ⟨1, 6, b_height⟩

/-! print_program: program, kind, words, part -/
def b_print_program_1t : Sms := .cons (.ret (.bf .str (.cons (.sub (.var 0) (.int 1)) .nil))) .nil
def b_print_program_2t : Sms := .cons (.ret (.sub (.var 0) (.int 1))) .nil
def b_print_program_4b : Sms := .cons (.exp (.bm .append (.var 2) (.cons (.ife (.isi (.var 3) .tup) (.call "print_program" (.cons (.var 3) .nil)) (.bf .str (.cons (.var 3) .nil))) .nil))) .nil
def b_print_program_5 : Sms := .cons (.ret (.bin .Add (.bin .Add (.str "(") (.bm .join (.str " ") (.cons (.var 2) .nil))) (.str ")"))) .nil
def b_print_program_4 : Sms := .cons (.for_ (.nm 3) (.seq (.ife (.cmp .Eq (.var 1) (.str "do")) (.sub (.var 0) (.int 1)) (.slc (.var 0) (.int 1) .nop))) b_print_program_4b) b_print_program_5
def b_print_program_3 : Sms := .cons (.asg (.nm 2) (.lst (.cons (.var 1) .nil))) b_print_program_4
def b_print_program_2 : Sms := .cons (.ifs (.cmp .Eq (.var 1) (.str "name")) b_print_program_2t .nil) b_print_program_3
def b_print_program_1 : Sms := .cons (.ifs (.cmp .Eq (.var 1) (.str "num")) b_print_program_1t .nil) b_print_program_2
def b_print_program : Sms := .cons (.asg (.nm 1) (.sub (.var 0) (.int 0))) b_print_program_1
def fn_print_program : Fn := ⟨1, 4, b_print_program⟩

/-! words_of: text, found, at, char, end -/
def b_words_of_2b_1t : Sms := .cons (.aug 2 .Add (.int 1)) .nil
def b_words_of_2b_1e_0t_1 : Sms := .cons (.aug 2 .Add (.int 1)) .nil
def b_words_of_2b_1e_0t : Sms := .cons (.exp (.bm .append (.var 1) (.cons (.tup (.cons (.var 3) (.cons (.var 2) .nil))) .nil))) b_words_of_2b_1e_0t_1
def b_words_of_2b_1e_0e_0t_1b : Sms := .cons (.aug 4 .Add (.int 1)) .nil
def b_words_of_2b_1e_0e_0t_3 : Sms := .cons (.asg (.nm 2) (.var 4)) .nil
def b_words_of_2b_1e_0e_0t_2 : Sms := .cons (.exp (.bm .append (.var 1) (.cons (.tup (.cons (.slc (.var 0) (.var 2) (.var 4)) (.cons (.var 2) .nil))) .nil))) b_words_of_2b_1e_0e_0t_3
def b_words_of_2b_1e_0e_0t_1 : Sms := .cons (.whl (.and (.cons (.cmp .Lt (.var 4) (.bf .len (.cons (.var 0) .nil))) (.cons (.or (.cons (.cmp .In (.sub (.var 0) (.var 4)) (.con "LETTERS")) (.cons (.cmp .In (.sub (.var 0) (.var 4)) (.con "DIGITS")) (.cons (.cmp .Eq (.sub (.var 0) (.var 4)) (.str "-")) .nil)))) .nil))) b_words_of_2b_1e_0e_0t_1b) b_words_of_2b_1e_0e_0t_2
def b_words_of_2b_1e_0e_0t : Sms := .cons (.asg (.nm 4) (.bin .Add (.var 2) (.int 1))) b_words_of_2b_1e_0e_0t_1
def b_words_of_2b_1e_0e_0e_1 : Sms := .cons (.aug 2 .Add (.int 1)) .nil
def b_words_of_2b_1e_0e_0e : Sms := .cons (.exp (.bm .append (.var 1) (.cons (.tup (.cons (.str "") (.cons (.var 2) .nil))) .nil))) b_words_of_2b_1e_0e_0e_1
def b_words_of_2b_1e_0e : Sms := .cons (.ifs (.or (.cons (.cmp .In (.var 3) (.con "LETTERS")) (.cons (.cmp .In (.var 3) (.con "DIGITS")) (.cons (.cmp .Eq (.var 3) (.str "-")) .nil)))) b_words_of_2b_1e_0e_0t b_words_of_2b_1e_0e_0e) .nil
def b_words_of_2b_1e : Sms := .cons (.ifs (.or (.cons (.cmp .Eq (.var 3) (.str "(")) (.cons (.cmp .Eq (.var 3) (.str ")")) .nil))) b_words_of_2b_1e_0t b_words_of_2b_1e_0e) .nil
def b_words_of_2b_1 : Sms := .cons (.ifs (.or (.cons (.cmp .Eq (.var 3) (.str " ")) (.cons (.cmp .Eq (.var 3) (.str "\n")) .nil))) b_words_of_2b_1t b_words_of_2b_1e) .nil
def b_words_of_2b : Sms := .cons (.asg (.nm 3) (.sub (.var 0) (.var 2))) b_words_of_2b_1
def b_words_of_3 : Sms := .cons (.ret (.var 1)) .nil
def b_words_of_2 : Sms := .cons (.whl (.cmp .Lt (.var 2) (.bf .len (.cons (.var 0) .nil))) b_words_of_2b) b_words_of_3
def b_words_of_1 : Sms := .cons (.asg (.nm 2) (.int 0)) b_words_of_2
def b_words_of : Sms := .cons (.asg (.nm 1) (.lst .nil)) b_words_of_1
def fn_words_of : Fn := ⟨1, 5, b_words_of⟩

/-! is_number: word, digits, char -/
def b_is_number_1t : Sms := .cons (.ret (.bl false)) .nil
def b_is_number_2b_0t : Sms := .cons (.ret (.bl false)) .nil
def b_is_number_2b : Sms := .cons (.ifs (.cmp .NotIn (.var 2) (.con "DIGITS")) b_is_number_2b_0t .nil) .nil
def b_is_number_3 : Sms := .cons (.ret (.or (.cons (.cmp .Eq (.var 0) (.str "0")) (.cons (.cmp .NotEq (.sub (.var 1) (.int 0)) (.str "0")) .nil)))) .nil
def b_is_number_2 : Sms := .cons (.for_ (.nm 2) (.seq (.var 1)) b_is_number_2b) b_is_number_3
def b_is_number_1 : Sms := .cons (.ifs (.cmp .Eq (.var 1) (.str "")) b_is_number_1t .nil) b_is_number_2
def b_is_number : Sms := .cons (.asg (.nm 1) (.ife (.cmp .Eq (.slc (.var 0) .nop (.int 1)) (.str "-")) (.slc (.var 0) (.int 1) .nop) (.var 0))) b_is_number_1
def fn_is_number : Fn := ⟨1, 3, b_is_number⟩

/-! is_word: word -/
def b_is_word_0t : Sms := .cons (.ret (.bl false)) .nil
def b_is_word_1 : Sms := .cons (.ret (.cmp .NotIn (.str "-") (.var 0))) .nil
def b_is_word : Sms := .cons (.ifs (.or (.cons (.cmp .Eq (.var 0) (.str "")) (.cons (.cmp .NotIn (.sub (.var 0) (.int 0)) (.con "LETTERS")) .nil))) b_is_word_0t .nil) b_is_word_1
def fn_is_word : Fn := ⟨1, 1, b_is_word⟩

/-! short: table, name -/
def b_short_0t : Sms := .cons (.asg (.sub (.var 0) (.var 1)) (.bin .Add (.str "n") (.bf .str (.cons (.bf .len (.cons (.var 0) .nil)) .nil)))) .nil
def b_short_1 : Sms := .cons (.ret (.sub (.var 0) (.var 1))) .nil
def b_short : Sms := .cons (.ifs (.cmp .NotIn (.var 1) (.var 0)) b_short_0t .nil) b_short_1
def fn_short : Fn := ⟨2, 2, b_short⟩

/-! tame: e, table, kind, part, found, k -/
def b_tame_1t : Sms := .cons (.ret (.tup (.cons (.str "num") (.cons (.int 0) .nil)))) .nil
def b_tame_2t : Sms := .cons (.ret (.tup (.cons (.str "name") (.cons (.call "short" (.cons (.var 1) (.cons (.sub (.var 0) (.int 1)) .nil))) .nil)))) .nil
def b_tame_3t : Sms := .cons (.ret (.tup (.cons (.str "do") (.cons (.bf .tuple (.cons (.lc (.nm 3) (.seq (.sub (.var 0) (.int 1))) .nop (.call "tame" (.cons (.var 3) (.cons (.var 1) .nil))) [3]) .nil)) .nil)))) .nil
def b_tame_5b_0t : Sms := .cons (.exp (.bm .append (.var 4) (.cons (.call "tame" (.cons (.var 3) (.cons (.var 1) .nil))) .nil))) .nil
def b_tame_5b_0e_0t : Sms := .cons (.exp (.bm .append (.var 4) (.cons (.call "short" (.cons (.var 1) (.cons (.var 3) .nil))) .nil))) .nil
def b_tame_5b_0e_0e : Sms := .cons (.exp (.bm .append (.var 4) (.cons (.var 3) .nil))) .nil
def b_tame_5b_0e : Sms := .cons (.ifs (.and (.cons (.cmp .In (.var 2) (.tup (.cons (.str "fn") (.cons (.str "let") .nil)))) (.cons (.cmp .Eq (.var 5) (.int 0)) .nil))) b_tame_5b_0e_0t b_tame_5b_0e_0e) .nil
def b_tame_5b : Sms := .cons (.ifs (.isi (.var 3) .tup) b_tame_5b_0t b_tame_5b_0e) .nil
def b_tame_6 : Sms := .cons (.ret (.bf .tuple (.cons (.var 4) .nil))) .nil
def b_tame_5 : Sms := .cons (.for_ (.tp [5, 3]) (.enum (.slc (.var 0) (.int 1) .nop)) b_tame_5b) b_tame_6
def b_tame_4 : Sms := .cons (.asg (.nm 4) (.lst (.cons (.var 2) .nil))) b_tame_5
def b_tame_3 : Sms := .cons (.ifs (.cmp .Eq (.var 2) (.str "do")) b_tame_3t .nil) b_tame_4
def b_tame_2 : Sms := .cons (.ifs (.cmp .Eq (.var 2) (.str "name")) b_tame_2t .nil) b_tame_3
def b_tame_1 : Sms := .cons (.ifs (.cmp .Eq (.var 2) (.str "num")) b_tame_1t .nil) b_tame_2
def b_tame : Sms := .cons (.asg (.nm 2) (.sub (.var 0) (.int 0))) b_tame_1
def fn_tame : Fn := ⟨2, 6, b_tame⟩

/-! parse: text, reader, program, nodes, depth -/
def b_parse_0t : Sms := .cons .never .nil
def b_parse_3t : Sms := .cons (.exp (.meth "fail" (.var 1) .nil)) .nil
def b_parse_4t : Sms := .cons .never .nil
def b_parse_6t : Sms := .cons .never .nil
def b_parse_7 : Sms := .cons (.ret (.var 2)) .nil
def b_parse_6 : Sms := .cons (.ifs (.or (.cons (.fld (.var 1) "too_large") (.cons (.cmp .Gt (.var 3) (.int 60)) (.cons (.cmp .Gt (.var 4) (.int 10)) (.cons (.cmp .Gt (.call "height" (.cons (.var 2) .nil)) (.int 3)) .nil))))) b_parse_6t .nil) b_parse_7
def b_parse_5 : Sms := .cons (.asg (.tp [3, 4]) (.call "size" (.cons (.var 2) .nil))) b_parse_6
def b_parse_4 : Sms := .cons (.ifs (.not (.call "is_well_formed" (.cons (.call "tame" (.cons (.var 2) (.cons .dK .nil))) .nil))) b_parse_4t .nil) b_parse_5
def b_parse_3 : Sms := .cons (.ifs (.cmp .Lt (.fld (.var 1) "at") (.bf .len (.cons (.fld (.var 1) "words") .nil))) b_parse_3t .nil) b_parse_4
def b_parse_2 : Sms := .cons (.asg (.nm 2) (.meth "expression" (.var 1) .nil)) b_parse_3
def b_parse_1 : Sms := .cons (.asg (.nm 1) (.make "Reader" (.cons (.var 0) .nil))) b_parse_2
def b_parse : Sms := .cons (.ifs (.cmp .Gt (.bf .len (.cons (.var 0) .nil)) (.int 4000)) b_parse_0t .nil) b_parse_1
def fn_parse : Fn := ⟨1, 5, b_parse⟩

/-! _law_start: _law_script, _law_cell -/
def b_law_start : Sms := .cons (.ret (.lst (.cons (.lc (.nm 1) (.seq (.slc (.var 0) .nop (.int 63))) .nop (.bf .int (.cons (.var 1) .nil)) [1]) (.cons (.int 0) (.cons (.int 0) (.cons (.int 0) (.cons (.int 20) (.cons (.lst .nil) .nil)))))))) .nil
def fn_law_start : Fn := ⟨1, 2, b_law_start⟩

/-! _law_fill: _law_c, _law_number -/
def b_law_fill_2t_2t : Sms := .cons (.asg (.nm 1) (.bin .Sub (.bin .Sub (.int 0) (.int 1)) (.var 1))) .nil
def b_law_fill_2t_3t : Sms := .cons (.ret (.var 1)) .nil
def b_law_fill_2t_3 : Sms := .cons (.ifs (.cmp .GtE (.var 1) (.bin .Pow (.int 10) (.int 18))) b_law_fill_2t_3t .nil) .nil
def b_law_fill_2t_2 : Sms := .cons (.ifs (.cmp .Lt (.var 1) (.int 0)) b_law_fill_2t_2t .nil) b_law_fill_2t_3
def b_law_fill_2t_1 : Sms := .cons (.asg (.sub (.var 0) (.int 1)) (.bin .Add (.sub (.var 0) (.int 1)) (.int 1))) b_law_fill_2t_2
def b_law_fill_2t : Sms := .cons (.asg (.nm 1) (.sub (.sub (.var 0) (.int 0)) (.sub (.var 0) (.int 1)))) b_law_fill_2t_1
def b_law_fill_3t : Sms := .cons (.asg (.nm 1) (.bin .Add (.var 1) (.bin .Mod (.bf .int (.cons (.sub (.sub (.var 0) (.int 0)) (.neg (.int 1))) .nil)) (.int 1000003)))) .nil
def b_law_fill_5 : Sms := .cons (.ret (.bin .Add (.bin .Mod (.bf .int (.cons (.bin .Add (.bin .Add (.bin .Mult (.var 1) (.var 1)) (.bin .Mult (.sub (.var 0) (.int 3)) (.int 7919))) (.int 11)) .nil)) (.int 2305843009213693951)) (.int 2305843009213693951))) .nil
def b_law_fill_4 : Sms := .cons (.asg (.nm 1) (.bin .Mod (.bf .int (.cons (.bin .Add (.bin .Mult (.var 1) (.int 48271)) (.bin .Mult (.sub (.var 0) (.int 3)) (.int 69621))) .nil)) (.int 2147483647))) b_law_fill_5
def b_law_fill_3 : Sms := .cons (.ifs (.and (.cons (.sub (.var 0) (.int 0)) (.cons (.cmp .GtE (.sub (.var 0) (.int 1)) (.bf .len (.cons (.sub (.var 0) (.int 0)) .nil))) .nil))) b_law_fill_3t .nil) b_law_fill_4
def b_law_fill_2 : Sms := .cons (.ifs (.cmp .Lt (.sub (.var 0) (.int 1)) (.bf .len (.cons (.sub (.var 0) (.int 0)) .nil))) b_law_fill_2t .nil) b_law_fill_3
def b_law_fill_1 : Sms := .cons (.asg (.nm 1) (.bin .Add (.bin .Mult (.sub (.var 0) (.int 3)) (.int 69621)) (.int 12345))) b_law_fill_2
def b_law_fill : Sms := .cons (.asg (.sub (.var 0) (.int 3)) (.bin .Add (.sub (.var 0) (.int 3)) (.int 1))) b_law_fill_1
def fn_law_fill : Fn := ⟨1, 2, b_law_fill⟩

/-! _law_take: _law_c, _law_many, _law_digit -/
def b_law_take_0t : Sms := .cons (.asg (.sub (.var 0) (.int 2)) (.call "_law_fill" (.cons (.var 0) .nil))) .nil
def b_law_take_3 : Sms := .cons (.ret (.var 2)) .nil
def b_law_take_2 : Sms := .cons (.asg (.sub (.var 0) (.int 2)) (.bin .FloorDiv (.sub (.var 0) (.int 2)) (.var 1))) b_law_take_3
def b_law_take_1 : Sms := .cons (.asg (.nm 2) (.bin .Mod (.bf .int (.cons (.sub (.var 0) (.int 2)) .nil)) (.var 1))) b_law_take_2
def b_law_take : Sms := .cons (.ifs (.cmp .Lt (.sub (.var 0) (.int 2)) (.var 1)) b_law_take_0t .nil) b_law_take_1
def fn_law_take : Fn := ⟨2, 3, b_law_take⟩

/-! _law_kinds:  -/
def b_law_kinds : Sms := .cons (.ret (.lst (.cons (.str "num") (.cons (.str "name") (.cons (.str "fn") (.cons (.str "call") (.cons (.str "sum") (.cons (.str "less") (.cons (.str "if") (.cons (.str "let") (.cons (.str "say") .nil))))))))))) .nil
def fn_law_kinds : Fn := ⟨0, 0, b_law_kinds⟩

/-! _law_parts: _law_kind -/
def b_law_parts : Sms := .cons (.ret (.sub (.lst (.cons (.int 0) (.cons (.int 0) (.cons (.int 0) (.cons (.int 2) (.cons (.int 2) (.cons (.int 2) (.cons (.int 3) (.cons (.int 1) (.cons (.int 1) .nil)))))))))) (.bm .lindex (.call "_law_kinds" .nil) (.cons (.var 0) .nil)))) .nil
def fn_law_parts : Fn := ⟨1, 1, b_law_parts⟩

/-! _law_names: _law_c, _law_signs, _law_stem, _law_k, _law_start_here, _law_step, _law_found, _law_name -/
def b_law_names_2b : Sms := .cons (.asg (.nm 2) (.bin .Add (.var 2) (.sub (.var 1) (.call "_law_take" (.cons (.var 0) (.cons (.sub (.lst (.cons (.int 62) (.cons (.int 52) .nil))) (.bf .int (.cons (.cmp .Eq (.var 2) (.str "")) .nil))) .nil)))))) .nil
def b_law_names_6b_1t : Sms := .cons (.exp (.bm .append (.var 6) (.cons (.var 7) .nil))) .nil
def b_law_names_6b_1 : Sms := .cons (.ifs (.and (.cons (.cmp .NotIn (.sub (.var 7) (.int 0)) (.str "0123456789")) (.cons (.cmp .NotIn (.var 7) (.var 6)) (.cons (.call "_law_free" (.cons (.var 7) .nil)) .nil)))) b_law_names_6b_1t .nil) .nil
def b_law_names_6b : Sms := .cons (.asg (.nm 7) (.bin .Add (.var 2) (.sub (.var 1) (.bin .Mod (.bf .int (.cons (.bin .Add (.var 4) (.bin .Mult (.var 3) (.var 5))) .nil)) (.int 62))))) b_law_names_6b_1
def b_law_names_7 : Sms := .cons (.ret (.slc (.var 6) .nop (.int 10))) .nil
def b_law_names_6 : Sms := .cons (.for_ (.nm 3) (.rng (.cons (.int 62) .nil)) b_law_names_6b) b_law_names_7
def b_law_names_5 : Sms := .cons (.asg (.nm 6) (.lst .nil)) b_law_names_6
def b_law_names_4 : Sms := .cons (.asg (.nm 5) (.bin .Add (.int 1) (.call "_law_take" (.cons (.var 0) (.cons (.int 5) .nil))))) b_law_names_5
def b_law_names_3 : Sms := .cons (.asg (.nm 4) (.call "_law_take" (.cons (.var 0) (.cons (.int 62) .nil)))) b_law_names_4
def b_law_names_2 : Sms := .cons (.for_ (.nm 3) (.rng (.cons (.sub (.lst (.cons (.int 0) (.cons (.int 0) (.cons (.int 1) (.cons (.int 3) (.cons (.int 6) .nil)))))) (.call "_law_take" (.cons (.var 0) (.cons (.int 5) .nil)))) .nil)) b_law_names_2b) b_law_names_3
def b_law_names_1 : Sms := .cons (.asg (.nm 2) (.str "")) b_law_names_2
def b_law_names : Sms := .cons (.asg (.nm 1) (.str "abcdefghijklmnopqrstuvwxyzABCDEFGHIJKLMNOPQRSTUVWXYZ0123456789")) b_law_names_1
def fn_law_names : Fn := ⟨1, 8, b_law_names⟩

/-! _law_free: _law_name -/
def b_law_free : Sms := .cons (.ret (.cmp .NotIn (.var 0) (.bin .Add (.call "_law_kinds" .nil) (.lst (.cons (.str "rule") (.cons (.str "keep") (.cons (.str "part") (.cons (.str "with") (.cons (.str "usual") (.cons (.str "do") .nil)))))))))) .nil
def fn_law_free : Fn := ⟨1, 1, b_law_free⟩

/-! _law_integer: _law_c -/
def b_law_integer : Sms := .cons (.ret (.sub (.lst (.cons (.bin .Sub (.call "_law_take" (.cons (.var 0) (.cons (.int 5) .nil))) (.int 1)) (.cons (.bin .Sub (.call "_law_take" (.cons (.var 0) (.cons (.int 5) .nil))) (.int 1)) (.cons (.call "_law_take" (.cons (.var 0) (.cons (.int 100) .nil))) (.cons (.bin .Sub (.call "_law_take" (.cons (.var 0) (.cons (.int 2000001) .nil))) (.int 1000000)) .nil))))) (.call "_law_take" (.cons (.var 0) (.cons (.int 4) .nil))))) .nil
def fn_law_integer : Fn := ⟨1, 1, b_law_integer⟩

/-! _law_leaf: _law_c, _law_names_here, _law_about, _law_k -/
def b_law_leaf_1t : Sms := .cons (.ret (.tup (.cons (.str "name") (.cons (.sub (.var 1) (.call "_law_take" (.cons (.var 0) (.cons (.bf .len (.cons (.var 1) .nil)) .nil)))) .nil)))) .nil
def b_law_leaf_2t_0t : Sms := .cons (.ret (.tup (.cons (.str "part") (.cons (.call "_law_take" (.cons (.var 0) (.cons (.call "_law_parts" (.cons (.var 2) .nil)) .nil))) .nil)))) .nil
def b_law_leaf_2t_1 : Sms := .cons (.ret (.tup (.cons (.str "usual") .nil))) .nil
def b_law_leaf_2t : Sms := .cons (.ifs (.and (.cons (.cmp .Gt (.call "_law_parts" (.cons (.var 2) .nil)) (.int 0)) (.cons (.cmp .Lt (.var 3) (.int 2)) .nil))) b_law_leaf_2t_0t .nil) b_law_leaf_2t_1
def b_law_leaf_3 : Sms := .cons (.ret (.tup (.cons (.str "num") (.cons (.call "_law_integer" (.cons (.var 0) .nil)) .nil)))) .nil
def b_law_leaf_2 : Sms := .cons (.ifs (.and (.cons (.cmp .IsNot (.var 2) .non) (.cons (.cmp .Lt (.var 3) (.int 3)) .nil))) b_law_leaf_2t .nil) b_law_leaf_3
def b_law_leaf_1 : Sms := .cons (.ifs (.and (.cons (.var 1) (.cons (.cmp .Gt (.var 3) (.int 1)) .nil))) b_law_leaf_1t .nil) b_law_leaf_2
def b_law_leaf : Sms := .cons (.asg (.nm 3) (.call "_law_take" (.cons (.var 0) (.cons (.int 4) .nil)))) b_law_leaf_1
def fn_law_leaf : Fn := ⟨3, 4, b_law_leaf⟩

/-! _law_rule: _law_c, _law_level, _law_kind, _law_depth_here, _law_k, _law_v, _law_w -/
def b_law_rule_1t : Sms := .cons (.ret (.tup (.cons (.str "usual") .nil))) .nil
def b_law_rule_2t : Sms := .cons (.ret (.tup (.cons (.str "say") (.cons (.tup (.cons (.str "usual") .nil)) .nil)))) .nil
def b_law_rule_3t_2 : Sms := .cons (.ret (.tup (.cons (.str "let") (.cons (.var 5) (.cons (.tup (.cons (.str "num") (.cons (.call "_law_take" (.cons (.var 0) (.cons (.int 9) .nil))) .nil))) (.cons (.tup (.cons (.str "let") (.cons (.var 6) (.cons (.tup (.cons (.str "say") (.cons (.tup (.cons (.str "name") (.cons (.var 5) .nil))) .nil))) (.cons (.tup (.cons (.str "usual") .nil)) .nil))))) .nil)))))) .nil
def b_law_rule_3t_1 : Sms := .cons (.asg (.tp [5, 6]) (.slc (.sub (.var 0) (.int 5)) (.int 7) (.int 9))) b_law_rule_3t_2
def b_law_rule_3t : Sms := .cons (.asg (.sub (.var 0) (.int 4)) (.bin .Sub (.sub (.var 0) (.int 4)) (.int 5))) b_law_rule_3t_1
def b_law_rule_4 : Sms := .cons (.ret (.call "_law_expression" (.cons (.var 0) (.cons (.bin .Add (.var 1) (.int 1)) (.cons (.lst .nil) (.cons (.var 2) (.cons (.var 3) .nil))))))) .nil
def b_law_rule_3 : Sms := .cons (.ifs (.cmp .Eq (.var 4) (.int 2)) b_law_rule_3t .nil) b_law_rule_4
def b_law_rule_2 : Sms := .cons (.ifs (.cmp .Eq (.var 4) (.int 1)) b_law_rule_2t .nil) b_law_rule_3
def b_law_rule_1 : Sms := .cons (.ifs (.cmp .Eq (.var 4) (.int 0)) b_law_rule_1t .nil) b_law_rule_2
def b_law_rule : Sms := .cons (.asg (.nm 4) (.call "_law_take" (.cons (.var 0) (.cons (.int 6) .nil)))) b_law_rule_1
def fn_law_rule : Fn := ⟨4, 7, b_law_rule⟩

/-! _law_ask: _law_c, _law_level, _law_names_here, _law_about, _law_depth_here -/
def b_law_ask_0t : Sms := .cons (.ret (.tup (.cons (.str "do") (.cons (.tup (.cons (.call "_law_expression" (.cons (.var 0) (.cons (.var 1) (.cons (.var 2) (.cons (.var 3) (.cons (.var 4) .nil)))))) (.cons (.call "_law_expression" (.cons (.var 0) (.cons (.var 1) (.cons (.var 2) (.cons (.var 3) (.cons (.var 4) .nil)))))) .nil))) .nil)))) .nil
def b_law_ask_1t : Sms := .cons (.ret (.tup (.cons (.str "do") (.cons (.tup (.cons (.call "_law_expression" (.cons (.var 0) (.cons (.var 1) (.cons (.var 2) (.cons (.var 3) (.cons (.var 4) .nil)))))) .nil)) .nil)))) .nil
def b_law_ask_2t : Sms := .cons (.ret (.tup (.cons (.str "with") (.cons (.call "_law_expression" (.cons (.var 0) (.cons (.var 1) (.cons (.var 2) (.cons (.var 3) (.cons (.var 4) .nil)))))) .nil)))) .nil
def b_law_ask_3 : Sms := .cons (.ret (.call "_law_leaf" (.cons (.var 0) (.cons (.lst .nil) (.cons (.var 3) .nil))))) .nil
def b_law_ask_2 : Sms := .cons (.ifs (.and (.cons (.cmp .Eq (.var 3) (.str "let")) (.cons (.cmp .Eq (.call "_law_take" (.cons (.var 0) (.cons (.int 2) .nil))) (.int 0)) .nil))) b_law_ask_2t .nil) b_law_ask_3
def b_law_ask_1 : Sms := .cons (.ifs (.and (.cons (.cmp .Eq (.var 3) (.str "say")) (.cons (.cmp .Eq (.call "_law_take" (.cons (.var 0) (.cons (.int 2) .nil))) (.int 0)) .nil))) b_law_ask_1t .nil) b_law_ask_2
def b_law_ask : Sms := .cons (.ifs (.and (.cons (.cmp .In (.var 3) (.lst (.cons (.str "call") (.cons (.str "sum") (.cons (.str "less") .nil))))) (.cons (.cmp .Eq (.call "_law_take" (.cons (.var 0) (.cons (.int 2) .nil))) (.int 0)) .nil))) b_law_ask_0t .nil) b_law_ask_1
def fn_law_ask : Fn := ⟨5, 5, b_law_ask⟩

/-! _law_binding: _law_c, _law_k, _law_level, _law_names_here, _law_about, _law_depth_here, _law_x, _law_body, _law_f, _law_use -/
def b_law_binding_2t : Sms := .cons (.ret (.tup (.cons (.str "fn") (.cons (.var 6) (.cons (.var 7) .nil))))) .nil
def b_law_binding_3t : Sms := .cons (.ret (.tup (.cons (.str "call") (.cons (.tup (.cons (.str "fn") (.cons (.var 6) (.cons (.var 7) .nil)))) (.cons (.call "_law_expression" (.cons (.var 0) (.cons (.var 2) (.cons (.var 3) (.cons (.var 4) (.cons (.bin .Sub (.var 5) (.int 1)) .nil)))))) .nil))))) .nil
def b_law_binding_6 : Sms := .cons (.ret (.tup (.cons (.str "let") (.cons (.var 8) (.cons (.tup (.cons (.str "fn") (.cons (.var 6) (.cons (.var 7) .nil)))) (.cons (.sub (.lst (.cons (.var 9) (.cons (.tup (.cons (.str "call") (.cons (.tup (.cons (.str "name") (.cons (.var 8) .nil))) (.cons (.var 9) .nil)))) .nil))) (.call "_law_take" (.cons (.var 0) (.cons (.int 2) .nil)))) .nil)))))) .nil
def b_law_binding_5 : Sms := .cons (.asg (.nm 9) (.call "_law_expression" (.cons (.var 0) (.cons (.var 2) (.cons (.bin .Add (.var 3) (.lst (.cons (.var 8) .nil))) (.cons (.var 4) (.cons (.bin .Sub (.var 5) (.int 1)) .nil))))))) b_law_binding_6
def b_law_binding_4 : Sms := .cons (.asg (.nm 8) (.sub (.sub (.var 0) (.int 5)) (.bin .Add (.int 3) (.call "_law_take" (.cons (.var 0) (.cons (.int 3) .nil)))))) b_law_binding_5
def b_law_binding_3 : Sms := .cons (.ifs (.cmp .Eq (.call "_law_take" (.cons (.var 0) (.cons (.int 2) .nil))) (.int 0)) b_law_binding_3t .nil) b_law_binding_4
def b_law_binding_2 : Sms := .cons (.ifs (.cmp .Eq (.var 1) (.int 16)) b_law_binding_2t .nil) b_law_binding_3
def b_law_binding_1 : Sms := .cons (.asg (.nm 7) (.call "_law_expression" (.cons (.var 0) (.cons (.var 2) (.cons (.bin .Add (.var 3) (.lst (.cons (.var 6) .nil))) (.cons (.var 4) (.cons (.bin .Sub (.var 5) (.int 1)) .nil))))))) b_law_binding_2
def b_law_binding : Sms := .cons (.asg (.nm 6) (.sub (.sub (.var 0) (.int 5)) (.call "_law_take" (.cons (.var 0) (.cons (.int 3) .nil))))) b_law_binding_1
def fn_law_binding : Fn := ⟨6, 10, b_law_binding⟩

/-! _law_change: _law_c, _law_k, _law_level, _law_names_here, _law_about, _law_depth_here, _law_kind, _law_rule_here -/
def b_law_change_2t : Sms := .cons (.ret (.tup (.cons (.str "let") (.cons (.sub (.sub (.var 0) (.int 5)) (.int 9)) (.cons (.tup (.cons (.str "keep") (.cons (.var 6) (.cons (.var 7) .nil)))) (.cons (.call "_law_expression" (.cons (.var 0) (.cons (.var 2) (.cons (.bin .Add (.var 3) (.lst (.cons (.sub (.sub (.var 0) (.int 5)) (.int 9)) .nil))) (.cons (.var 4) (.cons (.bin .Sub (.var 5) (.int 1)) .nil)))))) .nil)))))) .nil
def b_law_change_3t : Sms := .cons (.ret (.tup (.cons (.str "keep") (.cons (.var 6) (.cons (.var 7) .nil))))) .nil
def b_law_change_4 : Sms := .cons (.ret (.tup (.cons (.str "rule") (.cons (.var 6) (.cons (.var 7) (.cons (.call "_law_expression" (.cons (.var 0) (.cons (.var 2) (.cons (.var 3) (.cons (.var 4) (.cons (.bin .Sub (.var 5) (.int 1)) .nil)))))) .nil)))))) .nil
def b_law_change_3 : Sms := .cons (.ifs (.cmp .Eq (.var 1) (.int 17)) b_law_change_3t .nil) b_law_change_4
def b_law_change_2 : Sms := .cons (.ifs (.cmp .Eq (.var 1) (.int 13)) b_law_change_2t .nil) b_law_change_3
def b_law_change_1 : Sms := .cons (.asg (.nm 7) (.call "_law_rule" (.cons (.var 0) (.cons (.var 2) (.cons (.var 6) (.cons (.bin .Sub (.var 5) (.int 1)) .nil)))))) b_law_change_2
def b_law_change : Sms := .cons (.asg (.nm 6) (.sub (.call "_law_kinds" .nil) (.call "_law_take" (.cons (.var 0) (.cons (.int 9) .nil))))) b_law_change_1
def fn_law_change : Fn := ⟨6, 8, b_law_change⟩

/-! _law_expression: _law_c, _law_level, _law_names_here, _law_about, _law_depth_here, _law_k, _law_a, _law_b, _law_x -/
def b_law_expression_2t : Sms := .cons (.ret (.call "_law_leaf" (.cons (.var 0) (.cons (.var 2) (.cons (.var 3) .nil))))) .nil
def b_law_expression_3t : Sms := .cons (.ret (.call "_law_ask" (.cons (.var 0) (.cons (.var 1) (.cons (.var 2) (.cons (.var 3) (.cons (.bin .Sub (.var 4) (.int 1)) .nil))))))) .nil
def b_law_expression_4t : Sms := .cons (.ret (.call "_law_binding" (.cons (.var 0) (.cons (.var 5) (.cons (.var 1) (.cons (.var 2) (.cons (.var 3) (.cons (.var 4) .nil)))))))) .nil
def b_law_expression_5t : Sms := .cons (.ret (.call "_law_change" (.cons (.var 0) (.cons (.var 5) (.cons (.var 1) (.cons (.var 2) (.cons (.var 3) (.cons (.var 4) .nil)))))))) .nil
def b_law_expression_7t : Sms := .cons (.ret (.tup (.cons (.sub (.lst (.cons (.str "sum") (.cons (.str "less") (.cons (.str "sum") .nil)))) (.bin .Sub (.var 5) (.int 5))) (.cons (.var 6) (.cons (.call "_law_expression" (.cons (.var 0) (.cons (.var 1) (.cons (.var 2) (.cons (.var 3) (.cons (.bin .Sub (.var 4) (.int 1)) .nil)))))) .nil))))) .nil
def b_law_expression_8t_1 : Sms := .cons (.ret (.tup (.cons (.str "if") (.cons (.var 6) (.cons (.var 7) (.cons (.call "_law_expression" (.cons (.var 0) (.cons (.var 1) (.cons (.var 2) (.cons (.var 3) (.cons (.bin .Sub (.var 4) (.int 1)) .nil)))))) .nil)))))) .nil
def b_law_expression_8t : Sms := .cons (.asg (.nm 7) (.call "_law_expression" (.cons (.var 0) (.cons (.var 1) (.cons (.var 2) (.cons (.var 3) (.cons (.bin .Sub (.var 4) (.int 1)) .nil))))))) b_law_expression_8t_1
def b_law_expression_9t_1 : Sms := .cons (.ret (.tup (.cons (.str "let") (.cons (.var 8) (.cons (.var 6) (.cons (.call "_law_expression" (.cons (.var 0) (.cons (.var 1) (.cons (.bin .Add (.var 2) (.lst (.cons (.var 8) .nil))) (.cons (.var 3) (.cons (.bin .Sub (.var 4) (.int 1)) .nil)))))) .nil)))))) .nil
def b_law_expression_9t : Sms := .cons (.asg (.nm 8) (.sub (.sub (.var 0) (.int 5)) (.sub (.lst (.cons (.int 0) (.cons (.int 1) (.cons (.int 2) (.cons (.int 6) .nil))))) (.call "_law_take" (.cons (.var 0) (.cons (.int 4) .nil)))))) b_law_expression_9t_1
def b_law_expression_10t : Sms := .cons (.ret (.tup (.cons (.str "say") (.cons (.var 6) .nil)))) .nil
def b_law_expression_11 : Sms := .cons (.ret (.tup (.cons (.str "call") (.cons (.var 6) (.cons (.call "_law_expression" (.cons (.var 0) (.cons (.var 1) (.cons (.var 2) (.cons (.var 3) (.cons (.bin .Sub (.var 4) (.int 1)) .nil)))))) .nil))))) .nil
def b_law_expression_10 : Sms := .cons (.ifs (.cmp .Eq (.var 5) (.int 11)) b_law_expression_10t .nil) b_law_expression_11
def b_law_expression_9 : Sms := .cons (.ifs (.cmp .Lt (.var 5) (.int 11)) b_law_expression_9t .nil) b_law_expression_10
def b_law_expression_8 : Sms := .cons (.ifs (.cmp .Eq (.var 5) (.int 8)) b_law_expression_8t .nil) b_law_expression_9
def b_law_expression_7 : Sms := .cons (.ifs (.cmp .Lt (.var 5) (.int 8)) b_law_expression_7t .nil) b_law_expression_8
def b_law_expression_6 : Sms := .cons (.asg (.nm 6) (.call "_law_expression" (.cons (.var 0) (.cons (.var 1) (.cons (.var 2) (.cons (.var 3) (.cons (.bin .Sub (.var 4) (.int 1)) .nil))))))) b_law_expression_7
def b_law_expression_5 : Sms := .cons (.ifs (.and (.cons (.cmp .In (.var 5) (.lst (.cons (.int 13) (.cons (.int 14) (.cons (.int 15) (.cons (.int 17) .nil)))))) (.cons (.cmp .Lt (.var 1) (.int 3)) .nil))) b_law_expression_5t .nil) b_law_expression_6
def b_law_expression_4 : Sms := .cons (.ifs (.or (.cons (.cmp .Lt (.var 5) (.int 5)) (.cons (.cmp .Eq (.var 5) (.int 16)) .nil))) b_law_expression_4t .nil) b_law_expression_5
def b_law_expression_3 : Sms := .cons (.ifs (.and (.cons (.cmp .In (.var 5) (.lst (.cons (.int 2) (.cons (.int 3) .nil)))) (.cons (.cmp .IsNot (.var 3) .non) .nil))) b_law_expression_3t .nil) b_law_expression_4
def b_law_expression_2 : Sms := .cons (.ifs (.or (.cons (.cmp .Lt (.var 4) (.int 1)) (.cons (.cmp .Lt (.sub (.var 0) (.int 4)) (.int 1)) (.cons (.cmp .Lt (.var 5) (.int 2)) .nil)))) b_law_expression_2t .nil) b_law_expression_3
def b_law_expression_1 : Sms := .cons (.asg (.nm 5) (.call "_law_take" (.cons (.var 0) (.cons (.int 18) .nil)))) b_law_expression_2
def b_law_expression : Sms := .cons (.asg (.sub (.var 0) (.int 4)) (.bin .Sub (.sub (.var 0) (.int 4)) (.int 1))) b_law_expression_1
def fn_law_expression : Fn := ⟨5, 9, b_law_expression⟩

/-! _law_inner: _law_e, _law_part -/
def b_law_inner_0t : Sms := .cons (.ret (.sub (.var 0) (.int 1))) .nil
def b_law_inner_1 : Sms := .cons (.ret (.lc (.nm 1) (.seq (.slc (.var 0) (.int 1) .nop)) (.isi (.var 1) .tup) (.var 1) [1])) .nil
def b_law_inner : Sms := .cons (.ifs (.cmp .Eq (.sub (.var 0) (.int 0)) (.str "do")) b_law_inner_0t .nil) b_law_inner_1
def fn_law_inner : Fn := ⟨1, 2, b_law_inner⟩

/-! _law_depth: _law_e, _law_part -/
def b_law_depth : Sms := .cons (.ret (.bin .Add (.int 1) (.bf .max (.cons (.bin .Add (.lst (.cons (.int 0) .nil)) (.lc (.nm 1) (.seq (.call "_law_inner" (.cons (.var 0) .nil))) .nop (.call "_law_depth" (.cons (.var 1) .nil)) [1])) .nil)))) .nil
def fn_law_depth : Fn := ⟨1, 2, b_law_depth⟩

/-! _law_size: _law_e, _law_part -/
def b_law_size : Sms := .cons (.ret (.bin .Add (.int 1) (.bf .sum (.cons (.lc (.nm 1) (.seq (.call "_law_inner" (.cons (.var 0) .nil))) .nop (.call "_law_size" (.cons (.var 1) .nil)) [1]) .nil)))) .nil
def fn_law_size : Fn := ⟨1, 2, b_law_size⟩

/-! _law_program: _law_c, _law_program_here -/
def b_law_program_3t : Sms := .cons (.ret (.tup (.cons (.str "say") (.cons (.tup (.cons (.str "num") (.cons (.call "_law_integer" (.cons (.var 0) .nil)) .nil))) .nil)))) .nil
def b_law_program_4 : Sms := .cons (.ret (.var 1)) .nil
def b_law_program_3 : Sms := .cons (.ifs (.or (.cons (.cmp .Gt (.call "_law_depth" (.cons (.var 1) .nil)) (.int 10)) (.cons (.cmp .Gt (.call "_law_size" (.cons (.var 1) .nil)) (.int 60)) .nil))) b_law_program_3t .nil) b_law_program_4
def b_law_program_2 : Sms := .cons (.asg (.nm 1) (.call "_law_expression" (.cons (.var 0) (.cons (.int 0) (.cons (.lst .nil) (.cons .non (.cons (.bin .Add (.int 3) (.call "_law_take" (.cons (.var 0) (.cons (.int 4) .nil)))) .nil))))))) b_law_program_3
def b_law_program_1 : Sms := .cons (.asg (.sub (.var 0) (.int 4)) (.bin .Add (.int 14) (.call "_law_take" (.cons (.var 0) (.cons (.int 10) .nil))))) b_law_program_2
def b_law_program : Sms := .cons (.asg (.sub (.var 0) (.int 5)) (.call "_law_names" (.cons (.var 0) .nil))) b_law_program_1
def fn_law_program : Fn := ⟨1, 2, b_law_program⟩

/-! _law_text: _law_e, _law_words, _law_part, _law_one -/
def b_law_text_0t : Sms := .cons (.ret (.bf .str (.cons (.sub (.var 0) (.int 1)) .nil))) .nil
def b_law_text_1t : Sms := .cons (.ret (.sub (.var 0) (.int 1))) .nil
def b_law_text_3b_0t : Sms := .cons (.asg (.nm 1) (.bin .Add (.var 1) (.lc (.nm 3) (.seq (.var 2)) .nop (.call "_law_text" (.cons (.var 3) .nil)) [3]))) .nil
def b_law_text_3b_0e_0t : Sms := .cons (.exp (.bm .append (.var 1) (.cons (.call "_law_text" (.cons (.var 2) .nil)) .nil))) .nil
def b_law_text_3b_0e_0e : Sms := .cons (.exp (.bm .append (.var 1) (.cons (.bf .str (.cons (.var 2) .nil)) .nil))) .nil
def b_law_text_3b_0e : Sms := .cons (.ifs (.isi (.var 2) .tup) b_law_text_3b_0e_0t b_law_text_3b_0e_0e) .nil
def b_law_text_3b : Sms := .cons (.ifs (.cmp .Eq (.sub (.var 0) (.int 0)) (.str "do")) b_law_text_3b_0t b_law_text_3b_0e) .nil
def b_law_text_4 : Sms := .cons (.ret (.bin .Add (.bin .Add (.str "(") (.bm .join (.str " ") (.cons (.var 1) .nil))) (.str ")"))) .nil
def b_law_text_3 : Sms := .cons (.for_ (.nm 2) (.seq (.slc (.var 0) (.int 1) .nop)) b_law_text_3b) b_law_text_4
def b_law_text_2 : Sms := .cons (.asg (.nm 1) (.lst (.cons (.sub (.var 0) (.int 0)) .nil))) b_law_text_3
def b_law_text_1 : Sms := .cons (.ifs (.cmp .Eq (.sub (.var 0) (.int 0)) (.str "name")) b_law_text_1t .nil) b_law_text_2
def b_law_text : Sms := .cons (.ifs (.cmp .Eq (.sub (.var 0) (.int 0)) (.str "num")) b_law_text_0t .nil) b_law_text_1
def fn_law_text : Fn := ⟨1, 4, b_law_text⟩

/-! _law_loose: _law_c, _law_text_here, _law_found, _law_k, _law_one, _law_gap -/
def b_law_loose_1b_1t_1 : Sms := .cons (.asg (.nm 2) (.bin .Add (.var 2) (.sub (.lst (.cons (.bin .Add (.var 4) (.var 5)) (.cons (.bin .Add (.var 5) (.var 4)) .nil))) (.call "_law_take" (.cons (.var 0) (.cons (.int 2) .nil)))))) .nil
def b_law_loose_1b_1t : Sms := .cons (.asg (.nm 5) (.sub (.lst (.cons (.str "") (.cons (.str "") (.cons (.str " ") (.cons (.str "\n") (.cons (.str "  ") .nil)))))) (.call "_law_take" (.cons (.var 0) (.cons (.int 5) .nil))))) b_law_loose_1b_1t_1
def b_law_loose_1b_1e_0t : Sms := .cons (.asg (.nm 2) (.bin .Add (.var 2) (.sub (.lst (.cons (.str "") (.cons (.str " ") (.cons (.str "\n \n") .nil)))) (.call "_law_take" (.cons (.var 0) (.cons (.int 3) .nil)))))) .nil
def b_law_loose_1b_1e_0e_0t : Sms := .cons (.asg (.nm 2) (.bin .Add (.var 2) (.sub (.lst (.cons (.str " ") (.cons (.str "\n") (.cons (.str "   ") .nil)))) (.call "_law_take" (.cons (.var 0) (.cons (.int 3) .nil)))))) .nil
def b_law_loose_1b_1e_0e_0e : Sms := .cons (.asg (.nm 2) (.bin .Add (.var 2) (.var 4))) .nil
def b_law_loose_1b_1e_0e : Sms := .cons (.ifs (.cmp .Eq (.var 4) (.str " ")) b_law_loose_1b_1e_0e_0t b_law_loose_1b_1e_0e_0e) .nil
def b_law_loose_1b_1e : Sms := .cons (.ifs (.and (.cons (.cmp .Eq (.var 4) (.str " ")) (.cons (.or (.cons (.cmp .In (.sub (.var 1) (.bin .Sub (.var 3) (.int 1))) (.str "()")) (.cons (.cmp .In (.sub (.var 1) (.bin .Add (.var 3) (.int 1))) (.str "()")) .nil))) .nil))) b_law_loose_1b_1e_0t b_law_loose_1b_1e_0e) .nil
def b_law_loose_1b_1 : Sms := .cons (.ifs (.cmp .In (.var 4) (.str "()")) b_law_loose_1b_1t b_law_loose_1b_1e) .nil
def b_law_loose_1b : Sms := .cons (.asg (.nm 4) (.sub (.var 1) (.var 3))) b_law_loose_1b_1
def b_law_loose_2 : Sms := .cons (.ret (.bin .Add (.bin .Add (.sub (.lst (.cons (.str "") (.cons (.str "\n") (.cons (.str " ") .nil)))) (.call "_law_take" (.cons (.var 0) (.cons (.int 3) .nil)))) (.var 2)) (.sub (.lst (.cons (.str "") (.cons (.str "\n") (.cons (.str " ") .nil)))) (.call "_law_take" (.cons (.var 0) (.cons (.int 3) .nil)))))) .nil
def b_law_loose_1 : Sms := .cons (.for_ (.nm 3) (.rng (.cons (.bf .len (.cons (.var 1) .nil)) .nil)) b_law_loose_1b) b_law_loose_2
def b_law_loose : Sms := .cons (.asg (.nm 2) (.str "")) b_law_loose_1
def fn_law_loose : Fn := ⟨2, 6, b_law_loose⟩

/-! law: _law_script, _law_c, _law_program_here, _law_text_here -/
def b_law_3t : Sms := .cons (.ret (.cmp .Gt (.bf .len (.cons (.var 3) .nil)) (.int 1300))) .nil
def b_law_4 : Sms := .cons (.ret (.and (.cons (.cmp .Eq (.call "parse" (.cons (.var 3) .nil)) (.var 2)) (.cons (.cmp .Eq (.call "parse" (.cons (.call "_law_loose" (.cons (.var 1) (.cons (.var 3) .nil))) .nil)) (.var 2)) .nil)))) .nil
def b_law_3 : Sms := .cons (.ifs (.or (.cons (.cmp .NotEq (.call "print_program" (.cons (.var 2) .nil)) (.var 3)) (.cons (.cmp .Gt (.bf .len (.cons (.var 3) .nil)) (.int 1300)) .nil))) b_law_3t .nil) b_law_4
def b_law_2 : Sms := .cons (.asg (.nm 3) (.call "_law_text" (.cons (.var 2) .nil))) b_law_3
def b_law_1 : Sms := .cons (.asg (.nm 2) (.call "_law_program" (.cons (.var 1) .nil))) b_law_2
def b_law : Sms := .cons (.asg (.nm 1) (.call "_law_start" (.cons (.var 0) .nil))) b_law_1
def fn_law : Fn := ⟨1, 4, b_law⟩

/-! Reader.__init__: self, text -/
def b_Reader_init_4 : Sms := .cons (.asg (.fld (.var 0) "too_large") (.bl false)) .nil
def b_Reader_init_3 : Sms := .cons (.asg (.fld (.var 0) "nested") (.int 0)) b_Reader_init_4
def b_Reader_init_2 : Sms := .cons (.asg (.fld (.var 0) "at") (.int 0)) b_Reader_init_3
def b_Reader_init_1 : Sms := .cons (.asg (.fld (.var 0) "end") (.bf .len (.cons (.var 1) .nil))) b_Reader_init_2
def b_Reader_init : Sms := .cons (.asg (.fld (.var 0) "words") (.call "words_of" (.cons (.var 1) .nil))) b_Reader_init_1
def fn_Reader_init : Fn := ⟨2, 2, b_Reader_init⟩

/-! Reader.word: self -/
def b_Reader_word : Sms := .cons (.ret (.ife (.cmp .Lt (.fld (.var 0) "at") (.bf .len (.cons (.fld (.var 0) "words") .nil))) (.sub (.sub (.fld (.var 0) "words") (.fld (.var 0) "at")) (.int 0)) (.str ""))) .nil
def fn_Reader_word : Fn := ⟨1, 1, b_Reader_word⟩

/-! Reader.fail: self -/
def b_Reader_fail : Sms := .cons .never .nil
def fn_Reader_fail : Fn := ⟨1, 1, b_Reader_fail⟩

/-! Reader.take: self, is_good, word -/
def b_Reader_take_1t : Sms := .cons (.exp (.meth "fail" (.var 0) .nil)) .nil
def b_Reader_take_3 : Sms := .cons (.ret (.var 2)) .nil
def b_Reader_take_2 : Sms := .cons (.faug (.var 0) "at" .Add (.int 1)) b_Reader_take_3
def b_Reader_take_1 : Sms := .cons (.ifs (.not (.var 1)) b_Reader_take_1t .nil) b_Reader_take_2
def b_Reader_take : Sms := .cons (.asg (.nm 2) (.meth "word" (.var 0) .nil)) b_Reader_take_1
def fn_Reader_take : Fn := ⟨2, 3, b_Reader_take⟩

/-! Reader.name: self, word -/
def b_Reader_name_2 : Sms := .cons (.ret (.var 1)) .nil
def b_Reader_name_1 : Sms := .cons (.asg (.fld (.var 0) "too_large") (.or (.cons (.fld (.var 0) "too_large") (.cons (.cmp .Gt (.bf .len (.cons (.var 1) .nil)) (.int 8)) .nil)))) b_Reader_name_2
def b_Reader_name : Sms := .cons (.asg (.nm 1) (.meth "take" (.var 0) (.cons (.and (.cons (.call "is_word" (.cons (.meth "word" (.var 0) .nil) .nil)) (.cons (.cmp .NotIn (.meth "word" (.var 0) .nil) (.con "WORDS")) .nil))) .nil))) b_Reader_name_1
def fn_Reader_name : Fn := ⟨1, 2, b_Reader_name⟩

/-! Reader.number: self, word -/
def b_Reader_number_1t_1 : Sms := .cons (.ret (.bin .Add (.con "GREATEST") (.int 1))) .nil
def b_Reader_number_1t : Sms := .cons (.asg (.fld (.var 0) "too_large") (.bl true)) b_Reader_number_1t_1
def b_Reader_number_3 : Sms := .cons (.ret (.bf .int (.cons (.var 1) .nil))) .nil
def b_Reader_number_2 : Sms := .cons (.asg (.fld (.var 0) "too_large") (.or (.cons (.fld (.var 0) "too_large") (.cons (.cmp .Gt (.bf .abs (.cons (.bf .int (.cons (.var 1) .nil)) .nil)) (.con "GREATEST")) .nil)))) b_Reader_number_3
def b_Reader_number_1 : Sms := .cons (.ifs (.cmp .Gt (.bf .len (.cons (.var 1) .nil)) (.int 8)) b_Reader_number_1t .nil) b_Reader_number_2
def b_Reader_number : Sms := .cons (.asg (.nm 1) (.meth "take" (.var 0) (.cons (.call "is_number" (.cons (.meth "word" (.var 0) .nil) .nil)) .nil))) b_Reader_number_1
def fn_Reader_number : Fn := ⟨1, 2, b_Reader_number⟩

/-! Reader.expression: self, word, e -/
def b_Reader_expression_1t_0t : Sms := .cons (.ret (.tup (.cons (.str "num") (.cons (.meth "number" (.var 0) .nil) .nil)))) .nil
def b_Reader_expression_1t_1 : Sms := .cons (.ret (.tup (.cons (.str "name") (.cons (.meth "name" (.var 0) .nil) .nil)))) .nil
def b_Reader_expression_1t : Sms := .cons (.ifs (.call "is_number" (.cons (.var 1) .nil)) b_Reader_expression_1t_0t .nil) b_Reader_expression_1t_1
def b_Reader_expression_2t : Sms := .cons .never .nil
def b_Reader_expression_8 : Sms := .cons (.ret (.var 2)) .nil
def b_Reader_expression_7 : Sms := .cons (.faug (.var 0) "nested" .Sub (.int 1)) b_Reader_expression_8
def b_Reader_expression_6 : Sms := .cons (.exp (.meth "take" (.var 0) (.cons (.cmp .Eq (.meth "word" (.var 0) .nil) (.str ")")) .nil))) b_Reader_expression_7
def b_Reader_expression_5 : Sms := .cons (.asg (.nm 2) (.meth "compound" (.var 0) .nil)) b_Reader_expression_6
def b_Reader_expression_4 : Sms := .cons (.faug (.var 0) "at" .Add (.int 1)) b_Reader_expression_5
def b_Reader_expression_3 : Sms := .cons (.faug (.var 0) "nested" .Add (.int 1)) b_Reader_expression_4
def b_Reader_expression_2 : Sms := .cons (.ifs (.cmp .Eq (.fld (.var 0) "nested") (.con "MOST_NESTED")) b_Reader_expression_2t .nil) b_Reader_expression_3
def b_Reader_expression_1 : Sms := .cons (.ifs (.cmp .NotEq (.var 1) (.str "(")) b_Reader_expression_1t .nil) b_Reader_expression_2
def b_Reader_expression : Sms := .cons (.asg (.nm 1) (.meth "word" (.var 0) .nil)) b_Reader_expression_1
def fn_Reader_expression : Fn := ⟨1, 3, b_Reader_expression⟩

/-! Reader.compound: self, kind, parts, found, shape -/
def b_Reader_compound_1t_1b : Sms := .cons (.exp (.bm .append (.var 2) (.cons (.meth "expression" (.var 0) .nil) .nil))) .nil
def b_Reader_compound_1t_2 : Sms := .cons (.ret (.tup (.cons (.str "do") (.cons (.bf .tuple (.cons (.var 2) .nil)) .nil)))) .nil
def b_Reader_compound_1t_1 : Sms := .cons (.whl (.and (.cons (.cmp .NotEq (.meth "word" (.var 0) .nil) (.str ")")) (.cons (.cmp .NotEq (.meth "word" (.var 0) .nil) (.str "")) .nil))) b_Reader_compound_1t_1b) b_Reader_compound_1t_2
def b_Reader_compound_1t : Sms := .cons (.asg (.nm 2) (.lst .nil)) b_Reader_compound_1t_1
def b_Reader_compound_3b_0t : Sms := .cons (.exp (.bm .append (.var 3) (.cons (.meth "expression" (.var 0) .nil) .nil))) .nil
def b_Reader_compound_3b_0e_0t : Sms := .cons (.exp (.bm .append (.var 3) (.cons (.meth "name" (.var 0) .nil) .nil))) .nil
def b_Reader_compound_3b_0e_0e_0t : Sms := .cons (.exp (.bm .append (.var 3) (.cons (.meth "take" (.var 0) (.cons (.cmp .In (.meth "word" (.var 0) .nil) (.con "KINDS")) .nil)) .nil))) .nil
def b_Reader_compound_3b_0e_0e_0e : Sms := .cons (.exp (.bm .append (.var 3) (.cons (.meth "number" (.var 0) .nil) .nil))) .nil
def b_Reader_compound_3b_0e_0e : Sms := .cons (.ifs (.cmp .Eq (.var 4) (.str "k")) b_Reader_compound_3b_0e_0e_0t b_Reader_compound_3b_0e_0e_0e) .nil
def b_Reader_compound_3b_0e : Sms := .cons (.ifs (.cmp .Eq (.var 4) (.str "x")) b_Reader_compound_3b_0e_0t b_Reader_compound_3b_0e_0e) .nil
def b_Reader_compound_3b : Sms := .cons (.ifs (.cmp .Eq (.var 4) (.str "e")) b_Reader_compound_3b_0t b_Reader_compound_3b_0e) .nil
def b_Reader_compound_4 : Sms := .cons (.ret (.bf .tuple (.cons (.var 3) .nil))) .nil
def b_Reader_compound_3 : Sms := .cons (.for_ (.nm 4) (.seq (.sub (.con "SHAPES") (.var 1))) b_Reader_compound_3b) b_Reader_compound_4
def b_Reader_compound_2 : Sms := .cons (.asg (.nm 3) (.lst (.cons (.var 1) .nil))) b_Reader_compound_3
def b_Reader_compound_1 : Sms := .cons (.ifs (.cmp .Eq (.var 1) (.str "do")) b_Reader_compound_1t .nil) b_Reader_compound_2
def b_Reader_compound : Sms := .cons (.asg (.nm 1) (.meth "take" (.var 0) (.cons (.or (.cons (.cmp .In (.meth "word" (.var 0) .nil) (.con "SHAPES")) (.cons (.cmp .Eq (.meth "word" (.var 0) .nil) (.str "do")) .nil))) .nil))) b_Reader_compound_1
def fn_Reader_compound : Fn := ⟨1, 5, b_Reader_compound⟩

def fnsL : List (Str × Fn) := [(("is_name" : Str), fn_is_name), (("is_integer" : Str), fn_is_integer), (("expressions" : Str), fn_expressions), (("has_form" : Str), fn_has_form), (("is_allowed" : Str), fn_is_allowed), (("inner" : Str), fn_inner), (("is_well_formed" : Str), fn_is_well_formed), (("size" : Str), fn_size), (("height" : Str), fn_height), (("print_program" : Str), fn_print_program), (("words_of" : Str), fn_words_of), (("is_number" : Str), fn_is_number), (("is_word" : Str), fn_is_word), (("short" : Str), fn_short), (("tame" : Str), fn_tame), (("parse" : Str), fn_parse), (("_law_start" : Str), fn_law_start), (("_law_fill" : Str), fn_law_fill), (("_law_take" : Str), fn_law_take), (("_law_kinds" : Str), fn_law_kinds), (("_law_parts" : Str), fn_law_parts), (("_law_names" : Str), fn_law_names), (("_law_free" : Str), fn_law_free), (("_law_integer" : Str), fn_law_integer), (("_law_leaf" : Str), fn_law_leaf), (("_law_rule" : Str), fn_law_rule), (("_law_ask" : Str), fn_law_ask), (("_law_binding" : Str), fn_law_binding), (("_law_change" : Str), fn_law_change), (("_law_expression" : Str), fn_law_expression), (("_law_inner" : Str), fn_law_inner), (("_law_depth" : Str), fn_law_depth), (("_law_size" : Str), fn_law_size), (("_law_program" : Str), fn_law_program), (("_law_text" : Str), fn_law_text), (("_law_loose" : Str), fn_law_loose), (("law" : Str), fn_law)]
def clsL : List (Str × List (Str × Fn)) := [(("Reader" : Str), [(("__init__" : Str), fn_Reader_init), (("word" : Str), fn_Reader_word), (("fail" : Str), fn_Reader_fail), (("take" : Str), fn_Reader_take), (("name" : Str), fn_Reader_name), (("number" : Str), fn_Reader_number), (("expression" : Str), fn_Reader_expression), (("compound" : Str), fn_Reader_compound)])]
def conL : List (Str × D) := [(("KINDS" : Str), .tup [.str "num", .str "name", .str "fn", .str "call", .str "sum", .str "less", .str "if", .str "let", .str "say"]), (("PARTS" : Str), .cd 0), (("DONE" : Str), .cd 1), (("WORDS" : Str), .tup [.str "num", .str "name", .str "fn", .str "call", .str "sum", .str "less", .str "if", .str "let", .str "say", .str "rule", .str "keep", .str "part", .str "with", .str "usual", .str "do"]), (("LETTERS" : Str), .str "abcdefghijklmnopqrstuvwxyzABCDEFGHIJKLMNOPQRSTUVWXYZ"), (("DIGITS" : Str), .str "0123456789"), (("LENGTHS" : Str), .cd 2), (("GREATEST" : Str), .int 1000000), (("MOST_NESTED" : Str), .int 60), (("SHAPES" : Str), .cd 3)]
def cdsL : List (List (Str × D)) := [[(("num" : Str), .int 0), (("name" : Str), .int 0), (("fn" : Str), .int 0), (("call" : Str), .int 2), (("sum" : Str), .int 2), (("less" : Str), .int 2), (("if" : Str), .int 3), (("let" : Str), .int 1), (("say" : Str), .int 1)],
  [(("call" : Str), .int 2), (("sum" : Str), .int 2), (("less" : Str), .int 2), (("say" : Str), .int 1)],
  [(("num" : Str), .int 2), (("name" : Str), .int 2), (("fn" : Str), .int 3), (("call" : Str), .int 3), (("sum" : Str), .int 3), (("less" : Str), .int 3), (("if" : Str), .int 4), (("let" : Str), .int 4), (("say" : Str), .int 2), (("rule" : Str), .int 4), (("keep" : Str), .int 3), (("part" : Str), .int 2), (("with" : Str), .int 2), (("usual" : Str), .int 1), (("do" : Str), .int 2)],
  [(("fn" : Str), .str "xe"), (("call" : Str), .str "ee"), (("sum" : Str), .str "ee"), (("less" : Str), .str "ee"), (("if" : Str), .str "eee"), (("let" : Str), .str "xee"), (("say" : Str), .str "e"), (("rule" : Str), .str "kee"), (("keep" : Str), .str "ke"), (("part" : Str), .str "i"), (("with" : Str), .str "e"), (("usual" : Str), .str "")]]
def P : Pr := ⟨fnsL, clsL, conL, cdsL⟩
def fieldsL : List Str := [("at" : Str), ("words" : Str), ("end" : Str), ("nested" : Str), ("too_large" : Str)]
def T : Tx := ⟨[], fnsL.map (·.1), clsL.map (·.1), conL.map (·.1), fieldsL, []⟩
end K02
set_option Elab.async false
set_option linter.all false
set_option maxRecDepth 100000
/-! M22: the evaluator's equations as rules, and what is wanted of an evaluation. -/
namespace Mi
open PySem L2
/-- it ends well, and so -/
def Wp {α : Type} (r : R α) (Q : α → Sto → Prop) : Prop := match r with
  | .ok a s => Q a s
  | .bad => False
@[simp] theorem wp_ok {α : Type} (a : α) (s : Sto) (Q : α → Sto → Prop) : Wp (.ok a s) Q = Q a s := rfl
@[simp] theorem wp_bad {α : Type} (Q : α → Sto → Prop) : Wp (.bad : R α) Q = False := rfl
@[simp] theorem wp_bind {α β : Type} (r : R α) (f : α → Sto → R β) (Q : β → Sto → Prop) : Wp (r.bind f) Q = Wp r (fun a s => Wp (f a s) Q) := by cases r <;> rfl
theorem Wp.mono {α : Type} {r : R α} {Q Q' : α → Sto → Prop} (h : Wp r Q) (k : ∀ a s, Q a s → Q' a s) : Wp r Q' := by
  cases r with
  | ok a s => exact k a s h
  | bad => exact h
theorem Wp.ex {α : Type} {r : R α} {Q : α → Sto → Prop} (h : Wp r Q) : ∃ a s, r = .ok a s ∧ Q a s := by
  cases r with
  | ok a s => exact ⟨a, s, rfl, h⟩
  | bad => exact h.elim
theorem Wp.of {α : Type} {r : R α} {a : α} {s : Sto} {Q : α → Sto → Prop} (h : r = .ok a s) (q : Q a s) : Wp r Q := by
  rw [h]
  exact q
section
variable {C : Cxt} {e : En} {S : Sto}

def negD (x : D) (S : Sto) : R D := match x with
  | .int i => .ok (.int (-i)) S
  | _ => .bad
@[simp] theorem negD_int (i : Int) (S : Sto) : negD (.int i) S = .ok (.int (-i)) S := rfl
/-- go on if it is True -/
def thenD (z : D) (f : Sto → R D) (S : Sto) : R D := match z with
  | .bl true => f S
  | .bl false => .ok (.bl false) S
  | _ => .bad
def elseD (z : D) (f : Sto → R D) (S : Sto) : R D := match z with
  | .bl true => .ok (.bl true) S
  | .bl false => f S
  | _ => .bad
theorem thenD_bl (b : Bool) (f : Sto → R D) (S : Sto) : thenD (.bl b) f S = if b = true then f S else .ok (.bl false) S := by cases b <;> rfl
theorem elseD_bl (b : Bool) (f : Sto → R D) (S : Sto) : elseD (.bl b) f S = if b = true then .ok (.bl true) S else f S := by cases b <;> rfl
@[simp] theorem thenD_t (f : Sto → R D) (S : Sto) : thenD (.bl true) f S = f S := rfl
@[simp] theorem thenD_f (f : Sto → R D) (S : Sto) : thenD (.bl false) f S = .ok (.bl false) S := rfl
@[simp] theorem elseD_t (f : Sto → R D) (S : Sto) : elseD (.bl true) f S = .ok (.bl true) S := rfl
@[simp] theorem elseD_f (f : Sto → R D) (S : Sto) : elseD (.bl false) f S = f S := rfl
def notD (x : D) (S : Sto) : R D := match x with
  | .bl b => .ok (.bl (!b)) S
  | _ => .bad
@[simp] theorem notD_bl (b : Bool) (S : Sto) : notD (.bl b) S = .ok (.bl (!b)) S := rfl
noncomputable def methD (C : Cxt) (m : Str) (x : D) (es : Sto → R (List D)) (S1 : Sto) : R D := match x with
  | .ref a => match S1[a]? with
    | some (.ins c fs) => match fs.lookup m with
      | none => (es S1).bind fun vs S2 => C.meth c m (.ref a :: vs) S2
      | some _ => .bad
    | _ => .bad
  | _ => .bad
noncomputable def evP (C : Cxt) (a : E) (e : En) (S : Sto) : R (Option Int) := if isNop a = true then .ok none S else ((ev C a).v e S).bind fun l S2 => partR l S2
@[simp] theorem evP_nop : evP C .nop e S = .ok none S := rfl
theorem evP_some {a : E} (h : isNop a = false) : evP C a e S = ((ev C a).v e S).bind fun l S2 => partR l S2 := by
  unfold evP
  rw [h]
  rfl
@[simp] theorem evP_int (i : Int) : evP C (.int i) e S = ((ev C (.int i)).v e S).bind fun l S2 => partR l S2 := rfl
@[simp] theorem evP_var (i : Nat) : evP C (.var i) e S = ((ev C (.var i)).v e S).bind fun l S2 => partR l S2 := rfl
@[simp] theorem evP_neg (i : E) : evP C (.neg i) e S = ((ev C (.neg i)).v e S).bind fun l S2 => partR l S2 := rfl
@[simp] theorem evP_bin (op : Operator) (a b : E) : evP C (.bin op a b) e S = ((ev C (.bin op a b)).v e S).bind fun l S2 => partR l S2 := rfl
@[simp] theorem evP_bf (op : BF) (a : Es) : evP C (.bf op a) e S = ((ev C (.bf op a)).v e S).bind fun l S2 => partR l S2 := rfl
@[simp] theorem evP_sub (a b : E) : evP C (.sub a b) e S = ((ev C (.sub a b)).v e S).bind fun l S2 => partR l S2 := rfl
@[simp] theorem evP_fld (a : E) (f : Str) : evP C (.fld a f) e S = ((ev C (.fld a f)).v e S).bind fun l S2 => partR l S2 := rfl
@[simp] theorem evP_call (f : Str) (a : Es) : evP C (.call f a) e S = ((ev C (.call f a)).v e S).bind fun l S2 => partR l S2 := rfl
@[simp] theorem partR_int (i : Int) (S : Sto) : partR (.int i) S = .ok (some i) S := rfl
noncomputable def lcB (C : Cxt) (t : Tg) (own : List Nat) (c a : E) (e : En) : D → Sto → R (Option D) := fun x S2 => match setTg t x (wipeE e own) S2 with
  | none => .bad
  | some e2 => (if isNop c = true then .ok true S2 else (ev C c).t e2 S2).bind fun b S3 => if b = true then ((ev C a).v e2 S3).bind fun y S4 => .ok (some y) S4 else .ok none S3

@[simp] theorem v_var (i : Nat) : (ev C (.var i)).v e S = (optR ((e[i]?).bind id) S) := rfl
@[simp] theorem tt_var (i : Nat) : (ev C (.var i)).t e S = ((ev C (.var i)).v e S).bind fun x S1 => truthR x S1 := rfl
@[simp] theorem v_int (i : Int) : (ev C (.int i)).v e S = (.ok (.int i) S) := rfl
@[simp] theorem tt_int (i : Int) : (ev C (.int i)).t e S = ((ev C (.int i)).v e S).bind fun x S1 => truthR x S1 := rfl
@[simp] theorem v_str (s : Str) : (ev C (.str s)).v e S = (.ok (.str s) S) := rfl
@[simp] theorem tt_str (s : Str) : (ev C (.str s)).t e S = ((ev C (.str s)).v e S).bind fun x S1 => truthR x S1 := rfl
@[simp] theorem v_bl (b : Bool) : (ev C (.bl b)).v e S = (.ok (.bl b) S) := rfl
@[simp] theorem tt_bl (b : Bool) : (ev C (.bl b)).t e S = ((ev C (.bl b)).v e S).bind fun x S1 => truthR x S1 := rfl
@[simp] theorem v_non  : (ev C (.non)).v e S = (.ok .non S) := rfl
@[simp] theorem tt_non  : (ev C (.non)).t e S = ((ev C (.non)).v e S).bind fun x S1 => truthR x S1 := rfl
@[simp] theorem v_con (x : Str) : (ev C (.con x)).v e S = (optR (C.con x) S) := rfl
@[simp] theorem tt_con (x : Str) : (ev C (.con x)).t e S = ((ev C (.con x)).v e S).bind fun x S1 => truthR x S1 := rfl
@[simp] theorem v_bin (op : Operator) (a b : E) : (ev C (.bin op a b)).v e S = (((ev C a).v e S).bind fun x S1 => ((ev C b).v e S1).bind fun y S2 => binD op x y S2) := rfl
@[simp] theorem tt_bin (op : Operator) (a b : E) : (ev C (.bin op a b)).t e S = ((ev C (.bin op a b)).v e S).bind fun x S1 => truthR x S1 := rfl
@[simp] theorem v_neg (a : E) : (ev C (.neg a)).v e S = (((ev C a).v e S).bind fun x S1 => negD x S1) := rfl
@[simp] theorem tt_neg (a : E) : (ev C (.neg a)).t e S = ((ev C (.neg a)).v e S).bind fun x S1 => truthR x S1 := rfl
@[simp] theorem v_cmp (op : CmpOp) (a b : E) : (ev C (.cmp op a b)).v e S = (((ev C a).v e S).bind fun x S1 => ((ev C b).v e S1).bind fun y S2 => cmpD C.cds op x y S2) := rfl
@[simp] theorem tt_cmp (op : CmpOp) (a b : E) : (ev C (.cmp op a b)).t e S = ((ev C (.cmp op a b)).v e S).bind fun x S1 => truthR x S1 := rfl
@[simp] theorem v_chn (o1 o2 : CmpOp) (a b c : E) : (ev C (.chn o1 o2 a b c)).v e S = (((ev C a).v e S).bind fun x S1 => ((ev C b).v e S1).bind fun y S2 => (cmpD C.cds o1 x y S2).bind fun z S3 => thenD z (fun S => ((ev C c).v e S).bind fun w S4 => cmpD C.cds o2 y w S4) S3) := rfl
@[simp] theorem tt_chn (o1 o2 : CmpOp) (a b c : E) : (ev C (.chn o1 o2 a b c)).t e S = ((ev C (.chn o1 o2 a b c)).v e S).bind fun x S1 => truthR x S1 := rfl
@[simp] theorem v_ife (c a b : E) : (ev C (.ife c a b)).v e S = (((ev C c).t e S).bind fun t S1 => if t = true then (ev C a).v e S1 else (ev C b).v e S1) := rfl
@[simp] theorem tt_ife (c a b : E) : (ev C (.ife c a b)).t e S = ((ev C (.ife c a b)).v e S).bind fun x S1 => truthR x S1 := rfl
@[simp] theorem v_call (f : Str) (es : Es) : (ev C (.call f es)).v e S = ((evEs C es e S).bind fun vs S1 => C.call f vs S1) := rfl
@[simp] theorem tt_call (f : Str) (es : Es) : (ev C (.call f es)).t e S = ((ev C (.call f es)).v e S).bind fun x S1 => truthR x S1 := rfl
@[simp] theorem v_make (f : Str) (es : Es) : (ev C (.make f es)).v e S = ((evEs C es e S).bind fun vs S1 => C.make f vs S1) := rfl
@[simp] theorem tt_make (f : Str) (es : Es) : (ev C (.make f es)).t e S = ((ev C (.make f es)).v e S).bind fun x S1 => truthR x S1 := rfl
@[simp] theorem v_fld (o : E) (f : Str) : (ev C (.fld o f)).v e S = (((ev C o).v e S).bind fun x S1 => fldD x f S1) := rfl
@[simp] theorem tt_fld (o : E) (f : Str) : (ev C (.fld o f)).t e S = ((ev C (.fld o f)).v e S).bind fun x S1 => truthR x S1 := rfl
@[simp] theorem v_sub (a b : E) : (ev C (.sub a b)).v e S = (((ev C a).v e S).bind fun x S1 => ((ev C b).v e S1).bind fun y S2 => subD C.cds x y S2) := rfl
@[simp] theorem tt_sub (a b : E) : (ev C (.sub a b)).t e S = ((ev C (.sub a b)).v e S).bind fun x S1 => truthR x S1 := rfl
@[simp] theorem v_rev (a : E) : (ev C (.rev a)).v e S = (((ev C a).v e S).bind fun x S1 => revD x S1) := rfl
@[simp] theorem tt_rev (a : E) : (ev C (.rev a)).t e S = ((ev C (.rev a)).v e S).bind fun x S1 => truthR x S1 := rfl
@[simp] theorem v_tup (es : Es) : (ev C (.tup es)).v e S = ((evEs C es e S).bind fun vs S1 => .ok (.tup vs) S1) := rfl
@[simp] theorem tt_tup (es : Es) : (ev C (.tup es)).t e S = ((ev C (.tup es)).v e S).bind fun x S1 => truthR x S1 := rfl
@[simp] theorem v_lst (es : Es) : (ev C (.lst es)).v e S = ((evEs C es e S).bind fun vs S1 => .ok (.ref S1.length) (S1 ++ [.lst vs])) := rfl
@[simp] theorem tt_lst (es : Es) : (ev C (.lst es)).t e S = ((ev C (.lst es)).v e S).bind fun x S1 => truthR x S1 := rfl
@[simp] theorem v_dK  : (ev C (.dK)).v e S = (.ok (.ref S.length) (S ++ [.dK []])) := rfl
@[simp] theorem tt_dK  : (ev C (.dK)).t e S = ((ev C (.dK)).v e S).bind fun x S1 => truthR x S1 := rfl
@[simp] theorem v_dT  : (ev C (.dT)).v e S = (.ok (.ref S.length) (S ++ [.dT []])) := rfl
@[simp] theorem tt_dT  : (ev C (.dT)).t e S = ((ev C (.dT)).v e S).bind fun x S1 => truthR x S1 := rfl
@[simp] theorem v_bm (m : BM) (o : E) (es : Es) : (ev C (.bm m o es)).v e S = (((ev C o).v e S).bind fun x S1 => if bmPre m x S1 = true then (evEs C es e S1).bind fun vs S2 => bmD m x vs S2 else .bad) := rfl
@[simp] theorem tt_bm (m : BM) (o : E) (es : Es) : (ev C (.bm m o es)).t e S = ((ev C (.bm m o es)).v e S).bind fun x S1 => truthR x S1 := rfl
@[simp] theorem v_bf (f : BF) (es : Es) : (ev C (.bf f es)).v e S = ((evEs C es e S).bind fun vs S1 => bfD f vs S1) := rfl
@[simp] theorem tt_bf (f : BF) (es : Es) : (ev C (.bf f es)).t e S = ((ev C (.bf f es)).v e S).bind fun x S1 => truthR x S1 := rfl
@[simp] theorem v_isi (a : E) (ty : Ty) : (ev C (.isi a ty)).v e S = (((ev C a).v e S).bind fun x S1 => optR ((isiD ty x).map .bl) S1) := rfl
@[simp] theorem tt_isi (a : E) (ty : Ty) : (ev C (.isi a ty)).t e S = ((ev C (.isi a ty)).v e S).bind fun x S1 => truthR x S1 := rfl
@[simp] theorem v_meth (m : Str) (o : E) (es : Es) : (ev C (.meth m o es)).v e S = (((ev C o).v e S).bind fun x S1 => methD C m x (fun S => evEs C es e S) S1) := rfl
@[simp] theorem tt_meth (m : Str) (o : E) (es : Es) : (ev C (.meth m o es)).t e S = ((ev C (.meth m o es)).v e S).bind fun x S1 => truthR x S1 := rfl
@[simp] theorem v_slc (a lo hi : E) : (ev C (.slc a lo hi)).v e S = (((ev C a).v e S).bind fun x S1 => (evP C lo e S1).bind fun l S2 => (evP C hi e S2).bind fun h S3 => slcD x l h S3) := rfl
@[simp] theorem tt_slc (a lo hi : E) : (ev C (.slc a lo hi)).t e S = ((ev C (.slc a lo hi)).v e S).bind fun x S1 => truthR x S1 := rfl
@[simp] theorem v_lc (t : Tg) (it : I) (c a : E) (own : List Nat) : (ev C (.lc t it c a own)).v e S = ((evI C it e S).bind fun J S1 => (lcLoop J (lcB C t own c a e) S1.length J.items (S1 ++ [.lst []])).bind fun _ S5 => .ok (.ref S1.length) S5) := rfl
@[simp] theorem tt_lc (t : Tg) (it : I) (c a : E) (own : List Nat) : (ev C (.lc t it c a own)).t e S = ((ev C (.lc t it c a own)).v e S).bind fun x S1 => truthR x S1 := rfl
@[simp] theorem v_and2 (es : Es) : (ev C (.and es)).v e S = evAndV C es e S := rfl
@[simp] theorem t_and2 (es : Es) : (ev C (.and es)).t e S = evAnd C es e S := rfl
@[simp] theorem v_or2 (es : Es) : (ev C (.or es)).v e S = evOrV C es e S := rfl
@[simp] theorem t_or2 (es : Es) : (ev C (.or es)).t e S = evOr C es e S := rfl
@[simp] theorem v_not2 (a : E) : (ev C (.not a)).v e S = ((ev C a).v e S).bind fun x S1 => notD x S1 := rfl
@[simp] theorem t_not2 (a : E) : (ev C (.not a)).t e S = ((ev C a).t e S).bind fun b S1 => .ok (!b) S1 := rfl
@[simp] theorem es_nil : evEs C .nil e S = .ok [] S := rfl
@[simp] theorem es_cons2 (a : E) (as : Es) : evEs C (.cons a as) e S = ((ev C a).v e S).bind fun x S1 => (evEs C as e S1).bind fun xs S2 => .ok (x :: xs) S2 := rfl
@[simp] theorem and_nil : evAnd C .nil e S = .ok true S := rfl
@[simp] theorem and_cons (a : E) (as : Es) : evAnd C (.cons a as) e S = ((ev C a).t e S).bind fun b S1 => if b = true then evAnd C as e S1 else .ok false S1 := rfl
@[simp] theorem or_nil : evOr C .nil e S = .ok false S := rfl
@[simp] theorem or_cons (a : E) (as : Es) : evOr C (.cons a as) e S = ((ev C a).t e S).bind fun b S1 => if b = true then .ok true S1 else evOr C as e S1 := rfl
@[simp] theorem andV_one (a : E) : evAndV C (.cons a .nil) e S = (ev C a).v e S := rfl
@[simp] theorem andV_cons (a b : E) (as : Es) : evAndV C (.cons a (.cons b as)) e S = ((ev C a).v e S).bind fun x S1 => thenD x (fun S => evAndV C (.cons b as) e S) S1 := rfl
@[simp] theorem orV_one (a : E) : evOrV C (.cons a .nil) e S = (ev C a).v e S := rfl
@[simp] theorem orV_cons (a b : E) (as : Es) : evOrV C (.cons a (.cons b as)) e S = ((ev C a).v e S).bind fun x S1 => elseD x (fun S => evOrV C (.cons b as) e S) S1 := rfl
@[simp] theorem i_seq (a : E) : evI C (.seq a) e S = ((ev C a).v e S).bind fun x S1 => seqIt x S1 := rfl
@[simp] theorem i_rng (as : Es) : evI C (.rng as) e S = (evEs C as e S).bind fun x S1 => rngIt x S1 := rfl
@[simp] theorem i_enum (a : E) : evI C (.enum a) e S = ((ev C a).v e S).bind fun x S1 => enumIt x S1 := rfl
/-- what follows a statement -/
def goR (o : Out) (f : En → Sto → R Out) (S : Sto) : R Out := match o with
  | .nx e2 => f e2 S
  | .ret v => .ok (.ret v) S
  | .cnt e2 => .ok (.cnt e2) S
@[simp] theorem goR_nx (e2 : En) (f : En → Sto → R Out) (S : Sto) : goR (.nx e2) f S = f e2 S := rfl
@[simp] theorem goR_ret (v : D) (f : En → Sto → R Out) (S : Sto) : goR (.ret v) f S = .ok (.ret v) S := rfl
@[simp] theorem goR_cnt (e2 : En) (f : En → Sto → R Out) (S : Sto) : goR (.cnt e2) f S = .ok (.cnt e2) S := rfl
@[simp] theorem ss_nil : evSs C .nil e S = .ok (.nx e) S := rfl
theorem ss_cons (s : Sm) (ss : Sms) : evSs C (.cons s ss) e S = (evS C s e S).bind fun o S1 => goR o (fun e2 S => evSs C ss e2 S) S1 := rfl
@[simp] theorem s_exp (a : E) : evS C (.exp a) e S = ((ev C a).v e S).bind fun _ S1 => .ok (.nx e) S1 := rfl
@[simp] theorem s_asg (t : T) (a : E) : evS C (.asg t a) e S = ((ev C a).v e S).bind fun v S1 => (setT C t v e S1).bind fun e2 S2 => .ok (.nx e2) S2 := rfl
@[simp] theorem s_par (i j : Nat) (a b : E) : evS C (.par i j a b) e S = ((ev C a).v e S).bind fun x S1 => ((ev C b).v e S1).bind fun y S2 =>
      if i < e.length ∧ j < e.length then .ok (.nx ((e.set i (some x)).set j (some y))) S2 else .bad := rfl
@[simp] theorem s_augE (i : Nat) (op : Operator) (a : E) : evS C (.aug i op a) e S = (optR ((e[i]?).bind id) S).bind fun x S0 => ((ev C a).v e S0).bind fun y S1 => (augD op x y S1).bind fun z S2 => .ok (.nx (e.set i (some z))) S2 := rfl
@[simp] theorem s_faugE (o : E) (f : Str) (op : Operator) (a : E) : evS C (.faug o f op a) e S = ((ev C o).v e S).bind fun x S1 => (fldD x f S1).bind fun v S2 => ((ev C a).v e S2).bind fun y S3 =>
      (augD op v y S3).bind fun z S4 => if clsD x S4 = clsD x S2 then (setF x f z S4).bind fun _ S5 => .ok (.nx e) S5 else .bad := rfl
@[simp] theorem s_ifs (c : E) (a b : Sms) : evS C (.ifs c a b) e S = ((ev C c).t e S).bind fun t S1 => if t = true then evSs C a e S1 else evSs C b e S1 := rfl
@[simp] theorem s_whl (c : E) (b : Sms) : evS C (.whl c b) e S = whileX (ev C c).t (evSs C b) e S := rfl
@[simp] theorem s_forE (t : Tg) (it : I) (b : Sms) : evS C (.for_ t it b) e S = (evI C it e S).bind fun J S1 => forL J t (evSs C b) J.items e S1 := rfl
@[simp] theorem s_retE (a : E) : evS C (.ret a) e S = ((ev C a).v e S).bind fun v S1 => .ok (.ret v) S1 := rfl
@[simp] theorem s_retNE : evS C .retN e S = .ok (.ret .non) S := rfl
@[simp] theorem s_pasE : evS C .pas e S = .ok (.nx e) S := rfl
@[simp] theorem s_cntE : evS C .cnt e S = .ok (.cnt e) S := rfl
@[simp] theorem setT_nm (i : Nat) (v : D) : setT C (.nm i) v e S = optR (setTg (.nm i) v e S) S := rfl
@[simp] theorem setT_tp (i : List Nat) (v : D) : setT C (.tp i) v e S = optR (setTg (.tp i) v e S) S := rfl
@[simp] theorem setT_fld (o : E) (f : Str) (v : D) : setT C (.fld o f) v e S = ((ev C o).v e S).bind fun x S1 => (setF x f v S1).bind fun _ S2 => .ok e S2 := rfl
@[simp] theorem setT_sub (o i : E) (v : D) : setT C (.sub o i) v e S = ((ev C o).v e S).bind fun x S1 => ((ev C i).v e S1).bind fun y S2 => (setD x y v S2).bind fun _ S3 => .ok e S3 := rfl
@[simp] theorem setTg_nm (i : Nat) (v : D) : setTg (.nm i) v e S = if i < e.length then some (e.set i (some v)) else none := rfl
theorem wp_ss {s : Sm} {ss : Sms} {Q : Out → Sto → Prop} (h : Wp (evS C s e S) fun o S1 => Wp (goR o (fun e2 S => evSs C ss e2 S) S1) Q) : Wp (evSs C (.cons s ss) e S) Q := by
  rw [ss_cons, wp_bind]
  exact h
theorem wp_if {c : Bool} {A B : R Out} {Q : Out → Sto → Prop} (h1 : c = true → Wp A Q) (h2 : c = false → Wp B Q) : Wp (if c = true then A else B) Q := by
  cases c
  · exact h2 rfl
  · exact h1 rfl
theorem wp_ifp {c : Prop} [Decidable c] {α : Type} {A B : R α} {Q : α → Sto → Prop} (h1 : c → Wp A Q) (h2 : ¬ c → Wp B Q) : Wp (if c then A else B) Q := by
  by_cases h : c
  · rw [if_pos h]
    exact h1 h
  · rw [if_neg h]
    exact h2 h
/-! ### values -/
@[simp] theorem truthR_non : truthR .non S = .ok false S := rfl
@[simp] theorem truthR_bl (b : Bool) : truthR (.bl b) S = .ok b S := rfl
@[simp] theorem truthR_int (i : Int) : truthR (.int i) S = .ok (i != 0) S := rfl
@[simp] theorem truthR_tup (xs : List D) : truthR (.tup xs) S = .ok (!xs.isEmpty) S := rfl
@[simp] theorem truthR_lit (xs : List D) : truthR (.lit xs) S = .ok (!xs.isEmpty) S := rfl
theorem truthR_lst {i : Nat} {xs : List D} (h : S[i]? = some (.lst xs)) : truthR (.ref i) S = .ok (!xs.isEmpty) S := by
  unfold truthR truth
  simp only [h]
theorem truthR_dK {i : Nat} {xs : List (Key × D)} (h : S[i]? = some (.dK xs)) : truthR (.ref i) S = .ok (!xs.isEmpty) S := by
  unfold truthR truth
  simp only [h]
theorem truthR_str {x : Str} (h : x.length ≤ sizeLine) : truthR (.str x) S = .ok ((x.length : Int) != 0) S := by
  unfold truthR truth
  simp only [h, if_true]
@[simp] theorem add_int (i j : Int) : binD .Add (.int i) (.int j) S = .ok (.int (i + j)) S := rfl
@[simp] theorem sub_int (i j : Int) : binD .Sub (.int i) (.int j) S = .ok (.int (i - j)) S := rfl
theorem mul_int {i j : Int} (h : CMul i j) : binD .Mult (.int i) (.int j) S = .ok (.int (i * j)) S := by
  unfold binD
  simp only [h, if_true]
theorem fdiv_int {i j : Int} (h : CDiv i j) : binD .FloorDiv (.int i) (.int j) S = .ok (.int (i / j)) S := by
  unfold binD
  simp only [h, if_true]
theorem mod_int {i j : Int} (h : 0 < j) : binD .Mod (.int i) (.int j) S = .ok (.int (i % j)) S := by
  unfold binD
  simp only [h, if_true]
theorem pow_int {i j : Int} (h : CPow i j) : binD .Pow (.int i) (.int j) S = .ok (.int (i ^ j.toNat)) S := by
  unfold binD
  simp only [h, if_true]
@[simp] theorem add_tup (xs ys : List D) : binD .Add (.tup xs) (.tup ys) S = if xs.length + ys.length ≤ sizeLine then .ok (.tup (xs ++ ys)) S else .bad := rfl
@[simp] theorem add_str (xs ys : Str) : binD .Add (.str xs) (.str ys) S = if xs.length + ys.length ≤ sizeLine then .ok (.str (xs ++ ys)) S else .bad := rfl
theorem add_lst {a b : Nat} {xs ys : List D} (h : S[a]? = some (.lst xs)) (h' : S[b]? = some (.lst ys)) : binD .Add (.ref a) (.ref b) S = if xs.length + ys.length ≤ sizeLine then .ok (.ref S.length) (S ++ [.lst (xs ++ ys)]) else .bad := by
  unfold binD addD
  simp only [h, h']
variable {cds : Nat → List (Str × D)}
@[simp] theorem eq_int (i j : Int) : cmpD cds .Eq (.int i) (.int j) S = .ok (.bl (decide (i = j))) S := rfl
@[simp] theorem eq_str (i j : Str) : cmpD cds .Eq (.str i) (.str j) S = .ok (.bl (decide (i = j))) S := rfl
@[simp] theorem ne_int (i j : Int) : cmpD cds .NotEq (.int i) (.int j) S = .ok (.bl (!decide (i = j))) S := rfl
@[simp] theorem ne_str (i j : Str) : cmpD cds .NotEq (.str i) (.str j) S = .ok (.bl (!decide (i = j))) S := rfl
@[simp] theorem lt_int (i j : Int) : cmpD cds .Lt (.int i) (.int j) S = .ok (.bl (decide (i < j))) S := rfl
@[simp] theorem le_int (i j : Int) : cmpD cds .LtE (.int i) (.int j) S = .ok (.bl (decide (i ≤ j))) S := rfl
@[simp] theorem gt_int (i j : Int) : cmpD cds .Gt (.int i) (.int j) S = .ok (.bl (decide (j < i))) S := rfl
@[simp] theorem ge_int (i j : Int) : cmpD cds .GtE (.int i) (.int j) S = .ok (.bl (decide (j ≤ i))) S := rfl
theorem is_non (x : D) : cmpD cds .Is x .non S = .ok (.bl (match x with | .non => true | _ => false)) S := by cases x <;> rfl
theorem isnot_non (x : D) : cmpD cds .IsNot x .non S = .ok (.bl (match x with | .non => false | _ => true)) S := by cases x <;> rfl
@[simp] theorem is_bl (a b : Bool) : cmpD cds .Is (.bl a) (.bl b) S = .ok (.bl (decide (a = b))) S := rfl
@[simp] theorem isnot_bl (a b : Bool) : cmpD cds .IsNot (.bl a) (.bl b) S = .ok (.bl (!decide (a = b))) S := rfl
theorem in_lst {neg : Bool} {x : D} {i : Nat} {ys : List D} (h : S[i]? = some (.lst ys)) (hx : flat x = true) (hf : ys.all flat = true) : inD cds neg x (.ref i) S = .ok (.bl (if neg then !(ys.any fun y => eqF y x) else ys.any fun y => eqF y x)) S := by
  cases x with
  | str a =>
    unfold inD dget
    simp only [h]
    rw [if_pos ⟨rfl, hf⟩]
  | _ => first
    | (cases hx; done)
    | (unfold inD dget
       simp only [h]
       rw [if_pos ⟨rfl, hf⟩])
theorem sub_lst {i : Nat} {xs : List D} {j : Int} (h : S[i]? = some (.lst xs)) : subD cds (.ref i) (.int j) S = optR (atI xs j) S := by
  unfold subD itemsD
  simp only [h]
@[simp] theorem sub_tup {xs : List D} {j : Int} : subD cds (.tup xs) (.int j) S = optR (atI xs j) S := rfl
@[simp] theorem sub_lit {xs : List D} {j : Int} : subD cds (.lit xs) (.int j) S = optR (atI xs j) S := rfl
theorem len_lst {i : Nat} {xs : List D} (h : S[i]? = some (.lst xs)) : bfD .len [.ref i] S = .ok (.int xs.length) S := by
  unfold bfD
  simp only [h]
@[simp] theorem len_tup {xs : List D} : bfD .len [.tup xs] S = .ok (.int xs.length) S := rfl
@[simp] theorem int_int {i : Int} : bfD .int [.int i] S = .ok (.int i) S := rfl
@[simp] theorem int_bl {i : Bool} : bfD .int [.bl i] S = .ok (.int (if i then 1 else 0)) S := rfl
theorem atI_nat {α : Type} (xs : List α) (n : Nat) : atI xs (n : Int) = xs[n]? := by
  unfold atI ixN
  rw [if_pos (by omega)]
  by_cases h : n < xs.length
  · rw [if_pos (by omega)]
    simp
  · rw [if_neg (by omega), List.getElem?_eq_none (by omega)]
    rfl
@[simp] theorem atI_0 {α : Type} (xs : List α) : atI xs 0 = xs[0]? := atI_nat xs 0
@[simp] theorem atI_1 {α : Type} (xs : List α) : atI xs 1 = xs[1]? := atI_nat xs 1
@[simp] theorem atI_2 {α : Type} (xs : List α) : atI xs 2 = xs[2]? := atI_nat xs 2
@[simp] theorem atI_3 {α : Type} (xs : List α) : atI xs 3 = xs[3]? := atI_nat xs 3
@[simp] theorem atI_4 {α : Type} (xs : List α) : atI xs 4 = xs[4]? := atI_nat xs 4
@[simp] theorem atI_5 {α : Type} (xs : List α) : atI xs 5 = xs[5]? := atI_nat xs 5
@[simp] theorem atI_6 {α : Type} (xs : List α) : atI xs 6 = xs[6]? := atI_nat xs 6
@[simp] theorem atI_7 {α : Type} (xs : List α) : atI xs 7 = xs[7]? := atI_nat xs 7
@[simp] theorem atI_8 {α : Type} (xs : List α) : atI xs 8 = xs[8]? := atI_nat xs 8
@[simp] theorem atI_9 {α : Type} (xs : List α) : atI xs 9 = xs[9]? := atI_nat xs 9
@[simp] theorem atI_10 {α : Type} (xs : List α) : atI xs 10 = xs[10]? := atI_nat xs 10
@[simp] theorem atI_11 {α : Type} (xs : List α) : atI xs 11 = xs[11]? := atI_nat xs 11
@[simp] theorem atI_12 {α : Type} (xs : List α) : atI xs 12 = xs[12]? := atI_nat xs 12
@[simp] theorem atI_13 {α : Type} (xs : List α) : atI xs 13 = xs[13]? := atI_nat xs 13
@[simp] theorem atI_14 {α : Type} (xs : List α) : atI xs 14 = xs[14]? := atI_nat xs 14
@[simp] theorem atI_15 {α : Type} (xs : List α) : atI xs 15 = xs[15]? := atI_nat xs 15
theorem atI_pos {α : Type} {xs : List α} {i : Int} (h : 0 ≤ i) : atI xs i = xs[i.toNat]? := by
  obtain ⟨n, rfl⟩ := Int.eq_ofNat_of_zero_le h
  exact atI_nat xs n
theorem setD_at {a : Nat} {xs : List D} {n : Nat} {v : D} (h : S[a]? = some (.lst xs)) (hn : n < xs.length) : setD (.ref a) (.int (n : Int)) v S = .ok () (S.set a (.lst (xs.set n v))) := by
  have hj : ixN xs.length (n : Int) = some n := by
    unfold ixN
    rw [if_pos (by omega), if_pos (by omega)]
    simp
  unfold setD
  simp only [h, hj]
theorem setD_lst {a : Nat} {xs : List D} {j : Int} {v : D} {n : Nat} (h : S[a]? = some (.lst xs)) (hj : ixN xs.length j = some n) : setD (.ref a) (.int j) v S = .ok () (S.set a (.lst (xs.set n v))) := by
  unfold setD
  simp only [h, hj]
theorem append_lst {a : Nat} {xs : List D} {v : D} (h : S[a]? = some (.lst xs)) (hl : xs.length < sizeLine) : bmD .append (.ref a) [v] S = .ok .non (S.set a (.lst (xs ++ [v]))) := by
  unfold bmD
  simp only [h, hl, if_true]
theorem pre_lst2 {m : BM} {a : Nat} {xs : List D} (h : S[a]? = some (.lst xs)) (hm : m = .append ∨ m = .extend ∨ m = .pop ∨ m = .lindex) : bmPre m (.ref a) S = true := by
  rcases hm with rfl | rfl | rfl | rfl <;> (unfold bmPre; simp only [h])
end
/-! ### calls -/
theorem call_fn {P : Pr} {k : Nat} {f : Str} {fn : Fn} {vs : List D} {S : Sto} (h : P.fns.lookup f = some fn) : (cxt P (k + 1)).call f vs S = runF (cxt P k) fn vs S := by
  show (match P.fns.lookup f with | some fn => _ | none => _) = _
  rw [h]
def outV (o : Out) (S : Sto) : R D := match o with
  | .nx _ => .ok .non S
  | .ret v => .ok v S
  | .cnt _ => .bad
@[simp] theorem outV_nx (e : En) (S : Sto) : outV (.nx e) S = .ok .non S := rfl
@[simp] theorem outV_ret (v : D) (S : Sto) : outV (.ret v) S = .ok v S := rfl
theorem run_fn2 {C : Cxt} {fn : Fn} {vs : List D} {S : Sto} (h : vs.length = fn.np) : runF C fn vs S = (evSs C fn.body (startE fn.nn vs) S).bind fun o S1 => outV o S1 := by
  unfold runF
  rw [if_pos h]
  rfl
end Mi
set_option Elab.async false
set_option linter.all false
set_option maxRecDepth 100000
set_option maxHeartbeats 1000000
/-! M23: drawing from the script: start, fill, take. -/
namespace Mi
open PySem L2
def fillB : Sms :=
  (.cons (.asg (.sub (.var 0) (.int 3)) (.bin .Add (.sub (.var 0) (.int 3)) (.int 1)))
  (.cons (.asg (.nm 1) (.bin .Add (.bin .Mult (.sub (.var 0) (.int 3)) (.int 69621)) (.int 12345)))
  (.cons (.ifs (.cmp .Lt (.sub (.var 0) (.int 1)) (.bf .len (.cons (.sub (.var 0) (.int 0)) .nil))) (.cons (.asg (.nm 1) (.sub (.sub (.var 0) (.int 0)) (.sub (.var 0) (.int 1))))
  (.cons (.asg (.sub (.var 0) (.int 1)) (.bin .Add (.sub (.var 0) (.int 1)) (.int 1)))
  (.cons (.ifs (.cmp .Lt (.var 1) (.int 0)) (.cons (.asg (.nm 1) (.bin .Sub (.bin .Sub (.int 0) (.int 1)) (.var 1)))
  .nil) .nil)
  (.cons (.ifs (.cmp .GtE (.var 1) (.bin .Pow (.int 10) (.int 18))) (.cons (.ret (.var 1))
  .nil) .nil)
  .nil)))) .nil)
  (.cons (.ifs (.and (.cons (.sub (.var 0) (.int 0)) (.cons (.cmp .GtE (.sub (.var 0) (.int 1)) (.bf .len (.cons (.sub (.var 0) (.int 0)) .nil))) .nil))) (.cons (.asg (.nm 1) (.bin .Add (.var 1) (.bin .Mod (.bf .int (.cons (.sub (.sub (.var 0) (.int 0)) (.neg (.int 1))) .nil)) (.int 1000003))))
  .nil) .nil)
  (.cons (.asg (.nm 1) (.bin .Mod (.bf .int (.cons (.bin .Add (.bin .Mult (.var 1) (.int 48271)) (.bin .Mult (.sub (.var 0) (.int 3)) (.int 69621))) .nil)) (.int 2147483647)))
  (.cons (.ret (.bin .Add (.bin .Mod (.bf .int (.cons (.bin .Add (.bin .Add (.bin .Mult (.var 1) (.var 1)) (.bin .Mult (.sub (.var 0) (.int 3)) (.int 7919))) (.int 11)) .nil)) (.int 2305843009213693951)) (.int 2305843009213693951)))
  .nil))))))
def takeB : Sms :=
  (.cons (.ifs (.cmp .Lt (.sub (.var 0) (.int 2)) (.var 1)) (.cons (.asg (.sub (.var 0) (.int 2)) (.call "_law_fill" (.cons (.var 0) .nil)))
  .nil) .nil)
  (.cons (.asg (.nm 2) (.bin .Mod (.bf .int (.cons (.sub (.var 0) (.int 2)) .nil)) (.var 1)))
  (.cons (.asg (.sub (.var 0) (.int 2)) (.bin .FloorDiv (.sub (.var 0) (.int 2)) (.var 1)))
  (.cons (.ret (.var 2))
  .nil))))
/-- the drawing state: the list at ic, the script's list at is -/
structure Dr (S : Sto) (ic is : Nat) (xs : List Int) (pos acc cnt bud : Int) (nm : D) : Prop where
  c : S[ic]? = some (.lst [.ref is, .int pos, .int acc, .int cnt, .int bud, nm])
  s : S[is]? = some (.lst (xs.map .int))
  pos0 : 0 ≤ pos
  ne : ic ≠ is
section
variable {C : Cxt} {S : Sto} {ic is : Nat} {xs : List Int} {pos acc cnt bud : Int} {nm : D}
theorem Dr.lt (h : Dr S ic is xs pos acc cnt bud nm) : ic < S.length := (List.getElem?_eq_some_iff.mp h.c).1
theorem Dr.set (h : Dr S ic is xs pos acc cnt bud nm) {pos' acc' cnt' bud' : Int} {nm' : D} (hp : 0 ≤ pos') : Dr (S.set ic (.lst [.ref is, .int pos', .int acc', .int cnt', .int bud', nm'])) ic is xs pos' acc' cnt' bud' nm' :=
  ⟨by rw [List.getElem?_set_self h.lt], by rw [List.getElem?_set_ne h.ne]; exact h.s, hp, h.ne⟩
theorem Dr.put1 (h : Dr S ic is xs pos acc cnt bud nm) (v : D) : setD (.ref ic) (.int 1) v S = .ok () (S.set ic (.lst [.ref is, v, .int acc, .int cnt, .int bud, nm])) := setD_lst (n := 1) h.c rfl
theorem Dr.put2 (h : Dr S ic is xs pos acc cnt bud nm) (v : D) : setD (.ref ic) (.int 2) v S = .ok () (S.set ic (.lst [.ref is, .int pos, v, .int cnt, .int bud, nm])) := setD_lst (n := 2) h.c rfl
theorem Dr.put3 (h : Dr S ic is xs pos acc cnt bud nm) (v : D) : setD (.ref ic) (.int 3) v S = .ok () (S.set ic (.lst [.ref is, .int pos, .int acc, v, .int bud, nm])) := setD_lst (n := 3) h.c rfl
theorem Dr.put4 (h : Dr S ic is xs pos acc cnt bud nm) (v : D) : setD (.ref ic) (.int 4) v S = .ok () (S.set ic (.lst [.ref is, .int pos, .int acc, .int cnt, v, nm])) := setD_lst (n := 4) h.c rfl
theorem Dr.put5 (h : Dr S ic is xs pos acc cnt bud nm) (v : D) : setD (.ref ic) (.int 5) v S = .ok () (S.set ic (.lst [.ref is, .int pos, .int acc, .int cnt, .int bud, v])) := setD_lst (n := 5) h.c rfl
theorem cmul_r {i j : Int} (h : -(2 ^ 64) < j) (h2 : j < 2 ^ 64) : CMul i j := .inr ⟨h, h2⟩
theorem atI_last {xs : List Int} (h : xs ≠ []) : ∃ n, atI (xs.map D.int) (-1) = some (.int n) := by
  unfold atI ixN
  have hl : 0 < xs.length := List.length_pos_iff.mpr h
  rw [if_neg (by omega), if_pos (by simp; omega)]
  simp only [Option.bind_some, List.length_map]
  have : (-1 + (xs.length : Int)).toNat < (xs.map D.int).length := by
    simp
    omega
  rw [List.getElem?_eq_getElem this]
  exact ⟨_, by rw [List.getElem_map]⟩
/-- the last two rows of fill -/
theorem fill_last (n : Int) {Q : Out → Sto → Prop} (h : Dr S ic is xs pos acc cnt bud nm) (q : ∀ n, Q (.ret (.int n)) S) : Wp (evSs C (.cons (.asg (.nm 1) (.bin .Mod (.bf .int (.cons (.bin .Add (.bin .Mult (.var 1) (.int 48271)) (.bin .Mult (.sub (.var 0) (.int 3)) (.int 69621))) .nil)) (.int 2147483647)))
  (.cons (.ret (.bin .Add (.bin .Mod (.bf .int (.cons (.bin .Add (.bin .Add (.bin .Mult (.var 1) (.var 1)) (.bin .Mult (.sub (.var 0) (.int 3)) (.int 7919))) (.int 11)) .nil)) (.int 2305843009213693951)) (.int 2305843009213693951)))
  .nil)) [some (.ref ic), some (.int n)] S) Q := by
  refine wp_ss ?_
  simp [sub_lst h.c, mul_int (cmul_r (j := 48271) (by omega) (by omega)), mul_int (cmul_r (j := 69621) (by omega) (by omega)), mod_int (j := 2147483647) (by omega)]
  refine wp_ss ?_
  have hb := Int.emod_nonneg (n * 48271 + cnt * 69621) (b := 2147483647) (by omega)
  have hb2 := Int.emod_lt_of_pos (n * 48271 + cnt * 69621) (b := 2147483647) (by omega)
  simp [sub_lst h.c, mul_int (cmul_r (j := 7919) (by omega) (by omega)), mul_int (cmul_r (i := (n * 48271 + cnt * 69621) % 2147483647) (j := (n * 48271 + cnt * 69621) % 2147483647) (by omega) (by omega)), mod_int (j := 2305843009213693951) (by omega)]
  exact q _
/-- the last three rows -/
theorem fill_end {n : Int} {Q : Out → Sto → Prop} (h : Dr S ic is xs pos acc cnt bud nm) (q : ∀ n, Q (.ret (.int n)) S) : Wp (evSs C (.cons (.ifs (.and (.cons (.sub (.var 0) (.int 0)) (.cons (.cmp .GtE (.sub (.var 0) (.int 1)) (.bf .len (.cons (.sub (.var 0) (.int 0)) .nil))) .nil))) (.cons (.asg (.nm 1) (.bin .Add (.var 1) (.bin .Mod (.bf .int (.cons (.sub (.sub (.var 0) (.int 0)) (.neg (.int 1))) .nil)) (.int 1000003))))
  .nil) .nil)
  (.cons (.asg (.nm 1) (.bin .Mod (.bf .int (.cons (.bin .Add (.bin .Mult (.var 1) (.int 48271)) (.bin .Mult (.sub (.var 0) (.int 3)) (.int 69621))) .nil)) (.int 2147483647)))
  (.cons (.ret (.bin .Add (.bin .Mod (.bf .int (.cons (.bin .Add (.bin .Add (.bin .Mult (.var 1) (.var 1)) (.bin .Mult (.sub (.var 0) (.int 3)) (.int 7919))) (.int 11)) .nil)) (.int 2305843009213693951)) (.int 2305843009213693951)))
  .nil))) [some (.ref ic), some (.int n)] S) Q := by
  refine wp_ss ?_
  by_cases hx : xs = []
  · have hx2 : (xs.map D.int).isEmpty = true := by simp [hx]
    simp [sub_lst h.c, truthR_lst h.s, hx2]
    exact fill_last n h q
  · have hx2 : (xs.map D.int).isEmpty = false := by simpa using hx
    simp [sub_lst h.c, truthR_lst h.s, hx2, len_lst h.s]
    by_cases hp : (xs.length : Int) ≤ pos
    · obtain ⟨m, hm⟩ := atI_last hx
      simp [hp]
      refine wp_ss ?_
      simp [sub_lst h.c, sub_lst h.s, hm, mod_int (j := 1000003) (by omega)]
      exact fill_last _ h q
    · simp [hp]
      exact fill_last n h q
theorem fill_body {Q : Out → Sto → Prop} (h : Dr S ic is xs pos acc cnt bud nm) (q : ∀ n pos', 0 ≤ pos' → Q (.ret (.int n)) (S.set ic (.lst [.ref is, .int pos', .int acc, .int (cnt + 1), .int bud, nm]))) : Wp (evSs C fillB [some (.ref ic), none] S) Q := by
  unfold fillB
  refine wp_ss ?_
  simp [sub_lst h.c, h.put3]
  have h1 := h.set (pos' := pos) (acc' := acc) (cnt' := cnt + 1) (bud' := bud) (nm' := nm) h.pos0
  have q1 := fun n => q n pos h.pos0
  have e0 : ∀ (a b c d e f : D) (a' b' c' d' e' f' : D), (S.set ic (.lst [a, b, c, d, e, f])).set ic (.lst [a', b', c', d', e', f']) = S.set ic (.lst [a', b', c', d', e', f']) := fun _ _ _ _ _ _ _ _ _ _ _ _ => List.set_set ..
  have hp1 : 0 ≤ pos + 1 := by
    have := h.pos0
    omega
  have q2 := fun n => q n (pos + 1) hp1
  rw [← e0 (.ref is) (.int pos) (.int acc) (.int (cnt + 1)) (.int bud) nm] at q2
  generalize hS1 : S.set ic (.lst [.ref is, .int pos, .int acc, .int (cnt + 1), .int bud, nm]) = S1 at h1 q1 q2 ⊢
  refine wp_ss ?_
  simp [sub_lst h1.c, mul_int (cmul_r (j := 69621) (by omega) (by omega))]
  refine wp_ss ?_
  simp [sub_lst h1.c, len_lst h1.s]
  by_cases hp : pos < (xs.length : Int)
  · simp [hp]
    refine wp_ss ?_
    obtain ⟨m, hm⟩ : ∃ m, atI (xs.map D.int) pos = some (.int m) := by
      rw [atI_pos h.pos0]
      have hl : pos.toNat < (xs.map D.int).length := by
        have := h.pos0
        simp
        omega
      rw [List.getElem?_eq_getElem hl]
      exact ⟨_, by rw [List.getElem_map]⟩
    simp [sub_lst h1.c, sub_lst h1.s, hm]
    refine wp_ss ?_
    simp [sub_lst h1.c, h1.put1]
    have h2 := h1.set (pos' := pos + 1) (acc' := acc) (cnt' := cnt + 1) (bud' := bud) (nm' := nm) hp1
    generalize hS2 : S1.set ic (.lst [.ref is, .int (pos + 1), .int acc, .int (cnt + 1), .int bud, nm]) = S2 at h2 q2 ⊢
    have tail : ∀ (m : Int) (Q : Out → Sto → Prop), Q (.ret (.int m)) S2 → Q (.nx [some (.ref ic), some (.int m)]) S2 → Wp (evSs C (.cons (.ifs (.cmp .GtE (.var 1) (.bin .Pow (.int 10) (.int 18))) (.cons (.ret (.var 1)) .nil) .nil) .nil) [some (.ref ic), some (.int m)] S2) Q := by
      intro m Q q3 q4
      refine wp_ss ?_
      simp [pow_int (i := 10) (j := 18) ⟨by omega, by omega, by decide⟩]
      refine wp_ifp (fun _ => ?_) fun _ => ?_
      · refine wp_ss ?_
        simpa using q3
      · simpa using q4
    refine wp_ss ?_
    simp
    refine wp_ifp (fun _ => ?_) fun _ => ?_
    · refine wp_ss ?_
      simp
      exact tail _ _ (q2 _) (fill_end h2 q2)
    · simp
      exact tail _ _ (q2 _) (fill_end h2 q2)
  · simp [hp]
    exact fill_end h1 q1
end
end Mi
set_option Elab.async false
set_option linter.all false
set_option maxRecDepth 100000
set_option maxHeartbeats 1000000
/-! M24: a draw as its callers see it. -/
namespace Mi
open PySem L2
/-- the drawing state, its counters not told -/
def Gs (S : Sto) (ic is : Nat) (xs : List Int) (bud : Int) (nm : D) : Prop := ∃ pos acc cnt, Dr S ic is xs pos acc cnt bud nm
/-- the store has grown; what stood stands, but for the list at ic -/
structure Grow (ic : Nat) (S S' : Sto) : Prop where
  len : S.length ≤ S'.length
  same : ∀ i, i < S.length → i ≠ ic → S'[i]? = S[i]?
section
variable {ic is : Nat} {S S' S2 : Sto} {xs : List Int} {bud : Int} {nm : D}
theorem Grow.refl : Grow ic S S := ⟨Nat.le_refl _, fun _ _ _ => rfl⟩
theorem Grow.trans (a : Grow ic S S') (b : Grow ic S' S2) : Grow ic S S2 := ⟨Nat.le_trans a.len b.len, fun i h1 h2 => (b.same i (Nat.lt_of_lt_of_le h1 a.len) h2).trans (a.same i h1 h2)⟩
theorem Grow.app {o : O} : Grow ic S (S ++ [o]) := ⟨by simp, fun i h _ => List.getElem?_append_left h⟩
theorem Grow.set {o : O} : Grow ic S (S.set ic o) := ⟨by simp, fun i _ h => List.getElem?_set_ne (Ne.symm h)⟩
theorem Grow.at (g : Grow ic S S') {i : Nat} {o : O} (h : S[i]? = some o) (hi : i ≠ ic) : S'[i]? = some o := by rw [g.same i (List.getElem?_eq_some_iff.mp h).1 hi, h]
theorem lt_of {i : Nat} {o : O} (h : S[i]? = some o) : i < S.length := (List.getElem?_eq_some_iff.mp h).1
theorem Gs.lt (h : Gs S ic is xs bud nm) : ic < S.length := let ⟨_, _, _, h⟩ := h; h.lt
theorem Gs.app {o : O} (h : Gs S ic is xs bud nm) : Gs (S ++ [o]) ic is xs bud nm := by
  obtain ⟨p, a, c, h⟩ := h
  exact ⟨p, a, c, by rw [List.getElem?_append_left h.lt]; exact h.c, by rw [List.getElem?_append_left (lt_of h.s)]; exact h.s, h.pos0, h.ne⟩
theorem new_at {o : O} : (S ++ [o])[S.length]? = some o := by simp
theorem new_ne (h : Gs S ic is xs bud nm) : S.length ≠ ic := Nat.ne_of_gt h.lt
/-- the drawing defs of a law -/
structure Drawn (P : Pr) : Prop where
  fill : P.fns.lookup ("_law_fill" : Str) = some ⟨1, 2, fillB⟩
  take : P.fns.lookup ("_law_take" : Str) = some ⟨2, 3, takeB⟩
theorem take_call {P : Pr} (hD : Drawn P) {k : Nat} {many : Int} {Q : D → Sto → Prop} (h : Gs S ic is xs bud nm) (hm : 0 < many) (hm2 : many < 1073741824)
    (q : ∀ d S', 0 ≤ d → d < many → Gs S' ic is xs bud nm → Grow ic S S' → Q (.int d) S') : Wp ((cxt P (k + 2)).call "_law_take" [.ref ic, .int many] S) Q := by
  obtain ⟨pos, acc, cnt, h⟩ := h
  rw [call_fn hD.take, run_fn2 rfl, wp_bind]
  show Wp (evSs (cxt P (k + 1)) takeB [some (.ref ic), some (.int many), none] S) _
  have last : ∀ {S1 : Sto} {pos acc cnt : Int}, Dr S1 ic is xs pos acc cnt bud nm → Grow ic S S1 → Wp (evSs (cxt P (k + 1)) (.cons (.asg (.nm 2) (.bin .Mod (.bf .int (.cons (.sub (.var 0) (.int 2)) .nil)) (.var 1)))
      (.cons (.asg (.sub (.var 0) (.int 2)) (.bin .FloorDiv (.sub (.var 0) (.int 2)) (.var 1)))
      (.cons (.ret (.var 2)) .nil))) [some (.ref ic), some (.int many), none] S1) fun o S => Wp (outV o S) Q := by
    intro S1 pos acc cnt h1 g
    refine wp_ss ?_
    simp [sub_lst h1.c, mod_int hm]
    refine wp_ss ?_
    simp [sub_lst h1.c, fdiv_int (i := acc) (j := many) ⟨hm, hm2⟩, h1.put2]
    refine wp_ss ?_
    simp
    exact q _ _ (Int.emod_nonneg _ (by omega)) (Int.emod_lt_of_pos _ hm) ⟨_, _, _, h1.set (pos' := pos) (acc' := acc / many) (cnt' := cnt) (bud' := bud) (nm' := nm) h1.pos0⟩ (g.trans .set)
  unfold takeB
  refine wp_ss ?_
  simp [sub_lst h.c]
  refine wp_ifp (fun _ => ?_) fun _ => ?_
  · refine wp_ss ?_
    simp
    rw [call_fn hD.fill, run_fn2 rfl, wp_bind]
    refine fill_body h fun n pos' hp => ?_
    have h2 := h.set (pos' := pos') (acc' := acc) (cnt' := cnt + 1) (bud' := bud) (nm' := nm) hp
    simp [h2.put2]
    exact last (h.set (pos' := pos') (acc' := n) (cnt' := cnt + 1) (bud' := bud) (nm' := nm) hp) .set
  · simp
    exact last h .refl
end
end Mi
set_option Elab.async false
set_option linter.all false
set_option maxRecDepth 100000
set_option maxHeartbeats 1000000
/-! M25: the programs that are drawn. -/
namespace Mi
open PySem L2
namespace Gen
def kindsB : Sms := .cons (.ret (.lst (.cons (.str "num") (.cons (.str "name") (.cons (.str "fn") (.cons (.str "call") (.cons (.str "sum") (.cons (.str "less") (.cons (.str "if") (.cons (.str "let") (.cons (.str "say") .nil))))))))))) .nil
def kindsF : Fn := ⟨0, 0, kindsB⟩
def partsB : Sms := .cons (.ret (.sub (.lst (.cons (.int 0) (.cons (.int 0) (.cons (.int 0) (.cons (.int 2) (.cons (.int 2) (.cons (.int 2) (.cons (.int 3) (.cons (.int 1) (.cons (.int 1) .nil)))))))))) (.bm .lindex (.call "_law_kinds" .nil) (.cons (.var 0) .nil)))) .nil
def partsF : Fn := ⟨1, 1, partsB⟩
def namesB_2b : Sms := .cons (.asg (.nm 2) (.bin .Add (.var 2) (.sub (.var 1) (.call "_law_take" (.cons (.var 0) (.cons (.sub (.lst (.cons (.int 62) (.cons (.int 52) .nil))) (.bf .int (.cons (.cmp .Eq (.var 2) (.str "")) .nil))) .nil)))))) .nil
def namesB_6b_1t : Sms := .cons (.exp (.bm .append (.var 6) (.cons (.var 7) .nil))) .nil
def namesB_6b_1 : Sms := .cons (.ifs (.and (.cons (.cmp .NotIn (.sub (.var 7) (.int 0)) (.str "0123456789")) (.cons (.cmp .NotIn (.var 7) (.var 6)) (.cons (.call "_law_free" (.cons (.var 7) .nil)) .nil)))) namesB_6b_1t .nil) .nil
def namesB_6b : Sms := .cons (.asg (.nm 7) (.bin .Add (.var 2) (.sub (.var 1) (.bin .Mod (.bf .int (.cons (.bin .Add (.var 4) (.bin .Mult (.var 3) (.var 5))) .nil)) (.int 62))))) namesB_6b_1
def namesB_7 : Sms := .cons (.ret (.slc (.var 6) .nop (.int 10))) .nil
def namesB_6 : Sms := .cons (.for_ (.nm 3) (.rng (.cons (.int 62) .nil)) namesB_6b) namesB_7
def namesB_5 : Sms := .cons (.asg (.nm 6) (.lst .nil)) namesB_6
def namesB_4 : Sms := .cons (.asg (.nm 5) (.bin .Add (.int 1) (.call "_law_take" (.cons (.var 0) (.cons (.int 5) .nil))))) namesB_5
def namesB_3 : Sms := .cons (.asg (.nm 4) (.call "_law_take" (.cons (.var 0) (.cons (.int 62) .nil)))) namesB_4
def namesB_2 : Sms := .cons (.for_ (.nm 3) (.rng (.cons (.sub (.lst (.cons (.int 0) (.cons (.int 0) (.cons (.int 1) (.cons (.int 3) (.cons (.int 6) .nil)))))) (.call "_law_take" (.cons (.var 0) (.cons (.int 5) .nil)))) .nil)) namesB_2b) namesB_3
def namesB_1 : Sms := .cons (.asg (.nm 2) (.str "")) namesB_2
def namesB : Sms := .cons (.asg (.nm 1) (.str "abcdefghijklmnopqrstuvwxyzABCDEFGHIJKLMNOPQRSTUVWXYZ0123456789")) namesB_1
def namesF : Fn := ⟨1, 8, namesB⟩
def freeB : Sms := .cons (.ret (.cmp .NotIn (.var 0) (.bin .Add (.call "_law_kinds" .nil) (.lst (.cons (.str "rule") (.cons (.str "keep") (.cons (.str "part") (.cons (.str "with") (.cons (.str "usual") (.cons (.str "do") .nil)))))))))) .nil
def freeF : Fn := ⟨1, 1, freeB⟩
def integerB : Sms := .cons (.ret (.sub (.lst (.cons (.bin .Sub (.call "_law_take" (.cons (.var 0) (.cons (.int 5) .nil))) (.int 1)) (.cons (.bin .Sub (.call "_law_take" (.cons (.var 0) (.cons (.int 5) .nil))) (.int 1)) (.cons (.call "_law_take" (.cons (.var 0) (.cons (.int 100) .nil))) (.cons (.bin .Sub (.call "_law_take" (.cons (.var 0) (.cons (.int 2000001) .nil))) (.int 1000000)) .nil))))) (.call "_law_take" (.cons (.var 0) (.cons (.int 4) .nil))))) .nil
def integerF : Fn := ⟨1, 1, integerB⟩
def leafB_1t : Sms := .cons (.ret (.tup (.cons (.str "name") (.cons (.sub (.var 1) (.call "_law_take" (.cons (.var 0) (.cons (.bf .len (.cons (.var 1) .nil)) .nil)))) .nil)))) .nil
def leafB_2t_0t : Sms := .cons (.ret (.tup (.cons (.str "part") (.cons (.call "_law_take" (.cons (.var 0) (.cons (.call "_law_parts" (.cons (.var 2) .nil)) .nil))) .nil)))) .nil
def leafB_2t_1 : Sms := .cons (.ret (.tup (.cons (.str "usual") .nil))) .nil
def leafB_2t : Sms := .cons (.ifs (.and (.cons (.cmp .Gt (.call "_law_parts" (.cons (.var 2) .nil)) (.int 0)) (.cons (.cmp .Lt (.var 3) (.int 2)) .nil))) leafB_2t_0t .nil) leafB_2t_1
def leafB_3 : Sms := .cons (.ret (.tup (.cons (.str "num") (.cons (.call "_law_integer" (.cons (.var 0) .nil)) .nil)))) .nil
def leafB_2 : Sms := .cons (.ifs (.and (.cons (.cmp .IsNot (.var 2) .non) (.cons (.cmp .Lt (.var 3) (.int 3)) .nil))) leafB_2t .nil) leafB_3
def leafB_1 : Sms := .cons (.ifs (.and (.cons (.var 1) (.cons (.cmp .Gt (.var 3) (.int 1)) .nil))) leafB_1t .nil) leafB_2
def leafB : Sms := .cons (.asg (.nm 3) (.call "_law_take" (.cons (.var 0) (.cons (.int 4) .nil)))) leafB_1
def leafF : Fn := ⟨3, 4, leafB⟩
def ruleB_1t : Sms := .cons (.ret (.tup (.cons (.str "usual") .nil))) .nil
def ruleB_2t : Sms := .cons (.ret (.tup (.cons (.str "say") (.cons (.tup (.cons (.str "usual") .nil)) .nil)))) .nil
def ruleB_3t_2 : Sms := .cons (.ret (.tup (.cons (.str "let") (.cons (.var 5) (.cons (.tup (.cons (.str "num") (.cons (.call "_law_take" (.cons (.var 0) (.cons (.int 9) .nil))) .nil))) (.cons (.tup (.cons (.str "let") (.cons (.var 6) (.cons (.tup (.cons (.str "say") (.cons (.tup (.cons (.str "name") (.cons (.var 5) .nil))) .nil))) (.cons (.tup (.cons (.str "usual") .nil)) .nil))))) .nil)))))) .nil
def ruleB_3t_1 : Sms := .cons (.asg (.tp [5, 6]) (.slc (.sub (.var 0) (.int 5)) (.int 7) (.int 9))) ruleB_3t_2
def ruleB_3t : Sms := .cons (.asg (.sub (.var 0) (.int 4)) (.bin .Sub (.sub (.var 0) (.int 4)) (.int 5))) ruleB_3t_1
def ruleB_4 : Sms := .cons (.ret (.call "_law_expression" (.cons (.var 0) (.cons (.bin .Add (.var 1) (.int 1)) (.cons (.lst .nil) (.cons (.var 2) (.cons (.var 3) .nil))))))) .nil
def ruleB_3 : Sms := .cons (.ifs (.cmp .Eq (.var 4) (.int 2)) ruleB_3t .nil) ruleB_4
def ruleB_2 : Sms := .cons (.ifs (.cmp .Eq (.var 4) (.int 1)) ruleB_2t .nil) ruleB_3
def ruleB_1 : Sms := .cons (.ifs (.cmp .Eq (.var 4) (.int 0)) ruleB_1t .nil) ruleB_2
def ruleB : Sms := .cons (.asg (.nm 4) (.call "_law_take" (.cons (.var 0) (.cons (.int 6) .nil)))) ruleB_1
def ruleF : Fn := ⟨4, 7, ruleB⟩
def askB_0t : Sms := .cons (.ret (.tup (.cons (.str "do") (.cons (.tup (.cons (.call "_law_expression" (.cons (.var 0) (.cons (.var 1) (.cons (.var 2) (.cons (.var 3) (.cons (.var 4) .nil)))))) (.cons (.call "_law_expression" (.cons (.var 0) (.cons (.var 1) (.cons (.var 2) (.cons (.var 3) (.cons (.var 4) .nil)))))) .nil))) .nil)))) .nil
def askB_1t : Sms := .cons (.ret (.tup (.cons (.str "do") (.cons (.tup (.cons (.call "_law_expression" (.cons (.var 0) (.cons (.var 1) (.cons (.var 2) (.cons (.var 3) (.cons (.var 4) .nil)))))) .nil)) .nil)))) .nil
def askB_2t : Sms := .cons (.ret (.tup (.cons (.str "with") (.cons (.call "_law_expression" (.cons (.var 0) (.cons (.var 1) (.cons (.var 2) (.cons (.var 3) (.cons (.var 4) .nil)))))) .nil)))) .nil
def askB_3 : Sms := .cons (.ret (.call "_law_leaf" (.cons (.var 0) (.cons (.lst .nil) (.cons (.var 3) .nil))))) .nil
def askB_2 : Sms := .cons (.ifs (.and (.cons (.cmp .Eq (.var 3) (.str "let")) (.cons (.cmp .Eq (.call "_law_take" (.cons (.var 0) (.cons (.int 2) .nil))) (.int 0)) .nil))) askB_2t .nil) askB_3
def askB_1 : Sms := .cons (.ifs (.and (.cons (.cmp .Eq (.var 3) (.str "say")) (.cons (.cmp .Eq (.call "_law_take" (.cons (.var 0) (.cons (.int 2) .nil))) (.int 0)) .nil))) askB_1t .nil) askB_2
def askB : Sms := .cons (.ifs (.and (.cons (.cmp .In (.var 3) (.lst (.cons (.str "call") (.cons (.str "sum") (.cons (.str "less") .nil))))) (.cons (.cmp .Eq (.call "_law_take" (.cons (.var 0) (.cons (.int 2) .nil))) (.int 0)) .nil))) askB_0t .nil) askB_1
def askF : Fn := ⟨5, 5, askB⟩
def bindingB_2t : Sms := .cons (.ret (.tup (.cons (.str "fn") (.cons (.var 6) (.cons (.var 7) .nil))))) .nil
def bindingB_3t : Sms := .cons (.ret (.tup (.cons (.str "call") (.cons (.tup (.cons (.str "fn") (.cons (.var 6) (.cons (.var 7) .nil)))) (.cons (.call "_law_expression" (.cons (.var 0) (.cons (.var 2) (.cons (.var 3) (.cons (.var 4) (.cons (.bin .Sub (.var 5) (.int 1)) .nil)))))) .nil))))) .nil
def bindingB_6 : Sms := .cons (.ret (.tup (.cons (.str "let") (.cons (.var 8) (.cons (.tup (.cons (.str "fn") (.cons (.var 6) (.cons (.var 7) .nil)))) (.cons (.sub (.lst (.cons (.var 9) (.cons (.tup (.cons (.str "call") (.cons (.tup (.cons (.str "name") (.cons (.var 8) .nil))) (.cons (.var 9) .nil)))) .nil))) (.call "_law_take" (.cons (.var 0) (.cons (.int 2) .nil)))) .nil)))))) .nil
def bindingB_5 : Sms := .cons (.asg (.nm 9) (.call "_law_expression" (.cons (.var 0) (.cons (.var 2) (.cons (.bin .Add (.var 3) (.lst (.cons (.var 8) .nil))) (.cons (.var 4) (.cons (.bin .Sub (.var 5) (.int 1)) .nil))))))) bindingB_6
def bindingB_4 : Sms := .cons (.asg (.nm 8) (.sub (.sub (.var 0) (.int 5)) (.bin .Add (.int 3) (.call "_law_take" (.cons (.var 0) (.cons (.int 3) .nil)))))) bindingB_5
def bindingB_3 : Sms := .cons (.ifs (.cmp .Eq (.call "_law_take" (.cons (.var 0) (.cons (.int 2) .nil))) (.int 0)) bindingB_3t .nil) bindingB_4
def bindingB_2 : Sms := .cons (.ifs (.cmp .Eq (.var 1) (.int 16)) bindingB_2t .nil) bindingB_3
def bindingB_1 : Sms := .cons (.asg (.nm 7) (.call "_law_expression" (.cons (.var 0) (.cons (.var 2) (.cons (.bin .Add (.var 3) (.lst (.cons (.var 6) .nil))) (.cons (.var 4) (.cons (.bin .Sub (.var 5) (.int 1)) .nil))))))) bindingB_2
def bindingB : Sms := .cons (.asg (.nm 6) (.sub (.sub (.var 0) (.int 5)) (.call "_law_take" (.cons (.var 0) (.cons (.int 3) .nil))))) bindingB_1
def bindingF : Fn := ⟨6, 10, bindingB⟩
def changeB_2t : Sms := .cons (.ret (.tup (.cons (.str "let") (.cons (.sub (.sub (.var 0) (.int 5)) (.int 9)) (.cons (.tup (.cons (.str "keep") (.cons (.var 6) (.cons (.var 7) .nil)))) (.cons (.call "_law_expression" (.cons (.var 0) (.cons (.var 2) (.cons (.bin .Add (.var 3) (.lst (.cons (.sub (.sub (.var 0) (.int 5)) (.int 9)) .nil))) (.cons (.var 4) (.cons (.bin .Sub (.var 5) (.int 1)) .nil)))))) .nil)))))) .nil
def changeB_3t : Sms := .cons (.ret (.tup (.cons (.str "keep") (.cons (.var 6) (.cons (.var 7) .nil))))) .nil
def changeB_4 : Sms := .cons (.ret (.tup (.cons (.str "rule") (.cons (.var 6) (.cons (.var 7) (.cons (.call "_law_expression" (.cons (.var 0) (.cons (.var 2) (.cons (.var 3) (.cons (.var 4) (.cons (.bin .Sub (.var 5) (.int 1)) .nil)))))) .nil)))))) .nil
def changeB_3 : Sms := .cons (.ifs (.cmp .Eq (.var 1) (.int 17)) changeB_3t .nil) changeB_4
def changeB_2 : Sms := .cons (.ifs (.cmp .Eq (.var 1) (.int 13)) changeB_2t .nil) changeB_3
def changeB_1 : Sms := .cons (.asg (.nm 7) (.call "_law_rule" (.cons (.var 0) (.cons (.var 2) (.cons (.var 6) (.cons (.bin .Sub (.var 5) (.int 1)) .nil)))))) changeB_2
def changeB : Sms := .cons (.asg (.nm 6) (.sub (.call "_law_kinds" .nil) (.call "_law_take" (.cons (.var 0) (.cons (.int 9) .nil))))) changeB_1
def changeF : Fn := ⟨6, 8, changeB⟩
def expressionB_2t : Sms := .cons (.ret (.call "_law_leaf" (.cons (.var 0) (.cons (.var 2) (.cons (.var 3) .nil))))) .nil
def expressionB_3t : Sms := .cons (.ret (.call "_law_ask" (.cons (.var 0) (.cons (.var 1) (.cons (.var 2) (.cons (.var 3) (.cons (.bin .Sub (.var 4) (.int 1)) .nil))))))) .nil
def expressionB_4t : Sms := .cons (.ret (.call "_law_binding" (.cons (.var 0) (.cons (.var 5) (.cons (.var 1) (.cons (.var 2) (.cons (.var 3) (.cons (.var 4) .nil)))))))) .nil
def expressionB_5t : Sms := .cons (.ret (.call "_law_change" (.cons (.var 0) (.cons (.var 5) (.cons (.var 1) (.cons (.var 2) (.cons (.var 3) (.cons (.var 4) .nil)))))))) .nil
def expressionB_7t : Sms := .cons (.ret (.tup (.cons (.sub (.lst (.cons (.str "sum") (.cons (.str "less") (.cons (.str "sum") .nil)))) (.bin .Sub (.var 5) (.int 5))) (.cons (.var 6) (.cons (.call "_law_expression" (.cons (.var 0) (.cons (.var 1) (.cons (.var 2) (.cons (.var 3) (.cons (.bin .Sub (.var 4) (.int 1)) .nil)))))) .nil))))) .nil
def expressionB_8t_1 : Sms := .cons (.ret (.tup (.cons (.str "if") (.cons (.var 6) (.cons (.var 7) (.cons (.call "_law_expression" (.cons (.var 0) (.cons (.var 1) (.cons (.var 2) (.cons (.var 3) (.cons (.bin .Sub (.var 4) (.int 1)) .nil)))))) .nil)))))) .nil
def expressionB_8t : Sms := .cons (.asg (.nm 7) (.call "_law_expression" (.cons (.var 0) (.cons (.var 1) (.cons (.var 2) (.cons (.var 3) (.cons (.bin .Sub (.var 4) (.int 1)) .nil))))))) expressionB_8t_1
def expressionB_9t_1 : Sms := .cons (.ret (.tup (.cons (.str "let") (.cons (.var 8) (.cons (.var 6) (.cons (.call "_law_expression" (.cons (.var 0) (.cons (.var 1) (.cons (.bin .Add (.var 2) (.lst (.cons (.var 8) .nil))) (.cons (.var 3) (.cons (.bin .Sub (.var 4) (.int 1)) .nil)))))) .nil)))))) .nil
def expressionB_9t : Sms := .cons (.asg (.nm 8) (.sub (.sub (.var 0) (.int 5)) (.sub (.lst (.cons (.int 0) (.cons (.int 1) (.cons (.int 2) (.cons (.int 6) .nil))))) (.call "_law_take" (.cons (.var 0) (.cons (.int 4) .nil)))))) expressionB_9t_1
def expressionB_10t : Sms := .cons (.ret (.tup (.cons (.str "say") (.cons (.var 6) .nil)))) .nil
def expressionB_11 : Sms := .cons (.ret (.tup (.cons (.str "call") (.cons (.var 6) (.cons (.call "_law_expression" (.cons (.var 0) (.cons (.var 1) (.cons (.var 2) (.cons (.var 3) (.cons (.bin .Sub (.var 4) (.int 1)) .nil)))))) .nil))))) .nil
def expressionB_10 : Sms := .cons (.ifs (.cmp .Eq (.var 5) (.int 11)) expressionB_10t .nil) expressionB_11
def expressionB_9 : Sms := .cons (.ifs (.cmp .Lt (.var 5) (.int 11)) expressionB_9t .nil) expressionB_10
def expressionB_8 : Sms := .cons (.ifs (.cmp .Eq (.var 5) (.int 8)) expressionB_8t .nil) expressionB_9
def expressionB_7 : Sms := .cons (.ifs (.cmp .Lt (.var 5) (.int 8)) expressionB_7t .nil) expressionB_8
def expressionB_6 : Sms := .cons (.asg (.nm 6) (.call "_law_expression" (.cons (.var 0) (.cons (.var 1) (.cons (.var 2) (.cons (.var 3) (.cons (.bin .Sub (.var 4) (.int 1)) .nil))))))) expressionB_7
def expressionB_5 : Sms := .cons (.ifs (.and (.cons (.cmp .In (.var 5) (.lst (.cons (.int 13) (.cons (.int 14) (.cons (.int 15) (.cons (.int 17) .nil)))))) (.cons (.cmp .Lt (.var 1) (.int 3)) .nil))) expressionB_5t .nil) expressionB_6
def expressionB_4 : Sms := .cons (.ifs (.or (.cons (.cmp .Lt (.var 5) (.int 5)) (.cons (.cmp .Eq (.var 5) (.int 16)) .nil))) expressionB_4t .nil) expressionB_5
def expressionB_3 : Sms := .cons (.ifs (.and (.cons (.cmp .In (.var 5) (.lst (.cons (.int 2) (.cons (.int 3) .nil)))) (.cons (.cmp .IsNot (.var 3) .non) .nil))) expressionB_3t .nil) expressionB_4
def expressionB_2 : Sms := .cons (.ifs (.or (.cons (.cmp .Lt (.var 4) (.int 1)) (.cons (.cmp .Lt (.sub (.var 0) (.int 4)) (.int 1)) (.cons (.cmp .Lt (.var 5) (.int 2)) .nil)))) expressionB_2t .nil) expressionB_3
def expressionB_1 : Sms := .cons (.asg (.nm 5) (.call "_law_take" (.cons (.var 0) (.cons (.int 18) .nil)))) expressionB_2
def expressionB : Sms := .cons (.asg (.sub (.var 0) (.int 4)) (.bin .Sub (.sub (.var 0) (.int 4)) (.int 1))) expressionB_1
def expressionF : Fn := ⟨5, 9, expressionB⟩
def innerB_0t : Sms := .cons (.ret (.sub (.var 0) (.int 1))) .nil
def innerB_1 : Sms := .cons (.ret (.lc (.nm 1) (.seq (.slc (.var 0) (.int 1) .nop)) (.isi (.var 1) .tup) (.var 1) [1])) .nil
def innerB : Sms := .cons (.ifs (.cmp .Eq (.sub (.var 0) (.int 0)) (.str "do")) innerB_0t .nil) innerB_1
def innerF : Fn := ⟨1, 2, innerB⟩
def depthB : Sms := .cons (.ret (.bin .Add (.int 1) (.bf .max (.cons (.bin .Add (.lst (.cons (.int 0) .nil)) (.lc (.nm 1) (.seq (.call "_law_inner" (.cons (.var 0) .nil))) .nop (.call "_law_depth" (.cons (.var 1) .nil)) [1])) .nil)))) .nil
def depthF : Fn := ⟨1, 2, depthB⟩
def sizeB : Sms := .cons (.ret (.bin .Add (.int 1) (.bf .sum (.cons (.lc (.nm 1) (.seq (.call "_law_inner" (.cons (.var 0) .nil))) .nop (.call "_law_size" (.cons (.var 1) .nil)) [1]) .nil)))) .nil
def sizeF : Fn := ⟨1, 2, sizeB⟩
def programB_3t : Sms := .cons (.ret (.tup (.cons (.str "say") (.cons (.tup (.cons (.str "num") (.cons (.call "_law_integer" (.cons (.var 0) .nil)) .nil))) .nil)))) .nil
def programB_4 : Sms := .cons (.ret (.var 1)) .nil
def programB_3 : Sms := .cons (.ifs (.or (.cons (.cmp .Gt (.call "_law_depth" (.cons (.var 1) .nil)) (.int 10)) (.cons (.cmp .Gt (.call "_law_size" (.cons (.var 1) .nil)) (.int 60)) .nil))) programB_3t .nil) programB_4
def programB_2 : Sms := .cons (.asg (.nm 1) (.call "_law_expression" (.cons (.var 0) (.cons (.int 0) (.cons (.lst .nil) (.cons .non (.cons (.bin .Add (.int 3) (.call "_law_take" (.cons (.var 0) (.cons (.int 4) .nil)))) .nil))))))) programB_3
def programB_1 : Sms := .cons (.asg (.sub (.var 0) (.int 4)) (.bin .Add (.int 14) (.call "_law_take" (.cons (.var 0) (.cons (.int 10) .nil))))) programB_2
def programB : Sms := .cons (.asg (.sub (.var 0) (.int 5)) (.call "_law_names" (.cons (.var 0) .nil))) programB_1
def programF : Fn := ⟨1, 2, programB⟩
end Gen
/-- the defs that draw a program -/
structure Gens (P : Pr) : Prop extends Drawn P where
  kinds : P.fns.lookup ("_law_kinds" : Str) = some Gen.kindsF
  parts : P.fns.lookup ("_law_parts" : Str) = some Gen.partsF
  names : P.fns.lookup ("_law_names" : Str) = some Gen.namesF
  free : P.fns.lookup ("_law_free" : Str) = some Gen.freeF
  integer : P.fns.lookup ("_law_integer" : Str) = some Gen.integerF
  leaf : P.fns.lookup ("_law_leaf" : Str) = some Gen.leafF
  rule : P.fns.lookup ("_law_rule" : Str) = some Gen.ruleF
  ask : P.fns.lookup ("_law_ask" : Str) = some Gen.askF
  binding : P.fns.lookup ("_law_binding" : Str) = some Gen.bindingF
  change : P.fns.lookup ("_law_change" : Str) = some Gen.changeF
  expression : P.fns.lookup ("_law_expression" : Str) = some Gen.expressionF
  inner : P.fns.lookup ("_law_inner" : Str) = some Gen.innerF
  depth : P.fns.lookup ("_law_depth" : Str) = some Gen.depthF
  size : P.fns.lookup ("_law_size" : Str) = some Gen.sizeF
  program : P.fns.lookup ("_law_program" : Str) = some Gen.programF
/-! ### programs -/
inductive Ex where
  | num (n : Int) | name (x : Str) | fn (x : Str) (b : Ex) | call (a b : Ex) | sum (a b : Ex) | less (a b : Ex) | ite (a b c : Ex) | let_ (x : Str) (a b : Ex) | say (a : Ex)
  | rule (k : Str) (a b : Ex) | keep (k : Str) (a : Ex) | part (i : Int) | with_ (a : Ex) | usual | do1 (a : Ex) | do2 (a b : Ex)
def Ex.d : Ex → D
  | .num n => .tup [.str "num", .int n]
  | .name x => .tup [.str "name", .str x]
  | .fn x b => .tup [.str "fn", .str x, b.d]
  | .call a b => .tup [.str "call", a.d, b.d]
  | .sum a b => .tup [.str "sum", a.d, b.d]
  | .less a b => .tup [.str "less", a.d, b.d]
  | .ite a b c => .tup [.str "if", a.d, b.d, c.d]
  | .let_ x a b => .tup [.str "let", .str x, a.d, b.d]
  | .say a => .tup [.str "say", a.d]
  | .rule k a b => .tup [.str "rule", .str k, a.d, b.d]
  | .keep k a => .tup [.str "keep", .str k, a.d]
  | .part i => .tup [.str "part", .int i]
  | .with_ a => .tup [.str "with", a.d]
  | .usual => .tup [.str "usual"]
  | .do1 a => .tup [.str "do", .tup [a.d]]
  | .do2 a b => .tup [.str "do", .tup [a.d, b.d]]
def kindsS : List Str := ["num", "name", "fn", "call", "sum", "less", "if", "let", "say"]
def partsN (k : Str) : Int := if k = "call" ∨ k = "sum" ∨ k = "less" then 2 else if k = "if" then 3 else if k = "let" ∨ k = "say" then 1 else 0
def wordsS : List Str := ["num", "name", "fn", "call", "sum", "less", "if", "let", "say", "rule", "keep", "part", "with", "usual", "do"]
def lettersS : List Nat := "abcdefghijklmnopqrstuvwxyzABCDEFGHIJKLMNOPQRSTUVWXYZ".toList.map (·.toNat)
def digitsS : List Nat := "0123456789".toList.map (·.toNat)
/-- a name's form -/
def word (x : Str) : Prop := 1 ≤ x.length ∧ x.length ≤ 8 ∧ x ∉ wordsS ∧ (∃ c, x.cps[0]? = some c ∧ c ∈ lettersS) ∧ ∀ c ∈ x.cps.toList, c ∈ lettersS ∨ c ∈ digitsS
def Ex.ok : List Str → Option Str → Ex → Prop
  | _, _, .num n => -1000000 ≤ n ∧ n ≤ 1000000
  | N, _, .name x => word x ∧ x ∈ N
  | N, A, .fn x b => word x ∧ b.ok (N ++ [x]) A
  | N, A, .call a b => a.ok N A ∧ b.ok N A
  | N, A, .sum a b => a.ok N A ∧ b.ok N A
  | N, A, .less a b => a.ok N A ∧ b.ok N A
  | N, A, .ite a b c => a.ok N A ∧ b.ok N A ∧ c.ok N A
  | N, A, .let_ x a b => word x ∧ a.ok N A ∧ b.ok (N ++ [x]) A
  | N, A, .say a => a.ok N A
  | N, A, .rule k a b => k ∈ kindsS ∧ a.ok [] (some k) ∧ b.ok N A
  | _, _, .keep k a => k ∈ kindsS ∧ a.ok [] (some k)
  | _, A, .part i => ∃ k, A = some k ∧ 0 ≤ i ∧ i < partsN k
  | N, A, .with_ a => A = some ("let" : Str) ∧ a.ok N A
  | _, A, .usual => A ≠ none
  | N, A, .do1 a => A = some ("say" : Str) ∧ a.ok N A
  | N, A, .do2 a b => (A = some ("call" : Str) ∨ A = some ("sum" : Str) ∨ A = some ("less" : Str)) ∧ a.ok N A ∧ b.ok N A
/-- how high rules stand in rules -/
def Ex.ht : Ex → Nat
  | .num _ => 0
  | .name _ => 0
  | .fn _ b => b.ht
  | .call a b => max a.ht b.ht
  | .sum a b => max a.ht b.ht
  | .less a b => max a.ht b.ht
  | .ite a b c => max a.ht (max b.ht c.ht)
  | .let_ _ a b => max a.ht b.ht
  | .say a => a.ht
  | .rule _ a b => max (a.ht + 1) b.ht
  | .keep _ a => a.ht + 1
  | .part _ => 0
  | .with_ a => a.ht
  | .usual => 0
  | .do1 a => a.ht
  | .do2 a b => max a.ht b.ht
/-- how deep -/
def Ex.dp : Ex → Nat
  | .num _ => 1
  | .name _ => 1
  | .fn _ b => b.dp + 1
  | .call a b => max a.dp b.dp + 1
  | .sum a b => max a.dp b.dp + 1
  | .less a b => max a.dp b.dp + 1
  | .ite a b c => max a.dp (max b.dp c.dp) + 1
  | .let_ _ a b => max a.dp b.dp + 1
  | .say a => a.dp + 1
  | .rule _ a b => max a.dp b.dp + 1
  | .keep _ a => a.dp + 1
  | .part _ => 1
  | .with_ a => a.dp + 1
  | .usual => 1
  | .do1 a => a.dp + 1
  | .do2 a b => max a.dp b.dp + 1
def aD : Option Str → D
  | none => .non
  | some k => .str k
/-- of a kind, or of none -/
def aOk (A : Option Str) : Prop := ∀ k, A = some k → k ∈ kindsS
end Mi
set_option Elab.async false
set_option linter.all false
set_option maxRecDepth 100000
set_option maxHeartbeats 1000000
/-! M26: small defs of the generator. -/
namespace Mi
open PySem L2
theorem lindex_lst {S : Sto} {i : Nat} {ys : List D} {y : D} {j : Nat} (h : S[i]? = some (.lst ys)) (hf : flat y = true ∧ ys.all flat = true) (hj : idxF y ys = some j) : bmD .lindex (.ref i) [y] S = .ok (.int (j : Nat)) S := by
  unfold bmD lstOf
  simp only [h]
  rw [if_pos hf, hj]
  rfl
section
variable {P : Pr} {k : Nat} {S : Sto} {ic is nmr : Nat} {xs : List Int} {Wn : List Str} {Q : D → Sto → Prop}
/-- the drawing state with the names -/
structure Cxn (S : Sto) (ic is nmr : Nat) (xs : List Int) (Wn : List Str) : Prop where
  g : ∃ bud, Gs S ic is xs bud (.ref nmr)
  n : S[nmr]? = some (.lst (Wn.map .str))
  ne : nmr ≠ ic
theorem Cxn.app (h : Cxn S ic is nmr xs Wn) {o : O} : Cxn (S ++ [o]) ic is nmr xs Wn := by
  obtain ⟨⟨b, g⟩, n, ne⟩ := h
  exact ⟨⟨b, g.app⟩, by rw [List.getElem?_append_left (lt_of n)]; exact n, ne⟩
theorem Cxn.lt (h : Cxn S ic is nmr xs Wn) : ic < S.length := let ⟨⟨_, g⟩, _, _⟩ := h; g.lt
theorem Cxn.new (h : Cxn S ic is nmr xs Wn) : S.length ≠ ic := Nat.ne_of_gt h.lt
theorem take_cx (G : Gens P) {many : Int} (h : Cxn S ic is nmr xs Wn) (hm : 0 < many) (hm2 : many < 1073741824)
    (q : ∀ d S', 0 ≤ d → d < many → Cxn S' ic is nmr xs Wn → Grow ic S S' → Q (.int d) S') : Wp ((cxt P (k + 2)).call "_law_take" [.ref ic, .int many] S) Q := by
  obtain ⟨⟨b, g⟩, n, ne⟩ := h
  exact take_call G.toDrawn g hm hm2 fun d S' h1 h2 h3 h4 => q d S' h1 h2 ⟨⟨b, h3⟩, h4.at n ne, ne⟩ h4
theorem kinds_ok (G : Gens P) (q : Q (.ref S.length) (S ++ [.lst (kindsS.map .str)])) : Wp ((cxt P (k + 1)).call "_law_kinds" [] S) Q := by
  rw [call_fn G.kinds, run_fn2 rfl, wp_bind]
  unfold Gen.kindsF Gen.kindsB
  refine wp_ss ?_
  simp [startE]
  exact q
theorem idx_kinds {kd : Str} (h : kd ∈ kindsS) : ∃ j, idxF (.str kd) (kindsS.map .str) = some j ∧ ([.int 0, .int 0, .int 0, .int 2, .int 2, .int 2, .int 3, .int 1, .int 1] : List D)[j]? = some (.int (partsN kd)) := by
  have key : ∀ kd ∈ kindsS, ∃ j, idxF (.str kd) (kindsS.map .str) = some j ∧ ([.int 0, .int 0, .int 0, .int 2, .int 2, .int 2, .int 3, .int 1, .int 1] : List D)[j]? = some (.int (partsN kd)) := by
    intro kd h
    simp only [kindsS, List.mem_cons, List.not_mem_nil, or_false] at h
    rcases h with rfl | rfl | rfl | rfl | rfl | rfl | rfl | rfl | rfl
    · exact ⟨0, by rfl, by rfl⟩
    · exact ⟨1, by rfl, by rfl⟩
    · exact ⟨2, by rfl, by rfl⟩
    · exact ⟨3, by rfl, by rfl⟩
    · exact ⟨4, by rfl, by rfl⟩
    · exact ⟨5, by rfl, by rfl⟩
    · exact ⟨6, by rfl, by rfl⟩
    · exact ⟨7, by rfl, by rfl⟩
    · exact ⟨8, by rfl, by rfl⟩
  exact key kd h
theorem flat_strs (l : List Str) : (l.map D.str).all flat = true := by
  rw [List.all_eq_true]
  intro x hx
  obtain ⟨s, _, rfl⟩ := List.mem_map.mp hx
  rfl
theorem parts_ok (G : Gens P) {kd : Str} (hk : kd ∈ kindsS) (q : ∀ o1 o2, Q (.int (partsN kd)) (S ++ [o1] ++ [o2])) : Wp ((cxt P (k + 2)).call "_law_parts" [.str kd] S) Q := by
  rw [call_fn G.parts, run_fn2 rfl, wp_bind]
  unfold Gen.partsF Gen.partsB
  refine wp_ss ?_
  simp [startE, -List.append_assoc, -List.length_append]
  refine kinds_ok G ?_
  obtain ⟨j, h1, h2⟩ := idx_kinds hk
  rw [pre_lst2 new_at (by simp), if_pos rfl]
  try simp [-List.append_assoc, -List.length_append]
  rw [lindex_lst new_at ⟨rfl, flat_strs _⟩ h1]
  try simp [-List.append_assoc, -List.length_append]
  rw [sub_lst (xs := [D.int 0, D.int 0, D.int 0, D.int 2, D.int 2, D.int 2, D.int 3, D.int 1, D.int 1]) (by rw [List.getElem?_append_left (by simp), new_at]), atI_nat, h2]
  exact q _ _
theorem four {α : Type} {a b c d : α} {i : Int} (h0 : 0 ≤ i) (h1 : i < 4) : ∃ y, atI [a, b, c, d] i = some y ∧ (y = a ∨ y = b ∨ y = c ∨ y = d) := by
  have : i = 0 ∨ i = 1 ∨ i = 2 ∨ i = 3 := by omega
  rcases this with rfl | rfl | rfl | rfl
  · exact ⟨a, rfl, by simp⟩
  · exact ⟨b, rfl, by simp⟩
  · exact ⟨c, rfl, by simp⟩
  · exact ⟨d, rfl, by simp⟩
theorem integer_ok (G : Gens P) (h : Cxn S ic is nmr xs Wn) (q : ∀ n S', -1000000 ≤ n → n ≤ 1000000 → Cxn S' ic is nmr xs Wn → Grow ic S S' → Q (.int n) S') : Wp ((cxt P (k + 3)).call "_law_integer" [.ref ic] S) Q := by
  rw [call_fn G.integer, run_fn2 rfl, wp_bind]
  unfold Gen.integerF Gen.integerB
  refine wp_ss ?_
  simp [startE]
  refine take_cx G h (by omega) (by omega) fun d1 S1 a1 b1 c1 g1 => ?_
  simp
  refine take_cx G c1 (by omega) (by omega) fun d2 S2 a2 b2 c2 g2 => ?_
  simp
  refine take_cx G c2 (by omega) (by omega) fun d3 S3 a3 b3 c3 g3 => ?_
  refine take_cx G c3 (by omega) (by omega) fun d4 S4 a4 b4 c4 g4 => ?_
  simp
  refine take_cx G c4.app (by omega) (by omega) fun d5 S5 a5 b5 c5 g5 => ?_
  rw [sub_lst (g5.at new_at c4.new)]
  obtain ⟨y, e, hy⟩ := four (a := D.int (d1 - 1)) (b := .int (d2 - 1)) (c := .int d3) (d := .int (d4 - 1000000)) a5 b5
  rw [e]
  have g := ((g1.trans g2).trans (g3.trans g4)).trans (Grow.app.trans g5)
  rcases hy with rfl | rfl | rfl | rfl
  · simpa using q (d1 - 1) S5 (by omega) (by omega) c5 g
  · simpa using q (d2 - 1) S5 (by omega) (by omega) c5 g
  · simpa using q d3 S5 (by omega) (by omega) c5 g
  · simpa using q (d4 - 1000000) S5 (by omega) (by omega) c5 g
end
end Mi
set_option Elab.async false
set_option linter.all false
set_option maxRecDepth 100000
set_option maxHeartbeats 2000000
/-! M27: leaves, rules, asks, bindings, changes, expressions. -/
namespace Mi
open PySem L2
theorem sizeBig {n m : Nat} (h : n ≤ 1000) (h' : m ≤ 1000) : n + m ≤ sizeLine := by
  rw [sizeLine_eq]
  omega
section
variable {P : Pr} {k : Nat} {S : Sto} {ic is nmr : Nat} {xs : List Int} {Wn : List Str} {Q : D → Sto → Prop} {N : List Str} {A : Option Str} {j : Nat}
theorem str_at {N : List Str} {i : Int} (h0 : 0 ≤ i) (h1 : i < N.length) : ∃ x, x ∈ N ∧ atI (N.map D.str) i = some (.str x) := by
  rw [atI_pos h0]
  have hl : i.toNat < N.length := by omega
  refine ⟨N[i.toNat], List.getElem_mem hl, ?_⟩
  rw [List.getElem?_map, List.getElem?_eq_getElem hl]
  rfl
theorem aD_isnot {cds : Nat → List (Str × D)} (A : Option Str) (S : Sto) : cmpD cds .IsNot (aD A) .non S = .ok (.bl A.isSome) S := by cases A <;> rfl
theorem leaf_ok (G : Gens P) (h : Cxn S ic is nmr xs Wn) (hj : S[j]? = some (.lst (N.map .str))) (hne : j ≠ ic) (hN : N.length ≤ 1000) (hw : ∀ x ∈ N, word x) (hA : aOk A)
    (q : ∀ (x : Ex) S', x.ok N A → x.dp = 1 ∧ x.ht = 0 → Cxn S' ic is nmr xs Wn → Grow ic S S' → Q x.d S') : Wp ((cxt P (k + 4)).call "_law_leaf" [.ref ic, .ref j, aD A] S) Q := by
  rw [call_fn G.leaf, run_fn2 rfl, wp_bind]
  unfold Gen.leafF Gen.leafB
  refine wp_ss ?_
  simp [startE]
  refine take_cx G h (by omega) (by omega) fun d1 S1 a1 b1 c1 g1 => ?_
  try simp
  have hj1 := g1.at hj hne
  -- the number
  have fin : ∀ S2, Cxn S2 ic is nmr xs Wn → Grow ic S S2 → Wp (evSs (cxt P (k + 3)) (.cons (.ret (.tup (.cons (.str "num") (.cons (.call "_law_integer" (.cons (.var 0) .nil)) .nil)))) .nil) [some (.ref ic), some (.ref j), some (aD A), some (.int d1)] S2) fun o S => Wp (outV o S) Q := fun S2 c2 g2 => by
    refine wp_ss ?_
    try simp
    refine integer_ok G c2 fun n S3 l1 l2 c3 g3 => ?_
    try simp
    exact q (.num n) S3 ⟨l1, l2⟩ ⟨rfl, rfl⟩ c3 (g2.trans g3)
  have mid : ∀ S2, Cxn S2 ic is nmr xs Wn → Grow ic S S2 → Wp (evSs (cxt P (k + 3)) (.cons (.ifs (.and (.cons (.cmp .IsNot (.var 2) .non) (.cons (.cmp .Lt (.var 3) (.int 3)) .nil))) (.cons (.ifs (.and (.cons (.cmp .Gt (.call "_law_parts" (.cons (.var 2) .nil)) (.int 0)) (.cons (.cmp .Lt (.var 3) (.int 2)) .nil))) (.cons (.ret (.tup (.cons (.str "part") (.cons (.call "_law_take" (.cons (.var 0) (.cons (.call "_law_parts" (.cons (.var 2) .nil)) .nil))) .nil)))) .nil) .nil)
      (.cons (.ret (.tup (.cons (.str "usual") .nil))) .nil)) .nil) (.cons (.ret (.tup (.cons (.str "num") (.cons (.call "_law_integer" (.cons (.var 0) .nil)) .nil)))) .nil)) [some (.ref ic), some (.ref j), some (aD A), some (.int d1)] S2) fun o S => Wp (outV o S) Q := fun S2 c2 g2 => by
    refine wp_ss ?_
    cases A with
    | none =>
      simp [aD_isnot]
      exact fin S2 c2 g2
    | some kd =>
      have hk := hA kd rfl
      simp [aD_isnot]
      refine wp_ifp (fun _ => ?_) fun _ => ?_
      · refine wp_ss ?_
        simp [aD]
        refine parts_ok G hk fun o1 o2 => ?_
        have c3 := (c2.app (o := o1)).app (o := o2)
        have g3 := (g2.trans (Grow.app (o := o1))).trans (Grow.app (o := o2))
        generalize S2 ++ [o1] ++ [o2] = S3 at c3 g3 ⊢
        have us : Wp (evSs (cxt P (k + 3)) (.cons (.ret (.tup (.cons (.str "usual") .nil))) .nil) [some (.ref ic), some (.ref j), some (.str kd), some (.int d1)] S3) fun o S => Wp (goR o (fun e2 S => evSs (cxt P (k + 3)) (.cons (.ret (.tup (.cons (.str "num") (.cons (.call "_law_integer" (.cons (.var 0) .nil)) .nil)))) .nil) e2 S) S) fun o S => Wp (outV o S) Q := by
          refine wp_ss ?_
          try simp
          exact q .usual S3 (fun e => by cases e) ⟨rfl, rfl⟩ c3 g3
        try simp
        by_cases hp : 0 < partsN kd
        · simp [hp]
          refine wp_ifp (fun _ => ?_) fun _ => us
          refine wp_ss ?_
          try simp
          refine parts_ok G hk fun o1 o2 => ?_
          have c4 := (c3.app (o := o1)).app (o := o2)
          have g4 := (g3.trans (Grow.app (o := o1))).trans (Grow.app (o := o2))
          generalize S3 ++ [o1] ++ [o2] = S4 at c4 g4 ⊢
          try simp
          have hlt : partsN kd < 1073741824 := by
            unfold partsN
            split
            · omega
            · split
              · omega
              · split <;> omega
          refine take_cx G c4 hp hlt fun d5 S5 a5 b5 c5 g5 => ?_
          try simp
          exact q (.part d5) S5 ⟨kd, rfl, a5, b5⟩ ⟨rfl, rfl⟩ c5 (g4.trans g5)
        · simp [hp]
          exact us
      · exact fin S2 c2 g2
  refine wp_ss ?_
  simp [truthR_lst hj1]
  by_cases hN0 : N = []
  · simp [hN0]
    exact mid S1 c1 g1
  · have hl : 0 < N.length := List.length_pos_iff.mpr hN0
    simp [hN0]
    refine wp_ifp (fun _ => ?_) fun _ => mid S1 c1 g1
    refine wp_ss ?_
    simp [len_lst hj1]
    refine take_cx G c1 (by omega) (by omega) fun d2 S2 a2 b2 c2 g2 => ?_
    rw [sub_lst (g2.at hj1 hne)]
    obtain ⟨x, hx, e⟩ := str_at a2 b2
    rw [e]
    try simp
    exact q (.name x) S2 ⟨hw x hx, hx⟩ ⟨rfl, rfl⟩ c2 (g1.trans g2)
end
end Mi
set_option Elab.async false
set_option linter.all false
set_option maxRecDepth 100000
set_option maxHeartbeats 2000000
/-! M28: expressions. -/
namespace Mi
open PySem L2
section
variable {P : Pr} {k n : Nat} {S : Sto} {ic is nmr : Nat} {xs : List Int} {Wn : List Str} {Q : D → Sto → Prop} {N : List Str} {A : Option Str} {j : Nat}
theorem cx_nm {cds : Nat → List (Str × D)} (h : Cxn S ic is nmr xs Wn) : subD cds (.ref ic) (.int 5) S = .ok (.ref nmr) S := by
  obtain ⟨⟨b, _, _, _, g⟩, _, _⟩ := h
  rw [sub_lst g.c]
  rfl
theorem cx_bud (h : Cxn S ic is nmr xs Wn) : ∃ bud, (∀ cds, subD cds (.ref ic) (.int 4) S = .ok (.int bud) S) ∧ ∀ b', ∃ S', setD (.ref ic) (.int 4) (.int b') S = .ok () S' ∧ Cxn S' ic is nmr xs Wn ∧ Grow ic S S' := by
  obtain ⟨⟨b, p, a, c, g⟩, h1, h2⟩ := h
  refine ⟨b, fun cds => by rw [sub_lst g.c]; rfl, fun b' => ⟨_, g.put4 _, ⟨⟨b', p, a, c, g.set g.pos0⟩, ?_, h2⟩, .set⟩⟩
  exact (Grow.set (ic := ic)).at h1 h2
theorem setTg_two {i p q : Nat} {a b : D} {e : En} (h : S[i]? = some (.lst [a, b])) : setTg (.tp [p, q]) (.ref i) e S = if p < e.length ∧ q < e.length then some ((e.set p (some a)).set q (some b)) else none := by
  unfold setTg unpD
  simp only [h]
  by_cases hp : p < e.length ∧ q < e.length
  · rw [if_pos hp, if_pos ⟨rfl, by intro i hi; rcases List.mem_cons.mp hi with rfl | hi; exact hp.1; rcases List.mem_cons.mp hi with rfl | hi; exact hp.2; cases hi⟩]
    rfl
  · rw [if_neg hp, if_neg fun z => hp ⟨z.2 p (by simp), z.2 q (by simp)⟩]
theorem slc_lst {i : Nat} {ys : List D} {lo hi : Option Int} (h : S[i]? = some (.lst ys)) : slcD (.ref i) lo hi S = .ok (.ref S.length) (S ++ [.lst (cutL ys lo hi)]) := by
  unfold slcD
  simp only [h]
theorem len10 {W : List Str} (h : W.length = 10) : ∃ a b c d e f g i j l, W = [a, b, c, d, e, f, g, i, j, l] := by
  rcases W with _ | ⟨a, _ | ⟨b, _ | ⟨c, _ | ⟨d, _ | ⟨e, _ | ⟨f, _ | ⟨g, _ | ⟨i, _ | ⟨j, _ | ⟨l, _ | ⟨_, _⟩⟩⟩⟩⟩⟩⟩⟩⟩⟩⟩ <;> first
    | (simp at h; done)
    | exact ⟨_, _, _, _, _, _, _, _, _, _, rfl⟩
/-- what an expression's drawing promises -/
def EOk (P : Pr) (ic is nmr : Nat) (xs : List Int) (Wn : List Str) (k n : Nat) : Prop := ∀ (S : Sto) (N : List Str) (A : Option Str) (d lvl : Int) (j : Nat) (Q : D → Sto → Prop), Cxn S ic is nmr xs Wn → S[j]? = some (.lst (N.map .str)) → j ≠ ic → d ≤ (n : Int) → N.length + n ≤ 100 → (∀ x ∈ N, word x) → aOk A → lvl ≤ 3 →
  (∀ (x : Ex) S', x.ok N A → x.dp ≤ 6 + 2 * n ∧ (x.ht : Int) + lvl ≤ 3 → Cxn S' ic is nmr xs Wn → Grow ic S S' → Q x.d S') → Wp ((cxt P k).call "_law_expression" [.ref ic, .int lvl, .ref j, aD A, .int d] S) Q
theorem rule_ok (G : Gens P) (hW : Wn.length = 10) (hWw : ∀ x ∈ Wn, word x) (E : EOk P ic is nmr xs Wn (k + 2) n) (hn : n ≤ 90) (h : Cxn S ic is nmr xs Wn) {kd : Str} (hk : kd ∈ kindsS) {d lvl : Int} (hd : d ≤ (n : Int)) (hl : lvl + 1 ≤ 3)
    (q : ∀ (x : Ex) S', x.ok [] (some kd) → x.dp ≤ 6 + 2 * n ∧ (x.ht : Int) + (lvl + 1) ≤ 3 → Cxn S' ic is nmr xs Wn → Grow ic S S' → Q x.d S') : Wp ((cxt P (k + 3)).call "_law_rule" [.ref ic, .int lvl, .str kd, .int d] S) Q := by
  rw [call_fn G.rule, run_fn2 rfl, wp_bind]
  unfold Gen.ruleF Gen.ruleB
  refine wp_ss ?_
  simp [startE]
  refine take_cx G h (by omega) (by omega) fun d1 S1 a1 b1 c1 g1 => ?_
  try simp
  have aok : aOk (some kd) := fun z e => by
    cases e
    exact hk
  refine wp_ss ?_
  simp
  refine wp_ifp (fun _ => ?_) fun _ => ?_
  · refine wp_ss ?_
    simp
    exact q .usual S1 (fun e => by cases e) (by simp only [Ex.dp, Ex.ht]; omega) c1 g1
  try simp
  refine wp_ss ?_
  simp
  refine wp_ifp (fun _ => ?_) fun _ => ?_
  · refine wp_ss ?_
    simp
    exact q (.say .usual) S1 (fun e => by cases e) (by simp only [Ex.dp, Ex.ht]; omega) c1 g1
  try simp
  refine wp_ss ?_
  simp
  refine wp_ifp (fun _ => ?_) fun _ => ?_
  · obtain ⟨w0, w1, w2, w3, w4, w5, w6, w7, w8, w9, rfl⟩ := len10 hW
    obtain ⟨bud, e1, e2⟩ := cx_bud c1
    obtain ⟨S2, e3, c2, g2⟩ := e2 (bud - 5)
    refine wp_ss ?_
    simp [e1, e3]
    refine wp_ss ?_
    simp [cx_nm c2, slc_lst c2.n, -List.append_assoc, -List.length_append]
    rw [setTg_two (S := S2 ++ [O.lst (cutL [D.str w0, D.str w1, D.str w2, D.str w3, D.str w4, D.str w5, D.str w6, D.str w7, D.str w8, D.str w9] (some 7) (some 9))]) (a := .str w7) (b := .str w8) (by rw [new_at]; rfl)]
    simp [-List.append_assoc, -List.length_append]
    have c3 := c2.app (o := .lst (cutL [D.str w0, D.str w1, D.str w2, D.str w3, D.str w4, D.str w5, D.str w6, D.str w7, D.str w8, D.str w9] (some 7) (some 9)))
    have g3 := (g1.trans g2).trans (Grow.app (o := .lst (cutL [D.str w0, D.str w1, D.str w2, D.str w3, D.str w4, D.str w5, D.str w6, D.str w7, D.str w8, D.str w9] (some 7) (some 9))))
    generalize S2 ++ [O.lst (cutL [D.str w0, D.str w1, D.str w2, D.str w3, D.str w4, D.str w5, D.str w6, D.str w7, D.str w8, D.str w9] (some 7) (some 9))] = S3 at c3 g3 ⊢
    refine wp_ss ?_
    simp
    refine take_cx G c3 (by omega) (by omega) fun d4 S4 a4 b4 c4 g4 => ?_
    try simp
    refine q (.let_ w7 (.num d4) (.let_ w8 (.say (.name w7)) .usual)) S4 ⟨hWw _ (by simp), ⟨by omega, by omega⟩, hWw _ (by simp), ⟨hWw _ (by simp), by simp⟩, fun e => by cases e⟩ (by simp only [Ex.dp, Ex.ht]; omega) c4 (g3.trans g4)
  try simp
  refine wp_ss ?_
  simp [-List.append_assoc, -List.length_append]
  refine E _ [] (some kd) d (lvl + 1) _ _ c1.app new_at c1.new hd (by simp; omega) (fun x hx => by cases hx) aok hl fun x S2 h1 h2 c2 g2 => ?_
  try simp
  exact q x S2 h1 h2 c2 ((g1.trans .app).trans g2)
theorem eqF_str (a b : Str) : eqF (.str a) (.str b) = decide (b = a) := by
  show (a == b) = _
  by_cases h : b = a
  · subst h
    simp
  · have : ¬ a = b := fun z => h z.symm
    simp [h, this]
theorem in3 {cds : Nat → List (Str × D)} {S : Sto} {i : Nat} {a b c kd : Str} (h : S[i]? = some (.lst [.str a, .str b, .str c])) : cmpD cds .In (.str kd) (.ref i) S = .ok (.bl (decide (kd = a) || (decide (kd = b) || decide (kd = c)))) S := by
  show inD cds false (.str kd) (.ref i) S = _
  rw [in_lst h rfl rfl]
  simp only [List.any_cons, List.any_nil, Bool.or_false, eqF_str]
  rfl
theorem ok_sub : ∀ {x : Ex} {N N' : List Str} {A : Option Str}, x.ok N A → (∀ y ∈ N, y ∈ N') → x.ok N' A
  | .num _, _, _, _, h, _ => h
  | .name _, _, _, _, h, s => ⟨h.1, s _ h.2⟩
  | .fn _ b, _, _, _, h, s => ⟨h.1, ok_sub h.2 fun y hy => by
      rcases List.mem_append.mp hy with z | z
      · exact List.mem_append_left _ (s y z)
      · exact List.mem_append_right _ z⟩
  | .call _ _, _, _, _, h, s => ⟨ok_sub h.1 s, ok_sub h.2 s⟩
  | .sum _ _, _, _, _, h, s => ⟨ok_sub h.1 s, ok_sub h.2 s⟩
  | .less _ _, _, _, _, h, s => ⟨ok_sub h.1 s, ok_sub h.2 s⟩
  | .ite _ _ _, _, _, _, h, s => ⟨ok_sub h.1 s, ok_sub h.2.1 s, ok_sub h.2.2 s⟩
  | .let_ _ _ b, _, _, _, h, s => ⟨h.1, ok_sub h.2.1 s, ok_sub h.2.2 fun y hy => by
      rcases List.mem_append.mp hy with z | z
      · exact List.mem_append_left _ (s y z)
      · exact List.mem_append_right _ z⟩
  | .say a, _, _, _, h, s => ok_sub (x := a) h s
  | .rule _ _ _, _, _, _, h, s => ⟨h.1, h.2.1, ok_sub h.2.2 s⟩
  | .keep _ _, _, _, _, h, _ => h
  | .part _, _, _, _, h, _ => h
  | .with_ _, _, _, _, h, s => ⟨h.1, ok_sub h.2 s⟩
  | .usual, _, _, _, h, _ => h
  | .do1 _, _, _, _, h, s => ⟨h.1, ok_sub h.2 s⟩
  | .do2 _ _, _, _, _, h, s => ⟨h.1, ok_sub h.2.1 s, ok_sub h.2.2 s⟩
theorem ask_ok (G : Gens P) (E : EOk P ic is nmr xs Wn (k + 4) n) (h : Cxn S ic is nmr xs Wn) (hj : S[j]? = some (.lst (N.map .str))) (hne : j ≠ ic) {d lvl : Int} (hd : d ≤ (n : Int)) (hN : N.length + n ≤ 100) (hw : ∀ x ∈ N, word x) (hA : aOk A) (hl : lvl ≤ 3)
    (q : ∀ (x : Ex) S', x.ok N A → x.dp ≤ 7 + 2 * n ∧ (x.ht : Int) + lvl ≤ 3 → Cxn S' ic is nmr xs Wn → Grow ic S S' → Q x.d S') {kd : Str} (hkd : A = some kd) : Wp ((cxt P (k + 5)).call "_law_ask" [.ref ic, .int lvl, .ref j, aD A, .int d] S) Q := by
  rw [call_fn G.ask, run_fn2 rfl, wp_bind]
  unfold Gen.askF Gen.askB
  subst hkd
  have hk := hA kd rfl
  have r1 : ∀ {S2 : Sto}, Cxn S2 ic is nmr xs Wn → Grow ic S S2 → ∀ {Q' : D → Sto → Prop}, (∀ (x : Ex) S', x.ok N (some kd) → x.dp ≤ 6 + 2 * n ∧ (x.ht : Int) + lvl ≤ 3 → Cxn S' ic is nmr xs Wn → Grow ic S S' → Q' x.d S') → Wp ((cxt P (k + 4)).call "_law_expression" [.ref ic, .int lvl, .ref j, .str kd, .int d] S2) Q' :=
    fun {S2} c2 g2 {Q'} q' => E S2 N (some kd) d lvl j Q' c2 (g2.at hj hne) hne hd hN hw hA hl fun x S' h1 h2 h3 h4 => q' x S' h1 h2 h3 (g2.trans h4)
  have s4 : ∀ {S2 : Sto}, Cxn S2 ic is nmr xs Wn → Grow ic S S2 → Wp (evSs (cxt P (k + 4)) (.cons (.ret (.call "_law_leaf" (.cons (.var 0) (.cons (.lst .nil) (.cons (.var 3) .nil))))) .nil) [some (.ref ic), some (.int lvl), some (.ref j), some (.str kd), some (.int d)] S2) fun o S => Wp (outV o S) Q := fun {S2} c2 g2 => by
    refine wp_ss ?_
    simp [-List.append_assoc, -List.length_append]
    refine leaf_ok (N := []) (A := some kd) G c2.app new_at c2.new (by simp) (fun x hx => by cases hx) hA fun x S3 h1 h2 c3 g3 => ?_
    try simp
    exact q x S3 (ok_sub h1 fun y hy => by cases hy) (by omega) c3 ((g2.trans .app).trans g3)
  refine wp_ss ?_
  simp [startE, aD, -List.append_assoc, -List.length_append]
  rw [in3 new_at]
  have c1 := h.app (o := .lst [.str "call", .str "sum", .str "less"])
  have g1 := Grow.app (ic := ic) (S := S) (o := .lst [.str "call", .str "sum", .str "less"])
  generalize S ++ [O.lst [.str "call", .str "sum", .str "less"]] = S1 at c1 g1 ⊢
  have s3 : ∀ {S2 : Sto}, Cxn S2 ic is nmr xs Wn → Grow ic S S2 → Wp (evSs (cxt P (k + 4)) (.cons (.ifs (.and (.cons (.cmp .Eq (.var 3) (.str "let")) (.cons (.cmp .Eq (.call "_law_take" (.cons (.var 0) (.cons (.int 2) .nil))) (.int 0)) .nil))) (.cons (.ret (.tup (.cons (.str "with") (.cons (.call "_law_expression" (.cons (.var 0) (.cons (.var 1) (.cons (.var 2) (.cons (.var 3) (.cons (.var 4) .nil)))))) .nil)))) .nil) .nil) (.cons (.ret (.call "_law_leaf" (.cons (.var 0) (.cons (.lst .nil) (.cons (.var 3) .nil))))) .nil)) [some (.ref ic), some (.int lvl), some (.ref j), some (.str kd), some (.int d)] S2) fun o S => Wp (outV o S) Q := fun {S2} c2 g2 => by
    refine wp_ss ?_
    simp
    refine wp_ifp (fun e => ?_) fun _ => s4 c2 g2
    try simp
    refine take_cx G c2 (by omega) (by omega) fun d3 S3 a3 b3 c3 g3 => ?_
    simp
    refine wp_ifp (fun _ => ?_) fun _ => s4 c3 (g2.trans g3)
    refine wp_ss ?_
    simp
    refine r1 c3 (g2.trans g3) fun x S4 h1 h2 c4 g4 => ?_
    try simp
    exact q (.with_ x) S4 ⟨by rw [e], h1⟩ (by simp only [Ex.dp, Ex.ht]; omega) c4 g4
  have s2 : ∀ {S2 : Sto}, Cxn S2 ic is nmr xs Wn → Grow ic S S2 → Wp (evSs (cxt P (k + 4)) (.cons (.ifs (.and (.cons (.cmp .Eq (.var 3) (.str "say")) (.cons (.cmp .Eq (.call "_law_take" (.cons (.var 0) (.cons (.int 2) .nil))) (.int 0)) .nil))) (.cons (.ret (.tup (.cons (.str "do") (.cons (.tup (.cons (.call "_law_expression" (.cons (.var 0) (.cons (.var 1) (.cons (.var 2) (.cons (.var 3) (.cons (.var 4) .nil)))))) .nil)) .nil)))) .nil) .nil) (.cons (.ifs (.and (.cons (.cmp .Eq (.var 3) (.str "let")) (.cons (.cmp .Eq (.call "_law_take" (.cons (.var 0) (.cons (.int 2) .nil))) (.int 0)) .nil))) (.cons (.ret (.tup (.cons (.str "with") (.cons (.call "_law_expression" (.cons (.var 0) (.cons (.var 1) (.cons (.var 2) (.cons (.var 3) (.cons (.var 4) .nil)))))) .nil)))) .nil) .nil) (.cons (.ret (.call "_law_leaf" (.cons (.var 0) (.cons (.lst .nil) (.cons (.var 3) .nil))))) .nil))) [some (.ref ic), some (.int lvl), some (.ref j), some (.str kd), some (.int d)] S2) fun o S => Wp (outV o S) Q := fun {S2} c2 g2 => by
    refine wp_ss ?_
    simp
    refine wp_ifp (fun e => ?_) fun _ => s3 c2 g2
    try simp
    refine take_cx G c2 (by omega) (by omega) fun d3 S3 a3 b3 c3 g3 => ?_
    simp
    refine wp_ifp (fun _ => ?_) fun _ => s3 c3 (g2.trans g3)
    refine wp_ss ?_
    simp
    refine r1 c3 (g2.trans g3) fun x S4 h1 h2 c4 g4 => ?_
    try simp
    exact q (.do1 x) S4 ⟨by rw [e], h1⟩ (by simp only [Ex.dp, Ex.ht]; omega) c4 g4
  simp
  refine wp_ifp (fun e => ?_) fun _ => s2 c1 g1
  try simp
  refine take_cx G c1 (by omega) (by omega) fun d3 S3 a3 b3 c3 g3 => ?_
  simp
  refine wp_ifp (fun _ => ?_) fun _ => s2 c3 (g1.trans g3)
  refine wp_ss ?_
  simp
  refine r1 c3 (g1.trans g3) fun x S4 h1 h2 c4 g4 => ?_
  try simp
  refine r1 c4 g4 fun y S5 h3 h4 c5 g5 => ?_
  try simp
  exact q (.do2 x y) S5 ⟨by rcases e with e | e | e <;> simp [e], h1, h3⟩ (by simp only [Ex.dp, Ex.ht]; omega) c5 g5
end
end Mi
set_option Elab.async false
set_option linter.all false
set_option maxRecDepth 100000
set_option maxHeartbeats 4000000
/-! M29: bindings, changes, expressions. -/
namespace Mi
open PySem L2
section
variable {P : Pr} {k n : Nat} {S : Sto} {ic is nmr : Nat} {xs : List Int} {Wn : List Str} {Q : D → Sto → Prop} {N : List Str} {A : Option Str} {j : Nat}
/-- names + [x] -/
theorem cat_one {x : Str} (h : Cxn S ic is nmr xs Wn) (hj : S[j]? = some (.lst (N.map .str))) (hN : N.length ≤ 1000) : binD .Add (.ref j) (.ref S.length) (S ++ [.lst [.str x]]) = .ok (.ref (S ++ [O.lst [.str x]]).length) (S ++ [.lst [.str x]] ++ [.lst ((N ++ [x]).map .str)]) := by
  rw [add_lst (xs := N.map .str) (ys := [.str x]) (by rw [List.getElem?_append_left (lt_of hj)]; exact hj) new_at, if_pos (sizeBig (by simpa using hN) (by simp)), List.map_append]
  rfl
theorem nm_at (hW : Wn.length = 10) (h : Cxn S ic is nmr xs Wn) {i : Int} (h0 : 0 ≤ i) (h1 : i < 10) : ∃ x, x ∈ Wn ∧ ∀ cds, subD cds (.ref nmr) (.int i) S = .ok (.str x) S := by
  obtain ⟨x, hx, e⟩ := str_at (N := Wn) h0 (by omega)
  exact ⟨x, hx, fun cds => by rw [sub_lst h.n, e]; rfl⟩
theorem binding_ok (G : Gens P) (hW : Wn.length = 10) (hWw : ∀ x ∈ Wn, word x) (E : EOk P ic is nmr xs Wn (k + 4) n) (h : Cxn S ic is nmr xs Wn) (hj : S[j]? = some (.lst (N.map .str))) (hne : j ≠ ic) {d lvl kk : Int} (hd : d ≤ (n : Int) + 1) (hN : N.length + n + 1 ≤ 100) (hw : ∀ x ∈ N, word x) (hA : aOk A) (hl : lvl ≤ 3)
    (q : ∀ (x : Ex) S', x.ok N A → x.dp ≤ 8 + 2 * n ∧ (x.ht : Int) + lvl ≤ 3 → Cxn S' ic is nmr xs Wn → Grow ic S S' → Q x.d S') : Wp ((cxt P (k + 5)).call "_law_binding" [.ref ic, .int kk, .int lvl, .ref j, aD A, .int d] S) Q := by
  rw [call_fn G.binding, run_fn2 rfl, wp_bind]
  unfold Gen.bindingF Gen.bindingB
  have r1 : ∀ {S2 : Sto}, Cxn S2 ic is nmr xs Wn → Grow ic S S2 → ∀ {Q' : D → Sto → Prop}, (∀ (x : Ex) S', x.ok N A → x.dp ≤ 6 + 2 * n ∧ (x.ht : Int) + lvl ≤ 3 → Cxn S' ic is nmr xs Wn → Grow ic S S' → Q' x.d S') → Wp ((cxt P (k + 4)).call "_law_expression" [.ref ic, .int lvl, .ref j, aD A, .int (d - 1)] S2) Q' :=
    fun {S2} c2 g2 {Q'} q' => E S2 N A (d - 1) lvl j Q' c2 (g2.at hj hne) hne (by omega) (by omega) hw hA hl fun x S' h1 h2 h3 h4 => q' x S' h1 h2 h3 (g2.trans h4)
  have r2 : ∀ {S2 : Sto} {i : Nat} {y : Str}, word y → Cxn S2 ic is nmr xs Wn → Grow ic S S2 → S2[i]? = some (.lst ((N ++ [y]).map .str)) → i ≠ ic → ∀ {Q' : D → Sto → Prop}, (∀ (x : Ex) S', x.ok (N ++ [y]) A → x.dp ≤ 6 + 2 * n ∧ (x.ht : Int) + lvl ≤ 3 → Cxn S' ic is nmr xs Wn → Grow ic S S' → Q' x.d S') → Wp ((cxt P (k + 4)).call "_law_expression" [.ref ic, .int lvl, .ref i, aD A, .int (d - 1)] S2) Q' :=
    fun {S2 i y} hy c2 g2 hi hie {Q'} q' => E S2 (N ++ [y]) A (d - 1) lvl i Q' c2 hi hie (by omega) (by simp; omega) (fun x hx => by
      rcases List.mem_append.mp hx with z | z
      · exact hw x z
      · rcases List.mem_singleton.mp z with rfl
        exact hy) hA hl fun x S' h1 h2 h3 h4 => q' x S' h1 h2 h3 (g2.trans h4)
  refine wp_ss ?_
  simp [startE, cx_nm h]
  refine take_cx G h (by omega) (by omega) fun d1 S1 a1 b1 c1 g1 => ?_
  obtain ⟨x, hx, ex⟩ := nm_at hW c1 a1 (by omega)
  simp [ex]
  refine wp_ss ?_
  simp [-List.append_assoc, -List.length_append, -List.map_append]
  rw [cat_one c1 (g1.at hj hne) (by omega)]
  simp [-List.append_assoc, -List.length_append, -List.map_append]
  have c2 := (c1.app (o := .lst [.str x])).app (o := .lst ((N ++ [x]).map .str))
  refine r2 (hWw x hx) c2 ((g1.trans .app).trans .app) new_at c1.app.new fun y S3 h1 h2 c3 g3 => ?_
  try simp
  refine wp_ss ?_
  simp
  refine wp_ifp (fun _ => ?_) fun _ => ?_
  · refine wp_ss ?_
    simp
    exact q (.fn x y) S3 ⟨hWw x hx, h1⟩ (by simp only [Ex.dp, Ex.ht]; omega) c3 g3
  try simp
  refine wp_ss ?_
  simp
  refine take_cx G c3 (by omega) (by omega) fun d4 S4 a4 b4 c4 g4 => ?_
  simp
  refine wp_ifp (fun _ => ?_) fun _ => ?_
  · refine wp_ss ?_
    simp
    refine r1 c4 (g3.trans g4) fun z S5 h3 h4 c5 g5 => ?_
    try simp
    exact q (.call (.fn x y) z) S5 ⟨⟨hWw x hx, h1⟩, h3⟩ (by simp only [Ex.dp, Ex.ht]; omega) c5 g5
  try simp
  refine wp_ss ?_
  simp [cx_nm c4]
  refine take_cx G c4 (by omega) (by omega) fun d5 S5 a5 b5 c5 g5 => ?_
  obtain ⟨f, hf, ef⟩ := nm_at hW c5 (i := 3 + d5) (by omega) (by omega)
  simp [ef]
  refine wp_ss ?_
  simp [-List.append_assoc, -List.length_append, -List.map_append]
  have g05 := (g3.trans g4).trans g5
  rw [cat_one c5 (g05.at hj hne) (by omega)]
  simp [-List.append_assoc, -List.length_append, -List.map_append]
  have c6 := (c5.app (o := .lst [.str f])).app (o := .lst ((N ++ [f]).map .str))
  refine r2 (hWw f hf) c6 ((g05.trans .app).trans .app) new_at c5.app.new fun u S7 h5 h6 c7 g7 => ?_
  try simp
  refine wp_ss ?_
  simp [-List.append_assoc, -List.length_append, -List.map_append]
  refine take_cx G c7.app (by omega) (by omega) fun d8 S8 a8 b8 c8 g8 => ?_
  rw [sub_lst (g8.at new_at c7.new)]
  have : d8 = 0 ∨ d8 = 1 := by omega
  have g9 := (g7.trans .app).trans g8
  rcases this with rfl | rfl
  · simp
    exact q (.let_ f (.fn x y) u) S8 ⟨hWw f hf, ⟨hWw x hx, h1⟩, h5⟩ (by simp only [Ex.dp, Ex.ht]; omega) c8 g9
  · simp
    exact q (.let_ f (.fn x y) (.call (.name f) u)) S8 ⟨hWw f hf, ⟨hWw x hx, h1⟩, ⟨hWw f hf, by simp⟩, h5⟩ (by simp only [Ex.dp, Ex.ht]; omega) c8 g9
theorem kind_at {i : Nat} (h : S[i]? = some (.lst (kindsS.map .str))) {d : Int} (h0 : 0 ≤ d) (h1 : d < 9) : ∃ kd, kd ∈ kindsS ∧ ∀ cds, subD cds (.ref i) (.int d) S = .ok (.str kd) S := by
  obtain ⟨x, hx, e⟩ := str_at (N := kindsS) h0 (by show d < 9; exact h1)
  exact ⟨x, hx, fun cds => by rw [sub_lst h, e]; rfl⟩
theorem change_ok (G : Gens P) (hW : Wn.length = 10) (hWw : ∀ x ∈ Wn, word x) (E : EOk P ic is nmr xs Wn (k + 4) n) (E2 : EOk P ic is nmr xs Wn (k + 3) n) (hn : n ≤ 90) (h : Cxn S ic is nmr xs Wn) (hj : S[j]? = some (.lst (N.map .str))) (hne : j ≠ ic) {d lvl kk : Int} (hd : d ≤ (n : Int) + 1) (hN : N.length + n + 1 ≤ 100) (hw : ∀ x ∈ N, word x) (hA : aOk A) (hl : lvl < 3)
    (q : ∀ (x : Ex) S', x.ok N A → x.dp ≤ 8 + 2 * n ∧ (x.ht : Int) + lvl ≤ 3 → Cxn S' ic is nmr xs Wn → Grow ic S S' → Q x.d S') : Wp ((cxt P (k + 5)).call "_law_change" [.ref ic, .int kk, .int lvl, .ref j, aD A, .int d] S) Q := by
  rw [call_fn G.change, run_fn2 rfl, wp_bind]
  unfold Gen.changeF Gen.changeB
  refine wp_ss ?_
  simp [startE]
  refine kinds_ok G ?_
  refine take_cx G h.app (by omega) (by omega) fun d1 S1 a1 b1 c1 g1 => ?_
  obtain ⟨kd, hk, ek⟩ := kind_at (g1.at new_at h.new) a1 b1
  simp [ek]
  have g1 := Grow.trans (.app (o := .lst (kindsS.map .str))) g1
  refine wp_ss ?_
  simp
  refine rule_ok G hW hWw E2 hn c1 hk (d := d - 1) (by omega) (by omega) fun r S2 h1 h2 c2 g2 => ?_
  try simp
  have g02 := g1.trans g2
  refine wp_ss ?_
  simp
  refine wp_ifp (fun _ => ?_) fun _ => ?_
  · refine wp_ss ?_
    obtain ⟨x, hx, ex⟩ := nm_at hW c2 (i := 9) (by omega) (by omega)
    simp [cx_nm c2, ex, -List.append_assoc, -List.length_append, -List.map_append]
    rw [cat_one c2 (g02.at hj hne) (by omega)]
    simp [-List.append_assoc, -List.length_append, -List.map_append]
    have c3 := (c2.app (o := .lst [.str x])).app (o := .lst ((N ++ [x]).map .str))
    refine E _ (N ++ [x]) A (d - 1) lvl _ _ c3 new_at c2.app.new (by omega) (by simp; omega) (fun z hz => by
      rcases List.mem_append.mp hz with y | y
      · exact hw z y
      · rcases List.mem_singleton.mp y with rfl
        exact hWw _ hx) hA (by omega) fun u S4 h3 h4 c4 g4 => ?_
    try simp
    exact q (.let_ x (.keep kd r) u) S4 ⟨hWw x hx, ⟨hk, h1⟩, h3⟩ (by simp only [Ex.dp, Ex.ht]; omega) c4 (((g02.trans .app).trans .app).trans g4)
  try simp
  refine wp_ss ?_
  simp
  refine wp_ifp (fun _ => ?_) fun _ => ?_
  · refine wp_ss ?_
    simp
    exact q (.keep kd r) S2 ⟨hk, h1⟩ (by simp only [Ex.dp, Ex.ht]; omega) c2 g02
  try simp
  refine wp_ss ?_
  simp
  refine E _ N A (d - 1) lvl j _ c2 (g02.at hj hne) hne (by omega) (by omega) hw hA (by omega) fun u S4 h3 h4 c4 g4 => ?_
  try simp
  exact q (.rule kd r u) S4 ⟨hk, h1, h3⟩ (by simp only [Ex.dp, Ex.ht]; omega) c4 (g02.trans g4)
end
end Mi
set_option Elab.async false
set_option linter.all false
set_option maxRecDepth 100000
set_option maxHeartbeats 4000000
/-! M30: the drawing of an expression. -/
namespace Mi
open PySem L2
section
variable {P : Pr} {k n : Nat} {ic is nmr : Nat} {xs : List Int} {Wn : List Str}
theorem in_ints {cds : Nat → List (Str × D)} {S : Sto} {i : Nat} {ys : List D} {d : Int} (h : S[i]? = some (.lst ys)) (hf : ys.all flat = true) : cmpD cds .In (.int d) (.ref i) S = .ok (.bl (ys.any fun y => eqF y (.int d))) S := by
  show inD cds false (.int d) (.ref i) S = _
  rw [in_lst h rfl hf]
  rfl
theorem expr_step (G : Gens P) (hW : Wn.length = 10) (hWw : ∀ x ∈ Wn, word x) (hn : n ≤ 90) (E5 : EOk P ic is nmr xs Wn (k + 5) n) (E4 : EOk P ic is nmr xs Wn (k + 4) n) (E3 : EOk P ic is nmr xs Wn (k + 3) n) : EOk P ic is nmr xs Wn (k + 6) (n + 1) := by
  intro S0 N A d lvl j Q h hj hne hd hN hw hA hl q
  rw [call_fn G.expression, run_fn2 rfl, wp_bind]
  unfold Gen.expressionF Gen.expressionB
  obtain ⟨bud, e1, e2⟩ := cx_bud h
  obtain ⟨S1, e3, c1, g1⟩ := e2 (bud - 1)
  refine wp_ss ?_
  simp [startE, e1, e3]
  refine wp_ss ?_
  simp
  refine take_cx G c1 (by omega) (by omega) fun kk S2 a2 b2 c2 g2 => ?_
  have g02 := g1.trans g2
  have hj2 := g02.at hj hne
  obtain ⟨bud2, f1, f2⟩ := cx_bud c2
  have r1 : ∀ {S2 : Sto}, Cxn S2 ic is nmr xs Wn → Grow ic S0 S2 → ∀ {Q' : D → Sto → Prop}, (∀ (x : Ex) S', x.ok N A → x.dp ≤ 6 + 2 * n ∧ (x.ht : Int) + lvl ≤ 3 → Cxn S' ic is nmr xs Wn → Grow ic S0 S' → Q' x.d S') → Wp ((cxt P (k + 5)).call "_law_expression" [.ref ic, .int lvl, .ref j, aD A, .int (d - 1)] S2) Q' :=
    fun {S2} c2 g2 {Q'} q' => E5 S2 N A (d - 1) lvl j Q' c2 (g2.at hj hne) hne (by omega) (by omega) hw hA hl fun x S' h1 h2 h3 h4 => q' x S' h1 h2 h3 (g2.trans h4)
  try simp
  -- the last rows
  have l11 : ∀ {S : Sto} {a : Ex}, Cxn S ic is nmr xs Wn → Grow ic S0 S → a.ok N A → a.dp ≤ 6 + 2 * n ∧ (a.ht : Int) + lvl ≤ 3 → ∀ u v, Wp (evSs (cxt P (k + 5)) Gen.expressionB_11 [some (.ref ic), some (.int lvl), some (.ref j), some (aD A), some (.int d), some (.int kk), some a.d, u, v] S) fun o S => Wp (outV o S) Q := fun {S a} c g oa da u v => by
    refine wp_ss ?_
    simp
    refine r1 c g fun b S' h1 h2 c' g' => ?_
    try simp
    exact q (.call a b) S' ⟨oa, h1⟩ (by simp only [Ex.dp, Ex.ht]; omega) c' g'
  have l10 : ∀ {S : Sto} {a : Ex}, Cxn S ic is nmr xs Wn → Grow ic S0 S → a.ok N A → a.dp ≤ 6 + 2 * n ∧ (a.ht : Int) + lvl ≤ 3 → ∀ u v, Wp (evSs (cxt P (k + 5)) Gen.expressionB_10 [some (.ref ic), some (.int lvl), some (.ref j), some (aD A), some (.int d), some (.int kk), some a.d, u, v] S) fun o S => Wp (outV o S) Q := fun {S a} c g oa da u v => by
    refine wp_ss ?_
    simp
    refine wp_ifp (fun _ => ?_) fun _ => ?_
    · refine wp_ss ?_
      simp
      exact q (.say a) S oa (by simp only [Ex.dp, Ex.ht]; omega) c g
    · try simp
      exact l11 c g oa da u v
  have l9 : ∀ {S : Sto} {a : Ex}, Cxn S ic is nmr xs Wn → Grow ic S0 S → a.ok N A → a.dp ≤ 6 + 2 * n ∧ (a.ht : Int) + lvl ≤ 3 → ∀ u v, Wp (evSs (cxt P (k + 5)) Gen.expressionB_9 [some (.ref ic), some (.int lvl), some (.ref j), some (aD A), some (.int d), some (.int kk), some a.d, u, v] S) fun o S => Wp (outV o S) Q := fun {S a} c g oa da u v => by
    refine wp_ss ?_
    simp
    refine wp_ifp (fun _ => ?_) fun _ => ?_
    · refine wp_ss ?_
      simp [cx_nm c, -List.append_assoc, -List.length_append, -List.map_append]
      refine take_cx G c.app (by omega) (by omega) fun d3 S3 a3 b3 c3 g3 => ?_
      rw [sub_lst (g3.at new_at c.new)]
      obtain ⟨y, ey, hy⟩ := four (a := D.int 0) (b := .int 1) (c := .int 2) (d := .int 6) a3 b3
      have hy2 : ∃ m : Int, y = .int m ∧ 0 ≤ m ∧ m < 10 := by
        rcases hy with rfl | rfl | rfl | rfl
        · exact ⟨0, rfl, by omega, by omega⟩
        · exact ⟨1, rfl, by omega, by omega⟩
        · exact ⟨2, rfl, by omega, by omega⟩
        · exact ⟨6, rfl, by omega, by omega⟩
      obtain ⟨m, rfl, m0, m1⟩ := hy2
      obtain ⟨x, hx, ex⟩ := nm_at hW c3 m0 m1
      have g3 := g.trans ((Grow.app).trans g3)
      simp [ey, ex, -List.append_assoc, -List.length_append, -List.map_append]
      refine wp_ss ?_
      simp [-List.append_assoc, -List.length_append, -List.map_append]
      rw [cat_one c3 (g3.at hj hne) (by omega)]
      simp [-List.append_assoc, -List.length_append, -List.map_append]
      have c4 := (c3.app (o := .lst [.str x])).app (o := .lst ((N ++ [x]).map .str))
      refine E5 _ (N ++ [x]) A (d - 1) lvl _ _ c4 new_at c3.app.new (by omega) (by simp; omega) (fun z hz => by
        rcases List.mem_append.mp hz with y | y
        · exact hw z y
        · rcases List.mem_singleton.mp y with rfl
          exact hWw _ hx) hA hl fun b S5 h1 h2 c5 g5 => ?_
      try simp
      exact q (.let_ x a b) S5 ⟨hWw x hx, oa, h1⟩ (by simp only [Ex.dp, Ex.ht]; omega) c5 (((g3.trans .app).trans .app).trans g5)
    · try simp
      exact l10 c g oa da u v
  have l8 : ∀ {S : Sto} {a : Ex}, Cxn S ic is nmr xs Wn → Grow ic S0 S → a.ok N A → a.dp ≤ 6 + 2 * n ∧ (a.ht : Int) + lvl ≤ 3 → ∀ u v, Wp (evSs (cxt P (k + 5)) Gen.expressionB_8 [some (.ref ic), some (.int lvl), some (.ref j), some (aD A), some (.int d), some (.int kk), some a.d, u, v] S) fun o S => Wp (outV o S) Q := fun {S a} c g oa da u v => by
    refine wp_ss ?_
    simp
    refine wp_ifp (fun _ => ?_) fun _ => ?_
    · refine wp_ss ?_
      simp
      refine r1 c g fun b S' h1 h2 c' g' => ?_
      try simp
      refine wp_ss ?_
      simp
      refine r1 c' g' fun b2 S'' h3 h4 c'' g'' => ?_
      try simp
      exact q (.ite a b b2) S'' ⟨oa, h1, h3⟩ (by simp only [Ex.dp, Ex.ht]; omega) c'' g''
    · try simp
      exact l9 c g oa da u v
  have l6 : ∀ {S : Sto}, 5 ≤ kk → Cxn S ic is nmr xs Wn → Grow ic S0 S → Wp (evSs (cxt P (k + 5)) Gen.expressionB_6 [some (.ref ic), some (.int lvl), some (.ref j), some (aD A), some (.int d), some (.int kk), none, none, none] S) fun o S => Wp (outV o S) Q := fun {S} hk5 c g => by
    refine wp_ss ?_
    simp
    refine r1 c g fun a S3 h1 h2 c3 g3 => ?_
    try simp
    refine wp_ss ?_
    simp
    refine wp_ifp (fun hk8 => ?_) fun _ => ?_
    · refine wp_ss ?_
      simp [-List.append_assoc, -List.length_append, -List.map_append]
      obtain ⟨y, ey, oy⟩ : ∃ y, atI ([.str "sum", .str "less", .str "sum"] : List D) (kk - 5) = some (.str y) ∧ (y = "sum" ∨ y = "less") := by
        have : kk - 5 = 0 ∨ kk - 5 = 1 ∨ kk - 5 = 2 := by omega
        rcases this with e | e | e <;> rw [e]
        · exact ⟨"sum", rfl, .inl rfl⟩
        · exact ⟨"less", rfl, .inr rfl⟩
        · exact ⟨"sum", rfl, .inl rfl⟩
      rw [sub_lst new_at, ey]
      simp [-List.append_assoc, -List.length_append, -List.map_append]
      refine r1 c3.app (g3.trans .app) fun b S4 h3 h4 c4 g4 => ?_
      try simp
      rcases oy with rfl | rfl
      · exact q (.sum a b) S4 ⟨h1, h3⟩ (by simp only [Ex.dp, Ex.ht]; omega) c4 g4
      · exact q (.less a b) S4 ⟨h1, h3⟩ (by simp only [Ex.dp, Ex.ht]; omega) c4 g4
    · try simp
      exact l8 c3 g3 h1 h2 none none
  have l5 : ∀ {S : Sto}, 5 ≤ kk → 1 ≤ d → Cxn S ic is nmr xs Wn → Grow ic S0 S → Wp (evSs (cxt P (k + 5)) Gen.expressionB_5 [some (.ref ic), some (.int lvl), some (.ref j), some (aD A), some (.int d), some (.int kk), none, none, none] S) fun o S => Wp (outV o S) Q := fun {S} hk5 hd1 c g => by
    refine wp_ss ?_
    simp [-List.append_assoc, -List.length_append, -List.map_append]
    rw [in_ints new_at rfl]
    have c4 := c.app (o := .lst [.int 13, .int 14, .int 15, .int 17])
    have g4 := g.trans (Grow.app (o := .lst [.int 13, .int 14, .int 15, .int 17]))
    generalize S ++ [O.lst [.int 13, .int 14, .int 15, .int 17]] = S4 at c4 g4 ⊢
    generalize ([D.int 13, .int 14, .int 15, .int 17].any fun y => eqF y (.int kk)) = bb
    have ch : lvl < 3 → ∀ K : Out → Sto → Prop, (∀ (x : Ex) S', x.ok N A → x.dp ≤ 6 + 2 * (n + 1) ∧ (x.ht : Int) + lvl ≤ 3 → Cxn S' ic is nmr xs Wn → Grow ic S0 S' → K (.ret x.d) S') → Wp (evSs (cxt P (k + 5)) Gen.expressionB_5t [some (.ref ic), some (.int lvl), some (.ref j), some (aD A), some (.int d), some (.int kk), none, none, none] S4) K := fun hl3 K q' => by
      refine wp_ss ?_
      simp
      refine change_ok G hW hWw E4 E3 hn c4 (g4.at hj hne) hne (by omega) (by omega) hw hA hl3 fun x S' h1 h2 c' g' => ?_
      try simp
      exact q' x S' h1 (by omega) c' (g4.trans g')
    cases bb
    · simp
      exact l6 hk5 c4 g4
    · simp
      refine wp_ifp (fun hl3 => ?_) fun _ => ?_
      · exact ch hl3 _ fun x S' h1 h2 c' g' => by
          simp
          exact q x S' h1 h2 c' g'
      · exact l6 hk5 c4 g4
  have l4 : ∀ {S : Sto}, 1 ≤ d → Cxn S ic is nmr xs Wn → Grow ic S0 S → Wp (evSs (cxt P (k + 5)) Gen.expressionB_4 [some (.ref ic), some (.int lvl), some (.ref j), some (aD A), some (.int d), some (.int kk), none, none, none] S) fun o S => Wp (outV o S) Q := fun {S} hd1 c g => by
    refine wp_ss ?_
    have bd : ∀ K : Out → Sto → Prop, (∀ (x : Ex) S', x.ok N A → x.dp ≤ 6 + 2 * (n + 1) ∧ (x.ht : Int) + lvl ≤ 3 → Cxn S' ic is nmr xs Wn → Grow ic S0 S' → K (.ret x.d) S') → Wp (evSs (cxt P (k + 5)) Gen.expressionB_4t [some (.ref ic), some (.int lvl), some (.ref j), some (aD A), some (.int d), some (.int kk), none, none, none] S) K := fun K q' => by
      refine wp_ss ?_
      simp
      refine binding_ok G hW hWw E4 c (g.at hj hne) hne (by omega) (by omega) hw hA hl fun x S' h1 h2 c' g' => ?_
      try simp
      exact q' x S' h1 (by omega) c' (g.trans g')
    by_cases h5 : kk < 5
    · simp [h5]
      exact bd _ fun x S' h1 h2 c' g' => by
        simp
        exact q x S' h1 h2 c' g'
    · by_cases h16 : kk = 16
      · simp [h16]
        subst h16
        exact bd _ fun x S' h1 h2 c' g' => by
          simp
          exact q x S' h1 h2 c' g'
      · simp [h5, h16]
        exact l5 (by omega) hd1 c g
  have l3 : ∀ {S : Sto}, 1 ≤ d → Cxn S ic is nmr xs Wn → Grow ic S0 S → Wp (evSs (cxt P (k + 5)) Gen.expressionB_3 [some (.ref ic), some (.int lvl), some (.ref j), some (aD A), some (.int d), some (.int kk), none, none, none] S) fun o S => Wp (outV o S) Q := fun {S} hd1 c g => by
    refine wp_ss ?_
    simp [-List.append_assoc, -List.length_append, -List.map_append]
    rw [in_ints new_at rfl]
    have c4 := c.app (o := .lst [.int 2, .int 3])
    have g4 := g.trans (Grow.app (o := .lst [.int 2, .int 3]))
    generalize S ++ [O.lst [.int 2, .int 3]] = S4 at c4 g4 ⊢
    generalize ([D.int 2, .int 3].any fun y => eqF y (.int kk)) = bb
    cases bb
    · simp
      exact l4 hd1 c4 g4
    · cases A with
      | none =>
        simp [aD_isnot]
        exact l4 hd1 c4 g4
      | some kd =>
        simp [aD_isnot]
        refine wp_ss ?_
        simp
        refine ask_ok G E4 c4 (g4.at hj hne) hne (by omega) (by omega) hw hA hl (fun x S' h1 h2 c' g' => ?_) rfl
        try simp
        exact q x S' h1 (by omega) c' (g4.trans g')
  -- the leaf's row
  have lf : ∀ K : Out → Sto → Prop, (∀ (x : Ex) S', x.ok N A → x.dp ≤ 6 + 2 * (n + 1) ∧ (x.ht : Int) + lvl ≤ 3 → Cxn S' ic is nmr xs Wn → Grow ic S0 S' → K (.ret x.d) S') → Wp (evSs (cxt P (k + 5)) Gen.expressionB_2t [some (.ref ic), some (.int lvl), some (.ref j), some (aD A), some (.int d), some (.int kk), none, none, none] S2) K := fun K q' => by
    refine wp_ss ?_
    simp
    refine leaf_ok G c2 hj2 hne (by omega) hw hA fun x S' h1 h2 c' g' => ?_
    try simp
    exact q' x S' h1 (by omega) c' (g02.trans g')
  have lf2 := lf (fun o S1 => Wp (goR o (fun e2 S => evSs (cxt P (k + 5)) Gen.expressionB_3 e2 S) S1) fun o S => Wp (outV o S) Q) fun x S' h1 h2 c' g' => by
    simp
    exact q x S' h1 h2 c' g'
  refine wp_ss ?_
  by_cases h1 : d < 1
  · simp [h1]
    exact lf2
  · by_cases h2 : bud2 < 1
    · simp [h1, f1, h2]
      exact lf2
    · by_cases h3 : kk < 2
      · simp [h1, f1, h2, h3]
        exact lf2
      · simp [h1, f1, h2, h3]
        exact l3 (by omega) c2 g02
/-- at depth 0 -/
theorem expr_zero (G : Gens P) (k : Nat) : EOk P ic is nmr xs Wn (k + 6) 0 := by
  intro S0 N A d lvl j Q h hj hne hd hN hw hA hl q
  rw [call_fn G.expression, run_fn2 rfl, wp_bind]
  unfold Gen.expressionF Gen.expressionB
  obtain ⟨bud, e1, e2⟩ := cx_bud h
  obtain ⟨S1, e3, c1, g1⟩ := e2 (bud - 1)
  refine wp_ss ?_
  simp [startE, e1, e3]
  refine wp_ss ?_
  simp
  refine take_cx G c1 (by omega) (by omega) fun kk S2 a2 b2 c2 g2 => ?_
  have g02 := g1.trans g2
  have hj2 := g02.at hj hne
  try simp
  refine wp_ss ?_
  have h1 : d < 1 := by
    have : d ≤ 0 := hd
    omega
  simp [h1]
  refine wp_ss ?_
  simp
  refine leaf_ok G c2 hj2 hne (by omega) hw hA fun x S' h1 h2 c' g' => ?_
  try simp
  exact q x S' h1 (by omega) c' (g02.trans g')
theorem expr_ok (G : Gens P) (hW : Wn.length = 10) (hWw : ∀ x ∈ Wn, word x) : ∀ (n : Nat), n ≤ 90 → ∀ k, 3 * n + 6 ≤ k → EOk P ic is nmr xs Wn k n
  | 0, _, k, hk => by
    obtain ⟨m, rfl⟩ : ∃ m, k = m + 6 := ⟨k - 6, by omega⟩
    exact expr_zero G m
  | n + 1, hn, k, hk => by
    obtain ⟨m, rfl⟩ : ∃ m, k = m + 6 := ⟨k - 6, by omega⟩
    exact expr_step G hW hWw (by omega) (expr_ok G hW hWw n (by omega) _ (by omega)) (expr_ok G hW hWw n (by omega) _ (by omega)) (expr_ok G hW hWw n (by omega) _ (by omega))
end
end Mi
set_option Elab.async false
set_option linter.all false
set_option maxRecDepth 100000
/-! M31: loops, by invariants. -/
namespace Mi
open PySem L2
/-- on or out -/
def Out.on (o : Out) (f : En → Prop) (g : D → Prop) : Prop := match o with
  | .nx e => f e
  | .cnt e => f e
  | .ret v => g v
@[simp] theorem on_nx (e : En) (f : En → Prop) (g : D → Prop) : (Out.nx e).on f g = f e := rfl
@[simp] theorem on_cnt (e : En) (f : En → Prop) (g : D → Prop) : (Out.cnt e).on f g = f e := rfl
@[simp] theorem on_ret (v : D) (f : En → Prop) (g : D → Prop) : (Out.ret v).on f g = g v := rfl
theorem wp_for {it : It} {t : Tg} {b : En → Sto → R Out} {Q : Out → Sto → Prop} (I : Nat → En → Sto → Prop) (st : ∀ i e S, I i e S → it.still S = true)
    (step : ∀ i x e S, it.items[i]? = some x → I i e S → ∃ e1, setTg t x e S = some e1 ∧ Wp (b e1 S) fun o S' => o.on (fun e2 => I (i + 1) e2 S') fun v => Q (.ret v) S') (fin : ∀ e S, I it.items.length e S → Q (.nx e) S) {e : En} {S : Sto} (h0 : I 0 e S) :
    Wp (forL it t b it.items e S) Q := by
  have key : ∀ (n i : Nat) (e : En) (S : Sto), n = it.items.length - i → i ≤ it.items.length → I i e S → Wp (forL it t b (it.items.drop i) e S) Q := by
    intro n
    induction n with
    | zero =>
      intro i e S hn hi h
      have e1 : i = it.items.length := by omega
      subst e1
      rw [List.drop_length]
      unfold forL
      rw [if_pos (st _ _ _ h)]
      exact fin e S h
    | succ n ih =>
      intro i e S hn hi h
      have hlt : i < it.items.length := by omega
      rw [List.drop_eq_getElem_cons hlt]
      unfold forL
      rw [if_pos (st _ _ _ h)]
      obtain ⟨e1, h1, h2⟩ := step i _ e S (List.getElem?_eq_getElem hlt) h
      rw [h1]
      dsimp only
      rw [wp_bind]
      refine h2.mono fun o S' h3 => ?_
      cases o with
      | nx e2 => exact ih (i + 1) e2 S' (by omega) hlt h3
      | cnt e2 => exact ih (i + 1) e2 S' (by omega) hlt h3
      | ret v => exact h3
  have := key _ 0 e S rfl (Nat.zero_le _) h0
  rwa [List.drop_zero] at this
theorem wp_lc {it : It} {b : D → Sto → R (Option D)} {p : Nat} {Q : Unit → Sto → Prop} (I : Nat → Sto → Prop) (st : ∀ i S, I i S → it.still S = true)
    (step : ∀ i x S, it.items[i]? = some x → I i S → Wp (b x S) fun y S1 => (y = none ∧ I (i + 1) S1) ∨ ∃ z acc, y = some z ∧ S1[p]? = some (.lst acc) ∧ acc.length < sizeLine ∧ I (i + 1) (S1.set p (.lst (acc ++ [z])))) (fin : ∀ S, I it.items.length S → Q () S) {S : Sto} (h0 : I 0 S) :
    Wp (lcLoop it b p it.items S) Q := by
  have key : ∀ (n i : Nat) (S : Sto), n = it.items.length - i → i ≤ it.items.length → I i S → Wp (lcLoop it b p (it.items.drop i) S) Q := by
    intro n
    induction n with
    | zero =>
      intro i S hn hi h
      have e1 : i = it.items.length := by omega
      subst e1
      rw [List.drop_length]
      unfold lcLoop
      rw [if_pos (st _ _ h)]
      exact fin S h
    | succ n ih =>
      intro i S hn hi h
      have hlt : i < it.items.length := by omega
      rw [List.drop_eq_getElem_cons hlt]
      unfold lcLoop
      rw [if_pos (st _ _ h), wp_bind]
      refine (step i _ S (List.getElem?_eq_getElem hlt) h).mono fun y S1 h3 => ?_
      rcases h3 with ⟨rfl, h3⟩ | ⟨z, acc, rfl, h4, h5, h6⟩
      · exact ih (i + 1) S1 (by omega) hlt h3
      · dsimp only
        simp only [h4]
        rw [if_pos h5]
        exact ih (i + 1) _ (by omega) hlt h6
  have := key _ 0 S rfl (Nat.zero_le _) h0
  rwa [List.drop_zero] at this
theorem wp_whl {t : En → Sto → R Bool} {b : En → Sto → R Out} {Q : Out → Sto → Prop} (I : Nat → En → Sto → Prop)
    (step : ∀ m e S, I m e S → Wp (t e S) fun c S1 => if c = true then Wp (b e S1) fun o S2 => o.on (fun e2 => ∃ m', m' < m ∧ I m' e2 S2) fun v => Q (.ret v) S2 else Q (.nx e) S1) {m : Nat} {e : En} {S : Sto} (h0 : I m e S) :
    Wp (whileX t b e S) Q := by
  have key : ∀ (m : Nat) (e : En) (S : Sto), I m e S → ∃ n o S', whileN t b n e S = .ok o S' ∧ Q o S' := by
    intro m
    induction m using Nat.strongRecOn with
    | _ m ih =>
      intro e S h
      obtain ⟨c, S1, h1, h2⟩ := (step m e S h).ex
      cases c with
      | false => exact ⟨1, .nx e, S1, by unfold whileN; rw [h1]; rfl, h2⟩
      | true =>
        rw [if_pos rfl] at h2
        obtain ⟨o, S2, h3, h4⟩ := h2.ex
        have go : ∀ e2, (∃ m', m' < m ∧ I m' e2 S2) → (o = .nx e2 ∨ o = .cnt e2) → ∃ n o S', whileN t b n e S = .ok o S' ∧ Q o S' := fun e2 ⟨m', hm, hi⟩ ho => by
          obtain ⟨n, o', S', h5, h6⟩ := ih m' hm e2 S2 hi
          refine ⟨n + 1, o', S', ?_, h6⟩
          unfold whileN
          rw [h1]
          show (b e S1).bind _ = _
          rw [h3]
          rcases ho with rfl | rfl <;> exact h5
        cases o with
        | nx e2 => exact go e2 h4 (.inl rfl)
        | cnt e2 => exact go e2 h4 (.inr rfl)
        | ret v => exact ⟨1, .ret v, S2, by unfold whileN; rw [h1]; show (b e S1).bind _ = _; rw [h3]; rfl, h4⟩
  obtain ⟨n, o, S', h1, h2⟩ := key m e S h0
  rw [whileX_of h1]
  exact h2
@[simp] theorem still_none {xs : List D} {S : Sto} : It.still ⟨xs, none⟩ S = true := rfl
theorem still_lst {xs its : List D} {i : Nat} {S : Sto} (h : S[i]? = some (.lst xs)) : It.still ⟨its, some (i, xs)⟩ S = true := by
  unfold It.still
  simpa using h
theorem rng_at {n i : Nat} {x : D} (h : (rngL 0 n)[i]? = some x) : i < n ∧ x = .int (i : Nat) := by
  unfold rngL at h
  rw [List.getElem?_map] at h
  cases q : (List.range n)[i]? with
  | none =>
    rw [q] at h
    cases h
  | some j =>
    rw [q] at h
    cases h
    obtain ⟨h1, h2⟩ := List.getElem?_eq_some_iff.mp q
    rw [List.getElem_range] at h2
    subst h2
    exact ⟨by simpa using h1, by simp⟩
theorem rng_len {n : Nat} : (rngL 0 n).length = n := by simp [rngL]
theorem rngIt1 {j : Int} {S : Sto} (h : 0 ≤ j) (h' : j < 4611686018427387904) : rngIt [.int j] S = .ok ⟨rngL 0 j.toNat, none⟩ S := by
  have hr : Rch j := ⟨by omega, h'⟩
  unfold rngIt
  simp only [hr, if_true]
theorem rngItS {j : Int} {S : Sto} (h : 0 ≤ j) (h' : j ≤ 1000000) : rngIt [.int j] S = .ok ⟨rngL 0 j.toNat, none⟩ S := rngIt1 h (by omega)
theorem seqIt_lst {i : Nat} {xs : List D} {S : Sto} (h : S[i]? = some (.lst xs)) : seqIt (.ref i) S = .ok ⟨xs, some (i, xs)⟩ S := by
  unfold seqIt
  simp only [h]
@[simp] theorem seqIt_tup {xs : List D} {S : Sto} : seqIt (.tup xs) S = .ok ⟨xs, none⟩ S := rfl
@[simp] theorem seqIt_lit {xs : List D} {S : Sto} : seqIt (.lit xs) S = .ok ⟨xs, none⟩ S := rfl
end Mi
set_option Elab.async false
set_option linter.all false
set_option maxRecDepth 100000
set_option maxHeartbeats 1000000
/-! M32: texts; the check of a name. -/
namespace Mi
open PySem L2
theorem cps_app (a b : Str) : (a ++ b).cps = a.cps ++ b.cps := rfl
theorem inStr_one (z : Str) (c : Nat) : inStr ⟨#[c]⟩ z = decide (c ∈ z.cps.toList) := StrLaws.found_one z c
theorem sub_str {cds : Nat → List (Str × D)} {z : Str} {i : Int} {S : Sto} (h : z.length ≤ sizeLine) : subD cds (.str z) (.int i) S = optR ((atI z.cps.toList i).map fun c => D.str ⟨#[c]⟩) S := by
  show (if z.length ≤ sizeLine then _ else _) = _
  rw [if_pos h]
theorem len_str {z : Str} {S : Sto} (h : z.length ≤ sizeLine) : bfD .len [.str z] S = .ok (.int z.length) S := by
  show (if z.length ≤ sizeLine then _ else _) = _
  rw [if_pos h]
section
variable {P : Pr} {k : Nat} {S : Sto} {Q : D → Sto → Prop} {cds : Nat → List (Str × D)}
theorem notin_lst {i : Nat} {ys : List Str} {x : Str} (h : S[i]? = some (.lst (ys.map .str))) : cmpD cds .NotIn (.str x) (.ref i) S = .ok (.bl (decide (x ∉ ys))) S := by
  show inD cds true (.str x) (.ref i) S = _
  rw [in_lst h rfl (flat_strs ys), if_pos rfl]
  congr 2
  have : ((ys.map D.str).any fun y => eqF y (.str x)) = decide (x ∈ ys) := by
    rw [List.any_map, Bool.eq_iff_iff, List.any_eq_true, decide_eq_true_eq]
    constructor
    · rintro ⟨y, hy, e⟩
      have e : eqF (.str y) (.str x) = true := e
      rw [eqF_str, decide_eq_true_eq] at e
      exact e ▸ hy
    · intro hx
      exact ⟨x, hx, by show eqF (.str x) (.str x) = true; rw [eqF_str]; simp⟩
  rw [this]
  by_cases hx : x ∈ ys <;> simp [hx]
theorem isin_lst {i : Nat} {ys : List Str} {x : Str} (h : S[i]? = some (.lst (ys.map .str))) : cmpD cds .In (.str x) (.ref i) S = .ok (.bl (decide (x ∈ ys))) S := by
  show inD cds false (.str x) (.ref i) S = _
  rw [in_lst h rfl (flat_strs ys), if_neg Bool.false_ne_true]
  congr 2
  rw [List.any_map, Bool.eq_iff_iff, List.any_eq_true, decide_eq_true_eq]
  constructor
  · rintro ⟨y, hy, e⟩
    have e : eqF (.str y) (.str x) = true := e
    rw [eqF_str, decide_eq_true_eq] at e
    exact e ▸ hy
  · intro hx
    exact ⟨x, hx, by show eqF (.str x) (.str x) = true; rw [eqF_str]; simp⟩
theorem free_ok (G : Gens P) {x : Str} (q : ∀ o1 o2 o3, Q (.bl (decide (x ∉ wordsS))) (S ++ [o1] ++ [o2] ++ [o3])) : Wp ((cxt P (k + 2)).call "_law_free" [.str x] S) Q := by
  rw [call_fn G.free, run_fn2 rfl, wp_bind]
  unfold Gen.freeF Gen.freeB
  refine wp_ss ?_
  simp [startE, -List.append_assoc, -List.length_append]
  refine kinds_ok G ?_
  simp only [kindsS, List.map_cons, List.map_nil]
  rw [add_lst (by rw [List.getElem?_append_left (by simp), new_at]) new_at, if_pos (sizeBig (by simp) (by simp))]
  simp [-List.append_assoc, -List.length_append]
  rw [notin_lst (ys := wordsS) (by rw [new_at]; rfl)]
  simp only [wp_ok, goR_ret, outV_ret, R.bind_ok]
  exact q _ _ _
end
/-! ### names -/
theorem sub_len {α : Type} [DecidableEq α] : ∀ {l m : List α}, l.Nodup → (∀ x ∈ l, x ∈ m) → l.length ≤ m.length
  | [], _, _, _ => Nat.zero_le _
  | x :: l, m, nd, h => by
    obtain ⟨n1, n2⟩ := List.nodup_cons.mp nd
    have hx := h x List.mem_cons_self
    have : l.length ≤ (m.erase x).length := sub_len n2 fun y hy => by
      have hne : y ≠ x := fun e => by
        subst e
        exact n1 hy
      exact (List.mem_erase_of_ne hne).mpr (h y (List.mem_cons_of_mem _ hy))
    rw [List.length_erase_of_mem hx] at this
    have := List.length_pos_of_mem hx
    simp only [List.length_cons]
    omega
def signsS : Str := "abcdefghijklmnopqrstuvwxyzABCDEFGHIJKLMNOPQRSTUVWXYZ0123456789"
def signsL : List Nat := signsS.cps.toList
theorem signs_eq : signsL = lettersS ++ digitsS := by decide +kernel
theorem signs_len : signsL.length = 62 := by decide +kernel
theorem sign_at {i : Int} (h0 : 0 ≤ i) (h1 : i < 62) : ∃ c, atI signsL i = some c ∧ signsL[i.toNat]? = some c ∧ (c ∈ lettersS ∨ c ∈ digitsS) ∧ (i < 52 → c ∈ lettersS) := by
  rw [atI_pos h0]
  have hl : i.toNat < signsL.length := by rw [signs_len]; omega
  refine ⟨signsL[i.toNat], List.getElem?_eq_getElem hl, List.getElem?_eq_getElem hl, ?_, fun h => ?_⟩
  · have h2 : signsL[i.toNat] ∈ lettersS ++ digitsS := by
      have h3 := List.getElem_mem hl
      generalize signsL[i.toNat] = z at h3 ⊢
      rw [signs_eq] at h3
      exact h3
    exact List.mem_append.mp h2
  · have e : signsL[i.toNat]? = (lettersS ++ digitsS)[i.toNat]? := by rw [signs_eq]
    have hl2 : i.toNat < lettersS.length := by
      have : lettersS.length = 52 := by decide +kernel
      omega
    rw [List.getElem?_append_left hl2, List.getElem?_eq_getElem hl, List.getElem?_eq_getElem hl2] at e
    rw [Option.some.inj e]
    exact List.getElem_mem hl2
end Mi
set_option Elab.async false
set_option linter.all false
set_option maxRecDepth 100000
set_option maxHeartbeats 4000000
/-! M33: the drawn names. -/
namespace Mi
open PySem L2
structure Stem (x : Str) (i : Nat) : Prop where
  len : x.length = i
  all : ∀ c ∈ x.cps.toList, c ∈ lettersS ∨ c ∈ digitsS
  first : 0 < i → ∃ c, x.cps[0]? = some c ∧ c ∈ lettersS
theorem Stem.app {x : Str} {i c : Nat} (h : Stem x i) (hc : c ∈ lettersS ∨ c ∈ digitsS) (h0 : i = 0 → c ∈ lettersS) : Stem (x ++ ⟨#[c]⟩) (i + 1) := by
  have hs : x.cps.size = i := h.len
  refine ⟨?_, fun d hd => ?_, fun _ => ?_⟩
  · show (x.cps ++ #[c]).size = _
    rw [Array.size_append, hs]
    rfl
  · rw [cps_app, Array.toList_append] at hd
    rcases List.mem_append.mp hd with z | z
    · exact h.all d z
    · have : d = c := by simpa using z
      exact this ▸ hc
  · rw [cps_app]
    by_cases hi : i = 0
    · refine ⟨c, ?_, h0 hi⟩
      rw [Array.getElem?_append_right (by omega), hs, hi]
      rfl
    · obtain ⟨d, h1, h2⟩ := h.first (by omega)
      exact ⟨d, by rw [Array.getElem?_append_left (by omega)]; exact h1, h2⟩
/-- the k-th sign, the k-th name -/
def idxK (a s k : Nat) : Nat := (a + k * s) % 62
def nameK (stem : Str) (a s k : Nat) : Str := stem ++ ⟨#[signsL.getD (idxK a s k) 0]⟩
def accK (stem : Str) (a s k : Nat) : Prop := (∃ c, (nameK stem a s k).cps[0]? = some c ∧ c ∉ digitsS) ∧ nameK stem a s k ∉ wordsS
theorem name_eq {stem : Str} {a s k m : Nat} (h : nameK stem a s k = nameK stem a s m) : idxK a s k = idxK a s m := by
  have e : (stem.cps ++ #[signsL.getD (idxK a s k) 0]) = (stem.cps ++ #[signsL.getD (idxK a s m) 0]) := congrArg Str.cps h
  have e2 := Array.append_right_inj stem.cps |>.mp e
  have e3 : signsL.getD (idxK a s k) 0 = signsL.getD (idxK a s m) 0 := by simpa using e2
  have key : ∀ i < 62, ∀ j < 62, signsL.getD i 0 = signsL.getD j 0 → i = j := by decide +kernel
  exact key _ (Nat.mod_lt _ (by omega)) _ (Nat.mod_lt _ (by omega)) e3
theorem idx_inj {a s k m : Nat} (hk : k * s < 62) (hm : m * s < 62) (hs : 0 < s) (h : idxK a s k = idxK a s m) : k = m := by
  unfold idxK at h
  have : k * s = m * s := by omega
  exact Nat.eq_of_mul_eq_mul_right hs this
theorem words_alike : ∀ w ∈ wordsS, ∀ v ∈ wordsS, w.cps.toList.dropLast = v.cps.toList.dropLast → w = v := by decide +kernel
theorem words_two : ∀ w ∈ wordsS, 2 ≤ w.length := by decide +kernel
theorem digs_not : ∀ c ∈ lettersS, c ∉ digitsS := by decide +kernel
theorem few_digs : ∀ a < 62, ∀ s < 6, 0 < s → 10 ≤ ((List.range (61 / s + 1)).filter fun k => decide (idxK a s k < 52)).length := by decide +kernel
theorem nodup_map {α β : Type} {f : α → β} : ∀ {l : List α}, l.Nodup → (∀ x ∈ l, ∀ y ∈ l, f x = f y → x = y) → (l.map f).Nodup
  | [], _, _ => List.nodup_nil
  | x :: l, nd, h => by
    obtain ⟨n1, n2⟩ := List.nodup_cons.mp nd
    rw [List.map_cons, List.nodup_cons]
    refine ⟨fun hm => ?_, nodup_map n2 fun a ha b hb e => h a (List.mem_cons_of_mem _ ha) b (List.mem_cons_of_mem _ hb) e⟩
    obtain ⟨y, hy, e⟩ := List.mem_map.mp hm
    have := h y (List.mem_cons_of_mem _ hy) x List.mem_cons_self e
    subst this
    exact n1 hy
/-- ten of them stand -/
theorem ten {stem : Str} {n a s : Nat} {F : List Str} (hst : Stem stem n) (ha : a < 62) (hs : 0 < s) (hs2 : s < 6) (hF : ∀ k < 62, accK stem a s k → nameK stem a s k ∈ F) : 10 ≤ F.length := by
  -- a list of places whose names are accepted, with different signs
  have go : ∀ (l : List Nat), l.Nodup → (∀ k ∈ l, k * s < 62 ∧ accK stem a s k) → l.length ≤ F.length := by
    intro l nd hl
    have hk62 : ∀ k ∈ l, k < 62 := fun k hk => Nat.lt_of_le_of_lt (Nat.le_mul_of_pos_right k hs) (hl k hk).1
    have h1 : (l.map (nameK stem a s)).Nodup := nodup_map nd fun x hx y hy e => idx_inj (hl x hx).1 (hl y hy).1 hs (name_eq e)
    have h2 := sub_len h1 (m := F) fun x hx => by
      obtain ⟨k, hk, rfl⟩ := List.mem_map.mp hx
      exact hF k (hk62 k hk) (hl k hk).2
    rwa [List.length_map] at h2
  by_cases hn : n = 0
  · -- single signs: letters
    have h1 := few_digs a ha s hs2 hs
    refine Nat.le_trans h1 (go _ ((List.nodup_range).sublist List.filter_sublist) fun k hk => ?_)
    obtain ⟨h2, h3⟩ := List.mem_filter.mp hk
    have h3 : idxK a s k < 52 := by simpa using h3
    have h2 : k < 61 / s + 1 := by simpa using h2
    have hks : k * s < 62 := by
      have : k ≤ 61 / s := by omega
      have := (Nat.le_div_iff_mul_le hs).mp this
      omega
    have hsz : stem.cps.size = 0 := by
      have := hst.len
      rw [hn] at this
      exact this
    obtain ⟨c, _, hc, _, hl⟩ := sign_at (i := (idxK a s k : Nat)) (by omega) (by omega)
    have hg : signsL.getD (idxK a s k) 0 = c := by
      rw [List.getD_eq_getElem?_getD]
      rw [Int.toNat_natCast] at hc
      rw [hc]
      rfl
    refine ⟨hks, ⟨c, ?_, digs_not c (hl (by omega))⟩, fun hw => ?_⟩
    · show (stem.cps ++ #[signsL.getD (idxK a s k) 0])[0]? = _
      rw [Array.getElem?_append_right (by omega), hsz, hg]
      rfl
    · have := words_two _ hw
      have hl2 : (nameK stem a s k).length = stem.cps.size + 1 := by
        show (stem.cps ++ #[_]).size = _
        rw [Array.size_append]
        rfl
      omega
  · -- at most one is a word of the language
    obtain ⟨c0, f1, f2⟩ := hst.first (by omega)
    have hsz : stem.cps.size = n := hst.len
    have first : ∀ k, ∃ c, (nameK stem a s k).cps[0]? = some c ∧ c ∉ digitsS := fun k => ⟨c0, by
      show (stem.cps ++ #[_])[0]? = _
      rw [Array.getElem?_append_left (by omega)]
      exact f1, digs_not c0 f2⟩
    have one : ∀ k m, nameK stem a s k ∈ wordsS → nameK stem a s m ∈ wordsS → nameK stem a s k = nameK stem a s m := fun k m h1 h2 => words_alike _ h1 _ h2 (by
      show (stem.cps ++ #[_]).toList.dropLast = (stem.cps ++ #[_]).toList.dropLast
      rw [Array.toList_append, Array.toList_append]
      show (stem.cps.toList ++ [_]).dropLast = (stem.cps.toList ++ [_]).dropLast
      rw [List.dropLast_concat, List.dropLast_concat])
    have lt12 : ∀ k, k < 12 → k * s < 62 := fun k hk => by
      have : k * s ≤ 11 * 5 := Nat.mul_le_mul (by omega) (by omega)
      omega
    by_cases hex : ∃ k0, k0 < 12 ∧ nameK stem a s k0 ∈ wordsS
    · obtain ⟨k0, hk0, hw0⟩ := hex
      have h1 : 11 ≤ ((List.range 12).erase k0).length := by
        rw [List.length_erase_of_mem (by simpa using hk0)]
        simp
      refine Nat.le_trans (by omega) (Nat.le_trans h1 (go _ (List.Nodup.erase k0 List.nodup_range) fun k hk => ?_))
      have hk12 : k < 12 := by simpa using List.mem_of_mem_erase hk
      have hne : k ≠ k0 := fun e => by
        subst e
        exact absurd hk (List.Nodup.not_mem_erase List.nodup_range)
      refine ⟨lt12 k hk12, first k, fun hw => hne ?_⟩
      exact idx_inj (lt12 k hk12) (lt12 k0 hk0) hs (name_eq (one k k0 hw hw0))
    · refine Nat.le_trans (by decide : 10 ≤ (List.range 12).length) (go _ List.nodup_range fun k hk => ?_)
      have hk12 : k < 12 := by simpa using hk
      exact ⟨lt12 k hk12, first k, fun hw => hex ⟨k, hk12, hw⟩⟩
end Mi
set_option Elab.async false
set_option linter.all false
set_option maxRecDepth 100000
set_option maxHeartbeats 4000000
/-! M34: the drawing of the names. -/
namespace Mi
open PySem L2
theorem small {n : Nat} (h : n ≤ 1000) : n ≤ sizeLine := by
  rw [sizeLine_eq]
  omega
theorem str_len_app (a b : Str) : (a ++ b).length = a.length + b.length := by
  show (a.cps ++ b.cps).size = _
  rw [Array.size_append]
  rfl
theorem one_len (c : Nat) : (⟨#[c]⟩ : Str).length = 1 := rfl
section
variable {P : Pr} {k : Nat} {S : Sto} {ic is : Nat} {xs : List Int} {bud : Int} {nm : D} {Q : D → Sto → Prop}
theorem stem0 : Stem "" 0 := by
  have h : ("" : Str).cps.toList = [] := by decide +kernel
  refine ⟨by decide +kernel, fun c hc => ?_, fun h => absurd h (by omega)⟩
  rw [h] at hc
  cases hc
theorem take_gs (G : Gens P) {many : Int} (h : Gs S ic is xs bud nm) (hm : 0 < many) (hm2 : many < 1073741824)
    (q : ∀ d S', 0 ≤ d → d < many → Gs S' ic is xs bud nm → Grow ic S S' → Q (.int d) S') : Wp ((cxt P (k + 2)).call "_law_take" [.ref ic, .int many] S) Q := take_call G.toDrawn h hm hm2 q
/-- behind i turns of the names' loop -/
structure Ni (S0 : Sto) (ic is : Nat) (xs : List Int) (bud : Int) (nm : D) (stem : Str) (a s : Int) (r : Nat) (F : List Str) (i : Nat) (S : Sto) : Prop where
  at_ : S[r]? = some (.lst (F.map .str))
  wd : ∀ x ∈ F, word x
  len : F.length ≤ i
  le : i ≤ 62
  all : ∀ k, k < i → accK stem a.toNat s.toNat k → nameK stem a.toNat s.toNat k ∈ F
  g : Gs S ic is xs bud nm
  w : Grow ic S0 S
def Ne (ic : Nat) (stem : Str) (a s : Int) (r : Nat) (e : En) : Prop := ∃ (v3 v7 : Option D), e = [some (.ref ic), some (.str signsS), some (.str stem), v3, some (.int a), some (.int s), some (.ref r), v7]
theorem names_ok (G : Gens P) (h : Gs S ic is xs bud nm) (q : ∀ (r : Nat) (W : List Str) S', W.length = 10 → (∀ x ∈ W, word x) → S'[r]? = some (.lst (W.map .str)) → r ≠ ic → Gs S' ic is xs bud nm → Grow ic S S' → Q (.ref r) S') : Wp ((cxt P (k + 3)).call "_law_names" [.ref ic] S) Q := by
  rw [call_fn G.names, run_fn2 rfl, wp_bind]
  unfold Gen.namesF Gen.namesB
  have hsg : signsS.length ≤ sizeLine := small (by decide +kernel)
  -- the names from the stem on
  have loop2 : ∀ {S1 : Sto} {stem : Str} {n r : Nat} {a s : Int} {v3 : Option D}, Stem stem n → n ≤ 6 → 0 ≤ a → a < 62 → 0 < s → s < 6 → Gs S1 ic is xs bud nm → Grow ic S S1 → S1[r]? = some (.lst []) → S.length ≤ r →
      Wp (evSs (cxt P (k + 2)) Gen.namesB_6 [some (.ref ic), some (.str signsS), some (.str stem), v3, some (.int a), some (.int s), some (.ref r), none] S1) fun o S => Wp (outV o S) Q := by
    intro S1 stem n r a s v3 hst hn a0 a1 s0 s1 g1 w1 hr hrn
    have hne : r ≠ ic := fun e => by
      have := h.lt
      omega
    have hns : r ≠ is := fun e => by
      obtain ⟨_, _, _, h⟩ := h
      have := lt_of h.s
      omega
    refine wp_ss ?_
    simp [rngItS]
    refine wp_for (it := ⟨rngL 0 62, none⟩) (fun i e S2 => Ne ic stem a s r e ∧ ∃ F, Ni S ic is xs bud nm stem a s r F i S2)
      (fun i e S2 _ => rfl) ?_ ?_ ⟨⟨v3, none, rfl⟩, [], hr, fun x hx => absurd hx (by simp), Nat.le_refl _, by omega, fun k hk => absurd hk (by omega), g1, w1⟩
    · rintro i x e S2 hx ⟨⟨v3, v7, rfl⟩, F, hF, hw, hl, hi, hc, g2, w2⟩
      obtain ⟨hi62, rfl⟩ := rng_at hx
      refine ⟨_, rfl, ?_⟩
      unfold Gen.namesB_6b
      refine wp_ss ?_
      have hb : (0 : Int) ≤ (a + (i : Int) * s) % 62 := Int.emod_nonneg _ (by omega)
      have hb2 : (a + (i : Int) * s) % 62 < 62 := Int.emod_lt_of_pos _ (by omega)
      obtain ⟨c, hc1, hc2, hc3, _⟩ := sign_at hb hb2
      have hidx : ((a + (i : Int) * s) % 62).toNat = idxK a.toNat s.toNat i := by
        unfold idxK
        have e1 : a = (a.toNat : Int) := by omega
        have e2 : s = (s.toNat : Int) := by omega
        rw [e1, e2]
        rw [← Int.natCast_mul, ← Int.natCast_add]
        show (((a.toNat + i * s.toNat : Nat) : Int) % ((62 : Nat) : Int)).toNat = _
        rw [← Int.natCast_emod, Int.toNat_natCast]
        rfl
      have hname : stem ++ ⟨#[c]⟩ = nameK stem a.toNat s.toNat i := by
        unfold nameK
        rw [List.getD_eq_getElem?_getD, ← hidx, hc2]
        rfl
      have hlen : stem.length + (⟨#[c]⟩ : Str).length ≤ sizeLine := by
        rw [hst.len, one_len]
        exact small (by omega)
      simp [mul_int (cmul_r (i := (i : Int)) (j := s) (by omega) (by omega)), mod_int (j := 62) (by omega), sub_str hsg, show atI signsS.cps.toList ((a + (i : Int) * s) % 62) = some c from hc1, hlen]
      unfold Gen.namesB_6b_1
      refine wp_ss ?_
      have hx7 : (stem ++ ⟨#[c]⟩ : Str).length = n + 1 := by rw [str_len_app, hst.len, one_len]
      have hs7 : (stem ++ ⟨#[c]⟩ : Str).length ≤ sizeLine := small (by omega)
      obtain ⟨c0, hc0⟩ : ∃ c0, (stem ++ ⟨#[c]⟩ : Str).cps.toList[0]? = some c0 := by
        have : 0 < (stem ++ ⟨#[c]⟩ : Str).cps.toList.length := by
          have h3 : (stem ++ ⟨#[c]⟩ : Str).cps.size = n + 1 := hx7
          rw [Array.length_toList, h3]
          omega
        exact ⟨_, List.getElem?_eq_getElem this⟩
      have hc0' : (stem ++ ⟨#[c]⟩ : Str).cps[0]? = some c0 := by simpa using hc0
      have hcps : ∀ d ∈ (stem ++ ⟨#[c]⟩ : Str).cps.toList, d ∈ lettersS ∨ d ∈ digitsS := fun d hd => by
        rw [cps_app, Array.toList_append] at hd
        rcases List.mem_append.mp hd with z | z
        · exact hst.all d z
        · have : d = c := by simpa using z
          exact this ▸ hc3
      have notin_s : ∀ cds S, cmpD cds .NotIn (.str ⟨#[c0]⟩) (.str "0123456789") S = .ok (D.bl (decide (c0 ∉ digitsS))) S := fun cds S => by
        show R.ok (D.bl (!inStr _ _)) S = _
        rw [inStr_one]
        have : (("0123456789" : Str).cps.toList) = digitsS := by decide +kernel
        rw [this]
        by_cases hd : c0 ∈ digitsS <;> simp [hd]
      have skip : ∀ {S3 : Sto}, S3[r]? = some (.lst (F.map .str)) → Gs S3 ic is xs bud nm → Grow ic S S3 → (accK stem a.toNat s.toNat i → nameK stem a.toNat s.toNat i ∈ F) →
          Ne ic stem a s r [some (.ref ic), some (.str signsS), some (.str stem), some (.int (i : Nat)), some (.int a), some (.int s), some (.ref r), some (.str (stem ++ ⟨#[c]⟩))] ∧ ∃ F, Ni S ic is xs bud nm stem a s r F (i + 1) S3 :=
        fun {S3} h1 h2 h3 h4 => ⟨⟨_, _, rfl⟩, F, h1, hw, by omega, by omega, fun k hk ha => by
          by_cases e : k = i
          · subst e
            exact h4 ha
          · exact hc k (by omega) ha, h2, h3⟩
      simp [sub_str hs7, hc0, notin_s]
      refine wp_ifp (fun hd => ?_) fun hd => ?_
      · simp
        exact skip hF g2 w2 fun ⟨⟨c', h1, h2⟩, _⟩ => by
          rw [← hname, hc0'] at h1
          cases h1
          exact absurd hd h2
      · rw [notin_lst hF]
        simp
        refine wp_ifp (fun hin => ?_) fun hin => ?_
        · simp
          exact skip hF g2 w2 fun _ => by rw [← hname]; exact hin
        · simp only [wp_bind]
          refine free_ok G fun o1 o2 o3 => ?_
          have g3 := ((g2.app (o := o1)).app (o := o2)).app (o := o3)
          have w3 := ((w2.trans (Grow.app (o := o1))).trans (Grow.app (o := o2))).trans (Grow.app (o := o3))
          have hF3 : (S2 ++ [o1] ++ [o2] ++ [o3])[r]? = some (.lst (F.map .str)) := (((Grow.app (ic := ic) (o := o1)).trans (Grow.app (o := o2))).trans (Grow.app (o := o3))).at hF hne
          generalize S2 ++ [o1] ++ [o2] ++ [o3] = S3 at g3 w3 hF3 ⊢
          simp
          refine wp_ifp (fun hf => ?_) fun hf => ?_
          · simp
            exact skip hF3 g3 w3 fun ⟨_, h2⟩ => absurd (hname ▸ hf) h2
          · unfold Gen.namesB_6b_1t
            refine wp_ss ?_
            simp [pre_lst2 hF3, append_lst hF3 (show (F.map D.str).length < sizeLine by rw [List.length_map, sizeLine_eq]; omega)]
            have hr3 := lt_of hF3
            have hcw : c0 ∈ lettersS := (hcps c0 (by
              rw [List.mem_iff_getElem?]
              exact ⟨0, hc0⟩)).elim id fun z => absurd z hd
            refine ⟨⟨_, _, rfl⟩, F ++ [stem ++ ⟨#[c]⟩], ?_, fun y hy => ?_, by simp; omega, by omega, fun k hk ha => ?_, ?_, ?_⟩
            · rw [List.getElem?_set_self hr3, List.map_append]
              rfl
            · rcases List.mem_append.mp hy with z | z
              · exact hw y z
              · rcases List.mem_singleton.mp z with rfl
                exact ⟨by omega, by omega, hf, ⟨c0, hc0', hcw⟩, hcps⟩
            · by_cases e : k = i
              · subst e
                rw [← hname]
                simp
              · exact List.mem_append_left _ (hc k (by omega) ha)
            · obtain ⟨p, ac, ct, g⟩ := g3
              exact ⟨p, ac, ct, by rw [List.getElem?_set_ne hne]; exact g.c, by rw [List.getElem?_set_ne hns]; exact g.s, g.pos0, g.ne⟩
            · exact ⟨by simp; exact w3.len, fun i hi hi2 => by rw [List.getElem?_set_ne (by omega)]; exact w3.same i hi hi2⟩
    · rintro e S2 ⟨⟨v3, v7, rfl⟩, F, hF, hw, hl, hi, hc, g2, w2⟩
      simp
      unfold Gen.namesB_7
      refine wp_ss ?_
      simp [slc_lst hF, -List.append_assoc, -List.length_append]
      have h62 : (rngL 0 62).length = 62 := rng_len
      have hten := ten hst (a := a.toNat) (s := s.toNat) (F := F) (by omega) (by omega) (by omega) fun k hk ha => hc k (by show k < (rngL 0 62).length; omega) ha
      have hcut : cutL (F.map D.str) none (some 10) = ((F.take 10).map .str) := by
        unfold cutL
        show ((F.map D.str).drop 0).take (min 10 (F.map D.str).length - 0) = _
        rw [List.drop_zero, List.length_map, Nat.sub_zero, Nat.min_eq_left hten, List.map_take]
      rw [hcut]
      exact q _ (F.take 10) _ (by rw [List.length_take]; omega) (fun x hx => hw x (List.mem_of_mem_take hx)) new_at (Nat.ne_of_gt g2.lt) g2.app (w2.trans .app)
  refine wp_ss ?_
  simp [startE]
  unfold Gen.namesB_1
  refine wp_ss ?_
  simp
  unfold Gen.namesB_2
  refine wp_ss ?_
  simp [-List.append_assoc, -List.length_append]
  refine take_gs G h.app (by omega) (by omega) fun d1 S1 a1 b1 g1 w1 => ?_
  have hne0 : S.length ≠ ic := Nat.ne_of_gt h.lt
  rw [sub_lst (w1.at new_at hne0)]
  have w1 := Grow.trans (.app (o := .lst [.int 0, .int 0, .int 1, .int 3, .int 6])) w1
  obtain ⟨n, hn, en⟩ : ∃ n : Nat, n ≤ 6 ∧ atI ([.int 0, .int 0, .int 1, .int 3, .int 6] : List D) d1 = some (.int (n : Int)) := by
    have : d1 = 0 ∨ d1 = 1 ∨ d1 = 2 ∨ d1 = 3 ∨ d1 = 4 := by omega
    rcases this with rfl | rfl | rfl | rfl | rfl
    · exact ⟨0, by omega, rfl⟩
    · exact ⟨0, by omega, rfl⟩
    · exact ⟨1, by omega, rfl⟩
    · exact ⟨3, by omega, rfl⟩
    · exact ⟨6, by omega, rfl⟩
  rw [en]
  have hn2 : (n : Int) ≤ 1000000 := by omega
  refine Wp.of (optR_some _ _) ?_
  refine Wp.of (rngItS (Int.natCast_nonneg n) hn2) ?_
  rw [Int.toNat_natCast]
  refine wp_for (it := ⟨rngL 0 n, none⟩) (fun i e S2 => ∃ (stem : Str) (v3 : Option D), e = [some (.ref ic), some (.str signsS), some (.str stem), v3, none, none, none, none] ∧ Stem stem i ∧ i ≤ n ∧ Gs S2 ic is xs bud nm ∧ Grow ic S S2)
    (fun i e S2 _ => rfl) ?_ ?_ ⟨"", none, rfl, stem0, by omega, g1, w1⟩
  · rintro i x e S2 hx ⟨stem, v3, rfl, hst, hi, g2, w2⟩
    obtain ⟨hin, rfl⟩ := rng_at hx
    refine ⟨_, rfl, ?_⟩
    unfold Gen.namesB_2b
    refine wp_ss ?_
    simp [-List.append_assoc, -List.length_append]
    rw [sub_lst new_at]
    have step : ∀ (many : Int) (c0 : Int), 52 ≤ many → many ≤ 62 → (i = 0 → many = 52) → Wp ((cxt P (k + 2)).call "_law_take" [.ref ic, .int many] (S2 ++ [O.lst [.int 62, .int 52]])) fun a s => Wp (subD (cxt P (k + 2)).cds (.str signsS) a s) fun a s => Wp (binD .Add (.str stem) a s) fun a s => (fun e2 => ∃ (stem : Str) (v3 : Option D), e2 = [some (.ref ic), some (.str signsS), some (.str stem), v3, none, none, none, none] ∧ Stem stem (i + 1) ∧ i + 1 ≤ n ∧ Gs s ic is xs bud nm ∧ Grow ic S s) [some (.ref ic), some (.str signsS), some a, some (.int (i : Nat)), none, none, none, none] := by
      intro many _ m0 m1 m2
      refine take_gs G g2.app (by omega) (by omega) fun d3 S3 a3 b3 g3 w3 => ?_
      obtain ⟨c, hc1, hc2, hc3, hc4⟩ := sign_at (i := d3) a3 (by omega)
      have hlen : stem.length + (⟨#[c]⟩ : Str).length ≤ sizeLine := by
        rw [hst.len, one_len]
        exact small (by omega)
      simp [sub_str hsg, show atI signsS.cps.toList d3 = some c from hc1, hlen]
      exact ⟨hst.app hc3 fun h0 => hc4 (by have := m2 h0; omega), by omega, g3, (w2.trans .app).trans w3⟩
    by_cases hs : stem = ""
    · have hi0 : i = 0 := by
        rw [← hst.len, hs]
        rfl
      have := step 52 0 (by omega) (by omega) fun _ => rfl
      simp [hs] at this ⊢
      simpa using this
    · have hi0 : i ≠ 0 := fun e => hs (by
        have := hst.len
        rw [e] at this
        have h2 : stem.cps.size = 0 := this
        have h3 : stem.cps = #[] := Array.size_eq_zero_iff.mp h2
        cases stem
        simp at h3
        subst h3
        rfl)
      have := step 62 0 (by omega) (by omega) fun e => absurd e hi0
      simp [hs] at this ⊢
      simpa using this
  · rintro e S2 ⟨stem, v3, rfl, hst, hi, g2, w2⟩
    have hst : Stem stem n := by
      have e : (rngL 0 n).length = n := rng_len
      have hst : Stem stem (rngL 0 n).length := hst
      rwa [e] at hst
    simp
    unfold Gen.namesB_3
    refine wp_ss ?_
    simp
    refine take_gs G g2 (by omega) (by omega) fun d3 S3 a3 b3 g3 w3 => ?_
    try simp
    unfold Gen.namesB_4
    refine wp_ss ?_
    simp
    refine take_gs G g3 (by omega) (by omega) fun d4 S4 a4 b4 g4 w4 => ?_
    try simp
    unfold Gen.namesB_5
    refine wp_ss ?_
    simp [-List.append_assoc, -List.length_append]
    have w := (w2.trans w3).trans w4
    exact loop2 hst hn a3 b3 (by omega) (by omega) g4.app (w.trans .app) new_at w.len
end
end Mi
set_option Elab.async false
set_option linter.all false
set_option maxRecDepth 100000
set_option maxHeartbeats 2000000
/-! M35: parts, depth and size of a program, as the laws count them. -/
namespace Mi
open PySem L2
def Ex.kids : Ex → List Ex
  | .num _ => []
  | .name _ => []
  | .fn _ b => [b]
  | .call a b => [a, b]
  | .sum a b => [a, b]
  | .less a b => [a, b]
  | .ite a b c => [a, b, c]
  | .let_ _ a b => [a, b]
  | .say a => [a]
  | .rule _ a b => [a, b]
  | .keep _ a => [a]
  | .part _ => []
  | .with_ a => [a]
  | .usual => []
  | .do1 a => [a]
  | .do2 a b => [a, b]
def Ex.sz : Ex → Nat
  | .num _ => 1
  | .name _ => 1
  | .fn _ b => b.sz + 1
  | .call a b => a.sz + b.sz + 1
  | .sum a b => a.sz + b.sz + 1
  | .less a b => a.sz + b.sz + 1
  | .ite a b c => a.sz + b.sz + c.sz + 1
  | .let_ _ a b => a.sz + b.sz + 1
  | .say a => a.sz + 1
  | .rule _ a b => a.sz + b.sz + 1
  | .keep _ a => a.sz + 1
  | .part _ => 1
  | .with_ a => a.sz + 1
  | .usual => 1
  | .do1 a => a.sz + 1
  | .do2 a b => a.sz + b.sz + 1
def isTupD : D → Bool
  | .tup _ => true
  | _ => false
/-- flat or a tuple -/
def plainD : D → Bool
  | .ref _ => false
  | .cd _ => false
  | .lit _ => false
  | _ => true
theorem isi_tup {x : D} (h : plainD x = true) : isiD .tup x = some (isTupD x) := by cases x <;> first | rfl | cases h
@[simp] theorem plain_str (x : Str) : plainD (.str x) = true := rfl
@[simp] theorem plain_int (x : Int) : plainD (.int x) = true := rfl
@[simp] theorem plain_tup (x : List D) : plainD (.tup x) = true := rfl
@[simp] theorem plain_non : plainD .non = true := rfl
@[simp] theorem plain_bl (b : Bool) : plainD (.bl b) = true := rfl
@[simp] theorem isTup_str (x : Str) : isTupD (.str x) = false := rfl
@[simp] theorem isTup_int (x : Int) : isTupD (.int x) = false := rfl
@[simp] theorem isTup_tup (x : List D) : isTupD (.tup x) = true := rfl
@[simp] theorem d_tup (x : Ex) : isTupD x.d = true := by cases x <;> rfl
section
variable {P : Pr} {k : Nat} {S : Sto} {Q : D → Sto → Prop}
theorem slc_tup {ys : List D} {lo hi : Option Int} : slcD (.tup ys) lo hi S = .ok (.tup (cutL ys lo hi)) S := rfl
theorem cut_one {a : D} {ys : List D} : cutL (a :: ys) (some 1) none = ys := by
  show ((a :: ys).drop (min 1 (a :: ys).length)).take ((a :: ys).length - min 1 (a :: ys).length) = ys
  have h : min 1 (a :: ys).length = 1 := by simp
  rw [h, List.drop_succ_cons, List.drop_zero]
  simp
theorem inner_gen (G : Gens P) {a : Str} {ys : List D} (hp : ys.all plainD = true) (hl : ys.length ≤ 1000) (h1 : a = "do" → ∀ z zs, ys = z :: zs → Q z S) (hn : a = "do" → ys ≠ []) (h2 : a ≠ "do" → Q (.ref S.length) (S ++ [.lst (ys.filter isTupD)])) : Wp ((cxt P (k + 1)).call "_law_inner" [.tup (.str a :: ys)] S) Q := by
  rw [call_fn G.inner, run_fn2 rfl, wp_bind]
  unfold Gen.innerF Gen.innerB
  refine wp_ss ?_
  simp [startE]
  refine wp_ifp (fun e => ?_) fun e => ?_
  · unfold Gen.innerB_0t
    refine wp_ss ?_
    cases ys with
    | nil => exact absurd rfl (hn e)
    | cons z zs =>
      simp
      exact h1 e z zs rfl
  · try simp
    unfold Gen.innerB_1
    refine wp_ss ?_
    simp [slc_tup, cut_one]
    refine wp_lc (it := ⟨ys, none⟩) (fun i S' => S' = S ++ [.lst ((ys.take i).filter isTupD)]) (fun _ _ _ => rfl) ?_ ?_ (by simp)
    · rintro i x S' hx rfl
      have hpx : plainD x = true := List.all_eq_true.mp hp _ (List.mem_of_getElem? hx)
      have ht : ys.take (i + 1) = ys.take i ++ [x] := by
        rw [List.take_succ, hx]
        rfl
      unfold lcB
      simp [wipeE, isNop, isi_tup hpx, -List.append_assoc, -List.length_append]
      cases hb : isTupD x with
      | true =>
        simp [hb, ht, List.filter_append]
        have h3 : ((ys.take i).filter isTupD).length ≤ (ys.take i).length := List.length_filter_le ..
        rw [List.length_take] at h3
        rw [sizeLine_eq]
        omega
      | false =>
        simp [hb, ht, List.filter_append]
    · rintro S' rfl
      simp
      exact h2 e
/-- the parts of a program, however they come -/
theorem inner_ex (G : Gens P) (x : Ex) (h1 : Q (.tup (x.kids.map Ex.d)) S) (h2 : Q (.ref S.length) (S ++ [.lst (x.kids.map Ex.d)])) : Wp ((cxt P (k + 1)).call "_law_inner" [x.d] S) Q := by
  have pl : ∀ y : Ex, plainD y.d = true := fun y => by cases y <;> rfl
  cases x <;> refine inner_gen G ?_ ?_ ?_ ?_ ?_ <;> first
    | (simp [pl]; done)
    | (simp; done)
    | (intro e; exact absurd e (by decide +kernel))
    | (intro _; simpa [List.filter_cons, Ex.kids] using h2)
    | (intro _ z zs e; simp at e; obtain ⟨rfl, _⟩ := e; simpa [Ex.kids] using h1)
    | (intro _; simp)
end
end Mi
set_option Elab.async false
set_option linter.all false
set_option maxRecDepth 100000
set_option maxHeartbeats 2000000
/-! M36: depth and size. -/
namespace Mi
open PySem L2
section
variable {P : Pr} {k : Nat} {S : Sto} {Q : D → Sto → Prop}
theorem kids_len (x : Ex) : x.kids.length ≤ 3 := by cases x <;> simp [Ex.kids]
/-- [f(p) for p in inner(e)] -/
theorem kids_lc (G : Gens P) (x : Ex) {f : Str} {g : Ex → Int} (hf : ∀ y ∈ x.kids, ∀ (S : Sto) (Q : D → Sto → Prop), (∀ T, Q (.int (g y)) (S ++ T)) → Wp ((cxt P (k + 1)).call f [y.d] S) Q)
    (q : ∀ (p : Nat) (T : List O), (S ++ T)[p]? = some (.lst (x.kids.map fun y => .int (g y))) → Q (.ref p) (S ++ T)) :
    Wp ((ev (cxt P (k + 1)) (.lc (.nm 1) (.seq (.call "_law_inner" (.cons (.var 0) .nil))) .nop (.call f (.cons (.var 1) .nil)) [1])).v [some x.d, none] S) Q := by
  simp [-List.append_assoc, -List.length_append, -List.map_take]
  have body : ∀ (S1 : Sto) (it : It), it.items = x.kids.map Ex.d → (∀ T, it.still (S1 ++ T) = true) → (∃ T, S1 = S ++ T) → Wp (lcLoop it (lcB (cxt P (k + 1)) (.nm 1) [1] .nop (.call f (.cons (.var 1) .nil)) [some x.d, none]) S1.length it.items (S1 ++ [.lst []])) fun _ S5 => Q (.ref S1.length) S5 := by
    rintro S1 it hit hst ⟨T0, rfl⟩
    refine wp_lc (fun i S' => ∃ T, S' = S ++ T0 ++ [.lst ((x.kids.take i).map fun y => .int (g y))] ++ T) ?_ ?_ ?_ ⟨[], by simp⟩
    · rintro i S' ⟨T, rfl⟩
      rw [List.append_assoc (S ++ T0)]
      exact hst _
    · rintro i y S' hx ⟨T, rfl⟩
      rw [hit, List.getElem?_map] at hx
      cases hk : x.kids[i]? with
      | none =>
        rw [hk] at hx
        cases hx
      | some z =>
        rw [hk] at hx
        cases hx
        have hz : z ∈ x.kids := List.mem_of_getElem? hk
        have ht : x.kids.take (i + 1) = x.kids.take i ++ [z] := by
          rw [List.take_succ, hk]
          rfl
        unfold lcB
        simp [wipeE, isNop, -List.append_assoc, -List.length_append, -List.map_take]
        refine hf z hz _ _ fun T2 => ?_
        try simp [-List.append_assoc, -List.length_append, -List.map_take]
        have hp : (S ++ T0 ++ [O.lst ((x.kids.take i).map fun y => .int (g y))] ++ T ++ T2)[(S ++ T0).length]? = some (.lst ((x.kids.take i).map fun y => .int (g y))) := by
          rw [List.append_assoc, List.append_assoc (S ++ T0), List.getElem?_append_right (Nat.le_refl _), Nat.sub_self]
          rfl
        refine ⟨_, by first | exact hp | (rw [← List.map_take]; exact hp), ?_, T ++ T2, ?_⟩
        · rw [List.length_map, List.length_take, sizeLine_eq]
          have := kids_len x
          omega
        · rw [ht, List.map_append, List.append_assoc, List.append_assoc (S ++ T0), List.set_append_right _ _ (Nat.le_refl _), Nat.sub_self]
          simp
    · rintro S' ⟨T, rfl⟩
      have hl : it.items.length = x.kids.length := by rw [hit, List.length_map]
      rw [hl, List.take_length]
      have := q (S ++ T0).length (T0 ++ [.lst (x.kids.map fun y => .int (g y))] ++ T) (by
        rw [← List.append_assoc, ← List.append_assoc, List.append_assoc (S ++ T0), List.getElem?_append_right (Nat.le_refl _), Nat.sub_self]
        rfl)
      rw [← List.append_assoc, ← List.append_assoc] at this
      exact this
  refine inner_ex G x ?_ ?_
  · simp [-List.append_assoc, -List.length_append, -List.map_take]
    exact body S ⟨x.kids.map Ex.d, none⟩ rfl (fun _ => rfl) ⟨[], by simp⟩
  · rw [seqIt_lst new_at]
    simp only [wp_ok]
    refine body (S ++ [.lst (x.kids.map Ex.d)]) ⟨x.kids.map Ex.d, some (S.length, x.kids.map Ex.d)⟩ rfl (fun T => ?_) ⟨_, rfl⟩
    exact still_lst (by rw [List.getElem?_append_left (by simp), new_at])
theorem ints_map (l : List Ex) (g : Ex → Int) : intsOf (l.map fun y => D.int (g y)) = some (l.map g) := by
  induction l with
  | nil => rfl
  | cons a l ih =>
    show (intsOf (l.map fun y => D.int (g y))).map _ = _
    rw [ih]
    rfl
theorem size_ok (G : Gens P) : ∀ (x : Ex) (k : Nat), x.dp + 1 ≤ k → ∀ (S : Sto) (Q : D → Sto → Prop), (∀ T, Q (.int (x.sz : Int)) (S ++ T)) → Wp ((cxt P k).call "_law_size" [x.d] S) Q := by
  intro x
  have key : ∀ (n : Nat) (x : Ex), x.dp ≤ n → ∀ (k : Nat), x.dp + 1 ≤ k → ∀ (S : Sto) (Q : D → Sto → Prop), (∀ T, Q (.int (x.sz : Int)) (S ++ T)) → Wp ((cxt P k).call "_law_size" [x.d] S) Q := by
    intro n
    induction n with
    | zero => intro x hx; cases x <;> simp [Ex.dp] at hx
    | succ n ih =>
      intro x hx k hk S Q q
      have hd : 1 ≤ x.dp := by cases x <;> simp [Ex.dp]
      obtain ⟨m, rfl⟩ : ∃ m, k = m + 2 := ⟨k - 2, by omega⟩
      rw [call_fn G.size, run_fn2 rfl, wp_bind]
      unfold Gen.sizeF Gen.sizeB
      refine wp_ss ?_
      have hlt : ∀ y ∈ x.kids, y.dp + 1 ≤ x.dp := fun y hy => by
        cases x <;> simp [Ex.kids, Ex.dp] at hy ⊢ <;> (try rcases hy with rfl | rfl | rfl) <;> (try rcases hy with rfl | rfl) <;> (try subst hy) <;> omega
      simp only [s_retE, v_bin, v_int, v_bf, es_cons2, es_nil, R.bind_ok, wp_bind, startE]
      refine kids_lc G x (fun y hy S Q q => ih y (by have := hlt y hy; omega) (m + 1) (by have := hlt y hy; omega) S Q q) fun p T hp => ?_
      have hs : bfD .sum [.ref p] (S ++ T) = .ok (.int ((x.kids.map fun y => (y.sz : Int)).sum)) (S ++ T) := by
        unfold bfD lstOf
        simp only [hp, Option.bind_some, ints_map]
      simp only [wp_ok, hs, add_int, goR_ret, outV_ret]
      have hsum : 1 + (x.kids.map fun y => (y.sz : Int)).sum = (x.sz : Int) := by
        cases x <;> simp [Ex.kids, Ex.sz] <;> omega
      rw [hsum]
      exact q T
  exact key x.dp x (Nat.le_refl _)
theorem kid_lt {x y : Ex} (hy : y ∈ x.kids) : y.dp + 1 ≤ x.dp := by
  cases x <;> simp [Ex.kids, Ex.dp] at hy ⊢ <;> (try rcases hy with rfl | rfl | rfl) <;> (try rcases hy with rfl | rfl) <;> (try subst hy) <;> omega
theorem max_dp (x : Ex) : 1 + maxL ((0 : Int) :: x.kids.map fun y => (y.dp : Int)) = (x.dp : Int) := by
  cases x <;> simp [Ex.kids, Ex.dp, maxL] <;> omega
theorem depth_ok (G : Gens P) : ∀ (n : Nat) (x : Ex), x.dp ≤ n → ∀ (k : Nat), x.dp + 1 ≤ k → ∀ (S : Sto) (Q : D → Sto → Prop), (∀ T, Q (.int (x.dp : Int)) (S ++ T)) → Wp ((cxt P k).call "_law_depth" [x.d] S) Q := by
  intro n
  induction n with
  | zero => intro x hx; cases x <;> simp [Ex.dp] at hx
  | succ n ih =>
    intro x hx k hk S Q q
    have hd : 1 ≤ x.dp := by cases x <;> simp [Ex.dp]
    obtain ⟨m, rfl⟩ : ∃ m, k = m + 2 := ⟨k - 2, by omega⟩
    rw [call_fn G.depth, run_fn2 rfl, wp_bind]
    unfold Gen.depthF Gen.depthB
    refine wp_ss ?_
    simp only [s_retE, v_bin, v_int, v_lst, v_bf, es_cons2, es_nil, R.bind_ok, wp_bind, wp_ok, startE]
    refine kids_lc G x (fun y hy S Q q => ih y (by have := kid_lt hy; omega) (m + 1) (by have := kid_lt hy; omega) S Q q) fun p T hp => ?_
    have h0 : (S ++ [O.lst [.int 0]] ++ T)[S.length]? = some (.lst [.int 0]) := by
      rw [List.getElem?_append_left (by simp), new_at]
    rw [add_lst h0 hp, if_pos (sizeBig (by simp) (by rw [List.length_map]; have := kids_len x; omega))]
    have hs : bfD .max [.ref (S ++ [O.lst [.int 0]] ++ T).length] (S ++ [O.lst [.int 0]] ++ T ++ [.lst ([.int 0] ++ x.kids.map fun y => .int (y.dp : Int))]) = .ok (.int (maxL ((0 : Int) :: x.kids.map fun y => (y.dp : Int)))) (S ++ [O.lst [.int 0]] ++ T ++ [.lst ([.int 0] ++ x.kids.map fun y => .int (y.dp : Int))]) := by
      unfold bfD lstOf
      have hi : intsOf ([D.int 0] ++ x.kids.map fun y => D.int (y.dp : Int)) = some ((0 : Int) :: x.kids.map fun y => (y.dp : Int)) := by
        show (intsOf (x.kids.map fun y => D.int (y.dp : Int))).map _ = _
        rw [ints_map]
        rfl
      simp only [new_at, Option.bind_some, hi]
    simp only [wp_ok, hs, add_int, goR_ret, outV_ret, max_dp]
    have := q ([.lst [.int 0]] ++ T ++ [.lst ([.int 0] ++ x.kids.map fun y => .int (y.dp : Int))])
    rw [← List.append_assoc, ← List.append_assoc] at this
    exact this
end
end Mi
set_option Elab.async false
set_option linter.all false
set_option maxRecDepth 100000
set_option maxHeartbeats 2000000
/-! M37: the drawn program. -/
namespace Mi
open PySem L2
section
variable {P : Pr} {k : Nat} {S : Sto} {ic is : Nat} {xs : List Int} {bud : Int} {nm : D} {Q : D → Sto → Prop}
theorem Grow.appT {T : List O} : Grow ic S (S ++ T) := ⟨by simp, fun i h _ => List.getElem?_append_left h⟩
theorem Cxn.appT {nmr : Nat} {Wn : List Str} (h : Cxn S ic is nmr xs Wn) {T : List O} : Cxn (S ++ T) ic is nmr xs Wn := by
  obtain ⟨⟨b, p, a, c, g⟩, n, ne⟩ := h
  exact ⟨⟨b, p, a, c, by rw [List.getElem?_append_left g.lt]; exact g.c, by rw [List.getElem?_append_left (lt_of g.s)]; exact g.s, g.pos0, g.ne⟩, by rw [List.getElem?_append_left (lt_of n)]; exact n, ne⟩
theorem program_ok (G : Gens P) (h : Gs S ic is xs bud nm)
    (q : ∀ (x : Ex) S' nmr W, x.ok [] none → x.dp ≤ 10 → x.ht ≤ 3 → x.sz ≤ 60 → Cxn S' ic is nmr xs W → W.length = 10 → (∀ y ∈ W, word y) → Grow ic S S' → Q x.d S') : Wp ((cxt P (k + 41)).call "_law_program" [.ref ic] S) Q := by
  rw [call_fn G.program, run_fn2 rfl, wp_bind]
  unfold Gen.programF Gen.programB
  refine wp_ss ?_
  simp [startE]
  refine names_ok (k := k + 37) G h fun r W S1 hW hw hr hne g1 w1 => ?_
  obtain ⟨p, a, c, g⟩ := g1
  simp [g.put5]
  have g2 := g.set (pos' := p) (acc' := a) (cnt' := c) (bud' := bud) (nm' := .ref r) g.pos0
  have w2 := w1.trans (Grow.set (o := .lst [.ref is, .int p, .int a, .int c, .int bud, .ref r]))
  have hr2 : (S1.set ic (.lst [.ref is, .int p, .int a, .int c, .int bud, .ref r]))[r]? = some (.lst (W.map .str)) := by
    rw [List.getElem?_set_ne (Ne.symm hne)]
    exact hr
  generalize S1.set ic (.lst [.ref is, .int p, .int a, .int c, .int bud, .ref r]) = S2 at g2 w2 hr2 ⊢
  have c2 : Cxn S2 ic is r xs W := ⟨⟨bud, p, a, c, g2⟩, hr2, hne⟩
  unfold Gen.programB_1
  refine wp_ss ?_
  simp
  refine take_cx G c2 (by omega) (by omega) fun d3 S3 a3 b3 c3 w3 => ?_
  obtain ⟨bd, e1, e2⟩ := cx_bud c3
  obtain ⟨S4, e4, c4, w4⟩ := e2 (14 + d3)
  simp [e4]
  have w04 := (w2.trans w3).trans w4
  unfold Gen.programB_2
  refine wp_ss ?_
  simp [-List.append_assoc, -List.length_append]
  refine take_cx G c4.app (by omega) (by omega) fun d5 S5 a5 b5 c5 w5 => ?_
  simp
  have w05 := (w04.trans .app).trans w5
  refine expr_ok G hW hw 6 (by omega) (k + 40) (by omega) S5 [] none (3 + d5) 0 S4.length _ c5 (w5.at new_at c4.new) c4.new (by omega) (by simp) (fun x hx => absurd hx (by simp)) (fun k e => by cases e) (by omega) fun x S6 h1 h2 c6 w6 => ?_
  try simp
  have w06 := w05.trans w6
  unfold Gen.programB_3
  refine wp_ss ?_
  simp [-List.append_assoc, -List.length_append]
  refine depth_ok G x.dp x (Nat.le_refl _) (k + 40) (by omega) S6 _ fun T => ?_
  simp [-List.append_assoc, -List.length_append]
  have alt : ∀ {S7 : Sto}, Cxn S7 ic is r xs W → Grow ic S S7 → Wp (evSs (cxt P (k + 40)) Gen.programB_3t [some (.ref ic), some x.d] S7) fun o S1 => Wp (goR o (fun e2 S => evSs (cxt P (k + 40)) Gen.programB_4 e2 S) S1) fun a s => Wp (outV a s) Q := fun {S7} c7 w7 => by
    unfold Gen.programB_3t
    refine wp_ss ?_
    simp
    refine integer_ok G c7 fun n S8 l1 l2 c8 w8 => ?_
    try simp
    exact q (.say (.num n)) S8 r W ⟨l1, l2⟩ (by show 2 ≤ 10; omega) (by show 0 ≤ 3; omega) (by show 2 ≤ 60; omega) c8 hW hw (w7.trans w8)
  refine wp_ifp (fun _ => ?_) fun hd => ?_
  · try simp
    exact alt c6.appT (w06.trans .appT)
  · try simp only [wp_bind]
    refine size_ok G x (k + 40) (by omega) _ _ fun T2 => ?_
    simp [-List.append_assoc, -List.length_append]
    refine wp_ifp (fun _ => ?_) fun hs => ?_
    · simp only [wp_ok, if_true]
      exact alt c6.appT.appT ((w06.trans .appT).trans .appT)
    · rw [wp_ok, if_neg Bool.false_ne_true]
      simp only [wp_ok, goR_nx]
      unfold Gen.programB_4
      refine wp_ss ?_
      simp [-List.append_assoc, -List.length_append]
      exact q x _ r W h1 (by omega) (by omega) (by omega) c6.appT.appT hW hw ((w06.trans .appT).trans .appT)
end
end Mi
set_option Elab.async false
set_option linter.all false
set_option maxRecDepth 100000
set_option maxHeartbeats 2000000
/-! M38: what is well formed, on data. -/
namespace Mi
open PySem L2
mutual
/-- no object within; no tuple and no text longer than b -/
def pureD (b : Nat) : D → Bool
  | .tup xs => decide (xs.length ≤ b) && pureDs b xs
  | .str x => decide (x.length ≤ b)
  | .ref _ => false
  | .cd _ => false
  | .lit _ => false
  | _ => true
def pureDs (b : Nat) : List D → Bool
  | [] => true
  | x :: xs => pureD b x && pureDs b xs
end
mutual
/-- how deep tuples stand in one another -/
def dn : D → Nat
  | .tup xs => dns xs + 1
  | _ => 0
def dns : List D → Nat
  | [] => 0
  | x :: xs => max (dn x) (dns xs)
end
theorem pure_mem {b : Nat} : ∀ {xs : List D}, pureDs b xs = true → ∀ x ∈ xs, pureD b x = true
  | [], _, x, h => by cases h
  | y :: ys, hp, x, h => by
    have hp : (pureD b y && pureDs b ys) = true := hp
    rw [Bool.and_eq_true] at hp
    rcases List.mem_cons.mp h with rfl | h
    · exact hp.1
    · exact pure_mem hp.2 x h
theorem dn_mem : ∀ {xs : List D} {x : D}, x ∈ xs → dn x ≤ dns xs
  | [], x, h => by cases h
  | y :: ys, x, h => by
    show dn x ≤ max (dn y) (dns ys)
    rcases List.mem_cons.mp h with rfl | h
    · omega
    · have := dn_mem h
      omega
theorem pure_plain {b : Nat} {x : D} (h : pureD b x = true) : plainD x = true := by cases x <;> first | rfl | cases h
theorem pure_all {b : Nat} {xs : List D} (h : pureDs b xs = true) : xs.all plainD = true := List.all_eq_true.mpr fun x hx => pure_plain (pure_mem h x hx)
/-- a name's form, looked at -/
def wordB (x : Str) : Bool := decide (1 ≤ x.length) && decide (x.length ≤ 8) && decide (x ∉ wordsS) && (match x.cps[0]? with
  | some c => decide (c ∈ lettersS)
  | none => false) && x.cps.toList.all fun c => decide (c ∈ lettersS) || decide (c ∈ digitsS)
theorem wordB_iff {x : Str} : wordB x = true ↔ word x := by
  unfold wordB word
  simp only [Bool.and_eq_true, decide_eq_true_eq, List.all_eq_true, Bool.or_eq_true]
  constructor
  · rintro ⟨⟨⟨⟨h1, h2⟩, h3⟩, h4⟩, h5⟩
    refine ⟨h1, h2, h3, ?_, h5⟩
    split at h4
    · exact ⟨_, by assumption, by simpa using h4⟩
    · cases h4
  · rintro ⟨h1, h2, h3, ⟨c, h4, h6⟩, h5⟩
    refine ⟨⟨⟨⟨h1, h2⟩, h3⟩, ?_⟩, h5⟩
    rw [h4]
    simpa using h6
/-- well formed: names N bound, within a rule about A -/
def gd : Nat → List Str → Option Str → D → Bool
  | 0, _, _, _ => false
  | n + 1, N, A, v => match v with
    | .tup (.str k :: r) =>
      if k = ("num" : Str) then (match r with | [.int i] => decide (-1000000 ≤ i ∧ i ≤ 1000000) | _ => false)
      else if k = ("name" : Str) then (match r with | [.str x] => wordB x && decide (x ∈ N) | _ => false)
      else if k = ("fn" : Str) then (match r with | [.str x, b] => wordB x && gd n (N ++ [x]) A b | _ => false)
      else if k = ("let" : Str) then (match r with | [.str x, a, b] => wordB x && (gd n N A a && gd n (N ++ [x]) A b) | _ => false)
      else if k = ("call" : Str) ∨ k = ("sum" : Str) ∨ k = ("less" : Str) ∨ k = ("if" : Str) ∨ k = ("say" : Str) then decide ((r.length : Int) = partsN k) && r.all (gd n N A)
      else if k = ("rule" : Str) then (match r with | [.str q, a, b] => decide (q ∈ kindsS) && (gd n [] (some q) a && gd n N A b) | _ => false)
      else if k = ("keep" : Str) then (match r with | [.str q, a] => decide (q ∈ kindsS) && gd n [] (some q) a | _ => false)
      else match A with
        | none => false
        | some q =>
          if k = ("part" : Str) then (match r with | [.int i] => decide (0 ≤ i ∧ i < partsN q) | _ => false)
          else if k = ("with" : Str) then decide (q = ("let" : Str)) && (match r with | [a] => gd n N A a | _ => false)
          else if k = ("usual" : Str) then r.isEmpty
          else if k = ("do" : Str) then (match r with | [.tup es] => decide (q = ("call" : Str) ∨ q = ("sum" : Str) ∨ q = ("less" : Str) ∨ q = ("say" : Str)) && (decide ((es.length : Int) = partsN q) && es.all (gd n N A)) | _ => false)
          else false
    | _ => false
theorem gd_ex : ∀ (x : Ex) (n : Nat) (N : List Str) (A : Option Str), x.ok N A → x.dp ≤ n → gd n N A x.d = true
  | x, 0, N, A, h, hd => by cases x <;> simp [Ex.dp] at hd
  | .num i, n + 1, N, A, h, hd => by
    show decide _ = true
    exact decide_eq_true h
  | .name x, n + 1, N, A, h, hd => by
    show (wordB x && decide (x ∈ N)) = true
    rw [wordB_iff.mpr h.1, decide_eq_true h.2]
    rfl
  | .fn x b, n + 1, N, A, h, hd => by
    show (wordB x && gd n (N ++ [x]) A b.d) = true
    have hd : b.dp + 1 ≤ n + 1 := hd
    rw [wordB_iff.mpr h.1, gd_ex b n _ A h.2 (by omega)]
    rfl
  | .let_ x a b, n + 1, N, A, h, hd => by
    show (wordB x && (gd n N A a.d && gd n (N ++ [x]) A b.d)) = true
    have hd : max a.dp b.dp + 1 ≤ n + 1 := hd
    rw [wordB_iff.mpr h.1, gd_ex a n _ A h.2.1 (by omega), gd_ex b n _ A h.2.2 (by omega)]
    rfl
  | .call a b, n + 1, N, A, h, hd => by
    show (true && (gd n N A a.d && (gd n N A b.d && true))) = true
    have hd : max a.dp b.dp + 1 ≤ n + 1 := hd
    rw [gd_ex a n _ A h.1 (by omega), gd_ex b n _ A h.2 (by omega)]
    rfl
  | .sum a b, n + 1, N, A, h, hd => by
    show (true && (gd n N A a.d && (gd n N A b.d && true))) = true
    have hd : max a.dp b.dp + 1 ≤ n + 1 := hd
    rw [gd_ex a n _ A h.1 (by omega), gd_ex b n _ A h.2 (by omega)]
    rfl
  | .less a b, n + 1, N, A, h, hd => by
    show (true && (gd n N A a.d && (gd n N A b.d && true))) = true
    have hd : max a.dp b.dp + 1 ≤ n + 1 := hd
    rw [gd_ex a n _ A h.1 (by omega), gd_ex b n _ A h.2 (by omega)]
    rfl
  | .ite a b c, n + 1, N, A, h, hd => by
    show (true && (gd n N A a.d && (gd n N A b.d && (gd n N A c.d && true)))) = true
    have hd : max a.dp (max b.dp c.dp) + 1 ≤ n + 1 := hd
    rw [gd_ex a n _ A h.1 (by omega), gd_ex b n _ A h.2.1 (by omega), gd_ex c n _ A h.2.2 (by omega)]
    rfl
  | .say a, n + 1, N, A, h, hd => by
    show (true && (gd n N A a.d && true)) = true
    have hd : a.dp + 1 ≤ n + 1 := hd
    rw [gd_ex a n _ A h (by omega)]
    rfl
  | .rule k a b, n + 1, N, A, h, hd => by
    show (decide (k ∈ kindsS) && (gd n [] (some k) a.d && gd n N A b.d)) = true
    have hd : max a.dp b.dp + 1 ≤ n + 1 := hd
    rw [decide_eq_true h.1, gd_ex a n _ _ h.2.1 (by omega), gd_ex b n _ A h.2.2 (by omega)]
    rfl
  | .keep k a, n + 1, N, A, h, hd => by
    show (decide (k ∈ kindsS) && gd n [] (some k) a.d) = true
    have hd : a.dp + 1 ≤ n + 1 := hd
    rw [decide_eq_true h.1, gd_ex a n _ _ h.2 (by omega)]
    rfl
  | .part i, n + 1, N, A, h, hd => by
    obtain ⟨k, rfl, h1, h2⟩ := h
    show decide _ = true
    exact decide_eq_true ⟨h1, h2⟩
  | .with_ a, n + 1, N, A, h, hd => by
    obtain ⟨rfl, h2⟩ := h
    have hd : a.dp + 1 ≤ n + 1 := hd
    show (true && gd n N (some _) a.d) = true
    rw [gd_ex a n _ _ h2 (by omega)]
    rfl
  | .usual, n + 1, N, A, h, hd => by
    cases A with
    | none => exact absurd rfl h
    | some k => rfl
  | .do1 a, n + 1, N, A, h, hd => by
    obtain ⟨rfl, h2⟩ := h
    have hd : a.dp + 1 ≤ n + 1 := hd
    show (true && (true && (gd n N (some _) a.d && true))) = true
    rw [gd_ex a n _ _ h2 (by omega)]
    rfl
  | .do2 a b, n + 1, N, A, h, hd => by
    obtain ⟨h1, h2, h3⟩ := h
    have hd : max a.dp b.dp + 1 ≤ n + 1 := hd
    rcases h1 with rfl | rfl | rfl <;>
    · show (true && (true && (gd n N (some _) a.d && (gd n N (some _) b.d && true)))) = true
      rw [gd_ex a n _ _ h2 (by omega), gd_ex b n _ _ h3 (by omega)]
      rfl
end Mi
set_option Elab.async false
set_option linter.all false
set_option maxRecDepth 100000
set_option maxHeartbeats 2000000
/-! M39: shorter steps. -/
namespace Mi
open PySem L2
@[simp] theorem ofString_inj {a b : String} : (Str.ofString a = Str.ofString b) = (a = b) := by
  refine propext ⟨fun h => ?_, fun h => h ▸ rfl⟩
  rw [Str.ofString_eq_toList, Str.ofString_eq_toList] at h
  have h2 : a.toList.map Char.toNat = b.toList.map Char.toNat := by
    have := congrArg (fun z => z.cps.toList) h
    simpa using this
  have inj : ∀ {x y : Char}, x.toNat = y.toNat → x = y := fun {x y} e => Char.ext (UInt32.toNat_inj.mp e)
  have h3 : a.toList = b.toList := by
    generalize a.toList = l at h2
    generalize b.toList = m at h2
    induction l generalizing m with
    | nil =>
      cases m with
      | nil => rfl
      | cons y m => cases h2
    | cons x l ih =>
      cases m with
      | nil => cases h2
      | cons y m =>
        rw [List.map_cons, List.map_cons] at h2
        injection h2 with e1 e2
        rw [inj e1, ih m e2]
  exact String.toList_inj.mp h3
section
variable {C : Cxt} {e : En} {S S' : Sto} {c a : E} {t el rest : Sms} {Q : Out → Sto → Prop}
theorem if_no (hc : (ev C c).t e S = .ok false S') (h : Wp (evSs C rest e S') Q) : Wp (evSs C (.cons (.ifs c t .nil) rest) e S) Q := by
  refine wp_ss ?_
  rw [s_ifs, hc]
  exact h
theorem if_yes (hc : (ev C c).t e S = .ok true S') (h : Wp (evSs C t e S') fun o S1 => Wp (goR o (fun e2 S => evSs C rest e2 S) S1) Q) : Wp (evSs C (.cons (.ifs c t .nil) rest) e S) Q := by
  refine wp_ss ?_
  rw [s_ifs, hc]
  exact h
theorem ig_yes (hc : (ev C c).t e S = .ok true S') (h : Wp (evSs C t e S') fun o S1 => Wp (goR o (fun e2 S => evSs C rest e2 S) S1) Q) : Wp (evSs C (.cons (.ifs c t el) rest) e S) Q := by
  refine wp_ss ?_
  rw [s_ifs, hc]
  exact h
theorem ig_no (hc : (ev C c).t e S = .ok false S') (h : Wp (evSs C el e S') fun o S1 => Wp (goR o (fun e2 S => evSs C rest e2 S) S1) Q) : Wp (evSs C (.cons (.ifs c t el) rest) e S) Q := by
  refine wp_ss ?_
  rw [s_ifs, hc]
  exact h
theorem ret_wp (h : Wp ((ev C a).v e S) fun v S1 => Q (.ret v) S1) : Wp (evSs C (.cons (.ret a) rest) e S) Q := by
  refine wp_ss ?_
  rw [s_retE, wp_bind]
  exact h.mono fun v S1 q => q
/-- if c: return a -/
theorem if_ret (hc : (ev C c).t e S = .ok true S') (h : Wp ((ev C a).v e S') fun v S1 => Q (.ret v) S1) : Wp (evSs C (.cons (.ifs c (.cons (.ret a) .nil) .nil) rest) e S) Q :=
  if_yes hc (ret_wp (h.mono fun v S1 q => q))
end
/-- what stands still stands -/
theorem pre_at {S S' : Sto} (h : S <+: S') {i : Nat} {o : O} (hi : S[i]? = some o) : S'[i]? = some o := by
  obtain ⟨T, rfl⟩ := h
  rw [List.getElem?_append_left (lt_of hi)]
  exact hi
theorem pre_app {S S' : Sto} (h : S <+: S') (T : Sto) : S <+: S' ++ T := h.trans (List.prefix_append _ _)
theorem pre_self (S T : Sto) : S <+: S ++ T := List.prefix_append _ _
theorem pre_set {S S' : Sto} (h : S <+: S') {i : Nat} {o : O} (hi : S.length ≤ i) : S <+: S'.set i o := by
  obtain ⟨T, rfl⟩ := h
  exact ⟨_, (List.set_append_right _ _ hi).symm⟩
theorem pre_len {S S' : Sto} (h : S <+: S') : S.length ≤ S'.length := h.length_le
theorem mid_at {S T : Sto} {o : O} : (S ++ [o] ++ T)[S.length]? = some o := by
  rw [List.append_assoc, List.getElem?_append_right (Nat.le_refl _), Nat.sub_self]
  rfl
theorem mid_set {S T : Sto} {o o' : O} : (S ++ [o] ++ T).set S.length o' = S ++ [o'] ++ T := by
  rw [List.append_assoc, List.set_append_right _ _ (Nat.le_refl _), Nat.sub_self]
  simp
theorem app_at {S T : Sto} {i : Nat} {o : O} (h : S[i]? = some o) : (S ++ T)[i]? = some o := by
  rw [List.getElem?_append_left (lt_of h)]
  exact h
theorem still_pre {S S' : Sto} {it : It} (p : S <+: S') (h : it.still S = true) : it.still S' = true := by
  obtain ⟨its, own⟩ := it
  cases own with
  | none => rfl
  | some q =>
    obtain ⟨i, xs⟩ := q
    have h2 : S[i]? = some (.lst xs) := by
      unfold It.still at h
      simpa using h
    exact still_lst (pre_at p h2)
/-- a comprehension whose item only makes new objects -/
theorem lcP {C : Cxt} {i : Nat} {own : List Nat} {a : E} {e : En} {S : Sto} {it : It} (g : D → D) {Q : Unit → Sto → Prop} (hi : i < (wipeE e own).length) (hl : it.items.length ≤ 1000000) (hst : it.still S = true)
    (step : ∀ x ∈ it.items, ∀ (S1 : Sto) (K : D → Sto → Prop), S <+: S1 → (∀ S2, S1 <+: S2 → K (g x) S2) → Wp ((ev C a).v ((wipeE e own).set i (some x)) S1) K)
    (fin : ∀ S', S <+: S' → S'[S.length]? = some (.lst (it.items.map g)) → Q () S') : Wp (lcLoop it (lcB C (.nm i) own .nop a e) S.length it.items (S ++ [.lst []])) Q := by
  refine wp_lc (fun n S' => S <+: S' ∧ S'[S.length]? = some (.lst ((it.items.take n).map g))) ?_ ?_ ?_ ⟨pre_self _ _, by simp⟩
  · rintro n S' ⟨p, _⟩
    exact still_pre p hst
  · rintro n y S' hx ⟨p, h1⟩
    have hy : y ∈ it.items := List.mem_of_getElem? hx
    have ht : it.items.take (n + 1) = it.items.take n ++ [y] := by
      rw [List.take_succ, hx]
      rfl
    unfold lcB
    simp only [setTg_nm, hi, if_true, isNop, R.bind_ok, wp_bind]
    refine step y hy _ _ p fun S2 p2 => ?_
    simp only [wp_ok]
    refine .inr ⟨_, _, rfl, pre_at p2 h1, ?_, ?_, ?_⟩
    · rw [List.length_map, List.length_take, sizeLine_eq]
      omega
    · exact pre_set (p.trans p2) (Nat.le_refl _)
    · rw [List.getElem?_set_self (lt_of (pre_at p2 h1)), ht, List.map_append]
      rfl
  · rintro S' ⟨p, h1⟩
    rw [List.take_length] at h1
    exact fin S' p h1
theorem bls_D (l : List D) (g : D → Bool) : blsOf (l.map fun y => D.bl (g y)) = some (l.map g) := by
  induction l with
  | nil => rfl
  | cons a l ih =>
    show (blsOf (l.map fun y => D.bl (g y))).map _ = _
    rw [ih]
    rfl
theorem all_lst {S : Sto} {i : Nat} {l : List D} {g : D → Bool} (h : S[i]? = some (.lst (l.map fun y => .bl (g y)))) : bfD .all [.ref i] S = .ok (.bl (l.all g)) S := by
  unfold bfD lstOf
  simp only [h, Option.bind_some, bls_D]
  rw [List.all_map]
  rfl
theorem meth_fn {P : Pr} {k n : Nat} {m : Str} {fn : Fn} {vs : List D} {S : Sto} (h : P.mt n m = some fn) : (cxt P (k + 1)).meth n m vs S = runF (cxt P k) fn vs S := by
  show (match P.mt n m with | some fn => _ | none => _) = _
  rw [h]
def madeR (p : Nat) (v : D) (S1 : Sto) : R D := match v with
  | .non => .ok (.ref p) S1
  | _ => .bad
@[simp] theorem madeR_non (p : Nat) (S1 : Sto) : madeR p .non S1 = .ok (.ref p) S1 := rfl
theorem make_fn {P : Pr} {k n : Nat} {c : Str} {fn : Fn} {vs : List D} {S : Sto} (hc : P.cl c = some n) (h : P.mt n ("__init__" : Str) = some fn) : (cxt P (k + 2)).make c vs S = (runF (cxt P k) fn (.ref S.length :: vs) (S ++ [.ins n []])).bind fun v S1 => madeR S.length v S1 := by
  show (match P.cl c with | some n => _ | none => _) = _
  rw [hc]
  show ((cxt P (k + 1)).meth n "__init__" _ _).bind _ = _
  rw [meth_fn h]
  rfl
theorem lk_cons {x y : Str} {v : D} {l : List (Str × D)} : ((y, v) :: l).lookup x = if x = y then some v else l.lookup x := by
  rw [List.lookup_cons]
  by_cases h : x = y
  · rw [if_pos h, show (x == y) = true from by simpa using h]
  · rw [if_neg h, show (x == y) = false from by simpa using h]
theorem lk_nil {x : Str} : ([] : List (Str × D)).lookup x = none := rfl
section
variable {S : Sto} {me : Nat}
theorem fld_at {x : Str} {v : D} {c : Nat} {fs : List (Str × D)} (h : S[me]? = some (.ins c fs)) (hv : fs.lookup x = some v) : fldD (.ref me) x S = .ok v S := by
  unfold fldD
  simp only [h, hv]
  rfl
theorem set_at {x : Str} {v : D} {c : Nat} {fs : List (Str × D)} (h : S[me]? = some (.ins c fs)) (hl : fs.length < 1000) : setF (.ref me) x v S = .ok () (S.set me (.ins c (putFD x v fs))) := by
  unfold setF
  simp only [h, hl, if_true]
end
end Mi
set_option Elab.async false
set_option linter.all false
set_option maxRecDepth 100000
set_option maxHeartbeats 2000000
/-! M75: joined texts. -/
namespace Mi
open PySem L2
theorem strsOf_map : ∀ ts : List Str, strsOf (ts.map D.str) = some ts
  | [] => rfl
  | x :: ts => by
    show (strsOf (ts.map D.str)).map (x :: ·) = _
    rw [strsOf_map ts]
    rfl
/-- all signs of the texts -/
def sumL : List Str → Nat
  | [] => 0
  | x :: ts => x.length + sumL ts
theorem fold_sum (n : Nat) : ∀ (ts : List Str) (k : Nat), ts.foldl (fun (a : Nat) (y : Str) => a + y.length + n) k = k + sumL ts + ts.length * n
  | [], k => by simp [sumL]
  | x :: ts, k => by
    rw [List.foldl_cons, fold_sum n ts]
    show _ = k + (x.length + sumL ts) + (ts.length + 1) * n
    rw [Nat.add_mul]
    omega
theorem glued_fold (sep : Str) : ∀ (ts : List Str) (a : Array Nat), (ts.foldl (fun acc p => acc ++ sep.cps ++ p.cps) a).size = a.size + sumL ts + ts.length * sep.length
  | [], a => by simp [sumL]
  | x :: ts, a => by
    rw [List.foldl_cons, glued_fold sep ts, Array.size_append, Array.size_append]
    show a.size + sep.length + x.length + sumL ts + ts.length * sep.length = a.size + (x.length + sumL ts) + (ts.length + 1) * sep.length
    rw [Nat.add_mul]
    omega
theorem glued_len (sep : Str) (ts : List Str) : (Builtin.Str.glued sep ts).length ≤ sumL ts + ts.length * sep.length := by
  cases ts with
  | nil => exact Nat.zero_le _
  | cons x ts =>
    show (ts.foldl (fun acc p => acc ++ sep.cps ++ p.cps) x.cps).size ≤ x.length + sumL ts + (ts.length + 1) * sep.length
    rw [glued_fold, Nat.add_mul]
    show x.length + sumL ts + ts.length * sep.length ≤ _
    omega
theorem join_lst {S : Sto} {i : Nat} {ts : List Str} {sep : Str} (h : S[i]? = some (.lst (ts.map .str))) (hl : sumL ts + ts.length * sep.length ≤ 1000000) : bmD .join (.str sep) [.ref i] S = .ok (.str (Builtin.Str.glued sep ts)) S := by
  have e : (lstOf S (.ref i)).bind strsOf = some ts := by
    show ((match S[i]? with | some (.lst xs) => some xs | _ => none).bind strsOf) = _
    rw [h]
    exact strsOf_map ts
  unfold bmD
  simp only [e]
  rw [if_pos]
  refine ⟨?_, ?_⟩
  · have : (ts.toArray.foldl (fun (a : Nat) (y : Str) => a + y.length + sep.length) 0) = 0 + sumL ts + ts.length * sep.length := by
      rw [List.foldl_toArray, fold_sum]
    unfold Builtin.Str.tooLong
    rw [this]
    refine decide_eq_false ?_
    rw [sizeLine_eq]
    omega
  · have := glued_len sep ts
    rw [sizeLine_eq]
    omega
end Mi
set_option Elab.async false
set_option linter.all false
set_option maxRecDepth 100000
set_option maxHeartbeats 2000000
/-! M76: the words of a text, as lists of codes. -/
namespace Mi
open PySem L2
def spc (c : Nat) : Bool := c == 32 || c == 10
def brk (c : Nat) : Bool := c == 40 || c == 41
def wch (c : Nat) : Bool := decide (c ∈ lettersS) || decide (c ∈ digitsS) || c == 45
/-- the word that is open at the front, and the ones behind it -/
def flush (s : List Nat × List (List Nat)) : List (List Nat) := if s.1 = [] then s.2 else s.1 :: s.2
def scan : List Nat → List Nat × List (List Nat)
  | [] => ([], [])
  | c :: t => if spc c = true then ([], flush (scan t)) else if brk c = true then ([], [c] :: flush (scan t)) else (c :: (scan t).1, (scan t).2)
def wds (t : List Nat) : List (List Nat) := flush (scan t)
/-- no word goes on here -/
def nw : List Nat → Prop
  | [] => True
  | c :: _ => spc c = true ∨ brk c = true
theorem brk_spc {c : Nat} (h : brk c = true) : spc c = false := by
  have : c = 40 ∨ c = 41 := by simpa [brk] using h
  rcases this with rfl | rfl <;> rfl
theorem wch_spc {c : Nat} (h : wch c = true) : spc c = false ∧ brk c = false := by
  have h2 : c ∈ lettersS ∨ c ∈ digitsS ∨ c = 45 := by
    unfold wch at h
    simpa [or_assoc] using h
  have k1 : ∀ c ∈ lettersS, spc c = false ∧ brk c = false := by decide +kernel
  have k2 : ∀ c ∈ digitsS, spc c = false ∧ brk c = false := by decide +kernel
  rcases h2 with h2 | h2 | rfl
  · exact k1 c h2
  · exact k2 c h2
  · exact ⟨rfl, rfl⟩
theorem wds_spc {c : Nat} {t : List Nat} (h : spc c = true) : wds (c :: t) = wds t := by
  unfold wds
  rw [scan, if_pos h]
  rfl
theorem wds_brk {c : Nat} {t : List Nat} (h : brk c = true) : wds (c :: t) = [c] :: wds t := by
  unfold wds
  rw [scan, if_neg (by rw [brk_spc h]; exact Bool.false_ne_true), if_pos h]
  rfl
theorem wds_nil : wds [] = [] := rfl
theorem scan_nw {t : List Nat} (h : nw t) : scan t = ([], wds t) := by
  cases t with
  | nil => rfl
  | cons c t =>
    rcases h with h | h
    · rw [wds_spc h, scan, if_pos h]
      rfl
    · rw [wds_brk h, scan, if_neg (by rw [brk_spc h]; exact Bool.false_ne_true), if_pos h]
      rfl
theorem scan_word : ∀ {w t : List Nat}, (∀ c ∈ w, wch c = true) → nw t → scan (w ++ t) = (w, wds t)
  | [], t, _, h => scan_nw h
  | c :: w, t, hw, h => by
    have hc := wch_spc (hw c (by simp))
    rw [List.cons_append, scan, if_neg (by rw [hc.1]; exact Bool.false_ne_true), if_neg (by rw [hc.2]; exact Bool.false_ne_true), scan_word (fun c h => hw c (by simp [h])) h]
theorem wds_word {w t : List Nat} (h0 : w ≠ []) (hw : ∀ c ∈ w, wch c = true) (h : nw t) : wds (w ++ t) = w :: wds t := by
  show flush (scan (w ++ t)) = _
  rw [scan_word hw h]
  unfold flush
  rw [if_neg h0]
/-- a piece of a text that gives words -/
def Pc (p : List Nat) (ts : List (List Nat)) : Prop := ∀ t, nw t → wds (p ++ t) = ts ++ wds t
theorem Pc.word {w : List Nat} (h0 : w ≠ []) (hw : ∀ c ∈ w, wch c = true) : Pc w [w] := fun t h => wds_word h0 hw h
theorem Pc.sp {p q : List Nat} {a b : List (List Nat)} (hp : Pc p a) (hq : Pc q b) : Pc (p ++ 32 :: q) (a ++ b) := fun t h => by
  rw [List.append_assoc, List.cons_append, hp (32 :: (q ++ t)) (Or.inl rfl), wds_spc rfl, hq t h, List.append_assoc]
theorem Pc.par {p : List Nat} {a : List (List Nat)} (hp : Pc p a) : Pc (40 :: p ++ [41]) ([40] :: a ++ [[41]]) := fun t h => by
  show wds (40 :: (p ++ [41] ++ t)) = _
  rw [wds_brk rfl, List.append_assoc, List.cons_append, List.nil_append, hp (41 :: t) (Or.inr rfl), wds_brk rfl]
  simp
def inter : List (List Nat) → List Nat
  | [] => []
  | x :: ts => x ++ ts.flatMap fun p => 32 :: p
theorem Pc.inter : ∀ {l : List (List Nat × List (List Nat))} {p : List Nat} {a : List (List Nat)}, Pc p a → (∀ q ∈ l, Pc q.1 q.2) → Pc (inter (p :: l.map (·.1))) (a ++ l.flatMap (·.2))
  | [], p, a, hp, _ => by simpa [Mi.inter] using hp
  | q :: l, p, a, hp, h => by
    have h1 := Pc.inter (l := l) (hp.sp (h q (by simp))) fun r hr => h r (by simp [hr])
    have e : Mi.inter ((p ++ 32 :: q.1) :: l.map (·.1)) = Mi.inter (p :: (q :: l).map (·.1)) := by simp [Mi.inter]
    rw [e] at h1
    simpa using h1
/-! ### the texts -/
def cpsL (x : Str) : List Nat := x.cps.toList
def ofL (l : List Nat) : Str := ⟨l.toArray⟩
theorem ofL_cpsL (x : Str) : ofL (cpsL x) = x := rfl
theorem cpsL_ofL (l : List Nat) : cpsL (ofL l) = l := rfl
theorem cpsL_app (a b : Str) : cpsL (a ++ b) = cpsL a ++ cpsL b := by
  show (a.cps ++ b.cps).toList = _
  rw [Array.toList_append]
  rfl
theorem glued_fold2 : ∀ (ts : List Str) (a : Array Nat), (ts.foldl (fun acc p => acc ++ ((" " : Str)).cps ++ p.cps) a).toList = a.toList ++ ts.flatMap fun p => 32 :: cpsL p
  | [], a => by simp
  | x :: ts, a => by
    rw [List.foldl_cons, glued_fold2 ts, Array.toList_append, Array.toList_append]
    have : ((" " : Str)).cps.toList = [32] := by decide +kernel
    rw [this]
    simp [cpsL]
theorem glued_codes : ∀ ts : List Str, cpsL (Builtin.Str.glued " " ts) = inter (ts.map cpsL)
  | [] => rfl
  | x :: ts => by
    show ((ts.foldl (fun acc p => acc ++ ((" " : Str)).cps ++ p.cps) x.cps)).toList = _
    rw [glued_fold2]
    simp [inter, cpsL, List.flatMap_map]
def par (ws : List Str) : Str := ("(" : Str) ++ Builtin.Str.glued " " ws ++ (")" : Str)
theorem par_codes (ws : List Str) : cpsL (par ws) = 40 :: inter (ws.map cpsL) ++ [41] := by
  unfold par
  rw [cpsL_app, cpsL_app, glued_codes]
  rfl
def txI (i : Int) : Str := (toString i : String)
/-- a part of an expression -/
inductive Pt where
  | ex (x : Ex)
  | nm (x : Str)
  | kn (x : Str)
  | nu (m : Int)
def Ex.kd : Ex → Str
  | .num _ => "num"
  | .name _ => "name"
  | .fn _ _ => "fn"
  | .call _ _ => "call"
  | .sum _ _ => "sum"
  | .less _ _ => "less"
  | .ite _ _ _ => "if"
  | .let_ _ _ _ => "let"
  | .say _ => "say"
  | .rule _ _ _ => "rule"
  | .keep _ _ => "keep"
  | .part _ => "part"
  | .with_ _ => "with"
  | .usual => "usual"
  | .do1 _ => "do"
  | .do2 _ _ => "do"
def Ex.pts : Ex → List Pt
  | .num n => [.nu n]
  | .name x => [.nm x]
  | .fn x b => [.nm x, .ex b]
  | .call a b => [.ex a, .ex b]
  | .sum a b => [.ex a, .ex b]
  | .less a b => [.ex a, .ex b]
  | .ite a b c => [.ex a, .ex b, .ex c]
  | .let_ x a b => [.nm x, .ex a, .ex b]
  | .say a => [.ex a]
  | .rule k a b => [.kn k, .ex a, .ex b]
  | .keep k a => [.kn k, .ex a]
  | .part i => [.nu i]
  | .with_ a => [.ex a]
  | .usual => []
  | .do1 a => [.ex a]
  | .do2 a b => [.ex a, .ex b]
def Ex.isDo : Ex → Bool
  | .do1 _ => true
  | .do2 _ _ => true
  | _ => false
/-- a number or a name -/
def Ex.isLeaf : Ex → Bool
  | .num _ => true
  | .name _ => true
  | _ => false
def Pt.d : Pt → D
  | .ex x => x.d
  | .nm x => .str x
  | .kn x => .str x
  | .nu n => .int n
theorem d_pts {x : Ex} (h : x.isDo = false) : x.d = .tup (.str x.kd :: x.pts.map Pt.d) := by
  cases x <;> first
    | rfl
    | (cases h; done)
theorem d_do {x : Ex} (h : x.isDo = true) : x.d = .tup [.str "do", .tup (x.pts.map Pt.d)] := by cases x <;> first | rfl | cases h
theorem kd_do {x : Ex} (h : x.isDo = true) : x.kd = "do" := by cases x <;> first | rfl | cases h
/-- its text -/
def Ex.tx : Ex → Str
  | .num n => txI n
  | .name x => x
  | .fn x b => par ["fn", x, b.tx]
  | .call a b => par ["call", a.tx, b.tx]
  | .sum a b => par ["sum", a.tx, b.tx]
  | .less a b => par ["less", a.tx, b.tx]
  | .ite a b c => par ["if", a.tx, b.tx, c.tx]
  | .let_ x a b => par ["let", x, a.tx, b.tx]
  | .say a => par ["say", a.tx]
  | .rule k a b => par ["rule", k, a.tx, b.tx]
  | .keep k a => par ["keep", k, a.tx]
  | .part i => par ["part", txI i]
  | .with_ a => par ["with", a.tx]
  | .usual => par ["usual"]
  | .do1 a => par ["do", a.tx]
  | .do2 a b => par ["do", a.tx, b.tx]
def Pt.tx : Pt → Str
  | .ex x => x.tx
  | .nm x => x
  | .kn x => x
  | .nu n => txI n
theorem tx_pts {x : Ex} (h : x.isLeaf = false) : x.tx = par (x.kd :: x.pts.map Pt.tx) := by cases x <;> first | rfl | cases h
/-- its words -/
def Ex.tk : Ex → List Str
  | .num n => [txI n]
  | .name x => [x]
  | .fn x b => "(" :: "fn" :: x :: (b.tk ++ [(")" : Str)])
  | .call a b => "(" :: "call" :: (a.tk ++ (b.tk ++ [(")" : Str)]))
  | .sum a b => "(" :: "sum" :: (a.tk ++ (b.tk ++ [(")" : Str)]))
  | .less a b => "(" :: "less" :: (a.tk ++ (b.tk ++ [(")" : Str)]))
  | .ite a b c => "(" :: "if" :: (a.tk ++ (b.tk ++ (c.tk ++ [(")" : Str)])))
  | .let_ x a b => "(" :: "let" :: x :: (a.tk ++ (b.tk ++ [(")" : Str)]))
  | .say a => "(" :: "say" :: (a.tk ++ [(")" : Str)])
  | .rule k a b => "(" :: "rule" :: k :: (a.tk ++ (b.tk ++ [(")" : Str)]))
  | .keep k a => "(" :: "keep" :: k :: (a.tk ++ [(")" : Str)])
  | .part i => ["(", "part", txI i, ")"]
  | .with_ a => "(" :: "with" :: (a.tk ++ [(")" : Str)])
  | .usual => ["(", "usual", ")"]
  | .do1 a => "(" :: "do" :: (a.tk ++ [(")" : Str)])
  | .do2 a b => "(" :: "do" :: (a.tk ++ (b.tk ++ [(")" : Str)]))
def Pt.tk : Pt → List Str
  | .ex x => x.tk
  | .nm x => [x]
  | .kn x => [x]
  | .nu n => [txI n]
theorem tk_pts {x : Ex} (h : x.isLeaf = false) : x.tk = ("(" : Str) :: x.kd :: (x.pts.flatMap Pt.tk ++ [(")" : Str)]) := by
  cases x <;> first
    | (cases h; done)
    | simp [Ex.tk, Ex.kd, Ex.pts, Pt.tk]
theorem pt_sz {x y : Ex} (h : Pt.ex y ∈ x.pts) : y.sz < x.sz ∧ y.dp < x.dp := by
  cases x <;> simp [Ex.pts] at h <;> first
    | (subst h; simp only [Ex.sz, Ex.dp]; omega)
    | (rcases h with rfl | rfl <;> simp only [Ex.sz, Ex.dp] <;> omega)
    | (rcases h with rfl | rfl | rfl <;> simp only [Ex.sz, Ex.dp] <;> omega)
/-- what stands in a program's text: names, numbers and kinds -/
def Pt.good : Pt → Prop
  | .ex _ => True
  | .nm x => word x
  | .kn x => x ∈ kindsS
  | .nu n => -1000000 ≤ n ∧ n ≤ 1000000
theorem pt_ok {x : Ex} {N : List Str} {A : Option Str} (h : x.ok N A) : ∀ p ∈ x.pts, p.good ∧ ∀ y, p = .ex y → ∃ N' A', y.ok N' A' := by
  have hpart : ∀ {i : Int}, (∃ k, A = some k ∧ 0 ≤ i ∧ i < partsN k) → -1000000 ≤ i ∧ i ≤ 1000000 := fun {i} ⟨k, _, h1, h2⟩ => by
    unfold partsN at h2
    split at h2
    · omega
    · split at h2
      · omega
      · split at h2 <;> omega
  intro p hp
  cases x <;> simp only [Ex.pts, List.mem_cons, List.not_mem_nil, or_false] at hp
  case num n => subst hp; exact ⟨h, fun y e => by cases e⟩
  case name x => subst hp; exact ⟨h.1, fun y e => by cases e⟩
  case fn x b =>
    rcases hp with rfl | rfl
    · exact ⟨h.1, fun y e => by cases e⟩
    · exact ⟨trivial, fun y e => by cases e; exact ⟨_, _, h.2⟩⟩
  case call a b =>
    rcases hp with rfl | rfl
    · exact ⟨trivial, fun y e => by cases e; exact ⟨_, _, h.1⟩⟩
    · exact ⟨trivial, fun y e => by cases e; exact ⟨_, _, h.2⟩⟩
  case sum a b =>
    rcases hp with rfl | rfl
    · exact ⟨trivial, fun y e => by cases e; exact ⟨_, _, h.1⟩⟩
    · exact ⟨trivial, fun y e => by cases e; exact ⟨_, _, h.2⟩⟩
  case less a b =>
    rcases hp with rfl | rfl
    · exact ⟨trivial, fun y e => by cases e; exact ⟨_, _, h.1⟩⟩
    · exact ⟨trivial, fun y e => by cases e; exact ⟨_, _, h.2⟩⟩
  case ite a b c =>
    rcases hp with rfl | rfl | rfl
    · exact ⟨trivial, fun y e => by cases e; exact ⟨_, _, h.1⟩⟩
    · exact ⟨trivial, fun y e => by cases e; exact ⟨_, _, h.2.1⟩⟩
    · exact ⟨trivial, fun y e => by cases e; exact ⟨_, _, h.2.2⟩⟩
  case let_ x a b =>
    rcases hp with rfl | rfl | rfl
    · exact ⟨h.1, fun y e => by cases e⟩
    · exact ⟨trivial, fun y e => by cases e; exact ⟨_, _, h.2.1⟩⟩
    · exact ⟨trivial, fun y e => by cases e; exact ⟨_, _, h.2.2⟩⟩
  case say a => subst hp; exact ⟨trivial, fun y e => by cases e; exact ⟨_, _, h⟩⟩
  case rule k a b =>
    rcases hp with rfl | rfl | rfl
    · exact ⟨h.1, fun y e => by cases e⟩
    · exact ⟨trivial, fun y e => by cases e; exact ⟨_, _, h.2.1⟩⟩
    · exact ⟨trivial, fun y e => by cases e; exact ⟨_, _, h.2.2⟩⟩
  case keep k a =>
    rcases hp with rfl | rfl
    · exact ⟨h.1, fun y e => by cases e⟩
    · exact ⟨trivial, fun y e => by cases e; exact ⟨_, _, h.2⟩⟩
  case part i => subst hp; exact ⟨hpart h, fun y e => by cases e⟩
  case with_ a => subst hp; exact ⟨trivial, fun y e => by cases e; exact ⟨_, _, h.2⟩⟩
  case do1 a => subst hp; exact ⟨trivial, fun y e => by cases e; exact ⟨_, _, h.2⟩⟩
  case do2 a b =>
    rcases hp with rfl | rfl
    · exact ⟨trivial, fun y e => by cases e; exact ⟨_, _, h.2.1⟩⟩
    · exact ⟨trivial, fun y e => by cases e; exact ⟨_, _, h.2.2⟩⟩
/-! ### numbers -/
theorem dig_head : ∀ m : Nat, 0 < m → ∃ c r, Nat.toDigits 10 m = c :: r ∧ c.toNat ≠ 48
  | m, h => by
    by_cases h1 : m < 10
    · refine ⟨Nat.digitChar m, [], Nat.toDigits_of_lt_base h1, ?_⟩
      have : ∀ m, m < 10 → 0 < m → (Nat.digitChar m).toNat ≠ 48 := by decide
      exact this m h1 h
    · have hm : m % 10 < 10 := Nat.mod_lt m (by decide)
      have t : Nat.toDigits 10 (m / 10) ++ Nat.toDigits 10 (m % 10) = Nat.toDigits 10 (10 * (m / 10) + m % 10) := Nat.toDigits_append_toDigits (by decide) (by omega) hm
      rw [Nat.div_add_mod] at t
      obtain ⟨c, r, e, hc⟩ := dig_head (m / 10) (by omega)
      exact ⟨c, r ++ Nat.toDigits 10 (m % 10), by rw [← t, e]; rfl, hc⟩
/-- a number's digits -/
def dgs (m : Nat) : List Nat := (Nat.toDigits 10 m).map Char.toNat
theorem dgs_ne (m : Nat) : dgs m ≠ [] := fun e => by
  have h := PySem.toDigits_len_ge 10 m
  rw [List.map_eq_nil_iff.mp e] at h
  exact absurd h (by decide)
theorem dgs_all (m : Nat) : PySem.NumText.AllDigits (dgs m) := by
  intro c hc
  obtain ⟨ch, hch, e⟩ := List.mem_map.mp hc
  have r := PyProof.Rows.digit_range (Nat.isDigit_of_mem_toDigits (by decide) (by decide) hch)
  rw [← e]
  exact r
theorem dgs_head {m : Nat} (h : 0 < m) : ∃ c r, dgs m = c :: r ∧ c ≠ 48 := by
  obtain ⟨c, r, e, hc⟩ := dig_head m h
  exact ⟨c.toNat, r.map Char.toNat, by unfold dgs; rw [e]; rfl, hc⟩
theorem dgs_len {m : Nat} (h : m ≤ 1000000) : (dgs m).length ≤ 7 := by
  unfold dgs
  rw [List.length_map]
  exact PyProof.Rows.digits10_le (by omega) (by omega)
theorem txI_pos (m : Nat) : cpsL (txI (m : Int)) = dgs m := PySem.W.KIN.signs_num m
theorem txI_neg (m : Nat) : cpsL (txI (Int.negSucc m)) = 45 :: dgs (m + 1) := by
  unfold cpsL txI
  show (PySem.Str.ofString ("-" ++ Nat.repr (m + 1))).cps.toList = _
  rw [Str.ofString_eq_toList]
  simp [dgs, Nat.toList_repr]
theorem txI_cases (n : Int) : (∃ m : Nat, n = (m : Int) ∧ cpsL (txI n) = dgs m) ∨ ∃ m : Nat, n = -((m + 1 : Nat) : Int) ∧ cpsL (txI n) = 45 :: dgs (m + 1) := by
  cases n with
  | ofNat m => exact .inl ⟨m, rfl, txI_pos m⟩
  | negSucc m => exact .inr ⟨m, rfl, txI_neg m⟩
theorem txI_len {n : Int} (h : -1000000 ≤ n ∧ n ≤ 1000000) : (txI n).length ≤ 8 := by
  have e : (txI n).length = (cpsL (txI n)).length := rfl
  rcases txI_cases n with ⟨m, rfl, q⟩ | ⟨m, rfl, q⟩
  · rw [e, q]
    have := dgs_len (m := m) (by omega)
    omega
  · rw [e, q]
    have := dgs_len (m := m + 1) (by omega)
    simp only [List.length_cons]
    omega
theorem txI_int {n : Int} (h : -1000000 ≤ n ∧ n ≤ 1000000) : PySem.intText? (txI n) = some n := by
  have hl := txI_len h
  rcases txI_cases n with ⟨m, rfl, q⟩ | ⟨m, rfl, q⟩
  · have e := PySem.intText_digits (x := txI (m : Int)) (by show PySem.NumText.AllDigits (cpsL _); rw [q]; exact dgs_all m) (by show cpsL _ ≠ []; rw [q]; exact dgs_ne m) (by omega)
    rw [e]
    show some ((PySem.NumText.digitsVal (cpsL _) : Nat) : Int) = _
    rw [q]
    unfold dgs
    rw [PySem.W.KIN.val_back]
  · have e := PySem.intText_neg (x := txI (-((m + 1 : Nat) : Int))) q (dgs_all _) (dgs_ne _) (by omega)
    rw [e]
    unfold dgs
    rw [PySem.W.KIN.val_back]
theorem dig_wch {c : Nat} (h : 48 ≤ c ∧ c ≤ 57) : c ∈ digitsS := by
  have k : ∀ c, c ≤ 57 → 48 ≤ c → c ∈ digitsS := by decide +kernel
  exact k c h.2 h.1
theorem txI_wch (n : Int) : cpsL (txI n) ≠ [] ∧ ∀ c ∈ cpsL (txI n), wch c = true := by
  have k : ∀ m, ∀ c ∈ dgs m, wch c = true := fun m c hc => by
    have := dig_wch (dgs_all m c hc)
    simp [wch, this]
  rcases txI_cases n with ⟨m, rfl, q⟩ | ⟨m, rfl, q⟩ <;> rw [q]
  · exact ⟨dgs_ne m, k m⟩
  · refine ⟨by simp, fun c hc => ?_⟩
    rcases List.mem_cons.mp hc with rfl | hc
    · rfl
    · exact k _ c hc
theorem word_wch {x : Str} (h : word x) : cpsL x ≠ [] ∧ ∀ c ∈ cpsL x, wch c = true := by
  obtain ⟨h1, _, _, _, h5⟩ := h
  refine ⟨fun e => ?_, fun c hc => ?_⟩
  · have : (cpsL x).length = x.length := rfl
    rw [e] at this
    simp at this
    omega
  · rcases h5 c hc with h | h <;> simp [wch, h]
theorem kind_wch : ∀ x ∈ wordsS, cpsL x ≠ [] ∧ ∀ c ∈ cpsL x, wch c = true := by decide +kernel
theorem kinds_words : ∀ x ∈ kindsS, x ∈ wordsS := by decide +kernel
theorem kd_words (x : Ex) : x.kd ∈ wordsS := by cases x <;> simp [Ex.kd, wordsS]
theorem Pc.str {x : Str} (h : cpsL x ≠ [] ∧ ∀ c ∈ cpsL x, wch c = true) : Pc (cpsL x) [cpsL x] := .word h.1 h.2
theorem pc_tx : ∀ (n : Nat) (x : Ex) {N : List Str} {A : Option Str}, x.sz ≤ n → x.ok N A → Pc (cpsL x.tx) (x.tk.map cpsL)
  | 0, x, _, _, h, _ => by cases x <;> simp [Ex.sz] at h
  | n + 1, x, N, A, hz, h => by
    by_cases hl : x.isLeaf = true
    · cases x <;> first
        | (cases hl; done)
        | exact .str (txI_wch _)
        | exact .str (word_wch h.1)
    · have hl : x.isLeaf = false := by simpa using hl
      rw [tx_pts hl, tk_pts hl, par_codes]
      have hp : ∀ p ∈ x.pts, Pc (cpsL p.tx) (p.tk.map cpsL) := fun p hp => by
        obtain ⟨g, ge⟩ := pt_ok h p hp
        cases p with
        | ex y =>
          obtain ⟨N', A', hy⟩ := ge y rfl
          have := pt_sz hp
          exact pc_tx n y (by omega) hy
        | nm y => exact .str (word_wch g)
        | kn y => exact .str (kind_wch y (kinds_words y g))
        | nu m => exact .str (txI_wch m)
      have h1 := Pc.inter (p := cpsL x.kd) (l := x.pts.map fun p => (cpsL p.tx, p.tk.map cpsL)) (.str (kind_wch _ (kd_words x))) (by
        intro q hq
        obtain ⟨p, h2, rfl⟩ := List.mem_map.mp hq
        exact hp p h2)
      have h2 := h1.par
      simp only [List.map_map, Function.comp_def, List.flatMap_map] at h2
      have b1 : cpsL (("(" : Str)) = [40] := by decide +kernel
      have b2 : cpsL ((")" : Str)) = [41] := by decide +kernel
      simp only [List.map_cons, List.map_append, List.map_nil, List.map_map, Function.comp_def, List.map_flatMap, b1, b2]
      simpa using h2
end Mi
set_option Elab.async false
set_option linter.all false
set_option maxRecDepth 100000
set_option maxHeartbeats 2000000
/-! M77: how long a text is. -/
namespace Mi
open PySem L2
theorem par_len (ws : List Str) : (par ws).length ≤ sumL ws + ws.length + 2 := by
  unfold par
  have := glued_len " " ws
  have h1 : ((" " : Str)).length = 1 := by decide +kernel
  rw [h1] at this
  rw [str_len_app, str_len_app]
  have h2 : (("(" : Str)).length = 1 := by decide +kernel
  have h3 : ((")" : Str)).length = 1 := by decide +kernel
  omega
def Pt.c : Pt → Nat
  | .ex y => 24 * y.sz
  | _ => 8
def sumC : List Pt → Nat
  | [] => 0
  | p :: ps => p.c + sumC ps
theorem word_len : ∀ x ∈ wordsS, x.length ≤ 6 := by decide +kernel
theorem pts_c (x : Ex) (h : x.isLeaf = false) : sumC x.pts + x.pts.length + 10 ≤ 24 * x.sz := by
  cases x <;> first
    | (cases h; done)
    | (simp only [Ex.pts, sumC, Pt.c, Ex.sz, List.length_cons, List.length_nil]; omega)
theorem sumL_c : ∀ ps : List Pt, (∀ p ∈ ps, p.tx.length ≤ p.c) → sumL (ps.map Pt.tx) ≤ sumC ps
  | [], _ => Nat.le_refl _
  | p :: ps, h => by
    have h1 := h p (by simp)
    have h2 := sumL_c ps fun q hq => h q (by simp [hq])
    show p.tx.length + sumL _ ≤ p.c + sumC ps
    omega
theorem tx_len : ∀ (n : Nat) (x : Ex) {N : List Str} {A : Option Str}, x.sz ≤ n → x.ok N A → x.tx.length ≤ 24 * x.sz
  | 0, x, _, _, h, _ => by cases x <;> simp [Ex.sz] at h
  | n + 1, x, N, A, hz, h => by
    by_cases hl : x.isLeaf = true
    · cases x <;> first
        | (cases hl; done)
        | (have := txI_len h; show (txI _).length ≤ 24 * 1; omega)
        | exact Nat.le_trans h.1.2.1 (by show 8 ≤ 24 * 1; omega)
    · have hl : x.isLeaf = false := by simpa using hl
      rw [tx_pts hl]
      have h1 := par_len (x.kd :: x.pts.map Pt.tx)
      have h2 := pts_c x hl
      have h3 := word_len _ (kd_words x)
      have h4 := sumL_c x.pts fun p hp => by
        obtain ⟨g, ge⟩ := pt_ok h p hp
        cases p with
        | ex y =>
          obtain ⟨N', A', hy⟩ := ge y rfl
          have := pt_sz hp
          exact tx_len n y (by omega) hy
        | nm y => exact g.2.1
        | kn y =>
          have := word_len y (kinds_words y g)
          show y.length ≤ 8
          omega
        | nu m => exact txI_len g
      simp only [sumL, List.length_cons, List.length_map] at h1
      omega
theorem pts_len (x : Ex) : x.pts.length ≤ 4 := by cases x <;> simp [Ex.pts]
theorem pts_sum {x : Ex} {N : List Str} {A : Option Str} (h : x.ok N A) (hz : x.sz ≤ 1000) : sumL (x.kd :: x.pts.map Pt.tx) ≤ 200000 := by
  have h3 := word_len _ (kd_words x)
  have h4 := sumL_c x.pts fun p hp => by
    obtain ⟨g, ge⟩ := pt_ok h p hp
    cases p with
    | ex y =>
      obtain ⟨N', A', hy⟩ := ge y rfl
      exact tx_len _ y (Nat.le_refl _) hy
    | nm y => exact g.2.1
    | kn y =>
      have := word_len y (kinds_words y g)
      show y.length ≤ 8
      omega
    | nu m => exact txI_len g
  have h5 : sumC x.pts ≤ 24 * x.sz + 8 := by
    by_cases hl : x.isLeaf = true
    · cases x <;> first
        | (cases hl; done)
        | (simp only [Ex.pts, sumC, Pt.c, Ex.sz]; omega)
    · have := pts_c x (by simpa using hl)
      omega
  show x.kd.length + sumL _ ≤ _
  omega
theorem log_small {n : Int} (h : -1000000 ≤ n ∧ n ≤ 1000000) : n.natAbs.log2 < 1920 := by
  by_cases h0 : n.natAbs = 0
  · rw [h0]
    decide
  · rw [Nat.log2_lt h0]
    have : n.natAbs < 2 ^ 20 := by omega
    exact Nat.lt_of_lt_of_le this (Nat.pow_le_pow_right (by omega) (by omega))
theorem str_int {n : Int} {S : Sto} (h : -1000000 ≤ n ∧ n ≤ 1000000) : bfD .str [.int n] S = .ok (.str (txI n)) S := by
  show (if n.natAbs.log2 < 1920 then _ else _) = _
  rw [if_pos (log_small h)]
  rfl
@[simp] theorem str_str (x : Str) (S : Sto) : bfD .str [.str x] S = .ok (.str x) S := rfl
theorem int_str {n : Int} {S : Sto} (h : -1000000 ≤ n ∧ n ≤ 1000000) : bfD .int [.str (txI n)] S = .ok (.int n) S := by
  have h1 := txI_len h
  have h2 := txI_int h
  show (if (txI n).length ≤ 640 then _ else _) = _
  rw [if_pos (by omega), h2]
theorem isi_d (x : Ex) : isiD .tup x.d = some true := by cases x <;> rfl
theorem kd_leaf {x : Ex} (h : x.isLeaf = false) : x.kd ≠ "num" ∧ x.kd ≠ "name" := by
  cases x <;> first
    | (cases h; done)
    | simp [Ex.kd]
theorem kd_nodo {x : Ex} (h : x.isDo = false) : x.kd ≠ "do" := by
  cases x <;> first
    | (cases h; done)
    | simp [Ex.kd]
/-- what an expression's text's def promises -/
def TxOk (P : Pr) (f : Str) (k n : Nat) : Prop := ∀ (x : Ex) (N : List Str) (A : Option Str) (S : Sto) (Q : D → Sto → Prop), x.ok N A → x.dp ≤ n → x.sz ≤ 1000 → (∀ S', S <+: S' → Q (.str x.tx) S') → Wp ((cxt P k).call f [x.d] S) Q
end Mi
set_option Elab.async false
set_option linter.all false
set_option maxRecDepth 100000
set_option maxHeartbeats 4000000
/-! K02p: the text of a program. -/
namespace K02
open PySem L2 Mi
theorem glue_ok {S : Sto} {i : Nat} {x : Ex} {N : List Str} {A : Option Str} {Q : D → Sto → Prop} {C : Cxt} {e : En} {v : Nat} (h : x.ok N A) (hz : x.sz ≤ 1000) (hl : x.isLeaf = false) (hv : e[v]? = some (some (.ref i)))
    (hi : S[i]? = some (.lst ((x.kd :: x.pts.map Pt.tx).map .str))) (q : Q (.str x.tx) S) : Wp ((ev C (.bin .Add (.bin .Add (.str "(") (.bm .join (.str " ") (.cons (.var v) .nil))) (.str ")"))).v e S) Q := by
  have hs := pts_sum h hz
  have hp := pts_len x
  have hlen : (x.kd :: x.pts.map Pt.tx).length ≤ 5 := by simpa using hp
  have h1 : ((" " : Str)).length = 1 := by decide +kernel
  have h2 : (("(" : Str)).length = 1 := by decide +kernel
  have h3 : ((")" : Str)).length = 1 := by decide +kernel
  have hg := glued_len " " (x.kd :: x.pts.map Pt.tx)
  rw [h1] at hg
  simp only [v_bin, v_str, v_bm, R.bind_ok, es_cons2, es_nil, v_var, hv, Option.bind_some, id_eq, optR_some]
  rw [if_pos (show bmPre .join (.str " ") S = true from rfl)]
  try simp only [R.bind_ok]
  rw [join_lst hi (by rw [h1]; omega)]
  simp only [R.bind_ok, add_str]
  rw [if_pos (by rw [h2, sizeLine_eq]; omega)]
  simp only [R.bind_ok, add_str]
  rw [if_pos (by rw [str_len_app, h2, h3, sizeLine_eq]; omega)]
  rw [tx_pts hl] at q
  exact q
def PInv (x : Ex) (S : Sto) (i : Nat) (e : En) (S' : Sto) : Prop := ∃ v, e = [some x.d, some (.str x.kd), some (.ref S.length), v] ∧ S <+: S' ∧ S'[S.length]? = some (.lst ((x.kd :: (x.pts.take i).map Pt.tx).map .str))
theorem take_at {α : Type} {l : List α} {i : Nat} {a : α} (h : l[i]? = some a) : l.take (i + 1) = l.take i ++ [a] := by
  rw [List.take_succ, h]
  rfl
theorem d0 (x : Ex) {cds : Nat → List (Str × D)} {S : Sto} : subD cds x.d (.int 0) S = .ok (.str x.kd) S := by cases x <;> rfl
theorem print_step {k n : Nat} (E : TxOk P "print_program" (k + 1) n) : TxOk P "print_program" (k + 2) (n + 1) := by
  intro x N A S Q hx hd hz q
  rw [call_fn (fn := fn_print_program) (by kernel_rfl), run_fn2 rfl, wp_bind]
  unfold fn_print_program
  show Wp (evSs (cxt P (k + 1)) b_print_program [some x.d, none, none, none] S) _
  unfold b_print_program
  refine wp_ss ?_
  simp [d0]
  by_cases hl : x.isLeaf = true
  · cases x <;> try (cases hl; done)
    case num m =>
      unfold b_print_program_1
      refine if_yes (S' := S) (by simp [Ex.kd]) ?_
      unfold b_print_program_1t
      refine ret_wp ?_
      simp [Ex.d]
      rw [str_int hx]
      exact q S (List.prefix_refl _)
    case name y =>
      unfold b_print_program_1
      refine if_no (S' := S) (by simp [Ex.kd]) ?_
      unfold b_print_program_2
      refine if_yes (S' := S) (by simp [Ex.kd]) ?_
      unfold b_print_program_2t
      refine ret_wp ?_
      simp [Ex.d]
      exact q S (List.prefix_refl _)
  · have hl : x.isLeaf = false := by simpa using hl
    have hk := kd_leaf hl
    unfold b_print_program_1
    refine if_no (S' := S) (by simp [hk.1]) ?_
    unfold b_print_program_2
    refine if_no (S' := S) (by simp [hk.2]) ?_
    unfold b_print_program_3
    refine wp_ss ?_
    simp
    unfold b_print_program_4
    refine wp_ss ?_
    have hit : evI (cxt P (k + 1)) (.seq (.ife (.cmp .Eq (.var 1) (.str "do")) (.sub (.var 0) (.int 1)) (.slc (.var 0) (.int 1) .nop))) [some x.d, some (.str x.kd), some (.ref S.length), none] (S ++ [.lst [.str x.kd]]) = .ok ⟨x.pts.map Pt.d, none⟩ (S ++ [.lst [.str x.kd]]) := by
      by_cases hdo : x.isDo = true
      · rw [d_do hdo, kd_do hdo]
        simp
      · have hdo : x.isDo = false := by simpa using hdo
        have := kd_nodo hdo
        rw [d_pts hdo]
        simp [this, slc_tup, cut_one]
    rw [s_forE, hit, R.bind_ok]
    refine wp_for (it := ⟨x.pts.map Pt.d, none⟩) (PInv x S) (fun _ _ _ _ => rfl) ?_ ?_ ⟨none, rfl, pre_self _ _, by rw [new_at]; rfl⟩
    · rintro i d e S1 hi ⟨v, rfl, p1, h1⟩
      have hi : (x.pts.map Pt.d)[i]? = some d := hi
      rw [List.getElem?_map] at hi
      cases hp : x.pts[i]? with
      | none =>
        rw [hp] at hi
        cases hi
      | some p =>
        rw [hp] at hi
        cases hi
        refine ⟨_, rfl, ?_⟩
        have hm := List.mem_of_getElem? hp
        obtain ⟨g, ge⟩ := pt_ok hx p hm
        have hlen : i < 4 := by
          have := pts_len x
          have := (List.getElem?_eq_some_iff.mp hp).1
          omega
        unfold b_print_program_4b
        refine wp_ss ?_
        have fin : ∀ S2, S1 <+: S2 → Wp (bmD .append (.ref S.length) [.str p.tx] S2) fun _ S' => PInv x S (i + 1) [some x.d, some (.str x.kd), some (.ref S.length), some p.d] S' := fun S2 p2 => by
          rw [append_lst (pre_at p2 h1) (by simp; rw [sizeLine_eq]; omega)]
          refine ⟨_, rfl, pre_set (p1.trans p2) (Nat.le_refl _), ?_⟩
          rw [List.getElem?_set_self (lt_of (pre_at p2 h1)), take_at hp]
          simp
        simp [pre_lst2 h1 (m := .append) (by simp)]
        cases p with
        | ex y =>
          obtain ⟨N', A', hy⟩ := ge y rfl
          have hs := pt_sz hm
          simp [Pt.d, isi_d]
          refine E y N' A' S1 _ hy (by omega) (by omega) fun S2 p2 => ?_
          try simp
          exact fin S2 p2
        | nm y =>
          simp [Pt.d, isiD]
          exact fin S1 (List.prefix_refl _)
        | kn y =>
          simp [Pt.d, isiD]
          exact fin S1 (List.prefix_refl _)
        | nu m =>
          simp [Pt.d, isiD]
          rw [str_int g]
          try simp
          exact fin S1 (List.prefix_refl _)
    · rintro e S1 ⟨v, rfl, p1, h1⟩
      simp only [List.length_map, List.take_length] at h1
      simp
      unfold b_print_program_5
      refine ret_wp ?_
      refine glue_ok (v := 2) hx hz hl rfl h1 ?_
      simp
      exact q S1 p1
theorem print_ok : ∀ (n k : Nat), TxOk P "print_program" (k + n + 1) n
  | 0, k => fun x N A S Q hx hd => by cases x <;> simp [Ex.dp] at hd
  | n + 1, k => by
    have h := print_step (k := k + n) (n := n) (print_ok n k)
    exact h
end K02
set_option Elab.async false
set_option linter.all false
set_option maxRecDepth 100000
set_option maxHeartbeats 4000000
/-! K02q: the law's own text of a program. -/
namespace K02
open PySem L2 Mi
/-- a comprehension over what a list stands for -/
theorem lcM {α : Type} {C : Cxt} {i : Nat} {own : List Nat} {a : E} {e : En} {S : Sto} {o : Option (Nat × List D)} (l : List α) (f g : α → D) {Q : Unit → Sto → Prop} (hi : i < (wipeE e own).length) (hl : l.length ≤ 1000000) (hst : It.still ⟨l.map f, o⟩ S = true)
    (step : ∀ x ∈ l, ∀ (S1 : Sto) (K : D → Sto → Prop), S <+: S1 → (∀ S2, S1 <+: S2 → K (g x) S2) → Wp ((ev C a).v ((wipeE e own).set i (some (f x))) S1) K)
    (fin : ∀ S', S <+: S' → S'[S.length]? = some (.lst (l.map g)) → Q () S') : Wp (lcLoop ⟨l.map f, o⟩ (lcB C (.nm i) own .nop a e) S.length (l.map f) (S ++ [.lst []])) Q := by
  refine wp_lc (it := ⟨l.map f, o⟩) (fun n S' => S <+: S' ∧ S'[S.length]? = some (.lst ((l.take n).map g))) ?_ ?_ ?_ ⟨pre_self _ _, by simp⟩
  · rintro n S' ⟨p, _⟩
    exact still_pre p hst
  · rintro n y S' hx ⟨p, h1⟩
    have hx : (l.map f)[n]? = some y := hx
    rw [List.getElem?_map] at hx
    cases q : l[n]? with
    | none =>
      rw [q] at hx
      cases hx
    | some x =>
      rw [q] at hx
      cases hx
      unfold lcB
      simp only [setTg_nm, hi, if_true, isNop, R.bind_ok, wp_bind]
      refine step x (List.mem_of_getElem? q) _ _ p fun S2 p2 => ?_
      simp only [wp_ok]
      refine .inr ⟨_, _, rfl, pre_at p2 h1, ?_, ?_, ?_⟩
      · rw [List.length_map, List.length_take, sizeLine_eq]
        omega
      · exact pre_set (p.trans p2) (Nat.le_refl _)
      · rw [List.getElem?_set_self (lt_of (pre_at p2 h1)), take_at q, List.map_append]
        rfl
  · rintro S' ⟨p, h1⟩
    rw [List.length_map, List.take_length] at h1
    exact fin S' p h1
def TInv (x : Ex) (S : Sto) (i : Nat) (e : En) (S' : Sto) : Prop := ∃ v, e = [some x.d, some (.ref S.length), v, none] ∧ S <+: S' ∧ S'[S.length]? = some (.lst ((x.kd :: (x.pts.take i).map Pt.tx).map .str))
def DInv (x : Ex) (S : Sto) (i : Nat) (e : En) (S' : Sto) : Prop := S <+: S' ∧ ((i = 0 ∧ e = [some x.d, some (.ref S.length), none, none] ∧ S'[S.length]? = some (.lst [.str x.kd])) ∨ (i = 1 ∧ ∃ r v2 v3, e = [some x.d, some (.ref r), v2, v3] ∧ S'[r]? = some (.lst ((x.kd :: x.pts.map Pt.tx).map .str))))
theorem text_step {k n : Nat} (E : TxOk P "_law_text" (k + 1) n) : TxOk P "_law_text" (k + 2) (n + 1) := by
  intro x N A S Q hx hd hz q
  rw [call_fn (fn := fn_law_text) (by kernel_rfl), run_fn2 rfl, wp_bind]
  unfold fn_law_text
  show Wp (evSs (cxt P (k + 1)) b_law_text [some x.d, none, none, none] S) _
  by_cases hl : x.isLeaf = true
  · cases x <;> try (cases hl; done)
    case num m =>
      unfold b_law_text
      refine if_yes (S' := S) (by simp [d0, Ex.kd]) ?_
      unfold b_law_text_0t
      refine ret_wp ?_
      simp [Ex.d]
      rw [str_int hx]
      exact q S (List.prefix_refl _)
    case name y =>
      unfold b_law_text
      refine if_no (S' := S) (by simp [d0, Ex.kd]) ?_
      unfold b_law_text_1
      refine if_yes (S' := S) (by simp [d0, Ex.kd]) ?_
      unfold b_law_text_1t
      refine ret_wp ?_
      simp [Ex.d]
      exact q S (List.prefix_refl _)
  · have hl : x.isLeaf = false := by simpa using hl
    have hk := kd_leaf hl
    unfold b_law_text
    refine if_no (S' := S) (by simp [d0, hk.1]) ?_
    unfold b_law_text_1
    refine if_no (S' := S) (by simp [d0, hk.2]) ?_
    unfold b_law_text_2
    refine wp_ss ?_
    simp [d0]
    unfold b_law_text_3
    refine wp_ss ?_
    by_cases hdo : x.isDo = true
    · have hit : evI (cxt P (k + 1)) (.seq (.slc (.var 0) (.int 1) .nop)) [some x.d, some (.ref S.length), none, none] (S ++ [.lst [.str x.kd]]) = .ok ⟨[.tup (x.pts.map Pt.d)], none⟩ (S ++ [.lst [.str x.kd]]) := by
        rw [d_do hdo]
        simp [slc_tup, cut_one]
      rw [s_forE, hit, R.bind_ok]
      refine wp_for (it := ⟨[.tup (x.pts.map Pt.d)], none⟩) (DInv x S) (fun _ _ _ _ => rfl) ?_ ?_ ⟨pre_self _ _, .inl ⟨rfl, rfl, new_at⟩⟩
      · rintro i d e S1 hi ⟨p1, h1⟩
        have hi : ([D.tup (x.pts.map Pt.d)] : List D)[i]? = some d := hi
        rcases h1 with ⟨rfl, rfl, h1⟩ | ⟨rfl, _⟩
        · have hi : some (D.tup (x.pts.map Pt.d)) = some d := hi
          cases hi
          refine ⟨_, rfl, ?_⟩
          unfold b_law_text_3b
          refine wp_ss ?_
          simp [d0, kd_do hdo]
          unfold b_law_text_3b_0t
          refine wp_ss ?_
          simp [-List.append_assoc, -List.length_append]
          have hz4 := pts_len x
          refine lcM (o := none) x.pts Pt.d (fun p => .str p.tx) (by simp [wipeE]) (by omega) rfl (fun p hp S2 K p2 qK => ?_) fun S2 p2 h2 => ?_
          · obtain ⟨g, ge⟩ := pt_ok hx p hp
            obtain ⟨y, rfl⟩ : ∃ y, p = .ex y := by
              cases x <;> first
                | (cases hdo; done)
                | skip
              all_goals simp [Ex.pts] at hp
              · exact ⟨_, hp⟩
              · rcases hp with h | h <;> exact ⟨_, h⟩
            obtain ⟨N', A', hy⟩ := ge y rfl
            have hs := pt_sz hp
            simp [wipeE, Pt.d]
            exact E y N' A' S2 _ hy (by omega) (by omega) fun S3 p3 => qK S3 p3
          · try simp [-List.append_assoc, -List.length_append]
            rw [add_lst (pre_at p2 h1) h2, if_pos (by simp; rw [sizeLine_eq]; omega)]
            simp [-List.append_assoc, -List.length_append]
            refine ⟨pre_app (p1.trans p2) _, .inr ⟨rfl, _, _, _, rfl, ?_⟩⟩
            rw [new_at]
            simp [Function.comp_def]
        · cases hi
      · rintro e S1 ⟨p1, h1⟩
        rcases h1 with ⟨h, _⟩ | ⟨_, r, v2, v3, rfl, h1⟩
        · cases h
        · simp
          unfold b_law_text_4
          refine ret_wp ?_
          refine glue_ok (v := 1) hx hz hl rfl h1 ?_
          simp
          exact q S1 p1
    · have hdo : x.isDo = false := by simpa using hdo
      have hnd := kd_nodo hdo
      have hit : evI (cxt P (k + 1)) (.seq (.slc (.var 0) (.int 1) .nop)) [some x.d, some (.ref S.length), none, none] (S ++ [.lst [.str x.kd]]) = .ok ⟨x.pts.map Pt.d, none⟩ (S ++ [.lst [.str x.kd]]) := by
        rw [d_pts hdo]
        simp [slc_tup, cut_one]
      rw [s_forE, hit, R.bind_ok]
      refine wp_for (it := ⟨x.pts.map Pt.d, none⟩) (TInv x S) (fun _ _ _ _ => rfl) ?_ ?_ ⟨none, rfl, pre_self _ _, by rw [new_at]; rfl⟩
      · rintro i d e S1 hi ⟨v, rfl, p1, h1⟩
        have hi : (x.pts.map Pt.d)[i]? = some d := hi
        rw [List.getElem?_map] at hi
        cases hp : x.pts[i]? with
        | none =>
          rw [hp] at hi
          cases hi
        | some p =>
          rw [hp] at hi
          cases hi
          refine ⟨_, rfl, ?_⟩
          have hm := List.mem_of_getElem? hp
          obtain ⟨g, ge⟩ := pt_ok hx p hm
          have hlen : i < 4 := by
            have := pts_len x
            have := (List.getElem?_eq_some_iff.mp hp).1
            omega
          unfold b_law_text_3b
          refine ig_no (S' := S1) (by simp [d0, hnd]) ?_
          have fin : ∀ S2, S1 <+: S2 → Wp (bmD .append (.ref S.length) [.str p.tx] S2) fun _ S' => TInv x S (i + 1) [some x.d, some (.ref S.length), some p.d, none] S' := fun S2 p2 => by
            rw [append_lst (pre_at p2 h1) (by simp; rw [sizeLine_eq]; omega)]
            refine ⟨_, rfl, pre_set (p1.trans p2) (Nat.le_refl _), ?_⟩
            rw [List.getElem?_set_self (lt_of (pre_at p2 h1)), take_at hp]
            simp
          unfold b_law_text_3b_0e
          cases p with
          | ex y =>
            obtain ⟨N', A', hy⟩ := ge y rfl
            have hs := pt_sz hm
            refine ig_yes (S' := S1) (by simp [Pt.d, isi_d]) ?_
            unfold b_law_text_3b_0e_0t
            refine wp_ss ?_
            simp [pre_lst2 h1 (m := .append) (by simp), Pt.d]
            refine E y N' A' S1 _ hy (by omega) (by omega) fun S2 p2 => ?_
            try simp
            exact fin S2 p2
          | nm y =>
            refine ig_no (S' := S1) (by simp [Pt.d, isiD]) ?_
            unfold b_law_text_3b_0e_0e
            refine wp_ss ?_
            simp [pre_lst2 h1 (m := .append) (by simp), Pt.d]
            exact fin S1 (List.prefix_refl _)
          | kn y =>
            refine ig_no (S' := S1) (by simp [Pt.d, isiD]) ?_
            unfold b_law_text_3b_0e_0e
            refine wp_ss ?_
            simp [pre_lst2 h1 (m := .append) (by simp), Pt.d]
            exact fin S1 (List.prefix_refl _)
          | nu m =>
            refine ig_no (S' := S1) (by simp [Pt.d, isiD]) ?_
            unfold b_law_text_3b_0e_0e
            refine wp_ss ?_
            simp [pre_lst2 h1 (m := .append) (by simp), Pt.d]
            rw [str_int g]
            try simp
            exact fin S1 (List.prefix_refl _)
      · rintro e S1 ⟨v, rfl, p1, h1⟩
        simp only [List.length_map, List.take_length] at h1
        simp
        unfold b_law_text_4
        refine ret_wp ?_
        refine glue_ok (v := 1) hx hz hl rfl h1 ?_
        simp
        exact q S1 p1
theorem text_ok : ∀ (n k : Nat), TxOk P "_law_text" (k + n + 1) n
  | 0, k => fun x N A S Q hx hd => by cases x <;> simp [Ex.dp] at hd
  | n + 1, k => text_step (k := k + n) (n := n) (text_ok n k)
end K02
set_option Elab.async false
set_option linter.all false
set_option maxRecDepth 100000
set_option maxHeartbeats 1000000
/-! M40: the defs of forms, printed by wip/gen/share.py. -/
namespace Mi
open PySem L2
class FoN where
  inner : Str
  kinds : Str
  parts : Str
namespace Fo
variable [FoN]
def is_name_0tB : Sms := .cons (.ret (.bl false)) .nil
def is_name_1b_0tB : Sms := .cons (.ret (.bl false)) .nil
def is_name_1bB : Sms := .cons (.ifs (.and (.cons (.cmp .NotIn (.var 1) (.con "LETTERS")) (.cons (.cmp .NotIn (.var 1) (.con "DIGITS")) .nil))) is_name_1b_0tB .nil) .nil
def is_name_2B : Sms := .cons (.ret (.bl true)) .nil
def is_name_1B : Sms := .cons (.for_ (.nm 1) (.seq (.var 0)) is_name_1bB) is_name_2B
def is_nameB : Sms := .cons (.ifs (.or (.cons (.not (.isi (.var 0) .str)) (.cons (.not (.chn .LtE .LtE (.int 1) (.bf .len (.cons (.var 0) .nil)) (.int 8))) (.cons (.cmp .In (.var 0) (.con "WORDS")) (.cons (.cmp .NotIn (.sub (.var 0) (.int 0)) (.con "LETTERS")) .nil))))) is_name_0tB .nil) is_name_1B
def is_nameF : Fn := ⟨1, 2, is_nameB⟩
def is_integerB : Sms := .cons (.ret (.and (.cons (.isi (.var 0) .int) (.cons (.not (.isi (.var 0) .bool)) .nil)))) .nil
def is_integerF : Fn := ⟨1, 1, is_integerB⟩
def expressions_1tB : Sms := .cons (.ret (.bf .list (.cons (.slc (.var 0) (.int 1) .nop) .nil))) .nil
def expressions_2tB : Sms := .cons (.ret (.lst (.cons (.sub (.var 0) (.int 2)) .nil))) .nil
def expressions_3tB : Sms := .cons (.ret (.lst (.cons (.sub (.var 0) (.int 2)) (.cons (.sub (.var 0) (.int 3)) .nil)))) .nil
def expressions_4tB : Sms := .cons (.ret (.lst (.cons (.sub (.var 0) (.int 1)) .nil))) .nil
def expressions_5tB : Sms := .cons (.ret (.lst (.cons (.sub (.var 0) (.int 2)) (.cons (.sub (.var 0) (.int 3)) .nil)))) .nil
def expressions_6tB : Sms := .cons (.ret (.lst (.cons (.sub (.var 0) (.int 2)) .nil))) .nil
def expressions_7tB : Sms := .cons (.ret (.bf .list (.cons (.sub (.var 0) (.int 1)) .nil))) .nil
def expressions_8B : Sms := .cons (.ret (.lst .nil)) .nil
def expressions_7B : Sms := .cons (.ifs (.cmp .Eq (.var 1) (.str "do")) expressions_7tB .nil) expressions_8B
def expressions_6B : Sms := .cons (.ifs (.cmp .Eq (.var 1) (.str "keep")) expressions_6tB .nil) expressions_7B
def expressions_5B : Sms := .cons (.ifs (.cmp .Eq (.var 1) (.str "rule")) expressions_5tB .nil) expressions_6B
def expressions_4B : Sms := .cons (.ifs (.or (.cons (.cmp .Eq (.var 1) (.str "say")) (.cons (.cmp .Eq (.var 1) (.str "with")) .nil))) expressions_4tB .nil) expressions_5B
def expressions_3B : Sms := .cons (.ifs (.cmp .Eq (.var 1) (.str "let")) expressions_3tB .nil) expressions_4B
def expressions_2B : Sms := .cons (.ifs (.cmp .Eq (.var 1) (.str "fn")) expressions_2tB .nil) expressions_3B
def expressions_1B : Sms := .cons (.ifs (.cmp .In (.var 1) (.tup (.cons (.str "call") (.cons (.str "sum") (.cons (.str "less") (.cons (.str "if") .nil)))))) expressions_1tB .nil) expressions_2B
def expressionsB : Sms := .cons (.asg (.nm 1) (.sub (.var 0) (.int 0))) expressions_1B
def expressionsF : Fn := ⟨1, 2, expressionsB⟩
def has_form_0tB : Sms := .cons (.ret (.bl false)) .nil
def has_form_2tB : Sms := .cons (.ret (.bl false)) .nil
def has_form_3tB : Sms := .cons (.ret (.and (.cons (.call "is_integer" (.cons (.sub (.var 0) (.int 1)) .nil)) (.cons (.chn .LtE .LtE (.neg (.con "GREATEST")) (.sub (.var 0) (.int 1)) (.con "GREATEST")) .nil)))) .nil
def has_form_4tB : Sms := .cons (.ret (.call "is_name" (.cons (.sub (.var 0) (.int 1)) .nil))) .nil
def has_form_5tB : Sms := .cons (.ret (.and (.cons (.isi (.sub (.var 0) (.int 1)) .str) (.cons (.cmp .In (.sub (.var 0) (.int 1)) (.con FoN.kinds)) .nil)))) .nil
def has_form_6tB : Sms := .cons (.ret (.call "is_integer" (.cons (.sub (.var 0) (.int 1)) .nil))) .nil
def has_form_7tB : Sms := .cons (.ret (.isi (.sub (.var 0) (.int 1)) .tup)) .nil
def has_form_8B : Sms := .cons (.ret (.bl true)) .nil
def has_form_7B : Sms := .cons (.ifs (.cmp .Eq (.var 1) (.str "do")) has_form_7tB .nil) has_form_8B
def has_form_6B : Sms := .cons (.ifs (.cmp .Eq (.var 1) (.str "part")) has_form_6tB .nil) has_form_7B
def has_form_5B : Sms := .cons (.ifs (.or (.cons (.cmp .Eq (.var 1) (.str "rule")) (.cons (.cmp .Eq (.var 1) (.str "keep")) .nil))) has_form_5tB .nil) has_form_6B
def has_form_4B : Sms := .cons (.ifs (.or (.cons (.cmp .Eq (.var 1) (.str "name")) (.cons (.cmp .Eq (.var 1) (.str "fn")) (.cons (.cmp .Eq (.var 1) (.str "let")) .nil)))) has_form_4tB .nil) has_form_5B
def has_form_3B : Sms := .cons (.ifs (.cmp .Eq (.var 1) (.str "num")) has_form_3tB .nil) has_form_4B
def has_form_2B : Sms := .cons (.ifs (.cmp .NotEq (.bf .len (.cons (.var 0) .nil)) (.sub (.con "LENGTHS") (.var 1))) has_form_2tB .nil) has_form_3B
def has_form_1B : Sms := .cons (.asg (.nm 1) (.sub (.var 0) (.int 0))) has_form_2B
def has_formB : Sms := .cons (.ifs (.or (.cons (.not (.isi (.var 0) .tup)) (.cons (.cmp .Eq (.bf .len (.cons (.var 0) .nil)) (.int 0)) (.cons (.not (.isi (.sub (.var 0) (.int 0)) .str)) (.cons (.cmp .NotIn (.sub (.var 0) (.int 0)) (.con "LENGTHS")) .nil))))) has_form_0tB .nil) has_form_1B
def has_formF : Fn := ⟨1, 2, has_formB⟩
def is_allowed_1tB : Sms := .cons (.ret (.bl true)) .nil
def is_allowed_2tB : Sms := .cons (.ret (.bl false)) .nil
def is_allowed_3tB : Sms := .cons (.ret (.chn .LtE .Lt (.int 0) (.sub (.var 0) (.int 1)) (.sub (.con FoN.parts) (.var 1)))) .nil
def is_allowed_4tB : Sms := .cons (.ret (.cmp .Eq (.var 1) (.str "let"))) .nil
def is_allowed_5tB : Sms := .cons (.ret (.and (.cons (.cmp .In (.var 1) (.con "DONE")) (.cons (.cmp .Eq (.bf .len (.cons (.sub (.var 0) (.int 1)) .nil)) (.sub (.con "DONE") (.var 1))) .nil)))) .nil
def is_allowed_6B : Sms := .cons (.ret (.bl true)) .nil
def is_allowed_5B : Sms := .cons (.ifs (.cmp .Eq (.var 2) (.str "do")) is_allowed_5tB .nil) is_allowed_6B
def is_allowed_4B : Sms := .cons (.ifs (.cmp .Eq (.var 2) (.str "with")) is_allowed_4tB .nil) is_allowed_5B
def is_allowed_3B : Sms := .cons (.ifs (.cmp .Eq (.var 2) (.str "part")) is_allowed_3tB .nil) is_allowed_4B
def is_allowed_2B : Sms := .cons (.ifs (.cmp .Eq (.var 1) (.str "")) is_allowed_2tB .nil) is_allowed_3B
def is_allowed_1B : Sms := .cons (.ifs (.cmp .NotIn (.var 2) (.tup (.cons (.str "part") (.cons (.str "with") (.cons (.str "usual") (.cons (.str "do") .nil)))))) is_allowed_1tB .nil) is_allowed_2B
def is_allowedB : Sms := .cons (.asg (.nm 2) (.sub (.var 0) (.int 0))) is_allowed_1B
def is_allowedF : Fn := ⟨2, 3, is_allowedB⟩
def inner_1tB : Sms := .cons (.ret (.lst (.cons (.tup (.cons (.sub (.var 0) (.int 2)) (.cons (.var 1) (.cons (.bin .Add (.var 2) (.tup (.cons (.sub (.var 0) (.int 1)) .nil))) .nil)))) .nil))) .nil
def inner_2tB : Sms := .cons (.ret (.lst (.cons (.tup (.cons (.sub (.var 0) (.int 2)) (.cons (.var 1) (.cons (.var 2) .nil)))) (.cons (.tup (.cons (.sub (.var 0) (.int 3)) (.cons (.var 1) (.cons (.bin .Add (.var 2) (.tup (.cons (.sub (.var 0) (.int 1)) .nil))) .nil)))) .nil)))) .nil
def inner_3tB : Sms := .cons (.ret (.lst (.cons (.tup (.cons (.sub (.var 0) (.int 2)) (.cons (.sub (.var 0) (.int 1)) (.cons (.tup .nil) .nil)))) (.cons (.tup (.cons (.sub (.var 0) (.int 3)) (.cons (.var 1) (.cons (.var 2) .nil)))) .nil)))) .nil
def inner_4tB : Sms := .cons (.ret (.lst (.cons (.tup (.cons (.sub (.var 0) (.int 2)) (.cons (.sub (.var 0) (.int 1)) (.cons (.tup .nil) .nil)))) .nil))) .nil
def inner_5B : Sms := .cons (.ret (.lc (.nm 4) (.seq (.call "expressions" (.cons (.var 0) .nil))) .nop (.tup (.cons (.var 4) (.cons (.var 1) (.cons (.var 2) .nil)))) [4])) .nil
def inner_4B : Sms := .cons (.ifs (.cmp .Eq (.var 3) (.str "keep")) inner_4tB .nil) inner_5B
def inner_3B : Sms := .cons (.ifs (.cmp .Eq (.var 3) (.str "rule")) inner_3tB .nil) inner_4B
def inner_2B : Sms := .cons (.ifs (.cmp .Eq (.var 3) (.str "let")) inner_2tB .nil) inner_3B
def inner_1B : Sms := .cons (.ifs (.cmp .Eq (.var 3) (.str "fn")) inner_1tB .nil) inner_2B
def innerB : Sms := .cons (.asg (.nm 3) (.sub (.var 0) (.int 0))) inner_1B
def innerF : Fn := ⟨3, 5, innerB⟩
def is_well_formed_1b_1tB : Sms := .cons (.ret (.bl false)) .nil
def is_well_formed_1b_2tB : Sms := .cons (.ret (.bl false)) .nil
def is_well_formed_1b_3B : Sms := .cons (.exp (.bm .extend (.var 1) (.cons (.call FoN.inner (.cons (.var 2) (.cons (.var 3) (.cons (.var 4) .nil)))) .nil))) .nil
def is_well_formed_1b_2B : Sms := .cons (.ifs (.and (.cons (.cmp .Eq (.sub (.var 2) (.int 0)) (.str "name")) (.cons (.cmp .NotIn (.sub (.var 2) (.int 1)) (.var 4)) .nil))) is_well_formed_1b_2tB .nil) is_well_formed_1b_3B
def is_well_formed_1b_1B : Sms := .cons (.ifs (.or (.cons (.not (.call "has_form" (.cons (.var 2) .nil))) (.cons (.not (.call "is_allowed" (.cons (.var 2) (.cons (.var 3) .nil)))) .nil))) is_well_formed_1b_1tB .nil) is_well_formed_1b_2B
def is_well_formed_1bB : Sms := .cons (.asg (.tp [2, 3, 4]) (.bm .pop (.var 1) .nil)) is_well_formed_1b_1B
def is_well_formed_2B : Sms := .cons (.ret (.bl true)) .nil
def is_well_formed_1B : Sms := .cons (.whl (.var 1) is_well_formed_1bB) is_well_formed_2B
def is_well_formedB : Sms := .cons (.asg (.nm 1) (.lst (.cons (.tup (.cons (.var 0) (.cons (.str "") (.cons (.tup .nil) .nil)))) .nil))) is_well_formed_1B
def is_well_formedF : Fn := ⟨1, 5, is_well_formedB⟩
def size_3b_2B : Sms := .cons (.asg (.nm 1) (.lc2 (.nm 4) (.seq (.var 1)) (.nm 5) (.seq (.call "expressions" (.cons (.var 4) .nil))) (.var 5) [4, 5] [5])) .nil
def size_3b_1B : Sms := .cons (.aug 2 .Add (.bf .len (.cons (.var 1) .nil))) size_3b_2B
def size_3bB : Sms := .cons (.aug 3 .Add (.int 1)) size_3b_1B
def size_4B : Sms := .cons (.ret (.tup (.cons (.var 2) (.cons (.var 3) .nil)))) .nil
def size_3B : Sms := .cons (.whl (.var 1) size_3bB) size_4B
def size_2B : Sms := .cons (.asg (.nm 3) (.int 0)) size_3B
def size_1B : Sms := .cons (.asg (.nm 2) (.int 0)) size_2B
def sizeB : Sms := .cons (.asg (.nm 1) (.lst (.cons (.var 0) .nil))) size_1B
def sizeF : Fn := ⟨1, 6, sizeB⟩
def height_2b_2t_1B : Sms := .cons (.exp (.bm .append (.var 2) (.cons (.tup (.cons (.sub (.var 3) (.int 3)) (.cons (.var 4) .nil))) .nil))) .nil
def height_2b_2tB : Sms := .cons (.exp (.bm .append (.var 2) (.cons (.tup (.cons (.sub (.var 3) (.int 2)) (.cons (.bin .Add (.var 4) (.int 1)) .nil))) .nil))) height_2b_2t_1B
def height_2b_2e_0tB : Sms := .cons (.exp (.bm .append (.var 2) (.cons (.tup (.cons (.sub (.var 3) (.int 2)) (.cons (.bin .Add (.var 4) (.int 1)) .nil))) .nil))) .nil
def height_2b_2e_0eB : Sms := .cons (.exp (.bm .extend (.var 2) (.cons (.lc (.nm 5) (.seq (.call "expressions" (.cons (.var 3) .nil))) .nop (.tup (.cons (.var 5) (.cons (.var 4) .nil))) [5]) .nil))) .nil
def height_2b_2eB : Sms := .cons (.ifs (.cmp .Eq (.sub (.var 3) (.int 0)) (.str "keep")) height_2b_2e_0tB height_2b_2e_0eB) .nil
def height_2b_2B : Sms := .cons (.ifs (.cmp .Eq (.sub (.var 3) (.int 0)) (.str "rule")) height_2b_2tB height_2b_2eB) .nil
def height_2b_1B : Sms := .cons (.asg (.nm 1) (.bf .max (.cons (.var 1) (.cons (.var 4) .nil)))) height_2b_2B
def height_2bB : Sms := .cons (.asg (.tp [3, 4]) (.bm .pop (.var 2) .nil)) height_2b_1B
def height_3B : Sms := .cons (.ret (.var 1)) .nil
def height_2B : Sms := .cons (.whl (.var 2) height_2bB) height_3B
def height_1B : Sms := .cons (.asg (.nm 2) (.lst (.cons (.tup (.cons (.var 0) (.cons (.int 0) .nil))) .nil))) height_2B
def heightB : Sms := .cons (.asg (.nm 1) (.int 0)) height_1B
def heightF : Fn := ⟨1, 6, heightB⟩
end Fo
def doneS : List Str := ["call", "sum", "less", "say"]
def lensL : List (Str × D) := [("num", .int 2), ("name", .int 2), ("fn", .int 3), ("call", .int 3), ("sum", .int 3), ("less", .int 3), ("if", .int 4), ("let", .int 4), ("say", .int 2), ("rule", .int 4), ("keep", .int 3), ("part", .int 2), ("with", .int 2), ("usual", .int 1), ("do", .int 2)]
def partsL : List (Str × D) := [("num", .int 0), ("name", .int 0), ("fn", .int 0), ("call", .int 2), ("sum", .int 2), ("less", .int 2), ("if", .int 3), ("let", .int 1), ("say", .int 1)]
def doneL : List (Str × D) := [("call", .int 2), ("sum", .int 2), ("less", .int 2), ("say", .int 1)]
def hasCd (P : Pr) (x : Str) (l : List (Str × D)) : Prop := ∃ i, P.con.lookup x = some (.cd i) ∧ P.cds.getD i [] = l
/-- the defs and constants of forms -/
structure Forms [FoN] (P : Pr) : Prop where
  is_name : P.fns.lookup ("is_name" : Str) = some Fo.is_nameF
  is_integer : P.fns.lookup ("is_integer" : Str) = some Fo.is_integerF
  expressions : P.fns.lookup ("expressions" : Str) = some Fo.expressionsF
  has_form : P.fns.lookup ("has_form" : Str) = some Fo.has_formF
  is_allowed : P.fns.lookup ("is_allowed" : Str) = some Fo.is_allowedF
  inner : P.fns.lookup FoN.inner = some Fo.innerF
  is_well_formed : P.fns.lookup ("is_well_formed" : Str) = some Fo.is_well_formedF
  kinds : P.con.lookup FoN.kinds = some (.tup (kindsS.map .str))
  words : P.con.lookup ("WORDS" : Str) = some (.tup (wordsS.map .str))
  letters : P.con.lookup ("LETTERS" : Str) = some (.str "abcdefghijklmnopqrstuvwxyzABCDEFGHIJKLMNOPQRSTUVWXYZ")
  digits : P.con.lookup ("DIGITS" : Str) = some (.str "0123456789")
  greatest : P.con.lookup ("GREATEST" : Str) = some (.int 1000000)
  lens : hasCd P ("LENGTHS" : Str) lensL
  parts : hasCd P FoN.parts partsL
  done : hasCd P ("DONE" : Str) doneL
@[simp] theorem cxt_con (P : Pr) (k : Nat) (x : Str) : (cxt P k).con x = P.con.lookup x := by cases k <;> rfl
@[simp] theorem cxt_cds (P : Pr) (k : Nat) (i : Nat) : (cxt P k).cds i = P.cds.getD i [] := by cases k <;> rfl
end Mi
set_option Elab.async false
set_option linter.all false
set_option maxRecDepth 100000
set_option maxHeartbeats 4000000
/-! M41: what is a name; the form of an expression. -/
namespace Mi
open PySem L2
variable [FoN]
def wordD : D → Bool
  | .str x => wordB x
  | _ => false
def strD : D → Bool
  | .str _ => true
  | _ => false
def intD : D → Bool
  | .int _ => true
  | _ => false
theorem isi_str {x : D} (h : plainD x = true) : isiD .str x = some (strD x) := by cases x <;> first | rfl | cases h
section
variable {P : Pr} {k : Nat} {S : Sto} {Q : D → Sto → Prop}
theorem letters_cps : (("abcdefghijklmnopqrstuvwxyzABCDEFGHIJKLMNOPQRSTUVWXYZ" : Str)).cps.toList = lettersS := by decide +kernel
theorem digits_cps : (("0123456789" : Str)).cps.toList = digitsS := by decide +kernel
theorem is_integer_ok (F : Forms P) {v : D} (hv : plainD v = true) (q : Q (.bl (intD v)) S) : Wp ((cxt P (k + 1)).call "is_integer" [v] S) Q := by
  rw [call_fn F.is_integer, run_fn2 rfl, wp_bind]
  unfold Fo.is_integerF Fo.is_integerB
  refine wp_ss ?_
  cases v <;> first
    | (cases hv; done)
    | (simp [startE, isiD]; exact q)
theorem not_letters {cds : Nat → List (Str × D)} {c : Nat} : cmpD cds .NotIn (.str ⟨#[c]⟩) (.str ("abcdefghijklmnopqrstuvwxyzABCDEFGHIJKLMNOPQRSTUVWXYZ" : Str)) S = .ok (D.bl (!decide (c ∈ lettersS))) S := by
  show R.ok (D.bl (!inStr _ _)) S = _
  rw [inStr_one, letters_cps]
theorem not_digits {cds : Nat → List (Str × D)} {c : Nat} : cmpD cds .NotIn (.str ⟨#[c]⟩) (.str ("0123456789" : Str)) S = .ok (D.bl (!decide (c ∈ digitsS))) S := by
  show R.ok (D.bl (!inStr _ _)) S = _
  rw [inStr_one, digits_cps]
theorem in_tup_strs {cds : Nat → List (Str × D)} {x : Str} {ys : List Str} : cmpD cds .In (.str x) (.tup (ys.map .str)) S = .ok (.bl (decide (x ∈ ys))) S := by
  show inD cds false (.str x) (.tup (ys.map .str)) S = _
  unfold inD
  dsimp only
  rw [if_pos ⟨rfl, flat_strs ys⟩, if_neg Bool.false_ne_true]
  congr 2
  rw [List.any_map, Bool.eq_iff_iff, List.any_eq_true, decide_eq_true_eq]
  constructor
  · rintro ⟨y, hy, e⟩
    have e : eqF (.str y) (.str x) = true := e
    rw [eqF_str, decide_eq_true_eq] at e
    exact e ▸ hy
  · intro hx
    exact ⟨x, hx, by show eqF (.str x) (.str x) = true; rw [eqF_str]; simp⟩
theorem notin_tup_strs {cds : Nat → List (Str × D)} {x : Str} {ys : List Str} : cmpD cds .NotIn (.str x) (.tup (ys.map .str)) S = .ok (.bl (!decide (x ∈ ys))) S := by
  have h : inD cds false (.str x) (.tup (ys.map .str)) S = .ok (.bl (decide (x ∈ ys))) S := in_tup_strs (cds := cds)
  show inD cds true (.str x) (.tup (ys.map .str)) S = _
  unfold inD at h ⊢
  dsimp only at h ⊢
  rw [if_pos ⟨rfl, flat_strs ys⟩, if_neg Bool.false_ne_true] at h
  rw [if_pos ⟨rfl, flat_strs ys⟩, if_pos rfl]
  injection h with h1 h2
  injection h1 with h1
  rw [h1]
theorem is_name_ok (F : Forms P) {v : D} {b : Nat} (hb : b ≤ 1000) (hv : pureD b v = true) (q : Q (.bl (wordD v)) S) : Wp ((cxt P (k + 1)).call "is_name" [v] S) Q := by
  rw [call_fn F.is_name, run_fn2 rfl, wp_bind]
  unfold Fo.is_nameF Fo.is_nameB
  show Wp (evSs (cxt P k) _ [some v, none] S) _
  have no : wordD v = false → Wp (evSs (cxt P k) Fo.is_name_0tB [some v, none] S) fun o S1 => Wp (goR o (fun e2 S => evSs (cxt P k) Fo.is_name_1B e2 S) S1) fun a s => Wp (outV a s) Q := fun h => by
    unfold Fo.is_name_0tB
    refine ret_wp ?_
    rw [h] at q
    simpa using q
  cases v with
  | str x =>
    have hx : x.length ≤ b := of_decide_eq_true hv
    have hs : x.length ≤ sizeLine := small (by omega)
    have hsz : x.cps.size = x.length := rfl
    refine wp_ss ?_
    simp [isiD, len_str hs]
    by_cases h1 : x.length < 1
    · have h1' : ¬ (1 ≤ (x.length : Int)) := by omega
      simp [h1']
      refine no ?_
      show wordB x = false
      unfold wordB
      rw [decide_eq_false (by omega)]
      rfl
    · have h1' : (1 ≤ (x.length : Int)) := by omega
      simp [h1']
      by_cases h2 : 8 < x.length
      · have h2' : (8 : Int) < (x.length : Int) := by omega
        simp [h2']
        refine no ?_
        show wordB x = false
        unfold wordB
        rw [decide_eq_true (show 1 ≤ x.length by omega), decide_eq_false (show ¬ x.length ≤ 8 by omega)]
        rfl
      · have h2' : ¬ (8 : Int) < (x.length : Int) := by omega
        obtain ⟨c0, hc0⟩ : ∃ c0, x.cps[0]? = some c0 := ⟨_, Array.getElem?_eq_getElem (by omega)⟩
        have hc0' : x.cps.toList[0]? = some c0 := by simpa using hc0
        simp [h2', F.words, in_tup_strs]
        by_cases h4 : x ∈ wordsS
        · simp [h4]
          refine no ?_
          show wordB x = false
          unfold wordB
          rw [decide_eq_false (show ¬ x ∉ wordsS from fun h => h h4)]
          simp
        · simp [h4, sub_str hs, hc0, F.letters, not_letters]
          have he : wordB x = (decide (c0 ∈ lettersS) && x.cps.toList.all fun c => decide (c ∈ lettersS) || decide (c ∈ digitsS)) := by
            unfold wordB
            rw [hc0, decide_eq_true (show 1 ≤ x.length by omega), decide_eq_true (show x.length ≤ 8 by omega), decide_eq_true h4]
            simp
          by_cases h3 : c0 ∈ lettersS
          · simp [h3]
            rw [decide_eq_true h3, Bool.true_and] at he
            unfold Fo.is_name_1B
            refine wp_ss ?_
            have e1 : seqIt (.str x) S = .ok ⟨x.cps.toList.map fun c => D.str ⟨#[c]⟩, none⟩ S := by
              show (if x.length ≤ sizeLine then _ else _) = _
              rw [if_pos hs]
            simp [e1]
            refine wp_for (it := ⟨x.cps.toList.map fun c => D.str ⟨#[c]⟩, none⟩) (fun i e S' => S' = S ∧ (∃ z, e = [some (.str x), z]) ∧ ((x.cps.toList.take i).all fun c => decide (c ∈ lettersS) || decide (c ∈ digitsS)) = true) (fun _ _ _ _ => rfl) ?_ ?_ ⟨rfl, ⟨_, rfl⟩, by simp⟩
            · rintro i y e S' hy ⟨rfl, ⟨z, rfl⟩, ha⟩
              have hy : (x.cps.toList.map fun c => D.str ⟨#[c]⟩)[i]? = some y := hy
              rw [List.getElem?_map] at hy
              cases hk : x.cps.toList[i]? with
              | none =>
                rw [hk] at hy
                cases hy
              | some c =>
                rw [hk] at hy
                cases hy
                have ht : x.cps.toList.take (i + 1) = x.cps.toList.take i ++ [c] := by
                  rw [List.take_succ, hk]
                  rfl
                refine ⟨_, rfl, ?_⟩
                unfold Fo.is_name_1bB
                refine wp_ss ?_
                simp [F.letters, F.digits, not_letters, not_digits]
                by_cases hl : c ∈ lettersS
                · simp [hl, ht, List.all_append]
                  intro y hy
                  rcases hy with hy | rfl
                  · simpa using List.all_eq_true.mp ha y hy
                  · exact .inl hl
                · by_cases hd : c ∈ digitsS
                  · simp [hl, hd, ht]
                    intro y hy
                    rcases hy with hy | rfl
                    · simpa using List.all_eq_true.mp ha y hy
                    · exact .inr hd
                  · simp [hl, hd]
                    unfold Fo.is_name_1b_0tB
                    refine ret_wp ?_
                    simp
                    have : wordB x = false := by
                      rw [he, List.all_eq_false]
                      exact ⟨c, List.mem_of_getElem? hk, by simp [hl, hd]⟩
                    have q2 : Q (.bl (wordB x)) S' := q
                    rw [this] at q2
                    exact q2
            · rintro e S' ⟨rfl, ⟨z, rfl⟩, ha⟩
              rw [List.length_map, List.take_length] at ha
              simp
              unfold Fo.is_name_2B
              refine ret_wp ?_
              simp
              have q2 : Q (.bl (wordB x)) S' := q
              rw [he, ha] at q2
              exact q2
          · simp [h3]
            refine no ?_
            show wordB x = false
            rw [he, decide_eq_false h3]
            rfl
  | ref _ => cases hv
  | cd _ => cases hv
  | lit _ => cases hv
  | _ =>
    refine wp_ss ?_
    simp [isiD]
    exact no rfl
end
end Mi
set_option Elab.async false
set_option linter.all false
set_option maxRecDepth 100000
set_option maxHeartbeats 4000000
/-! M42: the form of an expression. -/
namespace Mi
open PySem L2
variable [FoN]
/-- an expression's outermost form -/
inductive Nd where
  | num (n : Int) | name (x : Str) | fn (x : Str) (b : D) | call (a b : D) | sum (a b : D) | less (a b : D) | ite (a b c : D) | let_ (x : Str) (a b : D) | say (a : D)
  | rule (k : Str) (a b : D) | keep (k : Str) (a : D) | part (i : Int) | with_ (a : D) | usual | do_ (es : List D)
def Nd.d : Nd → D
  | .num n => .tup [.str "num", .int n]
  | .name x => .tup [.str "name", .str x]
  | .fn x b => .tup [.str "fn", .str x, b]
  | .call a b => .tup [.str "call", a, b]
  | .sum a b => .tup [.str "sum", a, b]
  | .less a b => .tup [.str "less", a, b]
  | .ite a b c => .tup [.str "if", a, b, c]
  | .let_ x a b => .tup [.str "let", .str x, a, b]
  | .say a => .tup [.str "say", a]
  | .rule k a b => .tup [.str "rule", .str k, a, b]
  | .keep k a => .tup [.str "keep", .str k, a]
  | .part i => .tup [.str "part", .int i]
  | .with_ a => .tup [.str "with", a]
  | .usual => .tup [.str "usual"]
  | .do_ es => .tup [.str "do", .tup es]
def Nd.wf : Nd → Prop
  | .num n => -1000000 ≤ n ∧ n ≤ 1000000
  | .name x => wordB x = true
  | .fn x _ => wordB x = true
  | .let_ x _ _ => wordB x = true
  | .rule k _ _ => k ∈ kindsS
  | .keep k _ => k ∈ kindsS
  | _ => True
section
variable {P : Pr} {k : Nat} {S : Sto} {Q : D → Sto → Prop}
/-- a table's item -/
theorem cd_get {x : Str} {i : Nat} {l : List (Str × D)} {v : D} {cds : Nat → List (Str × D)} (h : cds i = l) (hv : l.lookup x = some v) : subD cds (.cd i) (.str x) S = .ok v S := by
  cases l with
  | nil => cases hv
  | cons q l =>
    show (match dget cds S (.cd i) (.str x) with | some (some v) => _ | _ => _) = _
    unfold dget
    dsimp only
    rw [h]
    dsimp only
    rw [hv]
theorem cd_notin {x : Str} {i : Nat} {q : Str × D} {l : List (Str × D)} {cds : Nat → List (Str × D)} (h : cds i = q :: l) : cmpD cds .NotIn (.str x) (.cd i) S = .ok (.bl (!((q :: l).lookup x).isSome)) S := by
  show inD cds true (.str x) (.cd i) S = _
  unfold inD dget
  dsimp only
  rw [h]
  rfl
theorem cd_in {x : Str} {i : Nat} {q : Str × D} {l : List (Str × D)} {cds : Nat → List (Str × D)} (h : cds i = q :: l) : cmpD cds .In (.str x) (.cd i) S = .ok (.bl (((q :: l).lookup x).isSome)) S := by
  show inD cds false (.str x) (.cd i) S = _
  unfold inD dget
  dsimp only
  rw [h]
  rfl
theorem look_cons {x y : Str} {v : D} {l : List (Str × D)} : ((y, v) :: l).lookup x = if x = y then some v else l.lookup x := by
  rw [List.lookup_cons]
  by_cases h : x = y
  · rw [if_pos h, show (x == y) = true from by simpa using h]
  · rw [if_neg h, show (x == y) = false from by simpa using h]
theorem look_nil {x : Str} : ([] : List (Str × D)).lookup x = none := rfl
theorem lens_none {x : Str} (h : x ∉ wordsS) : lensL.lookup x = none := by
  have h2 : ∀ y ∈ wordsS, x ≠ y := fun y hy e => h (e ▸ hy)
  simp only [wordsS, List.forall_mem_cons] at h2
  obtain ⟨h1, h2, h3, h4, h5, h6, h7, h8, h9, h10, h11, h12, h13, h14, h15, _⟩ := h2
  unfold lensL
  simp only [look_cons, look_nil, h1, h2, h3, h4, h5, h6, h7, h8, h9, h10, h11, h12, h13, h14, h15, if_false]
theorem cd_getP {x : Str} {i : Nat} {l : List (Str × D)} {v : D} {k : Nat} (h : P.cds.getD i [] = l) (hv : l.lookup x = some v) : subD (cxt P k).cds (.cd i) (.str x) S = .ok v S := cd_get (by rw [cxt_cds, h]) hv
theorem form_len {kd : Str} {r : List D} {nd : Nd} (e : D.tup (.str kd :: r) = nd.d) : lensL.lookup kd = some (.int (r.length + 1)) := by
  cases nd <;> (injection e with e; injection e with e1 e2; injection e1 with e1; subst e1; subst e2; rfl)
theorem words_cases {x : Str} (h : x ∈ wordsS) : x = "num" ∨ x = "name" ∨ x = "fn" ∨ x = "call" ∨ x = "sum" ∨ x = "less" ∨ x = "if" ∨ x = "let" ∨ x = "say" ∨ x = "rule" ∨ x = "keep" ∨ x = "part" ∨ x = "with" ∨ x = "usual" ∨ x = "do" := by
  simpa [wordsS] using h
/-- it is asked whether a value has an expression's form -/
theorem has_form_ok (F : Forms P) {v : D} {b : Nat} (hb : b ≤ 1000) (hv : pureD b v = true) (q1 : ∀ nd : Nd, v = nd.d → nd.wf → Q (.bl true) S) (q0 : (∀ nd : Nd, v = nd.d → ¬ nd.wf) → Q (.bl false) S) : Wp ((cxt P (k + 2)).call "has_form" [v] S) Q := by
  rw [call_fn F.has_form, run_fn2 rfl, wp_bind]
  unfold Fo.has_formF Fo.has_formB
  show Wp (evSs (cxt P (k + 1)) _ [some v, none] S) _
  have no : (∀ nd : Nd, v ≠ nd.d) → Wp (evSs (cxt P (k + 1)) Fo.has_form_0tB [some v, none] S) fun o S1 => Wp (goR o (fun e2 S => evSs (cxt P (k + 1)) Fo.has_form_1B e2 S) S1) fun a s => Wp (outV a s) Q := fun h => by
    unfold Fo.has_form_0tB
    refine ret_wp ?_
    simpa using q0 fun nd e => absurd e (h nd)
  have iv : isiD .tup v = some (isTupD v) := isi_tup (pure_plain hv)
  obtain ⟨li, hl1, hl2⟩ := F.lens
  refine wp_ss ?_
  simp [iv]
  cases v with
  | tup xs =>
    rcases xs with _ | ⟨a, r⟩
    · simp
      exact no fun nd e => by cases nd <;> cases e
    · have hp : (decide ((a :: r).length ≤ b) && (pureD b a && pureDs b r)) = true := hv
      simp only [Bool.and_eq_true, decide_eq_true_eq] at hp
      obtain ⟨hlen, ha, hr⟩ := hp
      have h1 : ¬ ((r.length : Int) + 1 = 0) := by omega
      have ia := isi_str (pure_plain ha)
      simp [h1, ia]
      cases a with
      | str kd =>
        simp [strD, hl1]
        rw [cd_notin (l := lensL.tail) (q := ("num", .int 2)) (by rw [cxt_cds, hl2]; rfl)]
        rw [show ((("num" : Str), D.int 2) :: lensL.tail) = lensL from rfl]
        by_cases hkd : kd ∈ wordsS
        · obtain ⟨L, hL⟩ : ∃ L : Int, lensL.lookup kd = some (.int L) := by
            rcases words_cases hkd with h | h | h | h | h | h | h | h | h | h | h | h | h | h | h <;> subst h <;> exact ⟨_, rfl⟩
          rw [hL]
          simp
          unfold Fo.has_form_1B
          refine wp_ss ?_
          simp
          unfold Fo.has_form_2B
          refine wp_ss ?_
          simp [hl1, cd_getP hl2 hL]
          by_cases hlr : (r.length : Int) + 1 = L
          · simp [hlr]
            rcases words_cases hkd with h | h | h | h | h | h | h | h | h | h | h | h | h | h | h
            · subst h
              have eL : L = 2 := by
                injection hL with hL
                injection hL with hL
                exact hL.symm
              subst eL
              obtain ⟨x1, rfl⟩ : ∃ x1, r = [x1] := by
                rcases r with _ | ⟨x1, _ | ⟨y, r⟩⟩ <;> first | exact ⟨_, rfl⟩ | (simp at hlr; done) | (exfalso; simp at hlr; omega)
              have p1 : pureD b x1 = true := pure_mem hr x1 (by simp)
              unfold Fo.has_form_3B
              refine if_yes (S' := S) (by simp) ?_
              unfold Fo.has_form_3tB
              refine ret_wp ?_
              simp
              refine is_integer_ok F (pure_plain p1) ?_
              cases x1 with
              | int n =>
                simp [intD, F.greatest]
                by_cases h1 : -1000000 ≤ n <;> by_cases h2 : n ≤ 1000000 <;> simp [h1, h2]
                · exact q1 (.num n) rfl ⟨h1, h2⟩
                all_goals exact q0 fun nd e w => by cases nd <;> simp [Nd.d] at e <;> subst e <;> first | exact h1 w.1 | exact h2 w.2
              | _ =>
                simp [intD]
                exact q0 fun nd e w => by cases nd <;> simp [Nd.d] at e
            · subst h
              have eL : L = 2 := by
                injection hL with hL
                injection hL with hL
                exact hL.symm
              subst eL
              obtain ⟨x1, rfl⟩ : ∃ x1, r = [x1] := by
                rcases r with _ | ⟨x1, _ | ⟨y, r⟩⟩ <;> first | exact ⟨_, rfl⟩ | (simp at hlr; done) | (exfalso; simp at hlr; omega)
              have p1 : pureD b x1 = true := pure_mem hr x1 (by simp)
              unfold Fo.has_form_3B
              refine if_no (S' := S) (by simp) ?_
              unfold Fo.has_form_4B
              refine if_yes (S' := S) (by simp) ?_
              unfold Fo.has_form_4tB
              refine ret_wp ?_
              simp
              refine is_name_ok F hb p1 ?_
              cases x1 with
              | str x =>
                simp [wordD]
                cases hx : wordB x
                · exact q0 fun nd e w => by
                    cases nd <;> simp [Nd.d] at e
                    first | (subst e; exact Bool.false_ne_true (hx.symm.trans (show wordB x = true from w))) | (obtain ⟨rfl, _⟩ := e; exact Bool.false_ne_true (hx.symm.trans (show wordB x = true from w)))
                · exact q1 (.name x ) rfl hx
              | _ =>
                simp [wordD]
                exact q0 fun nd e w => by cases nd <;> simp [Nd.d] at e
            · subst h
              have eL : L = 3 := by
                injection hL with hL
                injection hL with hL
                exact hL.symm
              subst eL
              obtain ⟨x1, x2, rfl⟩ : ∃ x1 x2, r = [x1, x2] := by
                rcases r with _ | ⟨x1, _ | ⟨x2, _ | ⟨y, r⟩⟩⟩ <;> first | exact ⟨_, _, rfl⟩ | (simp at hlr; done) | (exfalso; simp at hlr; omega)
              have p1 : pureD b x1 = true := pure_mem hr x1 (by simp)
              unfold Fo.has_form_3B
              refine if_no (S' := S) (by simp) ?_
              unfold Fo.has_form_4B
              refine if_yes (S' := S) (by simp) ?_
              unfold Fo.has_form_4tB
              refine ret_wp ?_
              simp
              refine is_name_ok F hb p1 ?_
              cases x1 with
              | str x =>
                simp [wordD]
                cases hx : wordB x
                · exact q0 fun nd e w => by
                    cases nd <;> simp [Nd.d] at e
                    first | (subst e; exact Bool.false_ne_true (hx.symm.trans (show wordB x = true from w))) | (obtain ⟨rfl, _⟩ := e; exact Bool.false_ne_true (hx.symm.trans (show wordB x = true from w)))
                · exact q1 (.fn x x2) rfl hx
              | _ =>
                simp [wordD]
                exact q0 fun nd e w => by cases nd <;> simp [Nd.d] at e
            · subst h
              have eL : L = 3 := by
                injection hL with hL
                injection hL with hL
                exact hL.symm
              subst eL
              obtain ⟨x1, x2, rfl⟩ : ∃ x1 x2, r = [x1, x2] := by
                rcases r with _ | ⟨x1, _ | ⟨x2, _ | ⟨y, r⟩⟩⟩ <;> first | exact ⟨_, _, rfl⟩ | (simp at hlr; done) | (exfalso; simp at hlr; omega)
              have p1 : pureD b x1 = true := pure_mem hr x1 (by simp)
              unfold Fo.has_form_3B
              refine if_no (S' := S) (by simp) ?_
              unfold Fo.has_form_4B
              refine if_no (S' := S) (by simp) ?_
              unfold Fo.has_form_5B
              refine if_no (S' := S) (by simp) ?_
              unfold Fo.has_form_6B
              refine if_no (S' := S) (by simp) ?_
              unfold Fo.has_form_7B
              refine if_no (S' := S) (by simp) ?_
              unfold Fo.has_form_8B
              refine ret_wp ?_
              simp
              exact q1 (.call x1 x2) rfl trivial
            · subst h
              have eL : L = 3 := by
                injection hL with hL
                injection hL with hL
                exact hL.symm
              subst eL
              obtain ⟨x1, x2, rfl⟩ : ∃ x1 x2, r = [x1, x2] := by
                rcases r with _ | ⟨x1, _ | ⟨x2, _ | ⟨y, r⟩⟩⟩ <;> first | exact ⟨_, _, rfl⟩ | (simp at hlr; done) | (exfalso; simp at hlr; omega)
              have p1 : pureD b x1 = true := pure_mem hr x1 (by simp)
              unfold Fo.has_form_3B
              refine if_no (S' := S) (by simp) ?_
              unfold Fo.has_form_4B
              refine if_no (S' := S) (by simp) ?_
              unfold Fo.has_form_5B
              refine if_no (S' := S) (by simp) ?_
              unfold Fo.has_form_6B
              refine if_no (S' := S) (by simp) ?_
              unfold Fo.has_form_7B
              refine if_no (S' := S) (by simp) ?_
              unfold Fo.has_form_8B
              refine ret_wp ?_
              simp
              exact q1 (.sum x1 x2) rfl trivial
            · subst h
              have eL : L = 3 := by
                injection hL with hL
                injection hL with hL
                exact hL.symm
              subst eL
              obtain ⟨x1, x2, rfl⟩ : ∃ x1 x2, r = [x1, x2] := by
                rcases r with _ | ⟨x1, _ | ⟨x2, _ | ⟨y, r⟩⟩⟩ <;> first | exact ⟨_, _, rfl⟩ | (simp at hlr; done) | (exfalso; simp at hlr; omega)
              have p1 : pureD b x1 = true := pure_mem hr x1 (by simp)
              unfold Fo.has_form_3B
              refine if_no (S' := S) (by simp) ?_
              unfold Fo.has_form_4B
              refine if_no (S' := S) (by simp) ?_
              unfold Fo.has_form_5B
              refine if_no (S' := S) (by simp) ?_
              unfold Fo.has_form_6B
              refine if_no (S' := S) (by simp) ?_
              unfold Fo.has_form_7B
              refine if_no (S' := S) (by simp) ?_
              unfold Fo.has_form_8B
              refine ret_wp ?_
              simp
              exact q1 (.less x1 x2) rfl trivial
            · subst h
              have eL : L = 4 := by
                injection hL with hL
                injection hL with hL
                exact hL.symm
              subst eL
              obtain ⟨x1, x2, x3, rfl⟩ : ∃ x1 x2 x3, r = [x1, x2, x3] := by
                rcases r with _ | ⟨x1, _ | ⟨x2, _ | ⟨x3, _ | ⟨y, r⟩⟩⟩⟩ <;> first | exact ⟨_, _, _, rfl⟩ | (simp at hlr; done) | (exfalso; simp at hlr; omega)
              have p1 : pureD b x1 = true := pure_mem hr x1 (by simp)
              unfold Fo.has_form_3B
              refine if_no (S' := S) (by simp) ?_
              unfold Fo.has_form_4B
              refine if_no (S' := S) (by simp) ?_
              unfold Fo.has_form_5B
              refine if_no (S' := S) (by simp) ?_
              unfold Fo.has_form_6B
              refine if_no (S' := S) (by simp) ?_
              unfold Fo.has_form_7B
              refine if_no (S' := S) (by simp) ?_
              unfold Fo.has_form_8B
              refine ret_wp ?_
              simp
              exact q1 (.ite x1 x2 x3) rfl trivial
            · subst h
              have eL : L = 4 := by
                injection hL with hL
                injection hL with hL
                exact hL.symm
              subst eL
              obtain ⟨x1, x2, x3, rfl⟩ : ∃ x1 x2 x3, r = [x1, x2, x3] := by
                rcases r with _ | ⟨x1, _ | ⟨x2, _ | ⟨x3, _ | ⟨y, r⟩⟩⟩⟩ <;> first | exact ⟨_, _, _, rfl⟩ | (simp at hlr; done) | (exfalso; simp at hlr; omega)
              have p1 : pureD b x1 = true := pure_mem hr x1 (by simp)
              unfold Fo.has_form_3B
              refine if_no (S' := S) (by simp) ?_
              unfold Fo.has_form_4B
              refine if_yes (S' := S) (by simp) ?_
              unfold Fo.has_form_4tB
              refine ret_wp ?_
              simp
              refine is_name_ok F hb p1 ?_
              cases x1 with
              | str x =>
                simp [wordD]
                cases hx : wordB x
                · exact q0 fun nd e w => by
                    cases nd <;> simp [Nd.d] at e
                    first | (subst e; exact Bool.false_ne_true (hx.symm.trans (show wordB x = true from w))) | (obtain ⟨rfl, _⟩ := e; exact Bool.false_ne_true (hx.symm.trans (show wordB x = true from w)))
                · exact q1 (.let_ x x2 x3) rfl hx
              | _ =>
                simp [wordD]
                exact q0 fun nd e w => by cases nd <;> simp [Nd.d] at e
            · subst h
              have eL : L = 2 := by
                injection hL with hL
                injection hL with hL
                exact hL.symm
              subst eL
              obtain ⟨x1, rfl⟩ : ∃ x1, r = [x1] := by
                rcases r with _ | ⟨x1, _ | ⟨y, r⟩⟩ <;> first | exact ⟨_, rfl⟩ | (simp at hlr; done) | (exfalso; simp at hlr; omega)
              have p1 : pureD b x1 = true := pure_mem hr x1 (by simp)
              unfold Fo.has_form_3B
              refine if_no (S' := S) (by simp) ?_
              unfold Fo.has_form_4B
              refine if_no (S' := S) (by simp) ?_
              unfold Fo.has_form_5B
              refine if_no (S' := S) (by simp) ?_
              unfold Fo.has_form_6B
              refine if_no (S' := S) (by simp) ?_
              unfold Fo.has_form_7B
              refine if_no (S' := S) (by simp) ?_
              unfold Fo.has_form_8B
              refine ret_wp ?_
              simp
              exact q1 (.say x1) rfl trivial
            · subst h
              have eL : L = 4 := by
                injection hL with hL
                injection hL with hL
                exact hL.symm
              subst eL
              obtain ⟨x1, x2, x3, rfl⟩ : ∃ x1 x2 x3, r = [x1, x2, x3] := by
                rcases r with _ | ⟨x1, _ | ⟨x2, _ | ⟨x3, _ | ⟨y, r⟩⟩⟩⟩ <;> first | exact ⟨_, _, _, rfl⟩ | (simp at hlr; done) | (exfalso; simp at hlr; omega)
              have p1 : pureD b x1 = true := pure_mem hr x1 (by simp)
              unfold Fo.has_form_3B
              refine if_no (S' := S) (by simp) ?_
              unfold Fo.has_form_4B
              refine if_no (S' := S) (by simp) ?_
              unfold Fo.has_form_5B
              refine if_yes (S' := S) (by simp) ?_
              unfold Fo.has_form_5tB
              refine ret_wp ?_
              cases x1 with
              | str x =>
                simp [isiD, F.kinds, in_tup_strs]
                by_cases hx : x ∈ kindsS
                · simp [hx]
                  exact q1 (.rule x x2 x3) rfl hx
                · simp [hx]
                  exact q0 fun nd e w => by
                    cases nd <;> simp [Nd.d] at e
                    first | (subst e; exact hx w) | (obtain ⟨rfl, _⟩ := e; exact hx w)
              | _ =>
                first
                | (cases p1; done)
                | (simp [isiD]; exact q0 fun nd e w => by cases nd <;> simp [Nd.d] at e)
            · subst h
              have eL : L = 3 := by
                injection hL with hL
                injection hL with hL
                exact hL.symm
              subst eL
              obtain ⟨x1, x2, rfl⟩ : ∃ x1 x2, r = [x1, x2] := by
                rcases r with _ | ⟨x1, _ | ⟨x2, _ | ⟨y, r⟩⟩⟩ <;> first | exact ⟨_, _, rfl⟩ | (simp at hlr; done) | (exfalso; simp at hlr; omega)
              have p1 : pureD b x1 = true := pure_mem hr x1 (by simp)
              unfold Fo.has_form_3B
              refine if_no (S' := S) (by simp) ?_
              unfold Fo.has_form_4B
              refine if_no (S' := S) (by simp) ?_
              unfold Fo.has_form_5B
              refine if_yes (S' := S) (by simp) ?_
              unfold Fo.has_form_5tB
              refine ret_wp ?_
              cases x1 with
              | str x =>
                simp [isiD, F.kinds, in_tup_strs]
                by_cases hx : x ∈ kindsS
                · simp [hx]
                  exact q1 (.keep x x2) rfl hx
                · simp [hx]
                  exact q0 fun nd e w => by
                    cases nd <;> simp [Nd.d] at e
                    first | (subst e; exact hx w) | (obtain ⟨rfl, _⟩ := e; exact hx w)
              | _ =>
                first
                | (cases p1; done)
                | (simp [isiD]; exact q0 fun nd e w => by cases nd <;> simp [Nd.d] at e)
            · subst h
              have eL : L = 2 := by
                injection hL with hL
                injection hL with hL
                exact hL.symm
              subst eL
              obtain ⟨x1, rfl⟩ : ∃ x1, r = [x1] := by
                rcases r with _ | ⟨x1, _ | ⟨y, r⟩⟩ <;> first | exact ⟨_, rfl⟩ | (simp at hlr; done) | (exfalso; simp at hlr; omega)
              have p1 : pureD b x1 = true := pure_mem hr x1 (by simp)
              unfold Fo.has_form_3B
              refine if_no (S' := S) (by simp) ?_
              unfold Fo.has_form_4B
              refine if_no (S' := S) (by simp) ?_
              unfold Fo.has_form_5B
              refine if_no (S' := S) (by simp) ?_
              unfold Fo.has_form_6B
              refine if_yes (S' := S) (by simp) ?_
              unfold Fo.has_form_6tB
              refine ret_wp ?_
              simp
              refine is_integer_ok F (pure_plain p1) ?_
              cases x1 with
              | int n =>
                simp [intD]
                exact q1 (.part n) rfl trivial
              | _ =>
                simp [intD]
                exact q0 fun nd e w => by cases nd <;> simp [Nd.d] at e
            · subst h
              have eL : L = 2 := by
                injection hL with hL
                injection hL with hL
                exact hL.symm
              subst eL
              obtain ⟨x1, rfl⟩ : ∃ x1, r = [x1] := by
                rcases r with _ | ⟨x1, _ | ⟨y, r⟩⟩ <;> first | exact ⟨_, rfl⟩ | (simp at hlr; done) | (exfalso; simp at hlr; omega)
              have p1 : pureD b x1 = true := pure_mem hr x1 (by simp)
              unfold Fo.has_form_3B
              refine if_no (S' := S) (by simp) ?_
              unfold Fo.has_form_4B
              refine if_no (S' := S) (by simp) ?_
              unfold Fo.has_form_5B
              refine if_no (S' := S) (by simp) ?_
              unfold Fo.has_form_6B
              refine if_no (S' := S) (by simp) ?_
              unfold Fo.has_form_7B
              refine if_no (S' := S) (by simp) ?_
              unfold Fo.has_form_8B
              refine ret_wp ?_
              simp
              exact q1 (.with_ x1) rfl trivial
            · subst h
              have eL : L = 1 := by
                injection hL with hL
                injection hL with hL
                exact hL.symm
              subst eL
              obtain rfl : r = [] := by
                rcases r with _ | ⟨y, r⟩ <;> first | rfl | (exfalso; simp at hlr; omega)
              unfold Fo.has_form_3B
              refine if_no (S' := S) (by simp) ?_
              unfold Fo.has_form_4B
              refine if_no (S' := S) (by simp) ?_
              unfold Fo.has_form_5B
              refine if_no (S' := S) (by simp) ?_
              unfold Fo.has_form_6B
              refine if_no (S' := S) (by simp) ?_
              unfold Fo.has_form_7B
              refine if_no (S' := S) (by simp) ?_
              unfold Fo.has_form_8B
              refine ret_wp ?_
              simp
              exact q1 .usual rfl trivial
            · subst h
              have eL : L = 2 := by
                injection hL with hL
                injection hL with hL
                exact hL.symm
              subst eL
              obtain ⟨x1, rfl⟩ : ∃ x1, r = [x1] := by
                rcases r with _ | ⟨x1, _ | ⟨y, r⟩⟩ <;> first | exact ⟨_, rfl⟩ | (simp at hlr; done) | (exfalso; simp at hlr; omega)
              have p1 : pureD b x1 = true := pure_mem hr x1 (by simp)
              unfold Fo.has_form_3B
              refine if_no (S' := S) (by simp) ?_
              unfold Fo.has_form_4B
              refine if_no (S' := S) (by simp) ?_
              unfold Fo.has_form_5B
              refine if_no (S' := S) (by simp) ?_
              unfold Fo.has_form_6B
              refine if_no (S' := S) (by simp) ?_
              unfold Fo.has_form_7B
              refine if_yes (S' := S) (by simp) ?_
              unfold Fo.has_form_7tB
              refine ret_wp ?_
              cases x1 with
              | tup es =>
                simp [isiD]
                exact q1 (.do_ es) rfl trivial
              | _ =>
                first
                | (cases p1; done)
                | (simp [isiD]; exact q0 fun nd e w => by cases nd <;> simp [Nd.d] at e)
          · simp [hlr]
            unfold Fo.has_form_2tB
            refine ret_wp ?_
            simp
            refine q0 fun nd e => ?_
            have := form_len e
            rw [hL] at this
            injection this with this
            injection this with this
            exact absurd this.symm hlr
        · rw [lens_none hkd]
          simp
          refine no fun nd e => hkd ?_
          cases nd <;> injection e with e <;> injection e with e _ <;> injection e with e <;> subst e <;> decide +kernel
      | _ =>
        simp [strD]
        exact no fun nd e => by cases nd <;> (injection e with e; injection e with e _; cases e)
  | _ =>
    simp [isTupD]
    exact no fun nd e => by cases nd <;> cases e
end
end Mi
set_option Elab.async false
set_option linter.all false
set_option maxRecDepth 100000
set_option maxHeartbeats 4000000
/-! M43: the expressions within one; what is allowed. -/
namespace Mi
open PySem L2
variable [FoN]
def Nd.kids : Nd → List D
  | .num _ => []
  | .name _ => []
  | .fn _ b => [b]
  | .call a b => [a, b]
  | .sum a b => [a, b]
  | .less a b => [a, b]
  | .ite a b c => [a, b, c]
  | .let_ _ a b => [a, b]
  | .say a => [a]
  | .rule _ a b => [a, b]
  | .keep _ a => [a]
  | .part _ => []
  | .with_ a => [a]
  | .usual => []
  | .do_ es => es
def Nd.kd : Nd → Str
  | .num _ => "num"
  | .name _ => "name"
  | .fn _ _ => "fn"
  | .call _ _ => "call"
  | .sum _ _ => "sum"
  | .less _ _ => "less"
  | .ite _ _ _ => "if"
  | .let_ _ _ _ => "let"
  | .say _ => "say"
  | .rule _ _ _ => "rule"
  | .keep _ _ => "keep"
  | .part _ => "part"
  | .with_ _ => "with"
  | .usual => "usual"
  | .do_ _ => "do"
def Nd.al (A : Option Str) : Nd → Bool
  | .part i => match A with
    | none => false
    | some q => decide (0 ≤ i ∧ i < partsN q)
  | .with_ _ => decide (A = some ("let" : Str))
  | .usual => A.isSome
  | .do_ es => match A with
    | none => false
    | some q => decide (q ∈ doneS) && decide ((es.length : Int) = partsN q)
  | _ => true
def Nd.nm (N : List Str) : Nd → Bool
  | .name x => decide (x ∈ N)
  | _ => true
/-- an expression, what it is about, its names -/
abbrev Item := D × Option Str × List Str
def Nd.subs (N : List Str) (A : Option Str) : Nd → List Item
  | .fn x b => [(b, A, N ++ [x])]
  | .let_ x a b => [(a, A, N), (b, A, N ++ [x])]
  | .rule k a b => [(a, some k, []), (b, A, N)]
  | .keep k a => [(a, some k, [])]
  | nd => nd.kids.map fun x => (x, A, N)
def aS : Option Str → Str
  | none => ""
  | some k => k
def Item.enc (t : Item) : D := .tup [t.1, .str (aS t.2.1), .tup (t.2.2.map .str)]
section
variable {P : Pr} {k : Nat} {S : Sto} {Q : D → Sto → Prop}
theorem cmp_in_tup {cds : Nat → List (Str × D)} (x : Str) (ys : List D) : cmpD cds .In (.str x) (.tup ys) S = if ys.all flat = true then .ok (.bl (ys.any fun y => eqF y (.str x))) S else .bad := by
  show inD cds false (.str x) (.tup ys) S = _
  unfold inD
  dsimp only
  by_cases h : ys.all flat = true
  · rw [if_pos ⟨rfl, h⟩, if_pos h, if_neg Bool.false_ne_true]
  · rw [if_neg (fun z => h z.2), if_neg h]
theorem cmp_notin_tup {cds : Nat → List (Str × D)} (x : Str) (ys : List D) : cmpD cds .NotIn (.str x) (.tup ys) S = if ys.all flat = true then .ok (.bl (!(ys.any fun y => eqF y (.str x)))) S else .bad := by
  show inD cds true (.str x) (.tup ys) S = _
  unfold inD
  dsimp only
  by_cases h : ys.all flat = true
  · rw [if_pos ⟨rfl, h⟩, if_pos h, if_pos rfl]
  · rw [if_neg (fun z => h z.2), if_neg h]
@[simp] theorem flat_str (x : Str) : flat (.str x) = true := rfl
@[simp] theorem flat_int (x : Int) : flat (.int x) = true := rfl
@[simp] theorem flat_bl (x : Bool) : flat (.bl x) = true := rfl
@[simp] theorem flat_non : flat .non = true := rfl
@[simp] theorem list_tup (xs : List D) : bfD .list [.tup xs] S = .ok (.ref S.length) (S ++ [.lst xs]) := rfl
theorem expressions_ok (F : Forms P) (nd : Nd) (q : Q (.ref S.length) (S ++ [.lst nd.kids])) : Wp ((cxt P (k + 1)).call "expressions" [nd.d] S) Q := by
  rw [call_fn F.expressions, run_fn2 rfl, wp_bind]
  unfold Fo.expressionsF
  show Wp (evSs (cxt P k) Fo.expressionsB [some nd.d, none] S) _
  have st : Wp (evSs (cxt P k) Fo.expressions_1B [some nd.d, some (.str nd.kd)] S) fun a s => Wp (outV a s) Q := by
    cases nd <;> (repeat (refine if_no (S' := S) ?_ ?_; focus (simp [cmp_in_tup, eqF_str, Nd.kd]; done))) <;> first
      | (refine if_ret (S' := S) ?_ ?_
         focus (simp [cmp_in_tup, eqF_str, Nd.kd]; done)
         simp [Nd.d, slc_tup, cut_one]
         exact q)
      | (refine ret_wp ?_
         simp
         exact q)
  refine wp_ss ?_
  cases nd <;> (simp [Nd.d]; exact st)
theorem parts_cd {kd : Str} (h : kd ∈ kindsS) : partsL.lookup kd = some (.int (partsN kd)) := by
  have h2 := h
  simp only [kindsS, List.mem_cons, List.not_mem_nil, or_false] at h2
  rcases h2 with rfl | rfl | rfl | rfl | rfl | rfl | rfl | rfl | rfl <;> rfl
theorem done_cd {kd : Str} (h : kd ∈ kindsS) : doneL.lookup kd = if kd ∈ doneS then some (.int (partsN kd)) else none := by
  have h2 := h
  simp only [kindsS, List.mem_cons, List.not_mem_nil, or_false] at h2
  rcases h2 with rfl | rfl | rfl | rfl | rfl | rfl | rfl | rfl | rfl <;> simp [doneL, look_cons, look_nil, doneS, partsN]
theorem kind_ne {kd : Str} (h : kd ∈ kindsS) : kd ≠ "" := by
  rintro rfl
  revert h
  decide +kernel
theorem is_allowed_ok (F : Forms P) (nd : Nd) {A : Option Str} (hA : aOk A) (q : Q (.bl (nd.al A)) S) : Wp ((cxt P (k + 1)).call "is_allowed" [nd.d, .str (aS A)] S) Q := by
  rw [call_fn F.is_allowed, run_fn2 rfl, wp_bind]
  unfold Fo.is_allowedF
  obtain ⟨li, hl1, hl2⟩ := F.parts
  obtain ⟨ld, hd1, hd2⟩ := F.done
  show Wp (evSs (cxt P k) Fo.is_allowedB [some nd.d, some (.str (aS A)), none] S) _
  have st : Wp (evSs (cxt P k) Fo.is_allowed_1B [some nd.d, some (.str (aS A)), some (.str nd.kd)] S) fun a s => Wp (outV a s) Q := by
    have ask : nd.kd ∈ ([("part" : Str), "with", "usual", "do"] : List Str) → Wp (evSs (cxt P k) Fo.is_allowed_2B [some nd.d, some (.str (aS A)), some (.str nd.kd)] S) fun a s => Wp (outV a s) Q := fun hk => by
      cases A with
      | none =>
        refine if_ret (S' := S) (by simp [aS]; done) ?_
        cases nd <;> first
          | (simp [Nd.kd] at hk; done)
          | (simp [Nd.al] at q ⊢; exact q)
      | some w =>
        have hw := hA w rfl
        have hne := kind_ne hw
        refine if_no (S' := S) (by simp [aS, hne]; done) ?_
        cases nd with
        | part i =>
          refine if_ret (S' := S) (by simp [Nd.kd]; done) ?_
          simp [Nd.d]
          by_cases h0 : 0 ≤ i
          · simp [h0, hl1, cd_getP hl2 (parts_cd hw), aS]
            simpa [Nd.al, h0] using q
          · simp [h0]
            simpa [Nd.al, h0] using q
        | with_ a =>
          refine if_no (S' := S) (by simp [Nd.kd]; done) ?_
          refine if_ret (S' := S) (by simp [Nd.kd]; done) ?_
          simp [aS]
          simpa [Nd.al] using q
        | usual =>
          refine if_no (S' := S) (by simp [Nd.kd]; done) ?_
          refine if_no (S' := S) (by simp [Nd.kd]; done) ?_
          refine if_no (S' := S) (by simp [Nd.kd]; done) ?_
          refine ret_wp ?_
          simpa [Nd.al] using q
        | do_ es =>
          refine if_no (S' := S) (by simp [Nd.kd]; done) ?_
          refine if_no (S' := S) (by simp [Nd.kd]; done) ?_
          refine if_ret (S' := S) (by simp [Nd.kd]; done) ?_
          simp [Nd.d, aS, hd1]
          rw [cd_in (l := doneL.tail) (q := ("call", .int 2)) (by rw [cxt_cds, hd2]; rfl)]
          rw [show ((("call" : Str), D.int 2) :: doneL.tail) = doneL from rfl, done_cd hw]
          by_cases hm : w ∈ doneS
          · simp [hm, cd_getP hd2 ((done_cd hw).trans (if_pos hm))]
            simpa [Nd.al, hm] using q
          · simp [hm]
            simpa [Nd.al, hm] using q
        | _ => (simp [Nd.kd] at hk; done)
    by_cases hk : nd.kd ∈ ([("part" : Str), "with", "usual", "do"] : List Str)
    · refine if_no (S' := S) ?_ (ask hk)
      simp at hk
      rcases hk with hk | hk | hk | hk <;> simp [cmp_notin_tup, eqF_str, hk]
    · refine if_ret (S' := S) ?_ ?_
      · simp at hk
        simp [cmp_notin_tup, eqF_str, hk]
      · have : nd.al A = true := by
          cases nd <;> first | rfl | (exact absurd (by simp [Nd.kd]) hk)
        rw [this] at q
        simpa using q
  refine wp_ss ?_
  cases nd <;> (simp [Nd.d]; exact st)
end
end Mi
set_option Elab.async false
set_option linter.all false
set_option maxRecDepth 100000
set_option maxHeartbeats 4000000
/-! M44: is_well_formed. -/
namespace Mi
open PySem L2
variable [FoN]
mutual
/-- how many nodes -/
def dz : D → Nat
  | .tup xs => dzs xs + 1
  | _ => 1
def dzs : List D → Nat
  | [] => 0
  | x :: xs => dz x + dzs xs
end
theorem dz_mem : ∀ {xs : List D} {x : D}, x ∈ xs → dz x ≤ dzs xs
  | [], x, h => by cases h
  | y :: ys, x, h => by
    show dz x ≤ dz y + dzs ys
    rcases List.mem_cons.mp h with rfl | h
    · omega
    · have := dz_mem h
      omega
theorem dz_pos (x : D) : 1 ≤ dz x := by cases x <;> simp [dz]
theorem dzs_len : ∀ xs : List D, xs.length ≤ dzs xs
  | [] => Nat.le_refl _
  | x :: xs => by
    have := dzs_len xs
    have := dz_pos x
    simp only [List.length_cons, dzs]
    omega
theorem dn_dz : (v : D) → dn v ≤ dz v := by
  intro v
  refine D.rec (motive_1 := fun v => dn v ≤ dz v) (motive_2 := fun xs => dns xs ≤ dzs xs) ?_ ?_ ?_ ?_ ?_ ?_ ?_ ?_ ?_ ?_ v <;> intros <;> simp_all [dn, dz, dns, dzs] <;> omega
section
variable {P : Pr} {k : Nat} {S : Sto} {Q : D → Sto → Prop}
theorem strs_tup (N : List Str) (x : Str) : binD .Add (.tup (N.map .str)) (.tup [.str x]) S = if N.length + 1 ≤ sizeLine then .ok (.tup ((N ++ [x]).map .str)) S else .bad := by
  rw [add_tup]
  simp
theorem inner_ok (F : Forms P) (nd : Nd) {A : Option Str} {N : List Str} (hN : N.length ≤ 1000000) (hl : nd.kids.length ≤ 1000000) (q : ∀ r S', S <+: S' → S.length ≤ r → S'[r]? = some (.lst ((nd.subs N A).map Item.enc)) → Q (.ref r) S') :
    Wp ((cxt P (k + 2)).call FoN.inner [nd.d, .str (aS A), .tup (N.map .str)] S) Q := by
  rw [call_fn F.inner, run_fn2 rfl, wp_bind]
  unfold Fo.innerF
  have hs : N.length + 1 ≤ sizeLine := by
    rw [sizeLine_eq]
    omega
  have lc : (nd.subs N A = nd.kids.map fun x => (x, A, N)) → Wp (evSs (cxt P (k + 1)) Fo.inner_5B [some nd.d, some (.str (aS A)), some (.tup (N.map .str)), some (.str nd.kd), none] S) fun a s => Wp (outV a s) Q := fun h => by
    refine ret_wp ?_
    simp [-List.append_assoc, -List.length_append]
    refine expressions_ok F nd ?_
    rw [seqIt_lst new_at]
    simp only [wp_ok]
    refine lcP (it := ⟨nd.kids, some (S.length, nd.kids)⟩) (fun x => Item.enc (x, A, N)) (by simp [wipeE]) hl (still_lst new_at) (fun x hx S1 K p1 q1 => ?_) fun S1 p1 h1 => ?_
    · simp [wipeE]
      exact q1 _ (List.prefix_refl _)
    · refine q _ _ ((pre_self _ _).trans p1) (by simp) ?_
      rw [h1, h, List.map_map]
      rfl
  have st : Wp (evSs (cxt P (k + 1)) Fo.inner_1B [some nd.d, some (.str (aS A)), some (.tup (N.map .str)), some (.str nd.kd), none] S) fun a s => Wp (outV a s) Q := by
    cases nd with
    | fn x b =>
      refine if_ret (S' := S) (by simp [Nd.kd]) ?_
      simp [Nd.d, strs_tup, hs, -List.map_append]
      exact q _ _ (pre_self _ _) (Nat.le_refl _) (by rw [new_at]; simp [Nd.subs, Item.enc])
    | let_ x a b =>
      refine if_no (S' := S) (by simp [Nd.kd]) ?_
      refine if_ret (S' := S) (by simp [Nd.kd]) ?_
      simp [Nd.d, strs_tup, hs, -List.map_append]
      exact q _ _ (pre_self _ _) (Nat.le_refl _) (by rw [new_at]; simp [Nd.subs, Item.enc])
    | rule x a b =>
      refine if_no (S' := S) (by simp [Nd.kd]) ?_
      refine if_no (S' := S) (by simp [Nd.kd]) ?_
      refine if_ret (S' := S) (by simp [Nd.kd]) ?_
      simp [Nd.d]
      exact q _ _ (pre_self _ _) (Nat.le_refl _) new_at
    | keep x a =>
      refine if_no (S' := S) (by simp [Nd.kd]) ?_
      refine if_no (S' := S) (by simp [Nd.kd]) ?_
      refine if_no (S' := S) (by simp [Nd.kd]) ?_
      refine if_ret (S' := S) (by simp [Nd.kd]) ?_
      simp [Nd.d]
      exact q _ _ (pre_self _ _) (Nat.le_refl _) new_at
    | _ =>
      refine if_no (S' := S) (by simp [Nd.kd]) ?_
      refine if_no (S' := S) (by simp [Nd.kd]) ?_
      refine if_no (S' := S) (by simp [Nd.kd]) ?_
      refine if_no (S' := S) (by simp [Nd.kd]) ?_
      exact lc rfl
  refine wp_ss ?_
  cases nd <;> (simp [Nd.d]; exact st)
end
end Mi
set_option Elab.async false
set_option linter.all false
set_option maxRecDepth 100000
set_option maxHeartbeats 4000000
/-! M45: what is well formed, by forms. -/
namespace Mi
open PySem L2
def numR : List D → Bool
  | [.int i] => decide (-1000000 ≤ i ∧ i ≤ 1000000)
  | _ => false
def nameR (N : List Str) : List D → Bool
  | [.str x] => wordB x && decide (x ∈ N)
  | _ => false
def fnR (n : Nat) (N : List Str) (A : Option Str) : List D → Bool
  | [.str x, b] => wordB x && gd n (N ++ [x]) A b
  | _ => false
def letR (n : Nat) (N : List Str) (A : Option Str) : List D → Bool
  | [.str x, a, b] => wordB x && (gd n N A a && gd n (N ++ [x]) A b)
  | _ => false
def ruleR (n : Nat) (N : List Str) (A : Option Str) : List D → Bool
  | [.str q, a, b] => decide (q ∈ kindsS) && (gd n [] (some q) a && gd n N A b)
  | _ => false
def keepR (n : Nat) : List D → Bool
  | [.str q, a] => decide (q ∈ kindsS) && gd n [] (some q) a
  | _ => false
def partR2 (q : Str) : List D → Bool
  | [.int i] => decide (0 ≤ i ∧ i < partsN q)
  | _ => false
def withR (n : Nat) (N : List Str) (A : Option Str) : List D → Bool
  | [a] => gd n N A a
  | _ => false
def doR (n : Nat) (N : List Str) (q : Str) : List D → Bool
  | [.tup es] => decide (q = ("call" : Str) ∨ q = ("sum" : Str) ∨ q = ("less" : Str) ∨ q = ("say" : Str)) && (decide ((es.length : Int) = partsN q) && es.all (gd n N (some q)))
  | _ => false
theorem gd_eq (n : Nat) (N : List Str) (A : Option Str) (k : Str) (r : List D) : gd (n + 1) N A (.tup (.str k :: r)) =
      (if k = ("num" : Str) then numR r
      else if k = ("name" : Str) then nameR N r
      else if k = ("fn" : Str) then fnR n N A r
      else if k = ("let" : Str) then letR n N A r
      else if k = ("call" : Str) ∨ k = ("sum" : Str) ∨ k = ("less" : Str) ∨ k = ("if" : Str) ∨ k = ("say" : Str) then decide ((r.length : Int) = partsN k) && r.all (gd n N A)
      else if k = ("rule" : Str) then ruleR n N A r
      else if k = ("keep" : Str) then keepR n r
      else match A with
        | none => false
        | some q =>
          if k = ("part" : Str) then partR2 q r
          else if k = ("with" : Str) then decide (q = ("let" : Str)) && withR n N (some q) r
          else if k = ("usual" : Str) then r.isEmpty
          else if k = ("do" : Str) then doR n N q r
          else false) := by
  cases A <;> rfl

variable [FoN]
/-- one expression and those within -/
theorem gd_wf {n : Nat} {N : List Str} {A : Option Str} {nd : Nd} (h : nd.wf) : gd (n + 1) N A nd.d = (nd.al A && (nd.nm N && (nd.subs N A).all fun t => gd n t.2.2 t.2.1 t.1)) := by
  cases nd <;> (unfold Nd.d; rw [gd_eq]) <;> simp [Nd.wf] at h <;> first
    | (simp [Nd.al, Nd.nm, Nd.subs, Nd.kids, numR, h]; done)
    | (simp [Nd.al, Nd.nm, Nd.subs, Nd.kids, nameR, fnR, letR, ruleR, keepR, partsN, h, Bool.and_assoc]; done)
    | (cases A <;> simp [Nd.al, Nd.nm, Nd.subs, Nd.kids, partR2, withR, doR, doneS, Bool.and_assoc] <;> rfl)
theorem gd_true {n : Nat} {N : List Str} {A : Option Str} {v : D} (h : gd n N A v = true) : ∃ nd : Nd, v = nd.d ∧ nd.wf := by
  cases n with
  | zero => cases h
  | succ n =>
    rcases v with _ | _ | _ | _ | xs | _ | _ | _ <;> try (cases h; done)
    rcases xs with _ | ⟨a, r⟩
    · cases h
    rcases a with _ | _ | _ | kd | _ | _ | _ | _ <;> try (cases h; done)
    rw [gd_eq] at h
    by_cases k1 : kd = ("num" : Str)
    · subst k1
      rw [if_pos rfl] at h
      rcases r with _ | ⟨a, _ | ⟨b, r⟩⟩ <;> try (cases h; done)
      · cases a <;> first
          | (cases h; done)
          | (simp [numR] at h; exact ⟨.num _, rfl, h⟩)
      · cases a <;> cases h
    rw [if_neg k1] at h
    by_cases k2 : kd = ("name" : Str)
    · subst k2
      rw [if_pos rfl] at h
      rcases r with _ | ⟨a, _ | ⟨b, r⟩⟩ <;> try (cases h; done)
      · cases a <;> first
          | (cases h; done)
          | (simp [nameR] at h; exact ⟨.name _, rfl, h.1⟩)
      · cases a <;> cases h
    rw [if_neg k2] at h
    by_cases k3 : kd = ("fn" : Str)
    · subst k3
      rw [if_pos rfl] at h
      rcases r with _ | ⟨a, _ | ⟨b, _ | ⟨c, r⟩⟩⟩ <;> try (cases h; done)
      · cases a <;> cases h
      · cases a <;> first
          | (cases h; done)
          | (simp [fnR] at h; exact ⟨.fn _ _, rfl, h.1⟩)
      · cases a <;> cases h
    rw [if_neg k3] at h
    by_cases k4 : kd = ("let" : Str)
    · subst k4
      rw [if_pos rfl] at h
      rcases r with _ | ⟨a, _ | ⟨b, _ | ⟨c, _ | ⟨d, r⟩⟩⟩⟩ <;> try (cases h; done)
      · cases a <;> cases h
      · cases a <;> cases h
      · cases a <;> first
          | (cases h; done)
          | (simp [letR] at h; exact ⟨.let_ _ _ _, rfl, h.1⟩)
      · cases a <;> cases h
    rw [if_neg k4] at h
    by_cases k5 : (kd = ("call" : Str) ∨ kd = ("sum" : Str) ∨ kd = ("less" : Str) ∨ kd = ("if" : Str) ∨ kd = ("say" : Str))
    · rw [if_pos k5, Bool.and_eq_true, decide_eq_true_eq] at h
      have h1 := h.1
      rcases k5 with rfl | rfl | rfl | rfl | rfl <;> simp [partsN] at h1 <;> rcases r with _ | ⟨a, _ | ⟨b, _ | ⟨c, _ | ⟨d, r⟩⟩⟩⟩ <;> simp at h1 <;> first
        | (exfalso; omega)
        | exact ⟨.call _ _, rfl, trivial⟩
        | exact ⟨.sum _ _, rfl, trivial⟩
        | exact ⟨.less _ _, rfl, trivial⟩
        | exact ⟨.ite _ _ _, rfl, trivial⟩
        | exact ⟨.say _, rfl, trivial⟩
    rw [if_neg k5] at h
    by_cases k6 : kd = ("rule" : Str)
    · subst k6
      rw [if_pos rfl] at h
      rcases r with _ | ⟨a, _ | ⟨b, _ | ⟨c, _ | ⟨d, r⟩⟩⟩⟩ <;> try (cases h; done)
      · cases a <;> cases h
      · cases a <;> cases h
      · cases a <;> first
          | (cases h; done)
          | (simp [ruleR] at h; exact ⟨.rule _ _ _, rfl, h.1⟩)
      · cases a <;> cases h
    rw [if_neg k6] at h
    by_cases k7 : kd = ("keep" : Str)
    · subst k7
      rw [if_pos rfl] at h
      rcases r with _ | ⟨a, _ | ⟨b, _ | ⟨c, r⟩⟩⟩ <;> try (cases h; done)
      · cases a <;> cases h
      · cases a <;> first
          | (cases h; done)
          | (simp [keepR] at h; exact ⟨.keep _ _, rfl, h.1⟩)
      · cases a <;> cases h
    rw [if_neg k7] at h
    cases A with
    | none => cases h
    | some q =>
      dsimp only at h
      by_cases k8 : kd = ("part" : Str)
      · subst k8
        rw [if_pos rfl] at h
        rcases r with _ | ⟨a, _ | ⟨b, r⟩⟩ <;> try (cases h; done)
        · cases a <;> first
            | (cases h; done)
            | exact ⟨.part _, rfl, trivial⟩
        · cases a <;> cases h
      rw [if_neg k8] at h
      by_cases k9 : kd = ("with" : Str)
      · subst k9
        rw [if_pos rfl, Bool.and_eq_true] at h
        rcases r with _ | ⟨a, _ | ⟨b, r⟩⟩
        · cases h.2
        · exact ⟨.with_ _, rfl, trivial⟩
        · cases h.2
      rw [if_neg k9] at h
      by_cases k10 : kd = ("usual" : Str)
      · subst k10
        rw [if_pos rfl] at h
        rcases r with _ | ⟨a, r⟩
        · exact ⟨.usual, rfl, trivial⟩
        · cases h
      rw [if_neg k10] at h
      by_cases k11 : kd = ("do" : Str)
      · subst k11
        rw [if_pos rfl] at h
        rcases r with _ | ⟨a, _ | ⟨b, r⟩⟩ <;> try (cases h; done)
        · cases a <;> first
            | (cases h; done)
            | exact ⟨.do_ _, rfl, trivial⟩
        · cases a <;> cases h
      · rw [if_neg k11] at h
        cases h
theorem gd_not {n : Nat} {N : List Str} {A : Option Str} {v : D} (h : ∀ nd : Nd, v = nd.d → ¬ nd.wf) : gd n N A v = false := by
  cases hg : gd n N A v with
  | false => rfl
  | true =>
    obtain ⟨nd, h1, h2⟩ := gd_true hg
    exact absurd h2 (h nd h1)
theorem subs_mem {nd : Nd} {N : List Str} {A : Option Str} {t : Item} (h : t ∈ nd.subs N A) : t.1 ∈ nd.kids := by
  cases nd <;> simp [Nd.subs, Nd.kids] at h ⊢ <;> first
    | (subst h; rfl)
    | (rcases h with rfl | rfl <;> simp)
    | (rcases h with rfl | rfl | rfl <;> simp)
    | (obtain ⟨x, hx, rfl⟩ := h; exact hx)
theorem kids_dn {nd : Nd} {x : D} (h : x ∈ nd.kids) : dn x < dn nd.d := by
  cases nd <;> simp [Nd.kids] at h <;> first
    | (subst h; simp [Nd.d, dn, dns]; omega)
    | (rcases h with rfl | rfl <;> simp [Nd.d, dn, dns] <;> omega)
    | (rcases h with rfl | rfl | rfl <;> simp [Nd.d, dn, dns] <;> omega)
    | (have := dn_mem h; simp [Nd.d, dn, dns]; omega)
/-- it does not hang on the room -/
theorem gd_same : ∀ (n m : Nat) (N : List Str) (A : Option Str) (v : D), dn v < n → dn v < m → gd n N A v = gd m N A v
  | 0, _, _, _, _, h, _ => absurd h (Nat.not_lt_zero _)
  | _ + 1, 0, _, _, _, _, h => absurd h (Nat.not_lt_zero _)
  | n + 1, m + 1, N, A, v, h1, h2 => by
    by_cases hx : ∃ nd : Nd, v = nd.d ∧ nd.wf
    · obtain ⟨nd, rfl, hw⟩ := hx
      rw [gd_wf hw, gd_wf hw]
      congr 2
      rw [Bool.eq_iff_iff, List.all_eq_true, List.all_eq_true]
      have key : ∀ t ∈ nd.subs N A, gd n t.2.2 t.2.1 t.1 = gd m t.2.2 t.2.1 t.1 := fun t ht => by
        have := kids_dn (subs_mem ht)
        exact gd_same n m _ _ _ (by omega) (by omega)
      exact ⟨fun h t ht => (key t ht) ▸ h t ht, fun h t ht => (key t ht).symm ▸ h t ht⟩
    · have hx : ∀ nd : Nd, v = nd.d → ¬ nd.wf := fun nd e w => hx ⟨nd, e, w⟩
      rw [gd_not hx, gd_not hx]
end Mi
set_option Elab.async false
set_option linter.all false
set_option maxRecDepth 100000
set_option maxHeartbeats 4000000
/-! M46: is_well_formed, whole. -/
namespace Mi
open PySem L2
variable [FoN]
theorem pop_lst {S : Sto} {a : Nat} {ys : List D} {y : D} (h : S[a]? = some (.lst (ys ++ [y]))) : bmD .pop (.ref a) [] S = .ok y (S.set a (.lst ys)) := by
  unfold bmD
  simp only [h]
  have : (ys ++ [y])[(ys ++ [y]).length - 1]? = some y := by simp
  rw [this]
  simp
theorem extend_lst {S : Sto} {a b : Nat} {ys zs : List D} (h : S[a]? = some (.lst ys)) (h2 : S[b]? = some (.lst zs)) (hl : ys.length + zs.length ≤ sizeLine) : bmD .extend (.ref a) [.ref b] S = .ok .non (S.set a (.lst (ys ++ zs))) := by
  unfold bmD
  simp only [h, h2, hl, if_true]
theorem setTg_tp {S : Sto} {is : List Nat} {xs : List D} {e : En} (h : xs.length = is.length ∧ ∀ i ∈ is, i < e.length) : setTg (.tp is) (.tup xs) e S = some ((is.zip xs).foldl (fun e p => e.set p.1 (some p.2)) e) := by
  unfold setTg unpD
  dsimp only
  rw [if_pos h]
/-- what a work list weighs -/
def wz : List Item → Nat
  | [] => 0
  | t :: ts => dz t.1 + wz ts
theorem wz_app : ∀ (a b : List Item), wz (a ++ b) = wz a + wz b
  | [], b => by simp [wz]
  | t :: a, b => by
    have := wz_app a b
    simp only [List.cons_append, wz]
    omega
theorem wz_len : ∀ a : List Item, a.length ≤ wz a
  | [] => Nat.le_refl _
  | t :: a => by
    have := wz_len a
    have := dz_pos t.1
    simp only [List.length_cons, wz]
    omega
theorem wz_map (xs : List D) (A : Option Str) (N : List Str) : wz (xs.map fun x => (x, A, N)) = dzs xs := by
  induction xs with
  | nil => rfl
  | cons x xs ih => simp only [List.map_cons, wz, dzs, ih]
/-- what is well formed, as the list says -/
def gItem (t : Item) : Bool := gd (dn t.1 + 1) t.2.2 t.2.1 t.1
structure IOk (t : Item) : Prop where
  pu : pureD 1000 t.1 = true
  ab : aOk t.2.1
  ns : t.2.2.length + dz t.1 ≤ 1000001
theorem kids_dz (nd : Nd) : dzs nd.kids < dz nd.d := by
  cases nd <;> simp [Nd.kids, Nd.d, dz, dzs] <;> omega
theorem subs_wz (nd : Nd) (N : List Str) (A : Option Str) : wz (nd.subs N A) = dzs nd.kids := by
  cases nd <;> first
    | exact wz_map _ _ _
    | simp [Nd.subs, Nd.kids, wz, dzs]
theorem subs_ok {nd : Nd} {N : List Str} {A : Option Str} (hw : nd.wf) (h : IOk (nd.d, A, N)) : ∀ t ∈ nd.subs N A, IOk t := by
  have hk : pureDs 1000 nd.kids = true := by
    have h1 := h.pu
    cases nd <;> simp [Nd.d, Nd.kids, pureD, pureDs] at h1 ⊢ <;> simp_all
  intro t ht
  have hm := subs_mem ht
  have hz := dz_mem hm
  have hz2 := kids_dz nd
  have hns := h.ns
  refine ⟨pure_mem hk _ hm, ?_, ?_⟩
  · cases nd <;> simp [Nd.subs, Nd.kids] at ht
    all_goals first
      | (subst ht; exact h.ab)
      | (rcases ht with rfl | rfl <;> exact h.ab)
      | (rcases ht with rfl | rfl | rfl <;> exact h.ab)
      | (obtain ⟨x, hx, rfl⟩ := ht; exact h.ab)
      | (subst ht; intro z e; cases e; exact hw)
      | (rcases ht with rfl | rfl; · intro z e; cases e; exact hw
         exact h.ab)
  · cases nd <;> simp [Nd.subs, Nd.kids] at ht
    all_goals simp only [Nd.kids, dzs] at hz2
    all_goals first
      | (subst ht; simp [dz] at *; omega)
      | (rcases ht with rfl | rfl <;> simp [dz] at * <;> omega)
      | (rcases ht with rfl | rfl | rfl <;> simp [dz] at * <;> omega)
      | (obtain ⟨x, hx, rfl⟩ := ht; simp [dz, Nd.kids] at *; omega)
/-- the work list's invariant -/
def WInv (v : D) (S : Sto) (m : Nat) (e : En) (S' : Sto) : Prop := ∃ its x2 x3 x4, e = [some v, some (.ref S.length), x2, x3, x4] ∧ S <+: S' ∧ S'[S.length]? = some (.lst (its.map Item.enc)) ∧ wz its = m ∧ m ≤ 1000000 ∧ (∀ t ∈ its, IOk t) ∧ gd (dn v + 1) [] none v = its.all gItem
section
variable {P : Pr} {k : Nat} {S : Sto} {Q : D → Sto → Prop}
theorem well_ok (F : Forms P) {v : D} (hv : pureD 1000 v = true) (hz : dz v ≤ 1000000) (q : ∀ S', S <+: S' → Q (.bl (gd (dn v + 1) [] none v)) S') : Wp ((cxt P (k + 4)).call "is_well_formed" [v] S) Q := by
  rw [call_fn F.is_well_formed, run_fn2 rfl, wp_bind]
  unfold Fo.is_well_formedF
  show Wp (evSs (cxt P (k + 3)) Fo.is_well_formedB [some v, none, none, none, none] S) _
  unfold Fo.is_well_formedB
  refine wp_ss ?_
  simp [-List.append_assoc]
  unfold Fo.is_well_formed_1B
  refine wp_ss ?_
  simp only [s_whl]
  refine wp_whl (WInv v S) ?_ (m := dz v) ⟨[(v, none, [])], none, none, none, rfl, pre_self _ _, new_at, by simp [wz], hz, fun t ht => ?_, by simp [gItem]⟩
  · rintro m e S1 ⟨its, x2, x3, x4, rfl, p1, h1, hm, hm2, hok, hg⟩
    simp [truthR_lst h1]
    rcases List.eq_nil_or_concat its with rfl | ⟨its, t, rfl⟩
    · simp
      unfold Fo.is_well_formed_2B
      refine ret_wp ?_
      simp
      have := q S1 p1
      rw [hg] at this
      exact this
    · obtain ⟨v1, A, N⟩ := t
      have hi : IOk (v1, A, N) := hok _ (by simp)
      have h2 : S1[S.length]? = some (.lst (its.map Item.enc ++ [Item.enc (v1, A, N)])) := by
        rw [h1]
        simp
      have hm3 : wz its + dz v1 = m := by
        rw [← hm, List.concat_eq_append, wz_app]
        simp [wz]
      have hok2 : ∀ t ∈ its, IOk t := fun t ht => hok t (by simp [ht])
      have hgs : gd (dn v + 1) [] none v = (its.all gItem && gItem (v1, A, N)) := by rw [hg]; simp
      rw [if_neg (by simp)]
      unfold Fo.is_well_formed_1bB
      refine wp_ss ?_
      simp [pre_lst2 h2 (m := .pop) (by simp), pop_lst h2]
      have e3 : ∀ S', setTg (.tp [2, 3, 4]) (Item.enc (v1, A, N)) [some v, some (.ref S.length), x2, x3, x4] S' = some [some v, some (.ref S.length), some v1, some (.str (aS A)), some (.tup (N.map .str))] := fun S' => setTg_tp ⟨rfl, by simp⟩
      rw [e3]
      simp
      have p2 : S <+: S1.set S.length (.lst (its.map Item.enc)) := pre_set p1 (Nat.le_refl _)
      have h3 : (S1.set S.length (.lst (its.map Item.enc)))[S.length]? = some (.lst (its.map Item.enc)) := by rw [List.getElem?_set_self (lt_of h1)]
      generalize S1.set S.length (O.lst (its.map Item.enc)) = S2 at p2 h3 ⊢
      have no : gItem (v1, A, N) = false → ∀ {S3 : Sto}, S <+: S3 → Q (.bl false) S3 := fun h S3 p3 => by
        have := q S3 p3
        rw [hgs, h, Bool.and_false] at this
        exact this
      unfold Fo.is_well_formed_1b_1B
      refine wp_ss ?_
      simp
      refine has_form_ok F (Nat.le_refl _) hi.pu (fun nd e hw => ?_) fun hno => ?_
      · have e : v1 = nd.d := e
        subst e
        simp
        refine is_allowed_ok F nd hi.ab ?_
        simp
        have hgi : gItem (nd.d, A, N) = (nd.al A && (nd.nm N && (nd.subs N A).all gItem)) := by
          show gd (dn nd.d + 1) N A nd.d = _
          rw [gd_wf hw]
          congr 2
          rw [Bool.eq_iff_iff, List.all_eq_true, List.all_eq_true]
          have key : ∀ t ∈ nd.subs N A, gd (dn nd.d) t.2.2 t.2.1 t.1 = gItem t := fun t ht => by
            have := kids_dn (subs_mem ht)
            exact gd_same _ _ _ _ _ (by omega) (by omega)
          exact ⟨fun h t ht => (key t ht) ▸ h t ht, fun h t ht => (key t ht).symm ▸ h t ht⟩
        by_cases ha : nd.al A = true
        · simp [ha]
          -- the names
          have go : nd.nm N = true → ∀ {K : Out → Sto → Prop}, (∀ e S', (∃ m', m' < m ∧ WInv v S m' e S') → K (.nx e) S') → Wp (evSs (cxt P (k + 3)) Fo.is_well_formed_1b_3B [some v, some (.ref S.length), some nd.d, some (.str (aS A)), some (.tup (N.map .str))] S2) K := fun hn K hK => by
            unfold Fo.is_well_formed_1b_3B
            refine wp_ss ?_
            have hkz := kids_dz nd
            have hns := hi.ns
            simp [pre_lst2 h3 (m := .extend) (by simp)]
            refine inner_ok F nd (by simp at hns; omega) (by have := dzs_len nd.kids; omega) fun r S3 p3 hr h4 => ?_
            have h5 := pre_at p3 h3
            have hl : its.length + (nd.subs N A).length ≤ wz its + dzs nd.kids := by
              rw [← subs_wz nd N A]
              have := wz_len its
              have := wz_len (nd.subs N A)
              omega
            rw [extend_lst h5 h4 (by simp; rw [sizeLine_eq]; omega)]
            simp
            refine hK _ _ ⟨wz its + dzs nd.kids, by omega, its ++ nd.subs N A, _, _, _, rfl, pre_set (p2.trans p3) (Nat.le_refl _), ?_, ?_, by omega, ?_, ?_⟩
            · rw [List.getElem?_set_self (lt_of h5), List.map_append]
            · rw [wz_app, subs_wz]
            · intro t ht
              rcases List.mem_append.mp ht with ht | ht
              · exact hok2 t ht
              · exact subs_ok hw hi t ht
            · rw [hgs, hgi, ha, hn, List.all_append]
              simp
          have fin : nd.nm N = true → Wp (evSs (cxt P (k + 3)) Fo.is_well_formed_1b_3B [some v, some (.ref S.length), some nd.d, some (.str (aS A)), some (.tup (N.map .str))] S2) fun o S2 => o.on (fun e2 => ∃ m', m' < m ∧ WInv v S m' e2 S2) fun v => Wp (outV (.ret v) S2) Q := fun hn => go hn fun e S' h => h
          unfold Fo.is_well_formed_1b_2B
          cases nd with
          | name x =>
            by_cases hx : x ∈ N
            · refine if_no (S' := S2) (by simp [Nd.d, notin_tup_strs, hx]) (fin (by simp [Nd.nm, hx]))
            · refine if_ret (S' := S2) (by simp [Nd.d, notin_tup_strs, hx]) ?_
              simp
              exact no (by rw [hgi]; simp [Nd.nm, hx]) p2
          | _ => exact if_no (S' := S2) (by simp [Nd.d]) (fin rfl)
        · simp [ha]
          unfold Fo.is_well_formed_1b_1tB
          refine ret_wp ?_
          simp
          exact no (by rw [hgi]; simp [ha]) p2
      · simp
        unfold Fo.is_well_formed_1b_1tB
        refine ret_wp ?_
        simp
        exact no (gd_not hno) p2
  · rcases List.mem_singleton.mp ht with rfl
    exact ⟨hv, (fun k e => by cases e), by show 0 + dz v ≤ _; omega⟩
end
end Mi
set_option Elab.async false
set_option linter.all false
set_option maxRecDepth 100000
set_option maxHeartbeats 4000000
/-! M47: size and height of a program. -/
namespace Mi
open PySem L2
variable [FoN]
def Ex.nd : Ex → Nd
  | .num n => .num n
  | .name x => .name x
  | .fn x b => .fn x b.d
  | .call a b => .call a.d b.d
  | .sum a b => .sum a.d b.d
  | .less a b => .less a.d b.d
  | .ite a b c => .ite a.d b.d c.d
  | .let_ x a b => .let_ x a.d b.d
  | .say a => .say a.d
  | .rule k a b => .rule k a.d b.d
  | .keep k a => .keep k a.d
  | .part i => .part i
  | .with_ a => .with_ a.d
  | .usual => .usual
  | .do1 a => .do_ [a.d]
  | .do2 a b => .do_ [a.d, b.d]
theorem nd_d (x : Ex) : x.nd.d = x.d := by cases x <;> rfl
theorem nd_kids (x : Ex) : x.nd.kids = x.kids.map Ex.d := by cases x <;> rfl
theorem wp_lc2 {it : It} {b : D → Sto → R Unit} {Q : Unit → Sto → Prop} (I : Nat → Sto → Prop) (st : ∀ i S, I i S → it.still S = true)
    (step : ∀ i x S, it.items[i]? = some x → I i S → Wp (b x S) fun _ S1 => I (i + 1) S1) (fin : ∀ S, I it.items.length S → Q () S) {S : Sto} (h0 : I 0 S) :
    Wp (lc2Loop it b it.items S) Q := by
  have key : ∀ (n i : Nat) (S : Sto), n = it.items.length - i → i ≤ it.items.length → I i S → Wp (lc2Loop it b (it.items.drop i) S) Q := by
    intro n
    induction n with
    | zero =>
      intro i S hn hi h
      have e1 : i = it.items.length := by omega
      subst e1
      rw [List.drop_length]
      unfold lc2Loop
      rw [if_pos (st _ _ h)]
      exact fin S h
    | succ n ih =>
      intro i S hn hi h
      have hlt : i < it.items.length := by omega
      rw [List.drop_eq_getElem_cons hlt]
      unfold lc2Loop
      rw [if_pos (st _ _ h), wp_bind]
      refine (step i _ S (List.getElem?_eq_getElem hlt) h).mono fun y S1 h3 => ?_
      exact ih (i + 1) S1 (by omega) hlt h3
  have := key _ 0 S rfl (Nat.zero_le _) h0
  rwa [List.drop_zero] at this
/-- the body of two clauses -/
noncomputable def lc2B (C : Cxt) (t : Tg) (own : List Nat) (t1 : Tg) (own1 : List Nat) (it1 : I) (a : E) (e : En) (p : Nat) : D → Sto → R Unit := fun x S2 => match setTg t x (wipeE e own) S2 with
  | none => .bad
  | some e2 => (evI C it1 e2 S2).bind fun J1 S3 => lcLoop J1 (lcB C t1 own1 .nop a e2) p J1.items S3
theorem v_lc2 {C : Cxt} {e : En} {S : Sto} (t : Tg) (it : I) (t1 : Tg) (it1 : I) (a : E) (own own1 : List Nat) : (ev C (.lc2 t it t1 it1 a own own1)).v e S = ((evI C it e S).bind fun J S1 => (lc2Loop J (lc2B C t own t1 own1 it1 a e S1.length) J.items (S1 ++ [.lst []])).bind fun _ S5 => .ok (.ref S1.length) S5) := rfl
/-- the sum of sizes; the greatest depth -/
def szs : List Ex → Nat
  | [] => 0
  | x :: xs => x.sz + szs xs
def dps : List Ex → Nat
  | [] => 0
  | x :: xs => max x.dp (dps xs)
theorem szs_app : ∀ a b : List Ex, szs (a ++ b) = szs a + szs b
  | [], b => by simp [szs]
  | x :: a, b => by
    have := szs_app a b
    simp only [List.cons_append, szs]
    omega
theorem dps_app : ∀ a b : List Ex, dps (a ++ b) = max (dps a) (dps b)
  | [], b => by simp [dps]
  | x :: a, b => by
    have := dps_app a b
    simp only [List.cons_append, dps]
    omega
theorem sz_kids (x : Ex) : x.sz = szs x.kids + 1 := by cases x <;> simp [Ex.sz, Ex.kids, szs] <;> omega
theorem dp_kids (x : Ex) : x.dp = dps x.kids + 1 := by cases x <;> simp [Ex.dp, Ex.kids, dps] <;> omega
def allKids (xs : List Ex) : List Ex := xs.flatMap Ex.kids
theorem szs_all : ∀ xs : List Ex, szs xs = szs (allKids xs) + xs.length
  | [] => rfl
  | x :: xs => by
    have := szs_all xs
    have h2 := sz_kids x
    simp only [allKids, List.flatMap_cons, szs, szs_app, List.length_cons] at this ⊢
    omega
theorem dps_all : ∀ xs : List Ex, xs ≠ [] → dps xs = dps (allKids xs) + 1
  | [], h => absurd rfl h
  | [x], _ => by
    have h2 := dp_kids x
    simp [allKids, dps]
    omega
  | x :: y :: xs, _ => by
    have := dps_all (y :: xs) (by simp)
    have h2 := dp_kids x
    simp only [allKids, List.flatMap_cons, dps, dps_app] at this ⊢
    omega
theorem szs_len : ∀ xs : List Ex, xs.length ≤ szs xs
  | [] => Nat.le_refl _
  | x :: xs => by
    have := szs_len xs
    have h2 := sz_kids x
    simp only [szs, List.length_cons]
    omega
section
variable {P : Pr} {k : Nat} {S : Sto} {Q : D → Sto → Prop}
theorem expr_ex (F : Forms P) (x : Ex) (q : Q (.ref S.length) (S ++ [.lst (x.kids.map Ex.d)])) : Wp ((cxt P (k + 1)).call "expressions" [x.d] S) Q := by
  rw [← nd_d]
  refine expressions_ok F x.nd ?_
  rw [nd_kids]
  exact q
/-- [part for e in level for part in expressions(e)] -/
theorem level_lc (F : Forms P) {xs : List Ex} {e : En} {i : Nat} (he : e[1]? = some (some (.ref i))) (hl : e.length = 6) (hi : S[i]? = some (.lst (xs.map Ex.d))) (hz : szs xs ≤ 1000000)
    (q : ∀ S', S <+: S' → S'[S.length]? = some (.lst ((allKids xs).map Ex.d)) → Q (.ref S.length) S') :
    Wp ((ev (cxt P (k + 1)) (.lc2 (.nm 4) (.seq (.var 1)) (.nm 5) (.seq (.call "expressions" (.cons (.var 4) .nil))) (.var 5) [4, 5] [5])).v e S) Q := by
  rw [v_lc2]
  simp only [i_seq, v_var, he, Option.bind_some, id_eq, optR_some, R.bind_ok, seqIt_lst hi, wp_bind]
  refine wp_lc2 (it := ⟨xs.map Ex.d, some (i, xs.map Ex.d)⟩) (fun n S' => S <+: S' ∧ S'[S.length]? = some (.lst ((allKids (xs.take n)).map Ex.d))) ?_ ?_ ?_ ⟨pre_self _ _, by simp [allKids]⟩
  · rintro n S' ⟨p, _⟩
    exact still_pre p (still_lst hi)
  · rintro n y S1 hx ⟨p, h1⟩
    have hx : (xs.map Ex.d)[n]? = some y := hx
    rw [List.getElem?_map] at hx
    cases hk : xs[n]? with
    | none =>
      rw [hk] at hx
      cases hx
    | some x =>
      rw [hk] at hx
      cases hx
      have ht : xs.take (n + 1) = xs.take n ++ [x] := by
        rw [List.take_succ, hk]
        rfl
      unfold lc2B
      have e4 : setTg (.nm 4) x.d (wipeE e [4, 5]) S1 = some ((wipeE e [4, 5]).set 4 (some x.d)) := by
        simp [wipeE, hl]
      rw [e4]
      simp only [i_seq, v_call, es_cons2, es_nil, v_var, wp_bind]
      have e5 : ((wipeE e [4, 5]).set 4 (some x.d))[4]? = some (some x.d) := by
        rw [List.getElem?_set_self (by simp [wipeE, hl])]
      simp only [e5, Option.bind_some, id_eq, optR_some, wp_ok]
      refine expr_ex F x ?_
      rw [seqIt_lst new_at]
      simp only [wp_ok]
      have p1 := pre_self S1 [.lst (x.kids.map Ex.d)]
      have h2 := pre_at p1 h1
      have h3 : (S1 ++ [O.lst (x.kids.map Ex.d)])[S1.length]? = some (.lst (x.kids.map Ex.d)) := new_at
      generalize S1 ++ [O.lst (x.kids.map Ex.d)] = S2 at p1 h2 h3 ⊢
      have hSS : S.length < S1.length := lt_of h1
      refine wp_lc (it := ⟨x.kids.map Ex.d, some (S1.length, x.kids.map Ex.d)⟩) (fun j S' => S <+: S' ∧ S'[S1.length]? = some (.lst (x.kids.map Ex.d)) ∧ S'[S.length]? = some (.lst ((allKids (xs.take n) ++ x.kids.take j).map Ex.d))) ?_ ?_ ?_ ⟨p.trans p1, h3, by simpa using h2⟩
      · rintro j S' ⟨_, h, _⟩
        exact still_lst h
      · rintro j y S3 hy ⟨p3, h4, h5⟩
        have hy : (x.kids.map Ex.d)[j]? = some y := hy
        rw [List.getElem?_map] at hy
        cases hk2 : x.kids[j]? with
        | none =>
          rw [hk2] at hy
          cases hy
        | some z =>
          rw [hk2] at hy
          cases hy
          have ht2 : x.kids.take (j + 1) = x.kids.take j ++ [z] := by
            rw [List.take_succ, hk2]
            rfl
          unfold lcB
          simp [wipeE, hl, isNop, -List.map_append, -List.map_take]
          have hlen : (allKids (xs.take n) ++ x.kids.take j).length ≤ 1000000 := by
            have h6 : allKids xs = allKids (xs.take n) ++ (x.kids ++ allKids (xs.drop (n + 1))) := by
              have : xs = xs.take n ++ (x :: xs.drop (n + 1)) := by
                conv => lhs; rw [← List.take_append_drop n xs]
                congr 1
                obtain ⟨hlt, e⟩ := List.getElem?_eq_some_iff.mp hk
                rw [List.drop_eq_getElem_cons hlt, e]
              conv => lhs; rw [this]
              simp [allKids]
            have h7 := szs_len (allKids xs)
            have h8 := szs_all xs
            have h9 := congrArg List.length h6
            simp only [List.length_append, List.length_take] at h9 ⊢
            omega
          refine ⟨_, h5, ?_, pre_set p3 (Nat.le_refl _), ?_, ?_⟩
          · rw [sizeLine_eq]
            simp only [List.length_map]
            omega
          · rw [List.getElem?_set_ne (by omega)]
            exact h4
          · rw [List.getElem?_set_self (lt_of h5), ht2]
            simp
      · rintro S' ⟨p4, _, h5⟩
        refine ⟨p4, ?_⟩
        rw [h5, ht]
        simp [allKids]
  · rintro S' ⟨p, h1⟩
    have : (xs.take (xs.map Ex.d).length) = xs := by simp
    rw [this] at h1
    exact q S' p h1
end
end Mi
set_option Elab.async false
set_option linter.all false
set_option maxRecDepth 100000
set_option maxHeartbeats 4000000
/-! M48: size and height, whole. -/
namespace Mi
open PySem L2
variable [FoN]
structure Sized (P : Pr) : Prop extends Forms P where
  size : P.fns.lookup ("size" : Str) = some Fo.sizeF
  height : P.fns.lookup ("height" : Str) = some Fo.heightF
def SInv (x : Ex) (S : Sto) (m : Nat) (e : En) (S' : Sto) : Prop := ∃ (xs : List Ex) (r nodes depth : Nat) (x4 x5 : Option D), e = [some x.d, some (.ref r), some (.int (nodes : Int)), some (.int (depth : Int)), x4, x5] ∧ S <+: S' ∧ S'[r]? = some (.lst (xs.map Ex.d)) ∧ szs xs = m ∧ nodes + szs xs = x.sz ∧ depth + dps xs = x.dp
def hts : List (Ex × Nat) → Nat
  | [] => 0
  | t :: ts => max (t.2 + t.1.ht) (hts ts)
theorem hts_app : ∀ a b : List (Ex × Nat), hts (a ++ b) = max (hts a) (hts b)
  | [], b => by simp [hts]
  | x :: a, b => by
    have := hts_app a b
    simp only [List.cons_append, hts]
    omega
def hSubs (l : Nat) : Ex → List (Ex × Nat)
  | .rule _ a b => [(a, l + 1), (b, l)]
  | .keep _ a => [(a, l + 1)]
  | x => x.kids.map fun y => (y, l)
theorem ht_subs (x : Ex) (l : Nat) : l + x.ht = max l (hts (hSubs l x)) := by
  cases x <;> simp [Ex.ht, hSubs, Ex.kids, hts] <;> omega
theorem sz_subs (x : Ex) (l : Nat) : szs ((hSubs l x).map (·.1)) = szs x.kids := by
  cases x <;> simp [hSubs, Ex.kids, Function.comp_def]
def hEnc (t : Ex × Nat) : D := .tup [t.1.d, .int (t.2 : Int)]
def HInv (x : Ex) (S : Sto) (m : Nat) (e : En) (S' : Sto) : Prop := ∃ (its : List (Ex × Nat)) (h : Nat) (x3 x4 x5 : Option D), e = [some x.d, some (.int (h : Int)), some (.ref S.length), x3, x4, x5] ∧ S <+: S' ∧ S'[S.length]? = some (.lst (its.map hEnc)) ∧ szs (its.map (·.1)) = m ∧ m ≤ 1000000 ∧ max h (hts its) = x.ht
section
variable {P : Pr} {k : Nat} {S : Sto} {Q : D → Sto → Prop}
theorem size_pr (F : Sized P) (x : Ex) (hz : x.sz ≤ 1000000) (q : ∀ S', S <+: S' → Q (.tup [.int (x.sz : Int), .int (x.dp : Int)]) S') : Wp ((cxt P (k + 2)).call "size" [x.d] S) Q := by
  rw [call_fn F.size, run_fn2 rfl, wp_bind]
  unfold Fo.sizeF
  show Wp (evSs (cxt P (k + 1)) Fo.sizeB [some x.d, none, none, none, none, none] S) _
  unfold Fo.sizeB
  refine wp_ss ?_
  simp [-List.append_assoc]
  unfold Fo.size_1B
  refine wp_ss ?_
  simp [-List.append_assoc]
  unfold Fo.size_2B
  refine wp_ss ?_
  simp [-List.append_assoc]
  unfold Fo.size_3B
  refine wp_ss ?_
  simp only [s_whl]
  refine wp_whl (SInv x S) ?_ (m := x.sz) ⟨[x], S.length, 0, 0, none, none, rfl, pre_self _ _, new_at, by simp [szs], by simp [szs], by simp [dps]⟩
  rintro m e S1 ⟨xs, r, nodes, depth, x4, x5, rfl, p1, h1, hm, hn, hd⟩
  simp [truthR_lst h1]
  by_cases hx : xs = []
  · subst hx
    simp
    unfold Fo.size_4B
    refine ret_wp ?_
    simp
    have := q S1 p1
    simp [szs] at hn
    simp [dps] at hd
    rw [hn, hd]
    exact this
  · rw [if_neg hx]
    unfold Fo.size_3bB
    refine wp_ss ?_
    simp [augD]
    unfold Fo.size_3b_1B
    refine wp_ss ?_
    simp [augD, len_lst h1]
    unfold Fo.size_3b_2B
    refine wp_ss ?_
    rw [s_asg, wp_bind]
    refine level_lc F.toForms (xs := xs) (i := r) rfl rfl h1 (by omega) fun S2 p2 h2 => ?_
    simp
    have hs := szs_all xs
    have hl : 0 < xs.length := List.length_pos_iff.mpr hx
    refine ⟨szs (allKids xs), by omega, allKids xs, S1.length, nodes + xs.length, depth + 1, _, _, rfl, p1.trans p2, h2, rfl, by omega, ?_⟩
    have := dps_all xs hx
    omega
theorem height_pr (F : Sized P) (x : Ex) (hz : x.sz ≤ 1000000) (q : ∀ S', S <+: S' → Q (.int (x.ht : Int)) S') : Wp ((cxt P (k + 2)).call "height" [x.d] S) Q := by
  rw [call_fn F.height, run_fn2 rfl, wp_bind]
  unfold Fo.heightF
  show Wp (evSs (cxt P (k + 1)) Fo.heightB [some x.d, none, none, none, none, none] S) _
  unfold Fo.heightB
  refine wp_ss ?_
  simp [-List.append_assoc]
  unfold Fo.height_1B
  refine wp_ss ?_
  simp [-List.append_assoc]
  unfold Fo.height_2B
  refine wp_ss ?_
  simp only [s_whl]
  refine wp_whl (HInv x S) ?_ (m := x.sz) ⟨[(x, 0)], 0, none, none, none, rfl, pre_self _ _, new_at, by simp [szs], hz, by simp [hts]⟩
  rintro m e S1 ⟨its, h, x3, x4, x5, rfl, p1, h1, hm, hm2, hh⟩
  simp [truthR_lst h1]
  rcases List.eq_nil_or_concat its with rfl | ⟨its, t, rfl⟩
  · simp
    unfold Fo.height_3B
    refine ret_wp ?_
    simp
    have := q S1 p1
    simp [hts] at hh
    rw [hh]
    exact this
  · obtain ⟨y, l⟩ := t
    have h2 : S1[S.length]? = some (.lst (its.map hEnc ++ [hEnc (y, l)])) := by
      rw [h1]
      simp
    have hm3 : szs (its.map (·.1)) + y.sz = m := by
      rw [← hm, List.concat_eq_append, List.map_append, szs_app]
      simp [szs]
    have hh2 : max h (max (hts its) (l + y.ht)) = x.ht := by
      rw [← hh, List.concat_eq_append, hts_app]
      simp [hts]
    rw [if_neg (by simp)]
    unfold Fo.height_2bB
    refine wp_ss ?_
    simp [pre_lst2 h2 (m := .pop) (by simp), pop_lst h2]
    have e3 : ∀ S', setTg (.tp [3, 4]) (hEnc (y, l)) [some x.d, some (.int (h : Int)), some (.ref S.length), x3, x4, x5] S' = some [some x.d, some (.int (h : Int)), some (.ref S.length), some y.d, some (.int (l : Int)), x5] := fun S' => setTg_tp ⟨rfl, by simp⟩
    rw [e3]
    simp
    have p2 : S <+: S1.set S.length (.lst (its.map hEnc)) := pre_set p1 (Nat.le_refl _)
    have h3 : (S1.set S.length (.lst (its.map hEnc)))[S.length]? = some (.lst (its.map hEnc)) := by rw [List.getElem?_set_self (lt_of h1)]
    generalize S1.set S.length (O.lst (its.map hEnc)) = S2 at p2 h3 ⊢
    unfold Fo.height_2b_1B
    refine wp_ss ?_
    have em : ∀ S', bfD .max [.int (h : Int), .int (l : Int)] S' = .ok (.int ((max h l : Nat) : Int)) S' := fun S' => by
      show R.ok (D.int (if (l : Int) > h then (l : Int) else h)) S' = _
      congr 2
      split <;> omega
    simp [em]
    have hlen : its.length ≤ m := by
      have := szs_len (its.map (·.1))
      rw [List.length_map] at this
      omega
    -- the new items
    have fin : ∀ {S3 : Sto} {x5 : Option D}, S <+: S3 → S3[S.length]? = some (.lst ((its ++ hSubs l y).map hEnc)) → ∃ m', m' < m ∧ HInv x S m' [some x.d, some (.int ((max h l : Nat) : Int)), some (.ref S.length), some y.d, some (.int (l : Int)), x5] S3 := fun {S3 x5} p3 h4 => by
      have hs := sz_kids y
      refine ⟨szs (its.map (·.1)) + szs y.kids, by omega, its ++ hSubs l y, max h l, _, _, _, rfl, p3, h4, ?_, by omega, ?_⟩
      · rw [List.map_append, szs_app, sz_subs]
      · rw [hts_app]
        have := ht_subs y l
        omega
    unfold Fo.height_2b_2B
    refine wp_ss ?_
    have hb : (its.map hEnc).length < sizeLine := by
      rw [sizeLine_eq, List.length_map]
      omega
    have lc : hSubs l y = y.kids.map (fun z => (z, l)) → Wp (evSs (cxt P (k + 1)) Fo.height_2b_2e_0eB [some x.d, some (.int ((max h l : Nat) : Int)), some (.ref S.length), some y.d, some (.int (l : Int)), x5] S2) fun o S2 => o.on (fun e2 => ∃ m', m' < m ∧ HInv x S m' e2 S2) fun v => Wp (outV (.ret v) S2) Q := fun hy => by
      unfold Fo.height_2b_2e_0eB
      refine wp_ss ?_
      simp [pre_lst2 h3 (m := .extend) (by simp), -List.append_assoc, -List.length_append]
      refine expr_ex F.toForms y ?_
      rw [seqIt_lst new_at]
      simp only [wp_ok]
      have pn := pre_self S2 [.lst (y.kids.map Ex.d)]
      have hn : (S2 ++ [O.lst (y.kids.map Ex.d)])[S2.length]? = some (.lst (y.kids.map Ex.d)) := new_at
      generalize S2 ++ [O.lst (y.kids.map Ex.d)] = S3 at pn hn ⊢
      have hkl := kids_len y
      refine lcP (it := ⟨y.kids.map Ex.d, some (S2.length, y.kids.map Ex.d)⟩) (fun v => .tup [v, .int (l : Int)]) (by simp [wipeE]) (by simp; omega) (still_lst hn) (fun z hz S4 K p4 q4 => ?_) fun S4 p4 h4 => ?_
      · simp [wipeE]
        exact q4 _ (List.prefix_refl _)
      · have h5 := pre_at (pn.trans p4) h3
        rw [extend_lst h5 h4 (by simp; rw [sizeLine_eq]; omega)]
        simp
        refine fin (pre_set ((p2.trans pn).trans p4) (Nat.le_refl _)) ?_
        rw [List.getElem?_set_self (lt_of h5), List.map_append, hy]
        simp [hEnc]
    cases y with
    | rule kk a b =>
      simp [Ex.d]
      unfold Fo.height_2b_2tB
      refine wp_ss ?_
      simp [pre_lst2 h3 (m := .append) (by simp), append_lst h3 hb]
      unfold Fo.height_2b_2t_1B
      refine wp_ss ?_
      have h4 : (S2.set S.length (.lst (its.map hEnc ++ [.tup [a.d, .int ((l : Int) + 1)]])))[S.length]? = some (.lst (its.map hEnc ++ [.tup [a.d, .int ((l : Int) + 1)]])) := by rw [List.getElem?_set_self (lt_of h3)]
      simp [pre_lst2 h4 (m := .append) (by simp), append_lst h4 (by simp; rw [sizeLine_eq]; omega)]
      refine fin (pre_set p2 (Nat.le_refl _)) ?_
      rw [List.getElem?_set_self (lt_of h3)]
      simp [hSubs, hEnc]
    | keep kk a =>
      simp [Ex.d]
      unfold Fo.height_2b_2eB
      refine wp_ss ?_
      simp
      unfold Fo.height_2b_2e_0tB
      refine wp_ss ?_
      simp [pre_lst2 h3 (m := .append) (by simp), append_lst h3 hb]
      refine fin (pre_set p2 (Nat.le_refl _)) ?_
      rw [List.getElem?_set_self (lt_of h3)]
      simp [hSubs, hEnc]
    | _ =>
      simp [Ex.d]
      unfold Fo.height_2b_2eB
      refine wp_ss ?_
      simp
      exact (lc rfl).mono fun o S' h => by cases o <;> simpa using h
end
end Mi
set_option Elab.async false
set_option linter.all false
set_option maxRecDepth 100000
set_option maxHeartbeats 4000000
/-! K02w: the words of a text. -/
namespace K02
open PySem L2 Mi
instance fon : FoN := ⟨"inner", "KINDS", "PARTS"⟩
def PrL (ws : List Str) (L : List D) : Prop := ws.length = L.length ∧ ∀ (j : Nat) (w : Str), ws[j]? = some w → ∃ d, L[j]? = some (D.tup [.str w, d])
theorem PrL.snoc {ws : List Str} {L : List D} {w : Str} {d : D} (h : PrL ws L) : PrL (ws ++ [w]) (L ++ [D.tup [.str w, d]]) := by
  refine ⟨by simp [h.1], fun j v hj => ?_⟩
  rcases Nat.lt_or_ge j ws.length with hl | hl
  · rw [List.getElem?_append_left hl] at hj
    rw [List.getElem?_append_left (by have := h.1; omega)]
    exact h.2 j v hj
  · rw [List.getElem?_append_right hl] at hj
    have hj0 : j - ws.length = 0 := by
      have := (List.getElem?_eq_some_iff.mp hj).1
      simp at this
      omega
    rw [hj0] at hj
    cases hj
    refine ⟨d, ?_⟩
    rw [List.getElem?_append_right (by have := h.1; omega), show j - L.length = 0 by have := h.1; omega]
    rfl
/-- only signs that may stand in a text -/
def Fit (z : List Nat) : Prop := ∀ c ∈ z, spc c = true ∨ brk c = true ∨ wch c = true
section
variable {cds : Nat → List (Str × D)} {S : Sto} {c : Nat}
theorem one_inj {a b : Nat} : ((⟨#[a]⟩ : Str) = ⟨#[b]⟩) = (a = b) := by
  refine propext ⟨fun h => ?_, fun h => h ▸ rfl⟩
  have := congrArg (fun z => z.cps.toList) h
  simpa using this
theorem e_sp : (" " : Str) = ⟨#[32]⟩ := by decide +kernel
theorem e_nl : ("\n" : Str) = ⟨#[10]⟩ := by decide +kernel
theorem e_lp : ("(" : Str) = ⟨#[40]⟩ := by decide +kernel
theorem e_rp : (")" : Str) = ⟨#[41]⟩ := by decide +kernel
theorem e_mi : ("-" : Str) = ⟨#[45]⟩ := by decide +kernel
theorem in_letters : cmpD cds .In (.str ⟨#[c]⟩) (.str ("abcdefghijklmnopqrstuvwxyzABCDEFGHIJKLMNOPQRSTUVWXYZ" : Str)) S = .ok (D.bl (decide (c ∈ lettersS))) S := by
  show R.ok (D.bl (inStr _ _)) S = _
  rw [inStr_one, letters_cps]
theorem in_digits : cmpD cds .In (.str ⟨#[c]⟩) (.str ("0123456789" : Str)) S = .ok (D.bl (decide (c ∈ digitsS))) S := by
  show R.ok (D.bl (inStr _ _)) S = _
  rw [inStr_one, digits_cps]
end
theorem con_letters (k : Nat) : (cxt P k).con "LETTERS" = some (.str ("abcdefghijklmnopqrstuvwxyzABCDEFGHIJKLMNOPQRSTUVWXYZ" : Str)) := by
  rw [cxt_con]
  rfl
theorem con_digits (k : Nat) : (cxt P k).con "DIGITS" = some (.str ("0123456789" : Str)) := by
  rw [cxt_con]
  rfl
/-- is it a sign of a word? -/
theorem wch_test {k : Nat} {e : En} {S : Sto} {a : E} {c : Nat} (ha : (ev (cxt P k) a).v e S = .ok (.str ⟨#[c]⟩) S) :
    evOr (cxt P k) (.cons (.cmp .In a (.con "LETTERS")) (.cons (.cmp .In a (.con "DIGITS")) (.cons (.cmp .Eq a (.str "-")) .nil))) e S = .ok (wch c) S := by
  simp only [or_cons, or_nil, tt_cmp, v_cmp, ha, R.bind_ok, v_con, con_letters, con_digits, optR_some, in_letters, in_digits, truthR_bl, v_str, eq_str, e_mi, one_inj]
  unfold wch
  by_cases h1 : c ∈ lettersS <;> by_cases h2 : c ∈ digitsS <;> by_cases h3 : c = 45 <;> simp [h1, h2, h3]
/-- the longest word at the front -/
theorem word_split : ∀ {t : List Nat}, Fit t → ∃ w r, t = w ++ r ∧ (∀ c ∈ w, wch c = true) ∧ nw r
  | [], _ => ⟨[], [], rfl, fun c h => by (cases h), trivial⟩
  | c :: t, h => by
    by_cases hc : wch c = true
    · obtain ⟨w, r, e, h1, h2⟩ := word_split (t := t) fun d hd => h d (by simp [hd])
      refine ⟨c :: w, r, by rw [e]; rfl, fun d hd => ?_, h2⟩
      rcases List.mem_cons.mp hd with rfl | hd
      · exact hc
      · exact h1 d hd
    · refine ⟨[], c :: t, rfl, fun d hd => by (cases hd), ?_⟩
      rcases h c (by simp) with q | q | q
      · exact Or.inl q
      · exact Or.inr q
      · exact absurd q hc
theorem nw_wch {c : Nat} {t : List Nat} (h : nw (c :: t)) : wch c = false := by
  cases hw : wch c with
  | false => rfl
  | true =>
    have := wch_spc hw
    rcases h with h | h
    · rw [this.1] at h
      cases h
    · rw [this.2] at h
      cases h
def WInv (z : Str) (S : Sto) (m : Nat) (e : En) (S' : Sto) : Prop := ∃ (i : Nat) (L : List D) (ws : List Str) (v3 v4 : Option D), e = [some (.str z), some (.ref S.length), some (.int (i : Int)), v3, v4] ∧ S <+: S' ∧ S'[S.length]? = some (.lst L) ∧ i ≤ (cpsL z).length ∧ i + m = (cpsL z).length ∧ L.length ≤ i ∧
  PrL ws L ∧ ws ++ (wds ((cpsL z).drop i)).map ofL = (wds (cpsL z)).map ofL
/-- the end of a word -/
def EInv (z : Str) (S' : Sto) (r i : Nat) (c : D) (n : Nat) (m : Nat) (e : En) (S2 : Sto) : Prop := S2 = S' ∧ ∃ j : Nat, e = [some (.str z), some (.ref r), some (.int (i : Int)), some c, some (.int (j : Int))] ∧ i + 1 ≤ j ∧ j + m = i + n
theorem words_ok {k : Nat} {z : Str} {S : Sto} {Q : D → Sto → Prop} (hz : z.length ≤ 100000) (hf : Fit (cpsL z)) (q : ∀ S' L, S <+: S' → S'[S.length]? = some (.lst L) → PrL ((wds (cpsL z)).map ofL) L → L.length ≤ z.length → Q (.ref S.length) S') : Wp ((cxt P (k + 1)).call "words_of" [.str z] S) Q := by
  have hs : z.length ≤ sizeLine := by rw [sizeLine_eq]; omega
  have hlen : (cpsL z).length = z.length := rfl
  rw [call_fn (fn := fn_words_of) (by kernel_rfl), run_fn2 rfl, wp_bind]
  unfold fn_words_of
  show Wp (evSs (cxt P k) b_words_of [some (.str z), none, none, none, none] S) _
  unfold b_words_of
  refine wp_ss ?_
  simp
  unfold b_words_of_1
  refine wp_ss ?_
  simp
  unfold b_words_of_2
  refine wp_ss ?_
  simp only [s_whl]
  refine wp_whl (WInv z S) ?_ (m := z.length) ⟨0, [], [], none, none, rfl, pre_self _ _, new_at, Nat.zero_le _, by rw [hlen]; omega, Nat.le_refl _, ⟨rfl, fun j w h => by simp at h⟩, by simp⟩
  rintro m e S1 ⟨i, L, ws, v3, v4, rfl, p1, h1, hi, hm, hL, hp, hw⟩
  simp [len_str hs]
  by_cases hlt : i < z.length
  · rw [if_pos hlt]
    have hlt2 : i < (cpsL z).length := hlt
    obtain ⟨c, t, hct⟩ : ∃ c t, (cpsL z).drop i = c :: t := ⟨_, _, List.drop_eq_getElem_cons hlt2⟩
    have hc : (cpsL z)[i]? = some c := by
      have := congrArg (fun l => l[0]?) hct
      simpa using this
    have ht : (cpsL z).drop (i + 1) = t := by
      have := congrArg (fun l => l.drop 1) hct
      simpa [List.drop_drop, Nat.add_comm] using this
    have hcf := hf c (List.mem_of_getElem? hc)
    unfold b_words_of_2b
    refine wp_ss ?_
    have hsub : ∀ (cds : Nat → List (Str × D)) (S : Sto), subD cds (.str z) (.int (i : Int)) S = .ok (.str ⟨#[c]⟩) S := fun cds S => by
      rw [sub_str hs, Mi.atI_nat]
      show optR (((cpsL z)[i]?).map _) S = _
      rw [hc]
      rfl
    simp [hsub]
    unfold b_words_of_2b_1
    rcases hcf with hcf | hcf | hcf
    · -- a gap
      have h2 : c = 32 ∨ c = 10 := by simpa [spc] using hcf
      refine ig_yes (S' := S1) (by
        simp [e_sp, e_nl, one_inj]
        rcases h2 with rfl | rfl <;> simp) ?_
      unfold b_words_of_2b_1t
      refine wp_ss ?_
      simp [augD]
      refine ⟨m - 1, by omega, i + 1, L, ws, _, _, rfl, p1, h1, by omega, by omega, by omega, hp, ?_⟩
      rw [ht, ← hw, hct, wds_spc hcf]
    · -- a bracket
      have h2 : c = 40 ∨ c = 41 := by simpa [brk] using hcf
      refine ig_no (S' := S1) (by
        simp [e_sp, e_nl, one_inj]
        rcases h2 with rfl | rfl <;> simp) ?_
      unfold b_words_of_2b_1e
      refine ig_yes (S' := S1) (by
        simp [e_lp, e_rp, one_inj]
        rcases h2 with rfl | rfl <;> simp) ?_
      unfold b_words_of_2b_1e_0t
      refine wp_ss ?_
      simp [pre_lst2 h1 (m := .append) (by simp)]
      rw [append_lst h1 (by rw [sizeLine_eq]; omega)]
      simp
      unfold b_words_of_2b_1e_0t_1
      refine wp_ss ?_
      simp [augD]
      refine ⟨m - 1, by omega, i + 1, L ++ [.tup [.str ⟨#[c]⟩, .int (i : Int)]], ws ++ [⟨#[c]⟩], _, _, rfl, pre_set p1 (Nat.le_refl _), by rw [List.getElem?_set_self (lt_of h1)], by omega, by omega, by simp; omega, hp.snoc, ?_⟩
      rw [ht, ← hw, hct, wds_brk hcf]
      simp [ofL]
    · -- a word
      have hn := wch_spc hcf
      have n1 : ¬ (c = 32) ∧ ¬ (c = 10) := by
        have := hn.1
        simp [spc] at this
        exact this
      have n2 : ¬ (c = 40) ∧ ¬ (c = 41) := by
        have := hn.2
        simp [brk] at this
        exact this
      refine ig_no (S' := S1) (by simp [e_sp, e_nl, one_inj, n1]) ?_
      unfold b_words_of_2b_1e
      refine ig_no (S' := S1) (by simp [e_lp, e_rp, one_inj, n2]) ?_
      unfold b_words_of_2b_1e_0e
      refine ig_yes (S' := S1) (by
        rw [t_or2, wch_test (c := c) (by simp), hcf]) ?_
      obtain ⟨w, r, e, hw1, hw2⟩ := word_split (t := t) fun d hd => hf d (by
        have : d ∈ (cpsL z).drop i := by rw [hct]; simp [hd]
        exact List.mem_of_mem_drop this)
      have hrl : (cpsL z).length = i + 1 + w.length + r.length := by
        have := congrArg List.length hct
        rw [e] at this
        simp at this
        omega
      unfold b_words_of_2b_1e_0e_0t
      refine wp_ss ?_
      simp
      have fin : ∀ (K : Out → Sto → Prop), (∀ e S', (∃ m', m' < m ∧ WInv z S m' e S') → K (.nx e) S') → Wp (evSs (cxt P k) b_words_of_2b_1e_0e_0t_2 [some (.str z), some (.ref S.length), some (.int (i : Int)), some (.str ⟨#[c]⟩), some (.int ((i + 1 + w.length : Nat) : Int))] S1) K := fun K hK => by
        have hcut : cutS z (some (i : Int)) (some ((i + 1 + w.length : Nat) : Int)) = ofL (c :: w) := by
          unfold cutS ofL
          rw [HT.sIx_nat, HT.sIx_nat]
          have hz2 : z.length = i + 1 + w.length + r.length := by rw [← hlen]; exact hrl
          rw [Nat.min_eq_left (by omega), Nat.min_eq_left (by omega)]
          show (⟨(((cpsL z).drop i).take _).toArray⟩ : Str) = _
          rw [hct, e, show i + 1 + w.length - i = w.length + 1 by omega]
          simp
        unfold b_words_of_2b_1e_0e_0t_2
        refine wp_ss ?_
        have hcut2 : cutS z (some (i : Int)) (some ((i : Int) + 1 + (w.length : Int))) = ofL (c :: w) := by
          rw [← hcut]
          congr 2
        simp [pre_lst2 h1 (m := .append) (by simp), slcD, hs, hcut2]
        rw [append_lst h1 (by rw [sizeLine_eq]; omega)]
        simp
        unfold b_words_of_2b_1e_0e_0t_3
        refine wp_ss ?_
        simp
        refine hK _ _ ⟨m - (w.length + 1), by omega, i + 1 + w.length, L ++ [.tup [.str (ofL (c :: w)), .int (i : Int)]], ws ++ [ofL (c :: w)], _, _, rfl, pre_set p1 (Nat.le_refl _), by rw [List.getElem?_set_self (lt_of h1)], by omega, by omega, by simp; omega, hp.snoc, ?_⟩
        have hd2 : (cpsL z).drop (i + 1 + w.length) = r := by
          rw [← List.drop_drop, ht, e]
          simp
        rw [hd2, ← hw, hct, e, ← List.cons_append, wds_word (by simp) (fun d hd => by
          rcases List.mem_cons.mp hd with rfl | hd
          · exact hcf
          · exact hw1 d hd) hw2]
        simp
      unfold b_words_of_2b_1e_0e_0t_1
      refine wp_ss ?_
      simp only [s_whl]
      refine wp_whl (EInv z S1 S.length i (.str ⟨#[c]⟩) (w.length + 1)) ?_ (m := w.length) ⟨rfl, i + 1, rfl, Nat.le_refl _, by omega⟩
      rintro m2 e2 S2 ⟨rfl, j, rfl, hj1, hj2⟩
      have hdj : (cpsL z).drop j = w.drop (j - (i + 1)) ++ r := by
        have : (cpsL z).drop j = ((cpsL z).drop (i + 1)).drop (j - (i + 1)) := by
          rw [List.drop_drop]
          congr 1
          omega
        rw [this, ht, e, List.drop_append_of_le_length (by omega)]
      rw [t_and2, and_cons]
      simp only [tt_cmp, v_cmp, v_var, List.getElem?_cons_succ, List.getElem?_cons_zero, Option.bind_some, id_eq, optR_some, R.bind_ok, v_bf, es_cons2, es_nil, len_str hs, lt_int, truthR_bl]
      by_cases hjl : (j : Int) < (z.length : Int)
      · rw [if_pos (by simpa using hjl), and_cons]
        have hjn : j < (cpsL z).length := by show j < z.length; omega
        obtain ⟨d, hd⟩ : ∃ d, (cpsL z)[j]? = some d := ⟨_, List.getElem?_eq_getElem hjn⟩
        have hsubj : (ev (cxt P k) (.sub (.var 0) (.var 4))).v [some (.str z), some (.ref S.length), some (.int (i : Int)), some (.str ⟨#[c]⟩), some (.int (j : Int))] S2 = .ok (.str ⟨#[d]⟩) S2 := by
          simp
          rw [sub_str hs, Mi.atI_nat]
          show optR (((cpsL z)[j]?).map _) S2 = _
          rw [hd]
          rfl
        rw [t_or2, wch_test hsubj]
        have hd0 : ((cpsL z).drop j)[0]? = some d := by simpa using hd
        simp only [R.bind_ok, and_nil]
        by_cases hm0 : m2 = 0
        · -- behind the word
          have : w.drop (j - (i + 1)) = [] := List.drop_eq_nil_of_le (by omega)
          rw [hdj, this, List.nil_append] at hd0
          have hwd : wch d = false := by
            cases r with
            | nil => simp at hd0
            | cons y r =>
              have hd0 : some y = some d := hd0
              cases hd0
              exact nw_wch hw2
          rw [hwd]
          simp only [Bool.false_eq_true, if_false, wp_ok]
          have hj3 : j = i + 1 + w.length := by omega
          subst hj3
          simp only [goR_nx]
          exact fin _ fun e S' h => by simpa using h
        · have hin : d ∈ w := by
            rw [hdj, List.getElem?_append_left (by simp; omega)] at hd0
            exact List.mem_of_mem_drop (List.mem_of_getElem? hd0)
          rw [hw1 d hin]
          simp only [if_true, wp_ok]
          unfold b_words_of_2b_1e_0e_0t_1b
          refine wp_ss ?_
          simp [augD]
          exact ⟨m2 - 1, by omega, rfl, j + 1, rfl, by omega, by omega⟩
      · rw [if_neg (by simpa using hjl)]
        simp only [wp_ok, Bool.false_eq_true, if_false]
        have hj3 : j = i + 1 + w.length := by
          have : (cpsL z).length = z.length := rfl
          omega
        subst hj3
        simp only [goR_nx]
        exact fin _ fun e S' h => by simpa using h
  · rw [if_neg hlt]
    unfold b_words_of_3
    refine ret_wp ?_
    simp
    have hi2 : i = (cpsL z).length := by
      have : (cpsL z).length = z.length := rfl
      omega
    have hw2 : ws = (wds (cpsL z)).map ofL := by
      rw [← hw, hi2, List.drop_length, wds_nil]
      simp
    exact q S1 L p1 h1 (hw2 ▸ hp) (by omega)
end K02
set_option Elab.async false
set_option linter.all false
set_option maxRecDepth 100000
set_option maxHeartbeats 4000000
/-! K02n: numbers and words. -/
namespace K02
open PySem L2 Mi
theorem lc_letters : P.con.lookup ("LETTERS" : Str) = some (.str ("abcdefghijklmnopqrstuvwxyzABCDEFGHIJKLMNOPQRSTUVWXYZ" : Str)) := rfl
theorem lc_digits : P.con.lookup ("DIGITS" : Str) = some (.str ("0123456789" : Str)) := rfl
def digs (l : List Nat) : List Nat := if l.take 1 = [45] then l.drop 1 else l
def numB (l : List Nat) : Bool := decide (digs l ≠ []) && ((digs l).all fun c => decide (c ∈ digitsS)) && (decide (l = [48]) || decide ((digs l)[0]? ≠ some 48))
theorem str_ofL {z : Str} {l : List Nat} : (z = ofL l) = (cpsL z = l) := by
  refine propext ⟨fun h => h ▸ rfl, fun h => ?_⟩
  rw [← h]
  rfl
theorem e_nil : ("" : Str) = ofL [] := by decide +kernel
theorem e_zero : ("0" : Str) = ofL [48] := by decide +kernel
theorem e_min : ("-" : Str) = ofL [45] := by decide +kernel
theorem cut_first {z : Str} : cutS z none (some 1) = ofL ((cpsL z).take 1) := by
  have e := HT.sIx_nat z.length z.length 1
  have e1 : HT.sIx z.length z.length (some 1) = min 1 z.length := e
  unfold cutS ofL
  rw [HT.sIx_none, e1]
  have hlen : (cpsL z).length = z.length := rfl
  show (⟨(((cpsL z).drop 0).take (min 1 z.length - 0)).toArray⟩ : Str) = _
  rw [List.drop_zero, Nat.sub_zero, ← hlen]
  congr 2
  by_cases h : 1 ≤ (cpsL z).length
  · rw [Nat.min_eq_left h]
  · have : cpsL z = [] := List.length_eq_zero_iff.mp (by omega)
    rw [this]
    rfl
theorem cut_rest {z : Str} : cutS z (some 1) none = ofL ((cpsL z).drop 1) := by
  have e1 : HT.sIx z.length 0 (some 1) = min 1 z.length := HT.sIx_nat z.length 0 1
  unfold cutS ofL
  rw [HT.sIx_none, e1]
  have hlen : (cpsL z).length = z.length := rfl
  show (⟨(((cpsL z).drop (min 1 z.length)).take (z.length - min 1 z.length)).toArray⟩ : Str) = _
  rw [← hlen]
  congr 2
  by_cases h : 1 ≤ (cpsL z).length
  · rw [Nat.min_eq_left h, List.take_of_length_le (by simp)]
  · have : cpsL z = [] := List.length_eq_zero_iff.mp (by omega)
    rw [this]
    rfl
theorem seqIt_str {z : Str} {S : Sto} (h : z.length ≤ sizeLine) : seqIt (.str z) S = .ok ⟨(cpsL z).map fun c => D.str ⟨#[c]⟩, none⟩ S := by
  show (if z.length ≤ sizeLine then _ else _) = _
  rw [if_pos h]
  rfl
theorem digs_len (l : List Nat) : (digs l).length ≤ l.length := by
  unfold digs
  split <;> simp
def NInv (z y : Str) (S : Sto) (i : Nat) (e : En) (S' : Sto) : Prop := S' = S ∧ (∃ v, e = [some (.str z), some (.str y), v]) ∧ ∀ j, j < i → ∀ c, (cpsL y)[j]? = some c → c ∈ digitsS
section
variable {k : Nat} {S : Sto} {Q : D → Sto → Prop}
theorem is_number_ok {z : Str} (hz : z.length ≤ 100000) (q : Q (.bl (numB (cpsL z))) S) : Wp ((cxt P (k + 1)).call "is_number" [.str z] S) Q := by
  have hs : z.length ≤ sizeLine := by rw [sizeLine_eq]; omega
  have hlen : (cpsL z).length = z.length := rfl
  rw [call_fn (fn := fn_is_number) (by kernel_rfl), run_fn2 rfl, wp_bind]
  unfold fn_is_number
  show Wp (evSs (cxt P k) b_is_number [some (.str z), none, none] S) _
  unfold b_is_number
  refine wp_ss ?_
  have hd : (ev (cxt P k) (.ife (.cmp .Eq (.slc (.var 0) .nop (.int 1)) (.str "-")) (.slc (.var 0) (.int 1) .nop) (.var 0))).v [some (.str z), none, none] S = .ok (.str (ofL (digs (cpsL z)))) S := by
    simp [slcD, hs, cut_first, cut_rest]
    rw [e_min]
    have : (ofL ((cpsL z).take 1) = ofL [45]) = ((cpsL z).take 1 = [45]) := by rw [str_ofL, cpsL_ofL]
    unfold digs
    by_cases h : (cpsL z).take 1 = [45]
    · rw [if_pos (this.mpr h), if_pos h]
      simp
    · rw [if_neg fun q => h (this.mp q), if_neg h]
      rfl
  rw [s_asg, hd]
  simp
  have hyl : (ofL (digs (cpsL z))).length ≤ sizeLine := by
    have := digs_len (cpsL z)
    show (digs (cpsL z)).toArray.size ≤ sizeLine
    rw [List.size_toArray, sizeLine_eq]
    omega
  have hy : cpsL (ofL (digs (cpsL z))) = digs (cpsL z) := cpsL_ofL _
  unfold b_is_number_1
  by_cases h0 : digs (cpsL z) = []
  · refine if_yes (S' := S) (by simp [e_nil, h0]) ?_
    unfold b_is_number_1t
    refine ret_wp ?_
    simp
    simpa [numB, h0] using q
  · refine if_no (S' := S) (by
      simp
      rw [e_nil, str_ofL, cpsL_ofL]
      exact h0) ?_
    unfold b_is_number_2
    refine wp_ss ?_
    simp [seqIt_str hyl, hy]
    generalize hyy : ofL (digs (cpsL z)) = y at hyl hy ⊢
    refine wp_for (it := ⟨(digs (cpsL z)).map fun c => D.str ⟨#[c]⟩, none⟩) (NInv z y S) (fun _ _ _ _ => rfl) ?_ ?_ ⟨rfl, ⟨none, rfl⟩, fun j hj => absurd hj (by omega)⟩
    · rintro i d e S1 hi ⟨rfl, ⟨v, rfl⟩, hall⟩
      have hi : ((digs (cpsL z)).map fun c => D.str ⟨#[c]⟩)[i]? = some d := hi
      rw [List.getElem?_map] at hi
      cases hc : (digs (cpsL z))[i]? with
      | none =>
        rw [hc] at hi
        cases hi
      | some c =>
        rw [hc] at hi
        cases hi
        refine ⟨_, rfl, ?_⟩
        unfold b_is_number_2b
        have ht : cmpD (cxt P k).cds .NotIn (.str ⟨#[c]⟩) (.str ("0123456789" : Str)) S1 = .ok (D.bl (!decide (c ∈ digitsS))) S1 := not_digits
        by_cases hcd : c ∈ digitsS
        · refine if_no (S' := S1) (by simp [lc_digits, ht, hcd]) ?_
          simp
          refine ⟨rfl, ⟨_, rfl⟩, fun j hj d hdj => ?_⟩
          rcases Nat.lt_or_ge j i with h | h
          · exact hall j h d hdj
          · obtain rfl : j = i := by omega
            rw [hy, hc] at hdj
            cases hdj
            exact hcd
        · refine if_yes (S' := S1) (by simp [lc_digits, ht, hcd]) ?_
          unfold b_is_number_2b_0t
          refine ret_wp ?_
          simp
          have : ((digs (cpsL z)).all fun c => decide (c ∈ digitsS)) = false := by
            rw [List.all_eq_false]
            exact ⟨c, List.mem_of_getElem? hc, by simpa using hcd⟩
          simpa [numB, this] using q
    · rintro e S1 ⟨rfl, ⟨v, rfl⟩, hall⟩
      simp
      unfold b_is_number_3
      refine ret_wp ?_
      have hal : ((digs (cpsL z)).all fun c => decide (c ∈ digitsS)) = true := by
        rw [List.all_eq_true]
        intro c hc
        obtain ⟨j, hj⟩ := List.getElem?_of_mem hc
        have hlt : j < ((digs (cpsL z)).map fun c => D.str ⟨#[c]⟩).length := by
          have := (List.getElem?_eq_some_iff.mp hj).1
          simpa using this
        simpa using hall j hlt c (by rw [hy]; exact hj)
      obtain ⟨d, ds, hds⟩ : ∃ d ds, digs (cpsL z) = d :: ds := by
        cases hq : digs (cpsL z) with
        | nil => exact absurd hq h0
        | cons d ds => exact ⟨d, ds, rfl⟩
      have hsub : ∀ cds, subD cds (.str y) (.int 0) S1 = .ok (.str ⟨#[d]⟩) S1 := fun cds => by
        rw [sub_str hyl, atI_0]
        show optR (((cpsL y)[0]?).map _) S1 = _
        rw [hy, hds]
        rfl
      have e1 : (z = ("0" : Str)) = (cpsL z = [48]) := by rw [e_zero, str_ofL]
      have e2 : ((⟨#[d]⟩ : Str) = ("0" : Str)) = (d = 48) := by
        rw [e_zero]
        exact one_inj
      have hn : numB (cpsL z) = (decide (cpsL z = [48]) || decide (d ≠ 48)) := by
        unfold numB
        rw [hal, hds]
        simp
      rw [hn] at q
      simp [hsub, e1, e2, elseD_bl]
      by_cases h1 : cpsL z = [48]
      · simpa [h1] using q
      · simpa [h1] using q
end
end K02
set_option Elab.async false
set_option linter.all false
set_option maxRecDepth 100000
set_option maxHeartbeats 4000000
/-! K02r: the reader's object and its small methods. -/
namespace K02
open PySem L2 Mi
def rfs (wl : Nat) (en : Int) (a b : Nat) : List (Str × D) := [("words", .ref wl), ("end", .int en), ("at", .int (a : Int)), ("nested", .int (b : Int)), ("too_large", .bl false)]
structure RdS (S : Sto) (me wl : Nat) (L : List D) (en : Int) (a b : Nat) : Prop where
  fm : S[me]? = some (.ins 0 (rfs wl en a b))
  fw : S[wl]? = some (.lst L)
section
variable {S S' : Sto} {me wl : Nat} {L : List D} {en : Int} {a b : Nat} {ws : List Str}
theorem RdS.ne (h : RdS S me wl L en a b) : wl ≠ me := fun q => by
  have := h.fw
  rw [q, h.fm] at this
  cases this
theorem RdS.put (h : RdS S me wl L en a b) {a' b' : Nat} : RdS (S.set me (.ins 0 (rfs wl en a' b'))) me wl L en a' b' := by
  have hn := h.ne
  refine ⟨by rw [List.getElem?_set_self (lt_of h.fm)], ?_⟩
  rw [List.getElem?_set_ne (Ne.symm hn)]
  exact h.fw
theorem RdS.words (h : RdS S me wl L en a b) : fldD (.ref me) "words" S = .ok (.ref wl) S := fld_at h.fm (by simp [rfs, lk_cons])
theorem RdS.at_ (h : RdS S me wl L en a b) : fldD (.ref me) "at" S = .ok (.int (a : Int)) S := fld_at h.fm (by simp [rfs, lk_cons])
theorem RdS.nested (h : RdS S me wl L en a b) : fldD (.ref me) "nested" S = .ok (.int (b : Int)) S := fld_at h.fm (by simp [rfs, lk_cons])
theorem RdS.large (h : RdS S me wl L en a b) : fldD (.ref me) "too_large" S = .ok (.bl false) S := fld_at h.fm (by simp [rfs, lk_cons])
theorem RdS.setAt (h : RdS S me wl L en a b) {a' : Nat} : setF (.ref me) "at" (.int (a' : Int)) S = .ok () (S.set me (.ins 0 (rfs wl en a' b))) := by
  rw [set_at h.fm (by simp [rfs])]
  simp [rfs, putFD]
theorem RdS.setNested (h : RdS S me wl L en a b) {b' : Nat} : setF (.ref me) "nested" (.int (b' : Int)) S = .ok () (S.set me (.ins 0 (rfs wl en a b'))) := by
  rw [set_at h.fm (by simp [rfs])]
  simp [rfs, putFD]
theorem RdS.incAt (h : RdS S me wl L en a b) : setF (.ref me) "at" (.int ((a : Int) + 1)) S = .ok () (S.set me (.ins 0 (rfs wl en (a + 1) b))) := h.setAt (a' := a + 1)
theorem RdS.incNest (h : RdS S me wl L en a b) : setF (.ref me) "nested" (.int ((b : Int) + 1)) S = .ok () (S.set me (.ins 0 (rfs wl en a (b + 1)))) := h.setNested (b' := b + 1)
theorem RdS.setLarge (h : RdS S me wl L en a b) : setF (.ref me) "too_large" (.bl false) S = .ok () (S.set me (.ins 0 (rfs wl en a b))) := by
  rw [set_at h.fm (by simp [rfs])]
  simp [rfs, putFD]
theorem RdS.cls (h : RdS S me wl L en a b) : clsD (.ref me) S = some 0 := by
  unfold clsD
  simp only [h.fm]
theorem RdS.lenW (h : RdS S me wl L en a b) : bfD .len [.ref wl] S = .ok (.int (L.length : Int)) S := len_lst h.fw
theorem rd_none {wl : Nat} {en : Int} {a b : Nat} {m : Str} (h : m ∉ ([("words" : Str), "end", "at", "nested", "too_large"] : List Str)) : (rfs wl en a b).lookup m = none := by
  simp only [List.mem_cons, List.not_mem_nil, or_false, not_or] at h
  obtain ⟨h1, h2, h3, h4, h5⟩ := h
  unfold rfs
  simp only [lk_cons, lk_nil, h1, h2, h3, h4, h5, if_false]
theorem RdS.meth {C : Cxt} {m : Str} {es : Sto → R (List D)} (h : RdS S me wl L en a b) (hm : m ∉ ([("words" : Str), "end", "at", "nested", "too_large"] : List Str)) : methD C m (.ref me) es S = (es S).bind fun vs S2 => C.meth 0 m (.ref me :: vs) S2 := by
  unfold methD
  simp only [h.fm, rd_none hm]
theorem RdS.grow (h : RdS S me wl L en a b) (S2 : Sto) {a' b' : Nat} (g : Grow me S S2) (h2 : S2[me]? = some (.ins 0 (rfs wl en a' b'))) : RdS S2 me wl L en a' b' := ⟨h2, g.at h.fw h.ne⟩
end
section
variable {k : Nat} {S : Sto} {Q : D → Sto → Prop} {me wl : Nat} {L : List D} {en : Int} {a b : Nat} {ws : List Str} {w : Str} {rest : List Str}
theorem word_some (h : RdS S me wl L en a b) (hp : PrL ws L) (hw : ws.drop a = w :: rest) (q : Q (.str w) S) : Wp ((cxt P (k + 1)).meth 0 "word" [.ref me] S) Q := by
  have hwa : ws[a]? = some w := by
    have := congrArg (fun l => l[0]?) hw
    simpa using this
  obtain ⟨d, hd⟩ := hp.2 a w hwa
  have hl : a < L.length := (List.getElem?_eq_some_iff.mp hd).1
  rw [meth_fn (fn := fn_Reader_word) (by kernel_rfl), run_fn2 rfl, wp_bind]
  unfold fn_Reader_word
  show Wp (evSs (cxt P k) b_Reader_word [some (.ref me)] S) _
  unfold b_Reader_word
  refine ret_wp ?_
  simp [h.at_, h.words, h.lenW, hl]
  rw [sub_lst h.fw, Mi.atI_nat, hd]
  simp
  exact q
theorem word_none (h : RdS S me wl L en a b) (hl : L.length ≤ a) (q : Q (.str "") S) : Wp ((cxt P (k + 1)).meth 0 "word" [.ref me] S) Q := by
  rw [meth_fn (fn := fn_Reader_word) (by kernel_rfl), run_fn2 rfl, wp_bind]
  unfold fn_Reader_word
  show Wp (evSs (cxt P k) b_Reader_word [some (.ref me)] S) _
  unfold b_Reader_word
  refine ret_wp ?_
  simp [h.at_, h.words, h.lenW, show ¬ a < L.length by omega]
  exact q
/-- what a reading leaves: the object further on -/
def Read (S : Sto) (me wl : Nat) (L : List D) (en : Int) (a b : Nat) (Q : D → Sto → Prop) (v : D) : Prop := ∀ S', RdS S' me wl L en a b → Grow me S S' → Q v S'
theorem take_ok (h : RdS S me wl L en a b) (hp : PrL ws L) (hw : ws.drop a = w :: rest) (q : Read S me wl L en (a + 1) b Q (.str w)) : Wp ((cxt P (k + 2)).meth 0 "take" [.ref me, .bl true] S) Q := by
  rw [meth_fn (fn := fn_Reader_take) (by kernel_rfl), run_fn2 rfl, wp_bind]
  unfold fn_Reader_take
  show Wp (evSs (cxt P (k + 1)) b_Reader_take [some (.ref me), some (.bl true), none] S) _
  unfold b_Reader_take
  refine wp_ss ?_
  simp [h.meth (m := "word") (by simp)]
  refine word_some h hp hw ?_
  try simp
  unfold b_Reader_take_1
  refine if_no (S' := S) (by simp) ?_
  unfold b_Reader_take_2
  refine wp_ss ?_
  simp [h.at_, augD, h.incAt]
  unfold b_Reader_take_3
  refine ret_wp ?_
  simp
  exact q _ h.put .set
/-- in a text -/
theorem notin_mi {x : Str} (hx : word x) {cds : Nat → List (Str × D)} {S : Sto} : cmpD cds .NotIn (.str ("-" : Str)) (.str x) S = .ok (.bl true) S := by
  show R.ok (D.bl (!inStr _ _)) S = _
  rw [e_mi, inStr_one]
  have : 45 ∉ x.cps.toList := fun h => by
    rcases hx.2.2.2.2 45 h with h | h
    · exact absurd h (by decide +kernel)
    · exact absurd h (by decide +kernel)
  simp [this]
theorem first_at {x : Str} {c : Nat} (hl : x.length ≤ 8) (hc : x.cps[0]? = some c) {cds : Nat → List (Str × D)} {S : Sto} : subD cds (.str x) (.int 0) S = .ok (.str ⟨#[c]⟩) S := by
  rw [sub_str (by rw [sizeLine_eq]; omega), atI_0]
  have : x.cps.toList[0]? = some c := by simpa using hc
  rw [this]
  rfl
theorem is_word_ok {x : Str} (hx : word x) (q : Q (.bl true) S) : Wp ((cxt P (k + 1)).call "is_word" [.str x] S) Q := by
  rw [call_fn (fn := fn_is_word) (by kernel_rfl), run_fn2 rfl, wp_bind]
  unfold fn_is_word
  show Wp (evSs (cxt P k) b_is_word [some (.str x)] S) _
  obtain ⟨h1, h2, h3, ⟨c, hc, hcl⟩, h5⟩ := id hx
  have hne : x ≠ "" := fun e => by
    rw [e] at h1
    exact absurd h1 (by decide +kernel)
  have ht : cmpD (cxt P k).cds .NotIn (.str ⟨#[c]⟩) (.str ("abcdefghijklmnopqrstuvwxyzABCDEFGHIJKLMNOPQRSTUVWXYZ" : Str)) S = .ok (D.bl (!decide (c ∈ lettersS))) S := not_letters
  unfold b_is_word
  refine if_no (S' := S) (by simp [hne, first_at h2 hc, lc_letters, ht, hcl]) ?_
  unfold b_is_word_1
  refine ret_wp ?_
  simp [notin_mi hx]
  exact q
theorem lc_words : P.con.lookup ("WORDS" : Str) = some (.tup (wordsS.map .str)) := rfl
theorem lc_kinds : P.con.lookup ("KINDS" : Str) = some (.tup (kindsS.map .str)) := rfl
theorem lc_greatest : P.con.lookup ("GREATEST" : Str) = some (.int 1000000) := rfl
theorem lc_nested : P.con.lookup ("MOST_NESTED" : Str) = some (.int 60) := rfl
theorem lc_shapes : P.con.lookup ("SHAPES" : Str) = some (.cd 3) := rfl
theorem name_ok (h : RdS S me wl L en a b) (hp : PrL ws L) (hw : ws.drop a = w :: rest) (hx : word w) (q : Read S me wl L en (a + 1) b Q (.str w)) : Wp ((cxt P (k + 3)).meth 0 "name" [.ref me] S) Q := by
  rw [meth_fn (fn := fn_Reader_name) (by kernel_rfl), run_fn2 rfl, wp_bind]
  unfold fn_Reader_name
  show Wp (evSs (cxt P (k + 2)) b_Reader_name [some (.ref me), none] S) _
  unfold b_Reader_name
  refine wp_ss ?_
  simp [h.meth (m := "take") (by simp), h.meth (m := "word") (by simp)]
  refine word_some h hp hw ?_
  refine is_word_ok hx ?_
  simp [h.meth (m := "word") (by simp)]
  refine word_some h hp hw ?_
  simp [lc_words, notin_tup_strs, hx.2.2.1]
  refine take_ok h hp hw fun S2 h2 g2 => ?_
  try simp
  unfold b_Reader_name_1
  refine wp_ss ?_
  have hl : w.length ≤ sizeLine := by have := hx.2.1; rw [sizeLine_eq]; omega
  have hl8 : ¬ (8 : Int) < (w.length : Int) := by have := hx.2.1; omega
  simp [h2.large, len_str hl, hl8, h2.setLarge]
  unfold b_Reader_name_2
  refine ret_wp ?_
  simp
  exact q _ h2.put (g2.trans .set)
theorem numB_txI {n : Int} (h : -1000000 ≤ n ∧ n ≤ 1000000) : numB (cpsL (txI n)) = true := by
  have hall : ∀ m, ((dgs m).all fun c => decide (c ∈ digitsS)) = true := fun m => by
    rw [List.all_eq_true]
    intro c hc
    simpa using dig_wch (dgs_all m c hc)
  have hpos : ∀ m, (dgs m).take 1 ≠ [45] := fun m e => by
    have hne := dgs_ne m
    cases hd : dgs m with
    | nil => exact hne hd
    | cons c r =>
      rw [hd] at e
      have e : [c] = [45] := e
      injection e with e
      have := dgs_all m c (by rw [hd]; simp)
      omega
  rcases txI_cases n with ⟨m, rfl, q⟩ | ⟨m, rfl, q⟩
  · rw [q]
    have hd : digs (dgs m) = dgs m := if_neg (hpos m)
    unfold numB
    rw [hd, hall, decide_eq_true (dgs_ne m)]
    by_cases h0 : m = 0
    · subst h0
      rfl
    · obtain ⟨c, r, e, hc⟩ := dgs_head (m := m) (by omega)
      rw [e]
      simp [hc]
  · rw [q]
    have hd : digs (45 :: dgs (m + 1)) = dgs (m + 1) := if_pos rfl
    unfold numB
    rw [hd, hall, decide_eq_true (dgs_ne _)]
    obtain ⟨c, r, e, hc⟩ := dgs_head (m := m + 1) (by omega)
    rw [e]
    simp [hc]
theorem numB_word {x : Str} (h : word x) : numB (cpsL x) = false := by
  obtain ⟨h1, h2, h3, ⟨c, hc, hcl⟩, h5⟩ := h
  have hc2 : (cpsL x)[0]? = some c := by simpa [cpsL] using hc
  have k1 : ∀ c ∈ lettersS, c ∉ digitsS ∧ c ≠ 45 := by decide +kernel
  obtain ⟨r, hr⟩ : ∃ r, cpsL x = c :: r := by
    cases hx : cpsL x with
    | nil =>
      rw [hx] at hc2
      simp at hc2
    | cons d r =>
      rw [hx] at hc2
      have hc2 : some d = some c := hc2
      cases hc2
      exact ⟨r, rfl⟩
  have hd : digs (cpsL x) = cpsL x := if_neg (by
    rw [hr]
    intro e
    have e : [c] = [45] := e
    injection e with e
    exact (k1 c hcl).2 e)
  unfold numB
  rw [hd, hr]
  simp [(k1 c hcl).1]
theorem number_ok {n : Int} (h : RdS S me wl L en a b) (hp : PrL ws L) (hw : ws.drop a = txI n :: rest) (hn : -1000000 ≤ n ∧ n ≤ 1000000) (q : Read S me wl L en (a + 1) b Q (.int n)) : Wp ((cxt P (k + 3)).meth 0 "number" [.ref me] S) Q := by
  rw [meth_fn (fn := fn_Reader_number) (by kernel_rfl), run_fn2 rfl, wp_bind]
  unfold fn_Reader_number
  show Wp (evSs (cxt P (k + 2)) b_Reader_number [some (.ref me), none] S) _
  have hl8 := txI_len hn
  unfold b_Reader_number
  refine wp_ss ?_
  simp [h.meth (m := "take") (by simp), h.meth (m := "word") (by simp)]
  refine word_some h hp hw ?_
  refine is_number_ok (by omega) ?_
  rw [numB_txI hn]
  refine take_ok h hp hw fun S2 h2 g2 => ?_
  try simp
  have hl : (txI n).length ≤ sizeLine := by rw [sizeLine_eq]; omega
  have hnl : ¬ (8 : Int) < ((txI n).length : Int) := by omega
  unfold b_Reader_number_1
  refine if_no (S' := S2) (by simp [len_str hl, hnl]) ?_
  unfold b_Reader_number_2
  refine wp_ss ?_
  have ha : ∀ S, bfD .abs [.int n] S = .ok (.int (if n < 0 then -n else n)) S := fun S => rfl
  have hg : ¬ (1000000 : Int) < (if n < 0 then -n else n) := by split <;> omega
  simp [h2.large, int_str hn, ha, lc_greatest, hg, h2.setLarge]
  unfold b_Reader_number_3
  refine ret_wp ?_
  simp [int_str hn]
  exact q _ h2.put (g2.trans .set)
end
end K02
set_option Elab.async false
set_option linter.all false
set_option maxRecDepth 100000
set_option maxHeartbeats 4000000
/-! K02e: the reading of an expression. -/
namespace K02
open PySem L2 Mi
/-- a shape's sign -/
def _root_.Mi.Pt.sh : Pt → Nat
  | .ex _ => 101
  | .nm _ => 120
  | .kn _ => 107
  | .nu _ => 105
def shapesL : List (Str × D) := [(("fn" : Str), .str "xe"), (("call" : Str), .str "ee"), (("sum" : Str), .str "ee"), (("less" : Str), .str "ee"), (("if" : Str), .str "eee"), (("let" : Str), .str "xee"), (("say" : Str), .str "e"), (("rule" : Str), .str "kee"), (("keep" : Str), .str "ke"), (("part" : Str), .str "i"), (("with" : Str), .str "e"), (("usual" : Str), .str "")]
theorem shape_of {x : Ex} (hl : x.isLeaf = false) (hd : x.isDo = false) : ∃ z : Str, shapesL.lookup x.kd = some (.str z) ∧ cpsL z = x.pts.map Pt.sh ∧ z.length ≤ 8 := by
  cases x <;> first
    | (cases hl; done)
    | (cases hd; done)
    | exact ⟨"xe", rfl, (by decide +kernel : cpsL ("xe" : Str) = [120, 101]), by decide +kernel⟩
    | exact ⟨"ee", rfl, (by decide +kernel : cpsL ("ee" : Str) = [101, 101]), by decide +kernel⟩
    | exact ⟨"eee", rfl, (by decide +kernel : cpsL ("eee" : Str) = [101, 101, 101]), by decide +kernel⟩
    | exact ⟨"xee", rfl, (by decide +kernel : cpsL ("xee" : Str) = [120, 101, 101]), by decide +kernel⟩
    | exact ⟨"e", rfl, (by decide +kernel : cpsL ("e" : Str) = [101]), by decide +kernel⟩
    | exact ⟨"kee", rfl, (by decide +kernel : cpsL ("kee" : Str) = [107, 101, 101]), by decide +kernel⟩
    | exact ⟨"ke", rfl, (by decide +kernel : cpsL ("ke" : Str) = [107, 101]), by decide +kernel⟩
    | exact ⟨"i", rfl, (by decide +kernel : cpsL ("i" : Str) = [105]), by decide +kernel⟩
    | exact ⟨"", rfl, (by decide +kernel : cpsL ("" : Str) = []), by decide +kernel⟩
theorem e_e : ("e" : Str) = ⟨#[101]⟩ := by decide +kernel
theorem e_x : ("x" : Str) = ⟨#[120]⟩ := by decide +kernel
theorem e_k : ("k" : Str) = ⟨#[107]⟩ := by decide +kernel
/-- the first word is no closing bracket -/
theorem tk_first (x : Ex) {N : List Str} {A : Option Str} (h : x.ok N A) : ∃ w r, x.tk = w :: r ∧ w ≠ ")" ∧ w ≠ "" := by
  have hn : ∀ n : Int, txI n ≠ ")" ∧ txI n ≠ "" := fun n => by
    obtain ⟨h1, h2⟩ := txI_wch n
    refine ⟨fun e => ?_, fun e => ?_⟩
    · rw [e] at h2
      exact absurd (h2 41 (by decide +kernel)) (by decide +kernel)
    · rw [e] at h1
      exact h1 (by decide +kernel)
  have hw : ∀ y : Str, word y → y ≠ ")" ∧ y ≠ "" := fun y hy => by
    obtain ⟨h1, h2⟩ := word_wch hy
    refine ⟨fun e => ?_, fun e => ?_⟩
    · rw [e] at h2
      exact absurd (h2 41 (by decide +kernel)) (by decide +kernel)
    · rw [e] at h1
      exact h1 (by decide +kernel)
  by_cases hl : x.isLeaf = true
  · cases x <;> try (cases hl; done)
    case num n => exact ⟨_, [], rfl, hn n⟩
    case name y => exact ⟨_, [], rfl, hw y h.1⟩
  · rw [tk_pts (by simpa using hl)]
    exact ⟨_, _, rfl, by decide +kernel, by decide +kernel⟩
/-- what the reading of an expression promises -/
def XOk (k n : Nat) : Prop := ∀ (x : Ex) (N : List Str) (A : Option Str) (S : Sto) (Q : D → Sto → Prop) (me wl : Nat) (L : List D) (en : Int) (a b : Nat) (ws rest : List Str), x.ok N A → x.dp ≤ n → b + x.dp ≤ 60 → RdS S me wl L en a b → PrL ws L → ws.drop a = x.tk ++ rest → Read S me wl L en (a + x.tk.length) b Q x.d → Wp ((cxt P k).meth 0 "expression" [.ref me] S) Q
section
variable {k n : Nat} {S : Sto} {Q : D → Sto → Prop} {me wl : Nat} {L : List D} {en : Int} {a b : Nat} {ws rest : List Str} {w : Str}
def tkN (ps : List Pt) : Nat := (ps.flatMap Pt.tk).length
theorem drop_more {l : List Str} {a : Nat} {u v : List Str} (h : l.drop a = u ++ v) : l.drop (a + u.length) = v := by
  rw [← List.drop_drop, h]
  simp
/-- the parts of do -/
def OInv (S : Sto) (me wl : Nat) (L : List D) (en : Int) (a b r : Nat) (x : Ex) (m : Nat) (e : En) (S' : Sto) : Prop := ∃ j : Nat, e = [some (.ref me), some (.str x.kd), some (.ref r), none, none] ∧ j + m = x.pts.length ∧ RdS S' me wl L en (a + tkN (x.pts.take j)) b ∧ Grow me S S' ∧ S'[r]? = some (.lst ((x.pts.take j).map Pt.d))
theorem get_split {α : Type} {l : List α} {j : Nat} {p : α} (h : l[j]? = some p) : l = l.take j ++ p :: l.drop (j + 1) := by
  obtain ⟨hl, e⟩ := List.getElem?_eq_some_iff.mp h
  conv => lhs; rw [← List.take_append_drop j l]
  congr 1
  rw [List.drop_eq_getElem_cons hl, e]
theorem tkN_take {ps : List Pt} {j : Nat} {p : Pt} (h : ps[j]? = some p) : tkN (ps.take (j + 1)) = tkN (ps.take j) + p.tk.length := by
  unfold tkN
  rw [take_at h]
  simp
/-- what is left to read at part j -/
theorem at_part {x : Ex} {j : Nat} {p : Pt} {rest : List Str} {a : Nat} (h : ws.drop a = x.pts.flatMap Pt.tk ++ rest) (hp : x.pts[j]? = some p) : ws.drop (a + tkN (x.pts.take j)) = p.tk ++ ((x.pts.drop (j + 1)).flatMap Pt.tk ++ rest) := by
  refine drop_more (u := (x.pts.take j).flatMap Pt.tk) ?_
  rw [h]
  conv => lhs; rw [get_split hp]
  simp
theorem at_end {x : Ex} {rest : List Str} {a : Nat} (h : ws.drop a = x.pts.flatMap Pt.tk ++ rest) : ws.drop (a + tkN x.pts) = rest := drop_more h
theorem pt_ex {x : Ex} (hd : x.isDo = true) {p : Pt} (hp : p ∈ x.pts) : ∃ y, p = .ex y := by
  cases x <;> first
    | (cases hd; done)
    | skip
  all_goals simp [Ex.pts] at hp
  · exact ⟨_, hp⟩
  · rcases hp with h | h <;> exact ⟨_, h⟩
theorem do_ok {x : Ex} {N : List Str} {A : Option Str} (E : XOk (k + 3) n) (hx : x.ok N A) (hdo : x.isDo = true) (hd : x.dp ≤ n + 1) (hb : b + x.dp ≤ 61) (h : RdS S me wl L en a b) (hp : PrL ws L) (hw : ws.drop a = x.pts.flatMap Pt.tk ++ (")" : Str) :: rest)
    (q : Read S me wl L en (a + tkN x.pts) b Q x.d) : Wp (evSs (cxt P (k + 3)) b_Reader_compound_1t [some (.ref me), some (.str x.kd), none, none, none] S) fun o S1 => ∃ v, o = .ret v ∧ Q v S1 := by
  unfold b_Reader_compound_1t
  refine wp_ss ?_
  simp
  unfold b_Reader_compound_1t_1
  refine wp_ss ?_
  simp only [s_whl]
  have hme : me < S.length := lt_of h.fm
  refine wp_whl (OInv S me wl L en a b S.length x) ?_ (m := x.pts.length) ⟨0, rfl, by omega, ⟨app_at h.fm, app_at h.fw⟩, .app, new_at⟩
  rintro m e S1 ⟨j, rfl, hj, h1, g1, hr⟩
  rw [t_and2, and_cons]
  simp only [tt_cmp, v_cmp, v_meth, v_var, List.getElem?_cons_zero, Option.bind_some, id_eq, optR_some, R.bind_ok, h1.meth (m := "word") (by simp), es_nil, wp_bind, v_str]
  have hne : S.length ≠ me := by omega
  by_cases hm : m = 0
  · have hjl : x.pts.take j = x.pts := List.take_of_length_le (by omega)
    rw [hjl] at h1 hr
    refine word_some h1 hp (at_end hw) ?_
    simp
    unfold b_Reader_compound_1t_2
    refine ret_wp ?_
    have ht : ∀ S2 : Sto, S2[S.length]? = some (.lst (x.pts.map Pt.d)) → bfD .tuple [.ref S.length] S2 = .ok (.tup (x.pts.map Pt.d)) S2 := fun S2 hS => by
      unfold bfD itemsD
      simp only [hS]
    simp [ht S1 hr]
    have := q S1 h1 g1
    rw [d_do hdo] at this
    exact this
  · obtain ⟨p, hpj⟩ : ∃ p, x.pts[j]? = some p := ⟨_, List.getElem?_eq_getElem (by omega)⟩
    have hmem := List.mem_of_getElem? hpj
    obtain ⟨y, rfl⟩ := pt_ex hdo hmem
    obtain ⟨g, ge⟩ := pt_ok hx _ hmem
    obtain ⟨N', A', hy⟩ := ge y rfl
    have hs := pt_sz hmem
    have hpart := at_part hw hpj
    obtain ⟨w, r, ew, n1, n2⟩ := tk_first y hy
    have hpart2 : ws.drop (a + tkN (x.pts.take j)) = w :: (r ++ ((x.pts.drop (j + 1)).flatMap Pt.tk ++ (")" : Str) :: rest)) := by
      rw [hpart]
      show y.tk ++ _ = _
      rw [ew]
      rfl
    refine word_some h1 hp hpart2 ?_
    simp [n1, h1.meth (m := "word") (by simp)]
    refine word_some h1 hp hpart2 ?_
    simp [n2]
    unfold b_Reader_compound_1t_1b
    refine wp_ss ?_
    simp [pre_lst2 hr (m := .append) (by simp), h1.meth (m := "expression") (by simp)]
    refine E y N' A' S1 _ me wl L en _ b ws _ hy (by omega) (by omega) h1 hp hpart fun S2 h2 g2 => ?_
    have hr2 := g2.at hr hne
    have hl4 := pts_len x
    try simp
    rw [append_lst hr2 (by simp; rw [sizeLine_eq]; omega)]
    simp
    refine ⟨m - 1, by omega, j + 1, rfl, by omega, ⟨?_, ?_⟩, ?_, ?_⟩
    · rw [List.getElem?_set_ne (by omega), tkN_take hpj, ← Nat.add_assoc]
      exact h2.fm
    · have : S.length ≠ wl := fun z => by
        have := h.fw
        rw [← z] at this
        have := lt_of this
        omega
      rw [List.getElem?_set_ne this]
      exact h2.fw
    · have g12 := g1.trans g2
      refine ⟨by simpa using g12.len, fun i hi hine => ?_⟩
      rw [List.getElem?_set_ne (by omega)]
      exact g12.same i hi hine
    · rw [List.getElem?_set_self (lt_of hr2), take_at hpj]
      simp [Pt.d]
end
end K02
set_option Elab.async false
set_option linter.all false
set_option maxRecDepth 100000
set_option maxHeartbeats 4000000
/-! K02f: the reading of an expression, whole. -/
namespace K02
open PySem L2 Mi
theorem in_shapes {x : Str} {k : Nat} {S : Sto} : cmpD (cxt P k).cds .In (.str x) (.cd 3) S = .ok (.bl (shapesL.lookup x).isSome) S :=
  cd_in (q := (("fn" : Str), .str "xe")) (l := shapesL.tail) (by rw [cxt_cds]; rfl)
def FInv (S : Sto) (me wl : Nat) (L : List D) (en : Int) (a b r : Nat) (x : Ex) (j : Nat) (e : En) (S' : Sto) : Prop := ∃ v4, e = [some (.ref me), some (.str x.kd), none, some (.ref r), v4] ∧ RdS S' me wl L en (a + tkN (x.pts.take j)) b ∧ Grow me S S' ∧ S'[r]? = some (.lst (.str x.kd :: (x.pts.take j).map Pt.d))
section
variable {k n : Nat} {S : Sto} {Q : D → Sto → Prop} {me wl : Nat} {L : List D} {en : Int} {a b : Nat} {ws rest : List Str} {w : Str}
theorem rest_ok {x : Ex} {N : List Str} {A : Option Str} (E : XOk (k + 3) n) (hx : x.ok N A) (hl : x.isLeaf = false) (hdo : x.isDo = false) (hd : x.dp ≤ n + 1) (hb : b + x.dp ≤ 61) (h : RdS S me wl L en a b) (hp : PrL ws L) (hw : ws.drop a = x.pts.flatMap Pt.tk ++ (")" : Str) :: rest)
    (q : Read S me wl L en (a + tkN x.pts) b Q x.d) : Wp (evSs (cxt P (k + 3)) b_Reader_compound_2 [some (.ref me), some (.str x.kd), none, none, none] S) fun o S1 => Wp (outV o S1) Q := by
  have hme : me < S.length := lt_of h.fm
  have hne : S.length ≠ me := by omega
  have hnw : S.length ≠ wl := fun z => by
    have := lt_of h.fw
    omega
  obtain ⟨z, hz1, hz2, hz3⟩ := shape_of hl hdo
  unfold b_Reader_compound_2
  refine wp_ss ?_
  simp
  unfold b_Reader_compound_3
  refine wp_ss ?_
  have hit : evI (cxt P (k + 3)) (.seq (.sub (.con "SHAPES") (.var 1))) [some (.ref me), some (.str x.kd), none, some (.ref S.length), none] (S ++ [.lst [.str x.kd]]) = .ok ⟨(x.pts.map Pt.sh).map fun c => D.str ⟨#[c]⟩, none⟩ (S ++ [.lst [.str x.kd]]) := by
    have hs : subD (cxt P (k + 3)).cds (.cd 3) (.str x.kd) (S ++ [.lst [.str x.kd]]) = .ok (.str z) (S ++ [.lst [.str x.kd]]) := cd_getP (l := shapesL) rfl hz1
    simp only [i_seq, v_sub, v_con, v_var, cxt_con, lc_shapes, optR_some, R.bind_ok, List.getElem?_cons_succ, List.getElem?_cons_zero, Option.bind_some, id_eq, hs]
    rw [seqIt_str (by rw [sizeLine_eq]; omega), hz2]
  rw [s_forE, hit, R.bind_ok]
  refine wp_for (it := ⟨(x.pts.map Pt.sh).map fun c => D.str ⟨#[c]⟩, none⟩) (FInv S me wl L en a b S.length x) (fun _ _ _ _ => rfl) ?_ ?_ ⟨none, rfl, ⟨app_at h.fm, app_at h.fw⟩, .app, by rw [new_at]; rfl⟩
  · rintro j d e S1 hi ⟨v4, rfl, h1, g1, hr⟩
    have hi : ((x.pts.map Pt.sh).map fun c => D.str ⟨#[c]⟩)[j]? = some d := hi
    rw [List.getElem?_map, List.getElem?_map] at hi
    cases hpj : x.pts[j]? with
    | none =>
      rw [hpj] at hi
      cases hi
    | some p =>
      rw [hpj] at hi
      cases hi
      refine ⟨_, rfl, ?_⟩
      have hmem := List.mem_of_getElem? hpj
      obtain ⟨g, ge⟩ := pt_ok hx _ hmem
      have hpart := at_part hw hpj
      have hl4 := pts_len x
      have fin : ∀ {v : Option D} (S2 : Sto), RdS S2 me wl L en (a + tkN (x.pts.take j) + p.tk.length) b → Grow me S1 S2 → Wp (bmD .append (.ref S.length) [p.d] S2) fun _ S' => FInv S me wl L en a b S.length x (j + 1) [some (.ref me), some (.str x.kd), none, some (.ref S.length), v] S' := fun {v} S2 h2 g2 => by
        have hr2 := g2.at hr hne
        rw [append_lst hr2 (by simp; rw [sizeLine_eq]; omega)]
        refine ⟨v, rfl, ⟨?_, ?_⟩, ?_, ?_⟩
        · rw [List.getElem?_set_ne (by omega), tkN_take hpj, ← Nat.add_assoc]
          exact h2.fm
        · rw [List.getElem?_set_ne hnw]
          exact h2.fw
        · have g12 := g1.trans g2
          refine ⟨by simpa using g12.len, fun i hi hine => ?_⟩
          rw [List.getElem?_set_ne (by omega)]
          exact g12.same i hi hine
        · rw [List.getElem?_set_self (lt_of hr2), take_at hpj]
          simp
      unfold b_Reader_compound_3b
      cases p with
      | ex y =>
        obtain ⟨N', A', hy⟩ := ge y rfl
        have hs := pt_sz hmem
        refine ig_yes (S' := S1) (by simp [Pt.sh, e_e]) ?_
        unfold b_Reader_compound_3b_0t
        refine wp_ss ?_
        simp [pre_lst2 hr (m := .append) (by simp), h1.meth (m := "expression") (by simp)]
        refine E y N' A' S1 _ me wl L en _ b ws _ hy (by omega) (by omega) h1 hp hpart fun S2 h2 g2 => ?_
        try simp
        exact fin S2 h2 g2
      | nm y =>
        refine ig_no (S' := S1) (by simp [Pt.sh, e_e, one_inj]) ?_
        unfold b_Reader_compound_3b_0e
        refine ig_yes (S' := S1) (by simp [Pt.sh, e_x]) ?_
        unfold b_Reader_compound_3b_0e_0t
        refine wp_ss ?_
        simp [pre_lst2 hr (m := .append) (by simp), h1.meth (m := "name") (by simp)]
        refine name_ok h1 hp hpart g fun S2 h2 g2 => ?_
        try simp
        exact fin S2 h2 g2
      | kn y =>
        refine ig_no (S' := S1) (by simp [Pt.sh, e_e, one_inj]) ?_
        unfold b_Reader_compound_3b_0e
        refine ig_no (S' := S1) (by simp [Pt.sh, e_x, one_inj]) ?_
        unfold b_Reader_compound_3b_0e_0e
        refine ig_yes (S' := S1) (by simp [Pt.sh, e_k]) ?_
        unfold b_Reader_compound_3b_0e_0e_0t
        refine wp_ss ?_
        simp [pre_lst2 hr (m := .append) (by simp), h1.meth (m := "take") (by simp), h1.meth (m := "word") (by simp)]
        refine word_some h1 hp hpart ?_
        have g : y ∈ kindsS := g
        simp [lc_kinds, in_tup_strs, g]
        refine take_ok h1 hp hpart fun S2 h2 g2 => ?_
        try simp
        exact fin S2 h2 g2
      | nu m =>
        refine ig_no (S' := S1) (by simp [Pt.sh, e_e, one_inj]) ?_
        unfold b_Reader_compound_3b_0e
        refine ig_no (S' := S1) (by simp [Pt.sh, e_x, one_inj]) ?_
        unfold b_Reader_compound_3b_0e_0e
        refine ig_no (S' := S1) (by simp [Pt.sh, e_k, one_inj]) ?_
        unfold b_Reader_compound_3b_0e_0e_0e
        refine wp_ss ?_
        simp [pre_lst2 hr (m := .append) (by simp), h1.meth (m := "number") (by simp)]
        refine number_ok h1 hp hpart g fun S2 h2 g2 => ?_
        try simp
        exact fin S2 h2 g2
  · rintro e S1 ⟨v4, rfl, h1, g1, hr⟩
    simp only [List.length_map, List.take_length] at h1 hr
    simp
    unfold b_Reader_compound_4
    refine ret_wp ?_
    have ht : bfD .tuple [.ref S.length] S1 = .ok (.tup (.str x.kd :: x.pts.map Pt.d)) S1 := by
      unfold bfD itemsD
      simp only [hr]
    simp [ht]
    have := q S1 h1 g1
    rw [d_pts hdo] at this
    exact this
theorem compound_ok {x : Ex} {N : List Str} {A : Option Str} (E : XOk (k + 3) n) (hx : x.ok N A) (hl : x.isLeaf = false) (hd : x.dp ≤ n + 1) (hb : b + x.dp ≤ 61) (h : RdS S me wl L en a b) (hp : PrL ws L) (hw : ws.drop a = x.kd :: (x.pts.flatMap Pt.tk ++ (")" : Str) :: rest))
    (q : Read S me wl L en (a + 1 + tkN x.pts) b Q x.d) : Wp ((cxt P (k + 4)).meth 0 "compound" [.ref me] S) Q := by
  rw [meth_fn (fn := fn_Reader_compound) (by kernel_rfl), run_fn2 rfl, wp_bind]
  unfold fn_Reader_compound
  show Wp (evSs (cxt P (k + 3)) b_Reader_compound [some (.ref me), none, none, none, none] S) _
  unfold b_Reader_compound
  refine wp_ss ?_
  have hw2 : ws.drop (a + 1) = x.pts.flatMap Pt.tk ++ (")" : Str) :: rest := drop_more (u := [x.kd]) hw
  simp [h.meth (m := "take") (by simp), h.meth (m := "word") (by simp)]
  refine word_some h hp hw ?_
  simp only [lc_shapes, optR_some, R.bind_ok, in_shapes, wp_ok]
  by_cases hdo : x.isDo = true
  · have hk := kd_do hdo
    have hno : (shapesL.lookup x.kd).isSome = false := by
      rw [hk]
      rfl
    rw [hno]
    simp [h.meth (m := "word") (by simp)]
    refine word_some h hp hw ?_
    simp only [eq_str, hk, decide_true, wp_ok]
    refine take_ok h hp hw fun S2 h2 g2 => ?_
    try simp
    unfold b_Reader_compound_1
    refine if_yes (S' := S2) (by simp [hk]) ?_
    have := do_ok (S := S2) (Q := Q) E hx hdo hd hb h2 hp hw2 fun S3 h3 g3 => q S3 h3 (g2.trans g3)
    refine this.mono fun o S3 h3 => ?_
    obtain ⟨v, rfl, h3⟩ := h3
    simpa using h3
  · have hdo : x.isDo = false := by simpa using hdo
    have hk := kd_nodo hdo
    obtain ⟨z, hz1, _⟩ := shape_of hl hdo
    have hyes : (shapesL.lookup x.kd).isSome = true := by
      rw [hz1]
      rfl
    rw [hyes]
    simp
    refine take_ok h hp hw fun S2 h2 g2 => ?_
    try simp
    unfold b_Reader_compound_1
    refine if_no (S' := S2) (by simp [hk]) ?_
    exact rest_ok E hx hl hdo hd hb h2 hp hw2 fun S3 h3 g3 => q S3 h3 (g2.trans g3)
theorem lp_no {n : Int} : txI n ≠ "(" := fun e => by
  have h2 := (txI_wch n).2
  rw [e] at h2
  exact absurd (h2 40 (by decide +kernel)) (by decide +kernel)
theorem lp_nw {x : Str} (h : word x) : x ≠ "(" := fun e => by
  have h2 := (word_wch h).2
  rw [e] at h2
  exact absurd (h2 40 (by decide +kernel)) (by decide +kernel)
theorem x_step (E : XOk (k + 3) n) : XOk (k + 5) (n + 1) := by
  intro x N A S Q me wl L en a b ws rest hx hd hb h hp hw q
  rw [meth_fn (fn := fn_Reader_expression) (by kernel_rfl), run_fn2 rfl, wp_bind]
  unfold fn_Reader_expression
  show Wp (evSs (cxt P (k + 4)) b_Reader_expression [some (.ref me), none, none] S) _
  unfold b_Reader_expression
  refine wp_ss ?_
  simp [h.meth (m := "word") (by simp)]
  by_cases hl : x.isLeaf = true
  · cases x <;> try (cases hl; done)
    case num m =>
      have hw1 : ws.drop a = txI m :: rest := hw
      have hlen := txI_len hx
      refine word_some h hp hw1 ?_
      try simp
      unfold b_Reader_expression_1
      refine if_yes (S' := S) (by simp [lp_no]) ?_
      unfold b_Reader_expression_1t
      refine wp_ss ?_
      simp
      refine is_number_ok (by omega) ?_
      rw [numB_txI hx]
      simp
      unfold b_Reader_expression_1t_0t
      refine ret_wp ?_
      simp [h.meth (m := "number") (by simp)]
      refine number_ok h hp hw1 hx fun S2 h2 g2 => ?_
      try simp
      exact q S2 h2 g2
    case name y =>
      have hw1 : ws.drop a = y :: rest := hw
      have hlen := hx.1.2.1
      refine word_some h hp hw1 ?_
      try simp
      unfold b_Reader_expression_1
      refine if_yes (S' := S) (by simp [lp_nw hx.1]) ?_
      unfold b_Reader_expression_1t
      refine wp_ss ?_
      simp
      refine is_number_ok (by omega) ?_
      rw [numB_word hx.1]
      simp
      unfold b_Reader_expression_1t_1
      refine ret_wp ?_
      simp [h.meth (m := "name") (by simp)]
      refine name_ok h hp hw1 hx.1 fun S2 h2 g2 => ?_
      try simp
      exact q S2 h2 g2
  · have hl : x.isLeaf = false := by simpa using hl
    have htk := tk_pts hl
    rw [htk] at hw
    have hw1 : ws.drop a = ("(" : Str) :: (x.kd :: (x.pts.flatMap Pt.tk ++ (")" : Str) :: rest)) := by
      rw [hw]
      simp
    have hdp : 1 ≤ x.dp := by cases x <;> simp [Ex.dp]
    refine word_some h hp hw1 ?_
    try simp
    unfold b_Reader_expression_1
    refine if_no (S' := S) (by simp) ?_
    unfold b_Reader_expression_2
    refine if_no (S' := S) (by
      simp [h.nested, lc_nested]
      omega) ?_
    unfold b_Reader_expression_3
    refine wp_ss ?_
    simp [h.nested, augD, h.incNest]
    have h2 := h.put (a' := a) (b' := b + 1)
    have g2 := Grow.set (ic := me) (S := S) (o := .ins 0 (rfs wl en a (b + 1)))
    generalize S.set me (O.ins 0 (rfs wl en a (b + 1))) = S2 at h2 g2 ⊢
    unfold b_Reader_expression_4
    refine wp_ss ?_
    simp [h2.at_, augD, h2.incAt]
    have h3 := h2.put (a' := a + 1) (b' := b + 1)
    have g3 := g2.trans (Grow.set (ic := me) (S := S2) (o := .ins 0 (rfs wl en (a + 1) (b + 1))))
    generalize S2.set me (O.ins 0 (rfs wl en (a + 1) (b + 1))) = S3 at h3 g3 ⊢
    unfold b_Reader_expression_5
    refine wp_ss ?_
    simp [h3.meth (m := "compound") (by simp)]
    have hw3 : ws.drop (a + 1) = x.kd :: (x.pts.flatMap Pt.tk ++ (")" : Str) :: rest) := drop_more (u := [("(" : Str)]) hw1
    refine compound_ok E hx hl hd (by omega) h3 hp hw3 fun S4 h4 g4 => ?_
    try simp
    unfold b_Reader_expression_6
    refine wp_ss ?_
    have hw4 : ws.drop (a + 1 + 1 + tkN x.pts) = (")" : Str) :: rest := at_end (drop_more (u := [x.kd]) hw3)
    simp [h4.meth (m := "take") (by simp), h4.meth (m := "word") (by simp)]
    refine word_some h4 hp hw4 ?_
    simp only [eq_str, decide_true, wp_ok]
    refine take_ok h4 hp hw4 fun S5 h5 g5 => ?_
    try simp
    unfold b_Reader_expression_7
    refine wp_ss ?_
    simp [h5.nested, augD, h5.setNested]
    unfold b_Reader_expression_8
    refine ret_wp ?_
    simp
    have hlen : a + x.tk.length = a + 1 + 1 + tkN x.pts + 1 := by
      rw [htk]
      simp [tkN]
      omega
    refine q _ ?_ (((g3.trans g4).trans g5).trans .set)
    rw [hlen]
    exact h5.put
theorem x_ok : ∀ (n k : Nat), XOk (k + 2 * n + 3) n
  | 0, k => fun x N A S Q me wl L en a b ws rest hx hd => by cases x <;> simp [Ex.dp] at hd
  | n + 1, k => x_step (k := k + 2 * n) (n := n) (x_ok n k)
end
end K02
set_option Elab.async false
set_option linter.all false
set_option maxRecDepth 100000
set_option maxHeartbeats 4000000
/-! K02t: short names. -/
namespace K02
open PySem L2 Mi
def sN (i : Nat) : Str := ("n" : Str) ++ txI (i : Int)
def tbF : Nat → List Str → List (Key × D)
  | _, [] => []
  | k, x :: T => (.inr x, .str (sN k)) :: tbF (k + 1) T
def tb (T : List Str) : List (Key × D) := tbF 0 T
theorem tbF_len : ∀ (k : Nat) (T : List Str), (tbF k T).length = T.length
  | _, [] => rfl
  | k, x :: T => by
    show (tbF (k + 1) T).length + 1 = _
    rw [tbF_len]
    rfl
theorem tbF_snoc (x : Str) : ∀ (k : Nat) (T : List Str), tbF k (T ++ [x]) = tbF k T ++ [(.inr x, .str (sN (k + T.length)))]
  | k, [] => rfl
  | k, y :: T => by
    show _ :: tbF (k + 1) (T ++ [x]) = _
    rw [tbF_snoc x (k + 1) T, show k + 1 + T.length = k + (y :: T).length by simp; omega]
    rfl
theorem key_eq {x y : Str} : ((Sum.inr y : Key) = Sum.inr x) = (y = x) := propext ⟨fun h => by injection h, fun h => h ▸ rfl⟩
theorem look_tbF (x : Str) : ∀ (k : Nat) (T : List Str), lookK (tbF k T) (.inr x : Key) = if x ∈ T then some (.str (sN (k + T.idxOf x))) else none
  | k, [] => rfl
  | k, y :: T => by
    have e : lookK (tbF k (y :: T)) (.inr x : Key) = if y = x then some (.str (sN k)) else lookK (tbF (k + 1) T) (.inr x : Key) := by
      show lookK ((.inr y, .str (sN k)) :: tbF (k + 1) T) (.inr x : Key) = _
      unfold lookK
      rw [List.find?_cons]
      by_cases h : y = x
      · subst h
        simp
      · have : decide ((Sum.inr y : Key) = Sum.inr x) = false := by simpa [key_eq] using h
        rw [this]
        simp [h]
    rw [e, look_tbF x (k + 1) T, List.idxOf_cons]
    by_cases h : y = x
    · subst h
      simp
    · have h2 : ¬ x = y := fun z => h z.symm
      have h3 : (y == x) = false := by simpa using h
      by_cases h4 : x ∈ T
      · simp [h, h2, h4, h3]
        congr 1
        omega
      · simp [h, h2, h4]
theorem any_tbF (x : Str) : ∀ (k : Nat) (T : List Str), x ∉ T → ((tbF k T).any fun kv => decide (kv.1 = (.inr x : Key))) = false
  | _, [], _ => rfl
  | k, y :: T, h => by
    have h1 : ¬ y = x := fun z => h (by simp [z])
    show (decide ((Sum.inr y : Key) = Sum.inr x) || _) = false
    rw [any_tbF x (k + 1) T fun z => h (by simp [z])]
    simpa [key_eq] using h1
/-- the short name for a name -/
def sh (T : List Str) (x : Str) : Str := sN (T.idxOf x)
def addN (T : List Str) (x : Str) : List Str := if x ∈ T then T else T ++ [x]
theorem addN_pre (T : List Str) (x : Str) : T <+: addN T x := by
  unfold addN
  split
  · exact List.prefix_refl _
  · exact List.prefix_append _ _
theorem addN_mem (T : List Str) (x : Str) : x ∈ addN T x := by
  unfold addN
  split
  · assumption
  · simp
theorem addN_len (T : List Str) (x : Str) : (addN T x).length ≤ T.length + 1 := by
  unfold addN
  split <;> simp
theorem sh_pre {T T' : List Str} {x : Str} (p : T <+: T') (hx : x ∈ T) : sh T' x = sh T x := by
  obtain ⟨r, rfl⟩ := p
  unfold sh
  rw [List.idxOf_append, if_pos hx]
section
variable {k : Nat} {S : Sto} {Q : D → Sto → Prop} {t : Nat} {T : List Str}
theorem sN_add (T : List Str) {S : Sto} (h : T.length ≤ 1000) : binD .Add (.str ("n" : Str)) (.str (txI (T.length : Int))) S = .ok (.str (sN T.length)) S := by
  have h1 : ((("n" : Str)).length + (txI (T.length : Int)).length ≤ sizeLine) := by
    have := txI_len (n := (T.length : Int)) ⟨by omega, by omega⟩
    have h2 : (("n" : Str)).length = 1 := by decide +kernel
    rw [sizeLine_eq]
    omega
  rw [add_str, if_pos h1]
  rfl
theorem get_tb {x : Str} (h : S[t]? = some (.dK (tb T))) (hx : x ∈ T) {cds : Nat → List (Str × D)} : subD cds (.ref t) (.str x) S = .ok (.str (sh T x)) S := by
  have hl : lookK (tb T) (.inr x : Key) = some (.str (sh T x)) := by
    have := look_tbF x 0 T
    rw [if_pos hx, Nat.zero_add] at this
    exact this
  unfold subD dget keyD
  simp only [h, Option.map_some, hl]
theorem notin_tb {x : Str} (h : S[t]? = some (.dK (tb T))) {cds : Nat → List (Str × D)} : cmpD cds .NotIn (.str x) (.ref t) S = .ok (.bl (decide (x ∉ T))) S := by
  show inD cds true (.str x) (.ref t) S = _
  have hl := look_tbF x 0 T
  unfold inD dget keyD
  simp only [h, Option.map_some]
  show R.ok (D.bl (!(lookK (tbF 0 T) (.inr x : Key)).isSome)) S = _
  rw [hl]
  by_cases hx : x ∈ T <;> simp [hx]
theorem short_ok {x : Str} (h : S[t]? = some (.dK (tb T))) (hT : T.length ≤ 1000) (q : ∀ S', Grow t S S' → S'[t]? = some (.dK (tb (addN T x))) → Q (.str (sh (addN T x) x)) S') : Wp ((cxt P (k + 1)).call "short" [.ref t, .str x] S) Q := by
  rw [call_fn (fn := fn_short) (by kernel_rfl), run_fn2 rfl, wp_bind]
  unfold fn_short
  show Wp (evSs (cxt P k) b_short [some (.ref t), some (.str x)] S) _
  have fin : ∀ S2, Grow t S S2 → S2[t]? = some (.dK (tb (addN T x))) → Wp (evSs (cxt P k) b_short_1 [some (.ref t), some (.str x)] S2) fun o S1 => Wp (outV o S1) Q := fun S2 g2 h2 => by
    unfold b_short_1
    refine ret_wp ?_
    simp [get_tb h2 (addN_mem T x)]
    exact q S2 g2 h2
  unfold b_short
  by_cases hx : x ∈ T
  · refine if_no (S' := S) (by simp [notin_tb h, hx]) ?_
    exact fin S .refl (by unfold addN; rw [if_pos hx]; exact h)
  · refine if_yes (S' := S) (by simp [notin_tb h, hx]) ?_
    unfold b_short_0t
    refine wp_ss ?_
    have hlen : bfD .len [.ref t] S = .ok (.int (T.length : Int)) S := by
      unfold bfD
      simp only [h]
      show R.ok (D.int ((tbF 0 T).length : Int)) S = _
      rw [tbF_len]
    have hset : setD (.ref t) (.str x) (.str (sN T.length)) S = .ok () (S.set t (.dK (tb (addN T x)))) := by
      have e : putKD (tb T) (.inr x : Key) (.str (sN T.length)) = tb (addN T x) := by
        unfold putKD addN
        rw [if_neg hx]
        have := any_tbF x 0 T hx
        show (if ((tbF 0 T).any fun kv => decide (kv.1 = (.inr x : Key))) = true then _ else _) = _
        rw [this, if_neg Bool.false_ne_true]
        show tbF 0 T ++ _ = tbF 0 (T ++ [x])
        rw [tbF_snoc, Nat.zero_add]
      unfold setD keyD
      simp only [h]
      rw [if_pos (by show (tbF 0 T).length < _; rw [tbF_len, sizeLine_eq]; omega), e]
    simp [hlen, str_int (n := (T.length : Int)) ⟨by omega, by omega⟩, sN_add T hT, hset]
    exact fin _ .set (by rw [List.getElem?_set_self (lt_of h)])
end
/-! ### the expression with short names -/
def _root_.Mi.Ex.ren (T : List Str) : Ex → Ex
  | .num _ => .num 0
  | .name x => .name (sh T x)
  | .fn x b => .fn (sh T x) (b.ren T)
  | .call a b => .call (a.ren T) (b.ren T)
  | .sum a b => .sum (a.ren T) (b.ren T)
  | .less a b => .less (a.ren T) (b.ren T)
  | .ite a b c => .ite (a.ren T) (b.ren T) (c.ren T)
  | .let_ x a b => .let_ (sh T x) (a.ren T) (b.ren T)
  | .say a => .say (a.ren T)
  | .rule k a b => .rule k (a.ren T) (b.ren T)
  | .keep k a => .keep k (a.ren T)
  | .part i => .part i
  | .with_ a => .with_ (a.ren T)
  | .usual => .usual
  | .do1 a => .do1 (a.ren T)
  | .do2 a b => .do2 (a.ren T) (b.ren T)
def _root_.Mi.Pt.ren (T : List Str) : Pt → Pt
  | .ex x => .ex (x.ren T)
  | .nm x => .nm (sh T x)
  | .kn x => .kn x
  | .nu n => .nu n
def _root_.Mi.Ex.nms : Ex → List Str
  | .num _ => []
  | .name x => [x]
  | .fn x b => x :: b.nms
  | .call a b => a.nms ++ b.nms
  | .sum a b => a.nms ++ b.nms
  | .less a b => a.nms ++ b.nms
  | .ite a b c => a.nms ++ (b.nms ++ c.nms)
  | .let_ x a b => x :: (a.nms ++ b.nms)
  | .say a => a.nms
  | .rule _ a b => a.nms ++ b.nms
  | .keep _ a => a.nms
  | .part _ => []
  | .with_ a => a.nms
  | .usual => []
  | .do1 a => a.nms
  | .do2 a b => a.nms ++ b.nms
def _root_.Mi.Pt.nms : Pt → List Str
  | .ex x => x.nms
  | .nm x => [x]
  | _ => []
theorem nms_pts {x : Ex} {y : Str} (h : y ∈ x.nms) : ∃ p ∈ x.pts, y ∈ p.nms := by
  cases x <;> simp [Ex.nms, Ex.pts, Pt.nms] at h ⊢ <;> first
    | exact h
    | (rcases h with h | h <;> simp [h])
    | (rcases h with h | h | h <;> simp [h])
theorem ren_pre {T T' : List Str} (p : T <+: T') : ∀ x : Ex, (∀ y ∈ x.nms, y ∈ T) → x.ren T' = x.ren T
  | .num _, _ => rfl
  | .name x, h => by simp only [Ex.ren, sh_pre p (h x (by simp [Ex.nms]))]
  | .fn x b, h => by simp only [Ex.ren, sh_pre p (h x (by simp [Ex.nms])), ren_pre p b fun y hy => h y (by simp [Ex.nms, hy])]
  | .call a b, h => by simp only [Ex.ren, ren_pre p a fun y hy => h y (by simp [Ex.nms, hy]), ren_pre p b fun y hy => h y (by simp [Ex.nms, hy])]
  | .sum a b, h => by simp only [Ex.ren, ren_pre p a fun y hy => h y (by simp [Ex.nms, hy]), ren_pre p b fun y hy => h y (by simp [Ex.nms, hy])]
  | .less a b, h => by simp only [Ex.ren, ren_pre p a fun y hy => h y (by simp [Ex.nms, hy]), ren_pre p b fun y hy => h y (by simp [Ex.nms, hy])]
  | .ite a b c, h => by simp only [Ex.ren, ren_pre p a fun y hy => h y (by simp [Ex.nms, hy]), ren_pre p b fun y hy => h y (by simp [Ex.nms, hy]), ren_pre p c fun y hy => h y (by simp [Ex.nms, hy])]
  | .let_ x a b, h => by simp only [Ex.ren, sh_pre p (h x (by simp [Ex.nms])), ren_pre p a fun y hy => h y (by simp [Ex.nms, hy]), ren_pre p b fun y hy => h y (by simp [Ex.nms, hy])]
  | .say a, h => by simp only [Ex.ren, ren_pre p a fun y hy => h y (by simp [Ex.nms, hy])]
  | .rule k a b, h => by simp only [Ex.ren, ren_pre p a fun y hy => h y (by simp [Ex.nms, hy]), ren_pre p b fun y hy => h y (by simp [Ex.nms, hy])]
  | .keep k a, h => by simp only [Ex.ren, ren_pre p a fun y hy => h y (by simp [Ex.nms, hy])]
  | .part i, _ => rfl
  | .with_ a, h => by simp only [Ex.ren, ren_pre p a fun y hy => h y (by simp [Ex.nms, hy])]
  | .usual, _ => rfl
  | .do1 a, h => by simp only [Ex.ren, ren_pre p a fun y hy => h y (by simp [Ex.nms, hy])]
  | .do2 a b, h => by simp only [Ex.ren, ren_pre p a fun y hy => h y (by simp [Ex.nms, hy]), ren_pre p b fun y hy => h y (by simp [Ex.nms, hy])]
theorem pren_pre {T T' : List Str} (p : T <+: T') (q : Pt) (h : ∀ y ∈ q.nms, y ∈ T) : q.ren T' = q.ren T := by
  cases q with
  | ex x => simp only [Pt.ren, ren_pre p x h]
  | nm x => simp only [Pt.ren, sh_pre p (h x (by simp [Pt.nms]))]
  | kn x => rfl
  | nu n => rfl
theorem ren_pts {x : Ex} {T : List Str} (h : x.isLeaf = false) : (x.ren T).pts = x.pts.map (Pt.ren T) ∧ (x.ren T).kd = x.kd ∧ (x.ren T).isDo = x.isDo := by
  cases x <;> first
    | (cases h; done)
    | exact ⟨rfl, rfl, rfl⟩
theorem word_sN : ∀ i, i < 200 → wordB (sN i) = true := by decide +kernel
theorem sh_word {T : List Str} (hT : T.length < 199) (x : Str) : word (sh T x) := wordB_iff.mp (word_sN _ (by
  have := List.idxOf_le_length (a := x) (l := T)
  omega))
theorem ok_ren {T : List Str} (hT : T.length < 199) : ∀ (x : Ex) {N : List Str} {A : Option Str}, x.ok N A → (x.ren T).ok (N.map (sh T)) A
  | .num _, _, _, _ => ⟨by omega, by omega⟩
  | .name x, _, _, h => ⟨sh_word hT x, List.mem_map_of_mem h.2⟩
  | .fn x b, N, _, h => ⟨sh_word hT x, by
      have := ok_ren hT b h.2
      simpa using this⟩
  | .call a b, _, _, h => ⟨ok_ren hT a h.1, ok_ren hT b h.2⟩
  | .sum a b, _, _, h => ⟨ok_ren hT a h.1, ok_ren hT b h.2⟩
  | .less a b, _, _, h => ⟨ok_ren hT a h.1, ok_ren hT b h.2⟩
  | .ite a b c, _, _, h => ⟨ok_ren hT a h.1, ok_ren hT b h.2.1, ok_ren hT c h.2.2⟩
  | .let_ x a b, _, _, h => ⟨sh_word hT x, ok_ren hT a h.2.1, by
      have := ok_ren hT b h.2.2
      simpa using this⟩
  | .say a, _, _, h => ok_ren hT a (show a.ok _ _ from h)
  | .rule k a b, _, _, h => ⟨h.1, ok_ren hT a h.2.1, ok_ren hT b h.2.2⟩
  | .keep k a, _, _, h => ⟨h.1, ok_ren hT a h.2⟩
  | .part i, _, _, h => h
  | .with_ a, _, _, h => ⟨h.1, ok_ren hT a h.2⟩
  | .usual, _, _, h => h
  | .do1 a, _, _, h => ⟨h.1, ok_ren hT a h.2⟩
  | .do2 a b, _, _, h => ⟨h.1, ok_ren hT a h.2.1, ok_ren hT b h.2.2⟩
theorem ren_sz (T : List Str) : ∀ x : Ex, (x.ren T).sz = x.sz ∧ (x.ren T).dp = x.dp
  | .num _ => ⟨rfl, rfl⟩
  | .name _ => ⟨rfl, rfl⟩
  | .fn x b => by have := ren_sz T b; simp [Ex.ren, Ex.sz, Ex.dp, this]
  | .call a b => by have := ren_sz T a; have := ren_sz T b; simp [Ex.ren, Ex.sz, Ex.dp, *]
  | .sum a b => by have := ren_sz T a; have := ren_sz T b; simp [Ex.ren, Ex.sz, Ex.dp, *]
  | .less a b => by have := ren_sz T a; have := ren_sz T b; simp [Ex.ren, Ex.sz, Ex.dp, *]
  | .ite a b c => by have := ren_sz T a; have := ren_sz T b; have := ren_sz T c; simp [Ex.ren, Ex.sz, Ex.dp, *]
  | .let_ x a b => by have := ren_sz T a; have := ren_sz T b; simp [Ex.ren, Ex.sz, Ex.dp, *]
  | .say a => by have := ren_sz T a; simp [Ex.ren, Ex.sz, Ex.dp, this]
  | .rule _ a b => by have := ren_sz T a; have := ren_sz T b; simp [Ex.ren, Ex.sz, Ex.dp, *]
  | .keep _ a => by have := ren_sz T a; simp [Ex.ren, Ex.sz, Ex.dp, this]
  | .part _ => ⟨rfl, rfl⟩
  | .with_ a => by have := ren_sz T a; simp [Ex.ren, Ex.sz, Ex.dp, this]
  | .usual => ⟨rfl, rfl⟩
  | .do1 a => by have := ren_sz T a; simp [Ex.ren, Ex.sz, Ex.dp, this]
  | .do2 a b => by have := ren_sz T a; have := ren_sz T b; simp [Ex.ren, Ex.sz, Ex.dp, *]
end K02
set_option Elab.async false
set_option linter.all false
set_option maxRecDepth 100000
set_option maxHeartbeats 4000000
/-! K02u: tame. -/
namespace K02
open PySem L2 Mi
def _root_.Mi.Pt.w : Pt → Nat
  | .ex x => x.sz
  | .nm _ => 1
  | _ => 0
def sumW : List Pt → Nat
  | [] => 0
  | p :: ps => p.w + sumW ps
theorem sumW_app : ∀ a b : List Pt, sumW (a ++ b) = sumW a + sumW b
  | [], b => by simp [sumW]
  | p :: a, b => by
    have := sumW_app a b
    simp only [List.cons_append, sumW]
    omega
theorem pts_w (x : Ex) : sumW x.pts ≤ x.sz := by
  cases x <;> simp only [Ex.pts, sumW, Pt.w, Ex.sz] <;> omega
theorem sumW_take {ps : List Pt} {j : Nat} {p : Pt} (h : ps[j]? = some p) : sumW (ps.take (j + 1)) = sumW (ps.take j) + p.w := by
  rw [take_at h, sumW_app]
  simp [sumW]
theorem sumW_le {ps : List Pt} {j : Nat} {p : Pt} (h : ps[j]? = some p) : sumW (ps.take j) + p.w ≤ sumW ps := by
  conv => rhs; rw [get_split h, sumW_app]
  simp only [sumW]
  omega
/-- what tame promises -/
def TmOk (k n : Nat) : Prop := ∀ (x : Ex) (N : List Str) (A : Option Str) (S : Sto) (Q : D → Sto → Prop) (t : Nat) (T : List Str), x.ok N A → x.dp ≤ n → x.sz + T.length ≤ 1000 → S[t]? = some (.dK (tb T)) →
  (∀ S' T', Grow t S S' → S'[t]? = some (.dK (tb T')) → T <+: T' → T'.length ≤ T.length + x.sz → (∀ y ∈ x.nms, y ∈ T') → Q (x.ren T').d S') → Wp ((cxt P k).call "tame" [x.d, .ref t] S) Q
/-- the parts so far -/
structure PtI (S : Sto) (t : Nat) (T : List Str) (hd : List D) (ps : List Pt) (r j : Nat) (S' : Sto) (T' : List Str) : Prop where
  pre : T <+: T'
  g : Grow t S S'
  tbl : S'[t]? = some (.dK (tb T'))
  len : T'.length ≤ T.length + sumW (ps.take j)
  nms : ∀ p ∈ ps.take j, ∀ y ∈ p.nms, y ∈ T'
  lst : S'[r]? = some (.lst (hd ++ (ps.take j).map fun p => (p.ren T').d))
theorem grow_tail {ic r : Nat} {S S1 : Sto} {o : O} (g : Grow ic S S1) (h : S.length ≤ r) : Grow ic S (S1.set r o) := ⟨by simpa using g.len, fun i hi hne => by
  rw [List.getElem?_set_ne (by omega)]
  exact g.same i hi hne⟩
/-- a part more -/
theorem PtI.more {S S1 S2 : Sto} {t r j : Nat} {T T1 T2 : List Str} {hd : List D} {ps : List Pt} {p : Pt} (I : PtI S t T hd ps r j S1 T1) (hp : ps[j]? = some p) (hr : S.length ≤ r) (ht : t < S.length) (g : Grow t S1 S2) (h2 : S2[t]? = some (.dK (tb T2))) (p2 : T1 <+: T2)
    (hl : T2.length ≤ T1.length + p.w) (hn : ∀ y ∈ p.nms, y ∈ T2) (hz : hd.length + ps.length ≤ 1000) : S2[r]? = some (.lst (hd ++ (ps.take j).map fun p => (p.ren T1).d)) ∧ (hd ++ (ps.take j).map fun p => (p.ren T1).d).length < sizeLine ∧
    PtI S t T hd ps r (j + 1) (S2.set r (.lst ((hd ++ (ps.take j).map fun p => (p.ren T1).d) ++ [(p.ren T2).d]))) T2 := by
  have hne : r ≠ t := by omega
  have hr2 := g.at I.lst hne
  refine ⟨hr2, by simp; rw [sizeLine_eq]; omega, I.pre.trans p2, grow_tail (I.g.trans g) hr, ?_, ?_, ?_, ?_⟩
  · rw [List.getElem?_set_ne hne]
    exact h2
  · rw [sumW_take hp]
    have := I.len
    omega
  · intro q hq y hy
    rw [take_at hp] at hq
    rcases List.mem_append.mp hq with hq | hq
    · obtain ⟨R, e⟩ := p2
      rw [← e]
      exact List.mem_append_left _ (I.nms q hq y hy)
    · rcases List.mem_singleton.mp hq with rfl
      exact hn y hy
  · rw [List.getElem?_set_self (lt_of hr2), take_at hp, List.map_append, List.append_assoc]
    have e : ((ps.take j).map fun p => (p.ren T1).d) = (ps.take j).map fun p => (p.ren T2).d := List.map_congr_left fun q hq => by rw [pren_pre p2 q (I.nms q hq)]
    rw [e]
    rfl
theorem d1_leaf {m : Int} : True := trivial
theorem nm_at0 {x : Ex} (hl : x.isLeaf = false) {j : Nat} {p : Pt} (hp : x.pts[j]? = some p) : (∀ y, p = .nm y → (x.kd = "fn" ∨ x.kd = "let") ∧ j = 0) ∧ ((∃ y, p = .kn y) ∨ (∃ m, p = .nu m) → ¬ (x.kd = "fn" ∨ x.kd = "let")) := by
  cases x <;> first
    | (cases hl; done)
    | skip
  all_goals
    rcases j with _ | _ | _ | _ | j <;> simp [Ex.pts] at hp <;> (try subst hp) <;> simp [Ex.kd]
def LInv (S : Sto) (t : Nat) (T : List Str) (x : Ex) (i : Nat) (e : En) (S' : Sto) : Prop := ∃ v3 v5 T', e = [some x.d, some (.ref t), some (.str x.kd), v3, some (.ref S.length), v5] ∧ PtI S t T [.str x.kd] x.pts S.length i S' T'
theorem tame_step {k n : Nat} (E : TmOk (k + 2) n) : TmOk (k + 3) (n + 1) := by
  intro x N A S Q t T hx hd hz ht q
  have htl : t < S.length := lt_of ht
  rw [call_fn (fn := fn_tame) (by kernel_rfl), run_fn2 rfl, wp_bind]
  unfold fn_tame
  show Wp (evSs (cxt P (k + 2)) b_tame [some x.d, some (.ref t), none, none, none, none] S) _
  unfold b_tame
  refine wp_ss ?_
  simp [d0]
  by_cases hl : x.isLeaf = true
  · cases x <;> try (cases hl; done)
    case num m =>
      unfold b_tame_1
      refine if_yes (S' := S) (by simp [Ex.kd]) ?_
      unfold b_tame_1t
      refine ret_wp ?_
      simp
      exact q S T .refl ht (List.prefix_refl _) (by omega) fun y hy => by simp [Ex.nms] at hy
    case name y =>
      unfold b_tame_1
      refine if_no (S' := S) (by simp [Ex.kd]) ?_
      unfold b_tame_2
      refine if_yes (S' := S) (by simp [Ex.kd]) ?_
      unfold b_tame_2t
      refine ret_wp ?_
      simp [Ex.d]
      refine short_ok (k := k + 1) ht (by omega) fun S2 g2 h2 => ?_
      try simp
      exact q S2 (addN T y) g2 h2 (addN_pre _ _) (addN_len _ _) fun z hz => by
        have : z = y := by simpa [Ex.nms] using hz
        subst this
        exact addN_mem _ _
  · have hl : x.isLeaf = false := by simpa using hl
    have hk := kd_leaf hl
    have hsz := pts_w x
    have hp4 := pts_len x
    unfold b_tame_1
    refine if_no (S' := S) (by simp [hk.1]) ?_
    unfold b_tame_2
    refine if_no (S' := S) (by simp [hk.2]) ?_
    have done : ∀ {S2 : Sto} {T2 : List Str} {hd : List D}, PtI S t T hd x.pts S.length x.pts.length S2 T2 → (∀ y ∈ x.nms, y ∈ T2) ∧ T2.length ≤ T.length + x.sz := fun {S2 T2 hd} I => by
      have h1 := I.nms
      have h2 := I.len
      rw [List.take_length] at h1 h2
      refine ⟨fun y hy => ?_, by omega⟩
      obtain ⟨p, hp, hy⟩ := nms_pts hy
      exact h1 p hp y hy
    by_cases hdo : x.isDo = true
    · unfold b_tame_3
      refine if_yes (S' := S) (by simp [kd_do hdo]) ?_
      unfold b_tame_3t
      refine ret_wp ?_
      have hx1 : ∀ cds, subD cds x.d (.int 1) S = .ok (.tup (x.pts.map Pt.d)) S := fun cds => by
        rw [d_do hdo]
        rfl
      simp [hx1, -List.append_assoc, -List.length_append]
      refine wp_lc (it := ⟨x.pts.map Pt.d, none⟩) (fun j S' => ∃ T', PtI S t T [] x.pts S.length j S' T') (fun _ _ _ => rfl) ?_ ?_ ⟨T, List.prefix_refl _, .app, app_at ht, by simp [sumW], by simp, by rw [new_at]; rfl⟩
      · rintro j d S1 hi ⟨T1, I⟩
        have hi : (x.pts.map Pt.d)[j]? = some d := hi
        rw [List.getElem?_map] at hi
        cases hpj : x.pts[j]? with
        | none =>
          rw [hpj] at hi
          cases hi
        | some p =>
          rw [hpj] at hi
          cases hi
          have hmem := List.mem_of_getElem? hpj
          obtain ⟨y, rfl⟩ := pt_ex hdo hmem
          obtain ⟨g, ge⟩ := pt_ok hx _ hmem
          obtain ⟨N', A', hy⟩ := ge y rfl
          have hs := pt_sz hmem
          have hwl := sumW_le hpj
          have hI := I.len
          unfold lcB
          simp [wipeE, isNop, Pt.d]
          refine E y N' A' S1 _ t T1 hy (by omega) (by
            have : Pt.w (.ex y) = y.sz := rfl
            omega) I.tbl fun S2 T2 g2 h2 p2 l2 n2 => ?_
          try simp
          obtain ⟨r1, r2, r3⟩ := I.more hpj (Nat.le_refl _) htl g2 h2 p2 l2 n2 (by simp; omega)
          exact ⟨_, r1, r2, T2, r3⟩
      · rintro S1 ⟨T1, I⟩
        have I : PtI S t T [] x.pts S.length x.pts.length S1 T1 := by simpa using I
        obtain ⟨a1, a2⟩ := done I
        have hr := I.lst
        rw [List.take_length] at hr
        have htp : bfD .tuple [.ref S.length] S1 = .ok (.tup (x.pts.map fun p => (p.ren T1).d)) S1 := by
          unfold bfD itemsD
          simp only [hr]
          rfl
        simp [htp]
        have := q S1 T1 I.g I.tbl I.pre a2 a1
        obtain ⟨e1, e2, e3⟩ := ren_pts (T := T1) hl
        rw [d_do (by rw [e3]; exact hdo), e1, List.map_map] at this
        exact this
    · have hdo : x.isDo = false := by simpa using hdo
      have hnd := kd_nodo hdo
      unfold b_tame_3
      refine if_no (S' := S) (by simp [hnd]) ?_
      unfold b_tame_4
      refine wp_ss ?_
      simp
      unfold b_tame_5
      refine wp_ss ?_
      have hit : evI (cxt P (k + 2)) (.enum (.slc (.var 0) (.int 1) .nop)) [some x.d, some (.ref t), some (.str x.kd), none, some (.ref S.length), none] (S ++ [.lst [.str x.kd]]) = .ok ⟨(x.pts.map Pt.d).zipIdx.map fun p => D.tup [.int (p.2 : Nat), p.1], none⟩ (S ++ [.lst [.str x.kd]]) := by
        rw [d_pts hdo]
        simp [slc_tup, cut_one, enumIt]
      rw [s_forE, hit, R.bind_ok]
      refine wp_for (it := ⟨(x.pts.map Pt.d).zipIdx.map fun p => D.tup [.int (p.2 : Nat), p.1], none⟩) (LInv S t T x) (fun _ _ _ _ => rfl) ?_ ?_ ⟨none, none, T, rfl, List.prefix_refl _, .app, app_at ht, by simp [sumW], by simp, by rw [new_at]⟩
      · rintro j d e S1 hi ⟨v3, v5, T1, rfl, I⟩
        have hi : ((x.pts.map Pt.d).zipIdx.map fun p => D.tup [.int (p.2 : Nat), p.1])[j]? = some d := hi
        rw [List.getElem?_map, List.getElem?_zipIdx, List.getElem?_map] at hi
        cases hpj : x.pts[j]? with
        | none =>
          rw [hpj] at hi
          cases hi
        | some p =>
          rw [hpj] at hi
          have hi : some (D.tup [.int ((0 + j : Nat) : Int), p.d]) = some d := hi
          rw [Nat.zero_add] at hi
          cases hi
          refine ⟨[some x.d, some (.ref t), some (.str x.kd), some p.d, some (.ref S.length), some (.int (j : Int))], rfl, ?_⟩
          have hmem := List.mem_of_getElem? hpj
          obtain ⟨g, ge⟩ := pt_ok hx _ hmem
          have hwl := sumW_le hpj
          have hI := I.len
          obtain ⟨m1, m2⟩ := nm_at0 hl hpj
          have fin : ∀ (S2 : Sto) (T2 : List Str), Grow t S1 S2 → S2[t]? = some (.dK (tb T2)) → T1 <+: T2 → T2.length ≤ T1.length + p.w → (∀ y ∈ p.nms, y ∈ T2) → Wp (bmD .append (.ref S.length) [(p.ren T2).d] S2) fun _ S' => LInv S t T x (j + 1) [some x.d, some (.ref t), some (.str x.kd), some p.d, some (.ref S.length), some (.int (j : Int))] S' := fun S2 T2 g2 h2 p2 l2 n2 => by
            obtain ⟨r1, r2, r3⟩ := I.more hpj (Nat.le_refl _) htl g2 h2 p2 l2 n2 (by simp; omega)
            rw [append_lst r1 r2]
            exact ⟨_, _, T2, rfl, r3⟩
          unfold b_tame_5b
          cases p with
          | ex y =>
            obtain ⟨N', A', hy⟩ := ge y rfl
            have hs := pt_sz hmem
            refine ig_yes (S' := S1) (by simp [Pt.d, isi_d]) ?_
            unfold b_tame_5b_0t
            refine wp_ss ?_
            simp [pre_lst2 I.lst (m := .append) (by simp), Pt.d]
            refine E y N' A' S1 _ t T1 hy (by omega) (by
              have : Pt.w (.ex y) = y.sz := rfl
              omega) I.tbl fun S2 T2 g2 h2 p2 l2 n2 => ?_
            try simp
            exact fin S2 T2 g2 h2 p2 l2 n2
          | nm y =>
            obtain ⟨hk2, hj0⟩ := m1 y rfl
            refine ig_no (S' := S1) (by simp [Pt.d, isiD]) ?_
            unfold b_tame_5b_0e
            refine ig_yes (S' := S1) (by
              rcases hk2 with e | e <;> simp [cmp_in_tup, flat_str, eqF_str, e, hj0]) ?_
            unfold b_tame_5b_0e_0t
            refine wp_ss ?_
            simp [pre_lst2 I.lst (m := .append) (by simp), Pt.d]
            refine short_ok (k := k + 1) I.tbl (by omega) fun S2 g2 h2 => ?_
            try simp
            exact fin S2 (addN T1 y) g2 h2 (addN_pre _ _) (addN_len _ _) fun z hz => by
              have : z = y := by simpa [Pt.nms] using hz
              subst this
              exact addN_mem _ _
          | kn y =>
            have hk2 := m2 (.inl ⟨y, rfl⟩)
            rw [not_or] at hk2
            refine ig_no (S' := S1) (by simp [Pt.d, isiD]) ?_
            unfold b_tame_5b_0e
            refine ig_no (S' := S1) (by simp [cmp_in_tup, flat_str, eqF_str, hk2.1, hk2.2]) ?_
            unfold b_tame_5b_0e_0e
            refine wp_ss ?_
            simp [pre_lst2 I.lst (m := .append) (by simp), Pt.d]
            exact fin S1 T1 .refl I.tbl (List.prefix_refl _) (by omega) fun z hz => by simp [Pt.nms] at hz
          | nu m =>
            have hk2 := m2 (.inr ⟨m, rfl⟩)
            rw [not_or] at hk2
            refine ig_no (S' := S1) (by simp [Pt.d, isiD]) ?_
            unfold b_tame_5b_0e
            refine ig_no (S' := S1) (by simp [cmp_in_tup, flat_str, eqF_str, hk2.1, hk2.2]) ?_
            unfold b_tame_5b_0e_0e
            refine wp_ss ?_
            simp [pre_lst2 I.lst (m := .append) (by simp), Pt.d]
            exact fin S1 T1 .refl I.tbl (List.prefix_refl _) (by omega) fun z hz => by simp [Pt.nms] at hz
      · rintro e S1 ⟨v3, v5, T1, rfl, I⟩
        have I : PtI S t T [.str x.kd] x.pts S.length x.pts.length S1 T1 := by simpa using I
        obtain ⟨a1, a2⟩ := done I
        have hr := I.lst
        rw [List.take_length] at hr
        simp
        unfold b_tame_6
        refine ret_wp ?_
        have htp : bfD .tuple [.ref S.length] S1 = .ok (.tup (.str x.kd :: x.pts.map fun p => (p.ren T1).d)) S1 := by
          unfold bfD itemsD
          simp only [hr]
          rfl
        simp [htp]
        have := q S1 T1 I.g I.tbl I.pre a2 a1
        obtain ⟨e1, e2, e3⟩ := ren_pts (T := T1) hl
        rw [d_pts (by rw [e3]; exact hdo), e1, e2, List.map_map] at this
        exact this
theorem tame_ok : ∀ (n k : Nat), TmOk (k + n + 2) n
  | 0, k => fun x N A S Q t T hx hd => by cases x <;> simp [Ex.dp] at hd
  | n + 1, k => tame_step (k := k + n) (n := n) (tame_ok n k)
end K02
set_option Elab.async false
set_option linter.all false
set_option maxRecDepth 100000
set_option maxHeartbeats 2000000
/-! M78: data are equal to themselves. -/
namespace Mi
open PySem L2
/-- data of small depth -/
def PQ (x : D) (n : Nat) : Prop := ∃ p, pd x = some p ∧ p.canLay0 = true ∧ p.depth ≤ n
theorem pq_list {n : Nat} : ∀ {l : List D}, (∀ x ∈ l, PQ x n) → ∃ ps, pds l = some ps ∧ PyData.canLayAll0 ps = true ∧ PyData.depthAll ps ≤ n
  | [], _ => ⟨[], rfl, rfl, Nat.zero_le _⟩
  | x :: l, h => by
    obtain ⟨p, h1, h2, h3⟩ := h x List.mem_cons_self
    obtain ⟨ps, h4, h5, h6⟩ := pq_list (l := l) fun y hy => h y (List.mem_cons_of_mem _ hy)
    refine ⟨p :: ps, ?_, ?_, ?_⟩
    · show (match pd x, pds l with | some d, some ds => some (d :: ds) | _, _ => none) = _
      rw [h1, h4]
    · simp [PyData.canLayAll0, h2, h5]
    · simp only [PyData.depthAll]
      omega
theorem pq_tup {n : Nat} {l : List D} (h : ∀ x ∈ l, PQ x n) : PQ (.tup l) (n + 1) := by
  obtain ⟨ps, h4, h5, h6⟩ := pq_list h
  refine ⟨.tuple ps, ?_, ?_, ?_⟩
  · show (pds l).map _ = _
    rw [h4]
    rfl
  · simpa [PyData.canLay0] using h5
  · simp only [PyData.depth]
    omega
theorem pq_int (i : Int) : PQ (.int i) 1 := ⟨.int i, rfl, rfl, by simp [PyData.depth]⟩
theorem pq_str {x : Str} (h : PyData.strOk x = true) : PQ (.str x) 1 := ⟨.str x, rfl, by simpa [PyData.canLay0] using h, by simp [PyData.depth]⟩
theorem PQ.up {x : D} {n m : Nat} (h : PQ x n) (hn : n ≤ m) : PQ x m := let ⟨p, a, b, c⟩ := h; ⟨p, a, b, Nat.le_trans c hn⟩
theorem eqD_self {l : List D} {n : Nat} (h : PQ (.tup l) n) (hn : n ≤ 64) (S : Sto) : eqD false (.tup l) (.tup l) S = .ok (.bl true) S := by
  obtain ⟨p, h1, h2, h3⟩ := h
  have e : pdT S (.tup l) = some p := h1
  unfold eqD
  simp only [e]
  have hs : SeqAt.shaped p = true := by
    unfold SeqAt.shaped
    rw [h2, Bool.true_and]
    exact decide_eq_true (by omega)
  rw [if_pos ⟨hs, hs⟩, SeqAt.eqv_refl p h2]
  rfl
end Mi
set_option Elab.async false
set_option linter.all false
set_option maxRecDepth 100000
set_option maxHeartbeats 4000000
/-! K02v: parse. -/
namespace K02
open PySem L2 Mi
theorem gens : Gens P := by
  refine ⟨⟨?_, ?_⟩, ?_, ?_, ?_, ?_, ?_, ?_, ?_, ?_, ?_, ?_, ?_, ?_, ?_, ?_, ?_⟩ <;> kernel_rfl
theorem sized : Sized P := by
  refine ⟨⟨?_, ?_, ?_, ?_, ?_, ?_, ?_, ?_, ?_, ?_, ?_, ?_, ⟨2, ?_, ?_⟩, ⟨0, ?_, ?_⟩, ⟨1, ?_, ?_⟩⟩, ?_, ?_⟩
  all_goals kernel_rfl
theorem pt_pure : ∀ ps : List Pt, (∀ p ∈ ps, pureD 1000 p.d = true) → pureDs 1000 (ps.map Pt.d) = true
  | [], _ => rfl
  | p :: ps, h => by
    show (pureD 1000 p.d && pureDs 1000 (ps.map Pt.d)) = true
    rw [h p (by simp), pt_pure ps fun q hq => h q (by simp [hq])]
    rfl
theorem ex_pure : ∀ (n : Nat) (x : Ex) {N : List Str} {A : Option Str}, x.sz ≤ n → x.ok N A → pureD 1000 x.d = true
  | 0, x, _, _, h, _ => by cases x <;> simp [Ex.sz] at h
  | n + 1, x, N, A, hz, h => by
    have hk := word_len _ (kd_words x)
    have hp4 := pts_len x
    have hps := pt_pure x.pts fun p hp => by
      obtain ⟨g, ge⟩ := pt_ok h p hp
      cases p with
      | ex y =>
        obtain ⟨N', A', hy⟩ := ge y rfl
        have := pt_sz hp
        exact ex_pure n y (by omega) hy
      | nm y =>
        have := g.2.1
        show decide (y.length ≤ 1000) = true
        exact decide_eq_true (by omega)
      | kn y =>
        have := word_len y (kinds_words y g)
        show decide (y.length ≤ 1000) = true
        exact decide_eq_true (by omega)
      | nu m => rfl
    by_cases hdo : x.isDo = true
    · rw [d_do hdo]
      have h2 : (("do" : Str)).length ≤ 1000 := by decide +kernel
      simp [pureD, pureDs, hps, h2]
      omega
    · rw [d_pts (by simpa using hdo)]
      simp [pureD, pureDs, hps]
      omega
theorem ex_dz : ∀ x : Ex, dz x.d ≤ 6 * x.sz := by
  intro x
  induction x <;> simp [Ex.d, Ex.sz, dz, dzs] <;> omega
/-- what was stands -/
def Keep (S S' : Sto) : Prop := S.length ≤ S'.length ∧ ∀ i, i < S.length → S'[i]? = S[i]?
theorem Keep.grow {S S' : Sto} (h : Keep S S') (ic : Nat) : Grow ic S S' := ⟨h.1, fun i hi _ => h.2 i hi⟩
theorem Keep.of {S S1 S' : Sto} {ic : Nat} (p : S <+: S1) (g : Grow ic S1 S') (h : S.length ≤ ic) : Keep S S' := by
  have hl := pre_len p
  refine ⟨Nat.le_trans hl g.len, fun i hi => ?_⟩
  rw [g.same i (by omega) (by omega)]
  obtain ⟨T, rfl⟩ := p
  rw [List.getElem?_append_left hi]
theorem Keep.trans {a b c : Sto} (h : Keep a b) (h' : Keep b c) : Keep a c := ⟨Nat.le_trans h.1 h'.1, fun i hi => (h'.2 i (by have := h.1; omega)).trans (h.2 i hi)⟩
theorem Keep.pre {S S' : Sto} (p : S <+: S') : Keep S S' := Keep.of p (Grow.refl (ic := S.length)) (Nat.le_refl _)
section
variable {k : Nat} {S : Sto} {Q : D → Sto → Prop}
theorem reader_ok {z : Str} (hz : z.length ≤ 100000) (hf : Fit (cpsL z)) (q : ∀ S' wl L, Keep S S' → S.length < S'.length → RdS S' S.length wl L (z.length : Int) 0 0 → PrL ((wds (cpsL z)).map ofL) L → Q (.ref S.length) S') : Wp ((cxt P (k + 3)).make "Reader" [.str z] S) Q := by
  rw [make_fn (n := 0) (fn := fn_Reader_init) (by kernel_rfl) (by kernel_rfl), run_fn2 rfl, wp_bind, wp_bind]
  unfold fn_Reader_init
  show Wp (evSs (cxt P (k + 1)) b_Reader_init [some (.ref S.length), some (.str z)] (S ++ [.ins 0 []])) _
  have hs : z.length ≤ sizeLine := by rw [sizeLine_eq]; omega
  unfold b_Reader_init
  refine wp_ss ?_
  simp [-List.append_assoc, -List.length_append]
  refine words_ok hz hf fun S1 L p1 h1 hL hLl => ?_
  have hi1 : S1[S.length]? = some (.ins 0 []) := pre_at p1 new_at
  have hl1 := pre_len p1
  have hne : (S ++ [O.ins 0 []]).length ≠ S.length := by simp
  have p01 : S <+: S1 := (pre_self _ _).trans p1
  generalize (S ++ [O.ins 0 []]).length = wl at h1 hne hl1 ⊢
  have hk : Keep S S1 := Keep.pre p01
  have hlt : S.length < S1.length := lt_of hi1
  -- the fields one by one
  have st : ∀ {S2 : Sto} {fs : List (Str × D)} {f : Str} {v : D}, S2[S.length]? = some (.ins 0 fs) → S2[wl]? = some (.lst L) → Keep S S2 → S.length < S2.length → fs.length < 10 →
      setF (.ref S.length) f v S2 = .ok () (S2.set S.length (.ins 0 (putFD f v fs))) ∧ (S2.set S.length (.ins 0 (putFD f v fs)))[S.length]? = some (.ins 0 (putFD f v fs)) ∧ (S2.set S.length (.ins 0 (putFD f v fs)))[wl]? = some (.lst L) ∧ Keep S (S2.set S.length (.ins 0 (putFD f v fs))) ∧ S.length < (S2.set S.length (.ins 0 (putFD f v fs))).length :=
    fun {S2 fs f v} a1 a2 a3 a4 a5 => by
      refine ⟨set_at a1 (by omega), by rw [List.getElem?_set_self a4], ?_, ⟨by simpa using a3.1, fun i hi => ?_⟩, by simpa using a4⟩
      · rw [List.getElem?_set_ne (Ne.symm hne)]
        exact a2
      · rw [List.getElem?_set_ne (by omega)]
        exact a3.2 i hi
  obtain ⟨e1, a1, a2, a3, a4⟩ := st (f := "words") (v := .ref wl) hi1 h1 hk hlt (by simp)
  simp only [e1, R.bind_ok, wp_ok, goR_nx]
  generalize S1.set S.length _ = S2 at a1 a2 a3 a4 ⊢
  unfold b_Reader_init_1
  refine wp_ss ?_
  obtain ⟨e2, b1, b2, b3, b4⟩ := st (f := "end") (v := .int (z.length : Int)) a1 a2 a3 a4 (by simp [putFD])
  simp [len_str hs, e2]
  generalize S2.set S.length _ = S3 at b1 b2 b3 b4 ⊢
  unfold b_Reader_init_2
  refine wp_ss ?_
  obtain ⟨e3, c1, c2, c3, c4⟩ := st (f := "at") (v := .int 0) b1 b2 b3 b4 (by simp [putFD])
  simp [e3]
  generalize S3.set S.length _ = S4 at c1 c2 c3 c4 ⊢
  unfold b_Reader_init_3
  refine wp_ss ?_
  obtain ⟨e4, d1, d2, d3, d4⟩ := st (f := "nested") (v := .int 0) c1 c2 c3 c4 (by simp [putFD])
  simp [e4]
  generalize S4.set S.length _ = S5 at d1 d2 d3 d4 ⊢
  unfold b_Reader_init_4
  refine wp_ss ?_
  obtain ⟨e5, f1, f2, f3, f4⟩ := st (f := "too_large") (v := .bl false) d1 d2 d3 d4 (by simp [putFD])
  simp [e5]
  exact q _ wl L f3 f4 ⟨by rw [f1]; simp [putFD, rfs], f2⟩ hL
/-- parse gives the program of a text that spells its words -/
theorem parse_ok {x : Ex} {z : Str} (hz : z.length ≤ 4000) (hf : Fit (cpsL z)) (hw : wds (cpsL z) = x.tk.map cpsL) (hx : x.ok [] none) (hd : x.dp ≤ 10) (hh : x.ht ≤ 3) (hs : x.sz ≤ 60) (q : ∀ S', Keep S S' → Q x.d S') : Wp ((cxt P (k + 30)).call "parse" [.str z] S) Q := by
  have hsl : z.length ≤ sizeLine := by rw [sizeLine_eq]; omega
  rw [call_fn (fn := fn_parse) (by kernel_rfl), run_fn2 rfl, wp_bind]
  unfold fn_parse
  show Wp (evSs (cxt P (k + 29)) b_parse [some (.str z), none, none, none, none] S) _
  have hlen4 : ¬ (4000 : Int) < (z.length : Int) := by omega
  unfold b_parse
  refine if_no (S' := S) (by simp [len_str hsl, hlen4]) ?_
  unfold b_parse_1
  refine wp_ss ?_
  simp
  refine reader_ok (k := k + 26) (by omega) hf fun S1 wl L k1 hl1 h1 hL => ?_
  have hws : (wds (cpsL z)).map ofL = x.tk := by
    rw [hw, List.map_map]
    exact List.map_id _
  rw [hws] at hL
  try simp
  unfold b_parse_2
  refine wp_ss ?_
  simp [h1.meth (m := "expression") (by simp)]
  refine x_ok 10 (k + 6) x [] none S1 _ S.length wl L _ 0 0 x.tk [] hx hd (by omega) h1 hL (by simp) fun S2 h2 g2 => ?_
  have k2 : Keep S S2 := ⟨Nat.le_trans k1.1 g2.len, fun i hi => (g2.same i (by omega) (by omega)).trans (k1.2 i hi)⟩
  try simp
  unfold b_parse_3
  have hat : ¬ (((0 + x.tk.length : Nat) : Int) < (L.length : Int)) := by
    have := hL.1
    omega
  refine if_no (S' := S2) (by
    simp [h2.at_, h2.words, h2.lenW]
    have := hL.1
    omega) ?_
  unfold b_parse_4
  refine wp_ss ?_
  simp [-List.append_assoc, -List.length_append]
  refine tame_ok 10 (k + 17) x [] none (S2 ++ [.dK []]) _ S2.length [] hx hd (by simp; omega) new_at fun S3 T g3 h3 p3 l3 n3 => ?_
  have k3 : Keep S S3 := k2.trans (Keep.of (pre_self _ _) g3 (Nat.le_refl _))
  have l3 : T.length ≤ 60 := by simp at l3; omega
  have hok := ok_ren (T := T) (by omega) x hx
  obtain ⟨z1, z2⟩ := ren_sz T x
  have hdz := ex_dz (x.ren T)
  try simp
  refine well_ok (k := k + 25) sized.toForms (ex_pure _ (x.ren T) (Nat.le_refl _) hok) (by omega) fun S4 p4 => ?_
  have hgd : gd (dn (x.ren T).d + 1) [] none (x.ren T).d = true := by
    rw [gd_same (dn (x.ren T).d + 1) (dn (x.ren T).d + 1 + (x.ren T).dp) [] none (x.ren T).d (by omega) (by omega)]
    exact gd_ex (x.ren T) _ _ _ hok (by omega)
  rw [hgd]
  have k4 : Keep S S4 := k3.trans (Keep.pre p4)
  have h4 : RdS S4 S.length wl L (z.length : Int) (0 + x.tk.length) 0 := by
    have g24 := (Keep.of (pre_self S2 [O.dK []]) g3 (Nat.le_refl _)).trans (Keep.pre p4)
    exact ⟨(g24.2 _ (lt_of h2.fm)).trans h2.fm, (g24.2 _ (lt_of h2.fw)).trans h2.fw⟩
  try simp
  unfold b_parse_5
  refine wp_ss ?_
  try simp
  refine size_pr (k := k + 27) sized x (by omega) fun S5 p5 => ?_
  have h5 : RdS S5 S.length wl L (z.length : Int) (0 + x.tk.length) 0 := ⟨pre_at p5 h4.fm, pre_at p5 h4.fw⟩
  have e5 : ∀ (e : En) (S : Sto), e.length = 5 → setTg (.tp [3, 4]) (.tup [.int (x.sz : Int), .int (x.dp : Int)]) e S = some ((e.set 3 (some (.int (x.sz : Int)))).set 4 (some (.int (x.dp : Int)))) := fun e S he => by
    rw [setTg_tp ⟨rfl, by simp [he]⟩]
    rfl
  simp [e5]
  unfold b_parse_6
  refine wp_ss ?_
  have n1 : ¬ (60 : Int) < (x.sz : Int) := by omega
  have n2 : ¬ (10 : Int) < (x.dp : Int) := by omega
  simp [h5.large, n1, n2]
  refine height_pr (k := k + 27) sized x (by omega) fun S6 p6 => ?_
  have n3 : ¬ (3 : Int) < (x.ht : Int) := by omega
  simp [n3]
  unfold b_parse_7
  refine ret_wp ?_
  simp
  exact q S6 ((k4.trans (Keep.pre p5)).trans (Keep.pre p6))
end
end K02
set_option Elab.async false
set_option linter.all false
set_option maxRecDepth 100000
set_option maxHeartbeats 4000000
/-! K02l: a text with other gaps. -/
namespace K02
open PySem L2 Mi
def Sp (g : List Nat) : Prop := ∀ c ∈ g, spc c = true
/-- another text of the same words; p: a bracket stands ahead -/
inductive Lo : Bool → List Nat → List Nat → Prop where
  | nil {p : Bool} : Lo p [] []
  | brk {p : Bool} {c : Nat} {t T g h : List Nat} : brk c = true → Sp g → Sp h → Lo true t T → Lo p (c :: t) (g ++ c :: (h ++ T))
  | sp {p : Bool} {t T g : List Nat} : g ≠ [] → Sp g → Lo false t T → Lo p (32 :: t) (g ++ T)
  | one {t T g : List Nat} : Sp g → Lo false t T → Lo true (32 :: t) (g ++ T)
  | two {p : Bool} {c : Nat} {t T g : List Nat} : Mi.brk c = true → Sp g → Lo false (c :: t) T → Lo p (32 :: c :: t) (g ++ T)
  | ch {p : Bool} {c : Nat} {t T : List Nat} : spc c = false → Mi.brk c = false → Lo false t T → Lo p (c :: t) (c :: T)
theorem wds_sp {g T : List Nat} (h : Sp g) : wds (g ++ T) = wds T := by
  induction g with
  | nil => rfl
  | cons c g ih =>
    rw [List.cons_append, wds_spc (h c (by simp)), ih fun d hd => h d (by simp [hd])]
theorem scan_sp {g T : List Nat} (h : Sp g) (h0 : g ≠ []) : scan (g ++ T) = ([], wds T) := by
  cases g with
  | nil => exact absurd rfl h0
  | cons c g =>
    have e : wds (g ++ T) = wds T := wds_sp fun d hd => h d (by simp [hd])
    rw [List.cons_append, scan, if_pos (h c (by simp)), ← e]
    rfl
theorem scan_brk {c : Nat} {t : List Nat} (h : Mi.brk c = true) : scan (c :: t) = ([], [c] :: wds t) := by
  rw [scan, if_neg (by rw [brk_spc h]; exact Bool.false_ne_true), if_pos h]
  rfl
theorem lo_scan {p : Bool} {t T : List Nat} (h : Lo p t T) : wds T = wds t ∧ (p = false → scan T = scan t) := by
  induction h with
  | nil => exact ⟨rfl, fun _ => rfl⟩
  | @brk p c t T g h hc hg hh _ ih =>
    have e : wds (c :: (h ++ T)) = [c] :: wds t := by rw [wds_brk hc, wds_sp hh, ih.1]
    refine ⟨by rw [wds_sp hg, e, wds_brk hc], fun _ => ?_⟩
    by_cases h0 : g = []
    · subst h0
      rw [List.nil_append, scan_brk hc, scan_brk hc, wds_sp hh, ih.1]
    · rw [scan_sp hg h0, e, scan_brk hc]
  | @sp p t T g h0 hg _ ih =>
    have e : scan (32 :: t) = ([], wds t) := rfl
    exact ⟨by rw [wds_sp hg, ih.1, wds_spc rfl], fun _ => by rw [scan_sp hg h0, ih.1, e]⟩
  | @one t T g hg _ ih => exact ⟨by rw [wds_sp hg, ih.1, wds_spc rfl], fun h => by cases h⟩
  | @two p c t T g hc hg _ ih =>
    have e : scan (32 :: c :: t) = ([], wds (c :: t)) := rfl
    refine ⟨by rw [wds_sp hg, ih.1, wds_spc (c := 32) rfl], fun _ => ?_⟩
    by_cases h0 : g = []
    · subst h0
      rw [List.nil_append, ih.2 rfl, e, scan_brk hc, wds_brk hc]
    · rw [scan_sp hg h0, ih.1, e]
  | @ch p c t T h1 h2 _ ih =>
    have k : ∀ u : List Nat, scan (c :: u) = (c :: (scan u).1, (scan u).2) := fun u => by
      rw [scan, if_neg (by rw [h1]; exact Bool.false_ne_true), if_neg (by rw [h2]; exact Bool.false_ne_true)]
    have e : scan (c :: T) = scan (c :: t) := by rw [k, k, ih.2 rfl]
    exact ⟨by unfold wds; rw [e], fun _ => e⟩
theorem lo_fit {p : Bool} {t T : List Nat} (h : Lo p t T) : Fit t → Fit T := by
  have gp : ∀ {g T : List Nat}, Sp g → Fit T → Fit (g ++ T) := fun {g T} hg hT c hc => by
    rcases List.mem_append.mp hc with h | h
    · exact .inl (hg c h)
    · exact hT c h
  have cn : ∀ {c : Nat} {t : List Nat}, Fit (c :: t) → Fit t := fun {c t} h d hd => h d (by simp [hd])
  induction h with
  | nil => exact id
  | @brk p c t T g h hc hg hh _ ih =>
    intro f
    refine gp hg fun d hd => ?_
    rcases List.mem_cons.mp hd with rfl | hd
    · exact .inr (.inl hc)
    · exact gp hh (ih (cn f)) d hd
  | @sp p t T g h0 hg _ ih => exact fun f => gp hg (ih (cn f))
  | @one t T g hg _ ih => exact fun f => gp hg (ih (cn f))
  | @two p c t T g hc hg _ ih => exact fun f => gp hg (ih (cn f))
  | @ch p c t T h1 h2 _ ih =>
    intro f d hd
    rcases List.mem_cons.mp hd with rfl | hd
    · exact f d (by simp)
    · exact ih (cn f) d hd
/-! ### a program's text -/
/-- blanks, brackets and words alone -/
def FitS (z : List Nat) : Prop := ∀ c ∈ z, c = 32 ∨ brk c = true ∨ wch c = true
theorem FitS.fit {z : List Nat} (h : FitS z) : Fit z := fun c hc => by
  rcases h c hc with rfl | h | h
  · exact .inl rfl
  · exact .inr (.inl h)
  · exact .inr (.inr h)
theorem fit_wch {l : List Nat} (h : ∀ c ∈ l, wch c = true) : FitS l := fun c hc => .inr (.inr (h c hc))
theorem fit_inter : ∀ {l : List (List Nat)}, (∀ p ∈ l, FitS p) → FitS (inter l)
  | [], _ => fun c hc => by cases hc
  | p :: l, h => by
    intro c hc
    rcases List.mem_append.mp hc with hc | hc
    · exact h p (by simp) c hc
    · obtain ⟨q, hq, hc⟩ := List.mem_flatMap.mp hc
      rcases List.mem_cons.mp hc with rfl | hc
      · exact .inl rfl
      · exact h q (by simp [hq]) c hc
theorem fit_tx : ∀ (n : Nat) (x : Ex) {N : List Str} {A : Option Str}, x.sz ≤ n → x.ok N A → FitS (cpsL x.tx)
  | 0, x, _, _, h, _ => by cases x <;> simp [Ex.sz] at h
  | n + 1, x, N, A, hz, h => by
    by_cases hl : x.isLeaf = true
    · cases x <;> first
        | (cases hl; done)
        | exact fit_wch (txI_wch _).2
        | exact fit_wch (word_wch h.1).2
    · have hl : x.isLeaf = false := by simpa using hl
      rw [tx_pts hl, par_codes]
      have hi : FitS (inter ((x.kd :: x.pts.map Pt.tx).map cpsL)) := fit_inter fun q hq => by
        rw [List.map_cons] at hq
        rcases List.mem_cons.mp hq with rfl | hq
        · exact fit_wch (kind_wch _ (kd_words x)).2
        · rw [List.map_map] at hq
          obtain ⟨p, hp, rfl⟩ := List.mem_map.mp hq
          obtain ⟨g, ge⟩ := pt_ok h p hp
          cases p with
          | ex y =>
            obtain ⟨N', A', hy⟩ := ge y rfl
            have := pt_sz hp
            exact fit_tx n y (by omega) hy
          | nm y => exact fit_wch (word_wch g).2
          | kn y => exact fit_wch (kind_wch y (kinds_words y g)).2
          | nu m => exact fit_wch (txI_wch m).2
      intro c hc
      simp only [List.mem_cons, List.mem_append, List.not_mem_nil, or_false] at hc
      rcases hc with (rfl | hc) | rfl
      · exact .inr (.inl rfl)
      · exact hi c hc
      · exact .inr (.inl rfl)
/-- a gap stands neither first nor last -/
def Edge (t : List Nat) : Prop := ∀ k, t[k]? = some 32 → 0 < k ∧ k + 1 < t.length
theorem edge_wch {l : List Nat} (h : ∀ c ∈ l, wch c = true) : Edge l := fun k hk => by
  have := h 32 (List.mem_of_getElem? hk)
  exact absurd this (by decide +kernel)
theorem edge_tx (x : Ex) {N : List Str} {A : Option Str} (h : x.ok N A) : Edge (cpsL x.tx) := by
  by_cases hl : x.isLeaf = true
  · cases x <;> first
      | (cases hl; done)
      | exact edge_wch (txI_wch _).2
      | exact edge_wch (word_wch h.1).2
  · have hl : x.isLeaf = false := by simpa using hl
    rw [tx_pts hl, par_codes]
    generalize inter ((x.kd :: x.pts.map Pt.tx).map cpsL) = l
    intro k hk
    have hlt := (List.getElem?_eq_some_iff.mp hk).1
    simp only [List.length_append, List.length_cons, List.length_nil] at hlt ⊢
    refine ⟨?_, ?_⟩
    · rcases Nat.eq_zero_or_pos k with rfl | h
      · have hk : some 40 = some 32 := by simpa using hk
        cases hk
      · exact h
    · rcases Nat.lt_or_ge (k + 1) (l.length + 1 + 1) with h | h
      · omega
      · have hk1 : k = (40 :: l).length := by simp; omega
        rw [hk1, List.getElem?_append_right (Nat.le_refl _), Nat.sub_self] at hk
        have hk : some 41 = some 32 := hk
        cases hk
end K02
set_option Elab.async false
set_option linter.all false
set_option maxRecDepth 100000
set_option maxHeartbeats 4000000
/-! K02g: a text with drawn gaps. -/
namespace K02
open PySem L2 Mi
theorem scan_end {u : List Nat} (h : Sp u) : ∀ l : List Nat, scan (l ++ u) = scan l
  | [] => by
    by_cases h0 : u = []
    · rw [h0]
      rfl
    · have := scan_sp (T := []) h h0
      rw [List.append_nil] at this
      exact this
  | c :: l => by
    rw [List.cons_append, scan, scan, scan_end h l]
def prevB (t : List Nat) : Nat → Bool
  | 0 => false
  | k + 1 => match t[k]? with
    | some c => brk c
    | none => false
def gaps5 : List Str := ["", "", " ", "\n", "  "]
def gaps3 : List Str := ["", " ", "\n \n"]
def gapsN : List Str := [" ", "\n", "   "]
def ends3 : List Str := ["", "\n", " "]
theorem gaps5_ok : ∀ y ∈ gaps5, (∀ c ∈ cpsL y, spc c = true) ∧ y.length ≤ 2 := by decide +kernel
theorem gaps3_ok : ∀ y ∈ gaps3, (∀ c ∈ cpsL y, spc c = true) ∧ y.length ≤ 3 := by decide +kernel
theorem gapsN_ok : ∀ y ∈ gapsN, (∀ c ∈ cpsL y, spc c = true) ∧ y.length ≤ 3 ∧ cpsL y ≠ [] := by decide +kernel
theorem ends3_ok : ∀ y ∈ ends3, (∀ c ∈ cpsL y, spc c = true) ∧ y.length ≤ 1 := by decide +kernel
theorem in_brk {c : Nat} {cds : Nat → List (Str × D)} {S : Sto} : cmpD cds .In (.str ⟨#[c]⟩) (.str ("()" : Str)) S = .ok (.bl (brk c)) S := by
  show R.ok (D.bl (inStr _ _)) S = _
  have e : (("()" : Str)).cps.toList = [40, 41] := by decide +kernel
  rw [inStr_one, e]
  unfold brk
  by_cases h1 : c = 40 <;> by_cases h2 : c = 41 <;> simp [h1, h2]
/-- a text of so many signs and no more is drawn so far -/
def LoI (z : Str) (S0 : Sto) (ic is nmr : Nat) (xs : List Int) (W : List Str) (k : Nat) (e : En) (S : Sto) : Prop := ∃ (F : Str) (v3 v4 v5 : Option D), e = [some (.ref ic), some (.str z), some (.str F), v3, v4, v5] ∧ Cxn S ic is nmr xs W ∧ Grow ic S0 S ∧ F.length ≤ 3 * k ∧
  ∀ T, Lo (prevB (cpsL z) k) ((cpsL z).drop k) T → Lo false (cpsL z) (cpsL F ++ T)
section
variable {k : Nat} {S : Sto} {ic is nmr : Nat} {xs : List Int} {W : List Str} {Q : D → Sto → Prop}
theorem fit_add {a b : Str} (h : a.length + b.length ≤ 100000) {S : Sto} : binD .Add (.str a) (.str b) S = .ok (.str (a ++ b)) S := by
  rw [add_str, if_pos (by rw [sizeLine_eq]; omega)]
theorem loose_step {z : Str} (hz : z.length ≤ 1300) (hf : FitS (cpsL z)) (he : Edge (cpsL z)) {S0 : Sto} {j : Nat} (hj : j < z.length) {F : Str} {v4 v5 : Option D} (c0 : Cxn S ic is nmr xs W) (g0 : Grow ic S0 S) (hF : F.length ≤ 3 * j)
    (hl : ∀ T, Lo (prevB (cpsL z) j) ((cpsL z).drop j) T → Lo false (cpsL z) (cpsL F ++ T)) : Wp (evSs (cxt P (k + 2)) b_law_loose_1b [some (.ref ic), some (.str z), some (.str F), some (.int (j : Int)), v4, v5] S) fun o S' => o.on (fun e2 => LoI z S0 ic is nmr xs W (j + 1) e2 S') fun v => False := by
  have hs : z.length ≤ sizeLine := by rw [sizeLine_eq]; omega
  have hlt2 : j < (cpsL z).length := hj
  obtain ⟨c, t, hct⟩ : ∃ c t, (cpsL z).drop j = c :: t := ⟨_, _, List.drop_eq_getElem_cons hlt2⟩
  have hc : (cpsL z)[j]? = some c := by
    have := congrArg (fun l => l[0]?) hct
    simpa using this
  have ht : (cpsL z).drop (j + 1) = t := by
    have := congrArg (fun l => l.drop 1) hct
    simpa [List.drop_drop, Nat.add_comm] using this
  have hpv : prevB (cpsL z) (j + 1) = brk c := by
    show (match (cpsL z)[j]? with | some c => brk c | none => false) = _
    rw [hc]
  rw [hct] at hl
  have hat : ∀ (i : Nat) (d : Nat) (cds : Nat → List (Str × D)) (S : Sto), (cpsL z)[i]? = some d → subD cds (.str z) (.int (i : Int)) S = .ok (.str ⟨#[d]⟩) S := fun i d cds S h => by
    rw [sub_str hs, Mi.atI_nat]
    show optR (((cpsL z)[i]?).map _) S = _
    rw [h]
    rfl
  -- the text grown
  have fin : ∀ {S2 : Sto} {y : Str} {w4 w5 : Option D}, Cxn S2 ic is nmr xs W → Grow ic S S2 → y.length ≤ 3 → (∀ T, Lo (brk c) t T → Lo (prevB (cpsL z) j) (c :: t) (cpsL y ++ T)) → LoI z S0 ic is nmr xs W (j + 1) [some (.ref ic), some (.str z), some (.str (F ++ y)), some (.int (j : Int)), w4, w5] S2 := fun {S2 y w4 w5} c2 g2 hy hT => by
    refine ⟨F ++ y, _, _, _, rfl, c2, g0.trans g2, by rw [str_len_app]; omega, fun T h => ?_⟩
    rw [hpv, ht] at h
    rw [cpsL_app, List.append_assoc]
    exact hl _ (hT T h)
  unfold b_law_loose_1b
  refine wp_ss ?_
  simp [hat j c _ _ hc]
  unfold b_law_loose_1b_1
  by_cases hb : brk c = true
  · refine ig_yes (S' := S) (by simp [in_brk, hb]) ?_
    unfold b_law_loose_1b_1t
    refine wp_ss ?_
    simp [-List.append_assoc, -List.length_append]
    refine take_cx gens c0.app (by omega) (by omega) fun d1 S1 a1 b1 c1 g1 => ?_
    rw [sub_lst (g1.at new_at c0.new)]
    obtain ⟨y, hy, ey⟩ := str_at (N := gaps5) a1 (by show d1 < 5; exact b1)
    refine Wp.of (congrArg (optR · S1) ey) ?_
    obtain ⟨y1, y2⟩ := gaps5_ok y hy
    try simp
    unfold b_law_loose_1b_1t_1
    refine wp_ss ?_
    have hone : ((⟨#[c]⟩ : Str)).length = 1 := rfl
    simp only [s_asg, v_bin, v_var, v_sub, v_lst, es_cons2, es_nil, v_call, v_int, List.getElem?_cons_zero, List.getElem?_cons_succ, Option.bind_some, id_eq, optR_some, R.bind_ok, wp_bind]
    rw [fit_add (a := (⟨#[c]⟩ : Str)) (b := y) (by omega)]
    simp only [wp_ok]
    rw [fit_add (a := y) (b := (⟨#[c]⟩ : Str)) (by omega)]
    simp only [R.bind_ok, wp_ok, wp_bind]
    have c2 := c1.app (o := .lst [.str ((⟨#[c]⟩ : Str) ++ y), .str (y ++ (⟨#[c]⟩ : Str))])
    refine take_cx gens c2 (by omega) (by omega) fun d2 S2 a2 b2 c3 g3 => ?_
    rw [sub_lst (g3.at new_at c1.new)]
    have gg := ((Grow.app (ic := ic)).trans g1).trans ((Grow.app (ic := ic)).trans g3)
    obtain ⟨u, hu, eu⟩ := str_at (N := [(⟨#[c]⟩ : Str) ++ y, y ++ (⟨#[c]⟩ : Str)]) a2 (by show d2 < 2; exact b2)
    refine Wp.of (congrArg (optR · S2) eu) ?_
    have hu2 : u = (⟨#[c]⟩ : Str) ++ y ∨ u = y ++ (⟨#[c]⟩ : Str) := by simpa using hu
    have hul : u.length ≤ 3 := by
      rcases hu2 with rfl | rfl <;> rw [str_len_app, hone] <;> omega
    rw [fit_add (by omega)]
    have hone2 : cpsL ((⟨#[c]⟩ : Str)) = [c] := rfl
    simp
    refine fin c3 gg hul fun T h => ?_
    rw [hb] at h
    rcases hu2 with rfl | rfl
    · rw [cpsL_app, hone2]
      have := Lo.brk (p := prevB (cpsL z) j) (g := []) (h := cpsL y) hb (fun d hd => by cases hd) y1 h
      simpa using this
    · rw [cpsL_app, hone2]
      have := Lo.brk (p := prevB (cpsL z) j) (g := cpsL y) (h := []) hb y1 (fun d hd => by cases hd) h
      simpa using this
  · have hb : brk c = false := by simpa using hb
    refine ig_no (S' := S) (by simp [in_brk, hb]) ?_
    unfold b_law_loose_1b_1e
    by_cases h32 : c = 32
    · subst h32
      obtain ⟨hj0, hj1⟩ := he j hc
      obtain ⟨p, hp⟩ : ∃ p, (cpsL z)[j - 1]? = some p := ⟨_, List.getElem?_eq_getElem (by omega)⟩
      obtain ⟨n, hn⟩ : ∃ n, (cpsL z)[j + 1]? = some n := ⟨_, List.getElem?_eq_getElem hj1⟩
      have hp2 : ∀ (cds : Nat → List (Str × D)) (S : Sto), subD cds (.str z) (.int ((j : Int) - 1)) S = .ok (.str ⟨#[p]⟩) S := fun cds S => by
        have := hat (j - 1) p cds S hp
        rwa [show ((j - 1 : Nat) : Int) = (j : Int) - 1 by omega] at this
      have hn2 : ∀ (cds : Nat → List (Str × D)) (S : Sto), subD cds (.str z) (.int ((j : Int) + 1)) S = .ok (.str ⟨#[n]⟩) S := fun cds S => by
        have := hat (j + 1) n cds S hn
        rwa [show ((j + 1 : Nat) : Int) = (j : Int) + 1 by omega] at this
      have hpvj : prevB (cpsL z) j = brk p := by
        obtain ⟨i, rfl⟩ : ∃ i, j = i + 1 := ⟨j - 1, by omega⟩
        rw [show i + 1 - 1 = i by omega] at hp
        show (match (cpsL z)[i]? with | some c => brk c | none => false) = _
        rw [hp]
      have htn : ∃ t', t = n :: t' := by
        cases t with
        | nil =>
          have := congrArg List.length ht
          simp at this
          omega
        | cons m t' =>
          have : (cpsL z)[j + 1]? = some m := by
            have := congrArg (fun l => l[0]?) ht
            simpa using this
          rw [hn] at this
          cases this
          exact ⟨t', rfl⟩
      have hsp : ((⟨#[32]⟩ : Str) = (" " : Str)) := e_sp.symm
      by_cases hpn : brk p = true ∨ brk n = true
      · refine ig_yes (S' := S) (by
          simp [hsp, hp2, hn2, in_brk]
          rcases hpn with h | h <;> simp [h]) ?_
        unfold b_law_loose_1b_1e_0t
        refine wp_ss ?_
        simp [-List.append_assoc, -List.length_append]
        refine take_cx gens c0.app (by omega) (by omega) fun d1 S1 a1 b1 c1 g1 => ?_
        rw [sub_lst (g1.at new_at c0.new)]
        obtain ⟨y, hy, ey⟩ := str_at (N := gaps3) a1 (by show d1 < 3; exact b1)
        refine Wp.of (congrArg (optR · S1) ey) ?_
        obtain ⟨y1, y2⟩ := gaps3_ok y hy
        rw [fit_add (by omega)]
        simp
        refine fin c1 ((Grow.app (ic := ic)).trans g1) y2 fun T h => ?_
        have h : Lo false t T := by rwa [show brk 32 = false from rfl] at h
        rw [hpvj]
        rcases hpn with q | q
        · rw [q]
          exact .one y1 h
        · obtain ⟨t', rfl⟩ := htn
          exact .two q y1 h
      · rw [not_or] at hpn
        have q1 : brk p = false := by simpa using hpn.1
        have q2 : brk n = false := by simpa using hpn.2
        refine ig_no (S' := S) (by simp [hsp, hp2, hn2, in_brk, q1, q2]) ?_
        unfold b_law_loose_1b_1e_0e
        refine ig_yes (S' := S) (by simp [hsp]) ?_
        unfold b_law_loose_1b_1e_0e_0t
        refine wp_ss ?_
        simp [-List.append_assoc, -List.length_append]
        refine take_cx gens c0.app (by omega) (by omega) fun d1 S1 a1 b1 c1 g1 => ?_
        rw [sub_lst (g1.at new_at c0.new)]
        obtain ⟨y, hy, ey⟩ := str_at (N := gapsN) a1 (by show d1 < 3; exact b1)
        refine Wp.of (congrArg (optR · S1) ey) ?_
        obtain ⟨y1, y2, y3⟩ := gapsN_ok y hy
        rw [fit_add (by omega)]
        simp
        refine fin c1 ((Grow.app (ic := ic)).trans g1) y2 fun T h => ?_
        have h : Lo false t T := by rwa [show brk 32 = false from rfl] at h
        exact .sp y3 y1 h
    · have hnl : ¬ ((⟨#[c]⟩ : Str) = (" " : Str)) := by
        rw [e_sp, one_inj]
        exact h32
      refine ig_no (S' := S) (by simp [hnl]) ?_
      unfold b_law_loose_1b_1e_0e
      refine ig_no (S' := S) (by simp [hnl]) ?_
      unfold b_law_loose_1b_1e_0e_0e
      refine wp_ss ?_
      have hone : ((⟨#[c]⟩ : Str)).length = 1 := rfl
      have hfa : ∀ S : Sto, binD .Add (.str F) (.str (⟨#[c]⟩ : Str)) S = .ok (.str (F ++ (⟨#[c]⟩ : Str))) S := fun S => fit_add (by omega)
      simp only [s_asg, v_bin, v_var, List.getElem?_cons_zero, List.getElem?_cons_succ, Option.bind_some, id_eq, optR_some, R.bind_ok, hfa]
      simp
      refine fin c0 .refl (by rw [hone]; omega) fun T h => ?_
      rw [hb] at h
      have hsp : spc c = false := by
        rcases hf c (List.mem_of_getElem? hc) with q | q | q
        · exact absurd q h32
        · exact brk_spc q
        · exact (wch_spc q).1
      exact .ch hsp hb h
theorem loose_ok {z : Str} (hz : z.length ≤ 1300) (hf : FitS (cpsL z)) (he : Edge (cpsL z)) (c0 : Cxn S ic is nmr xs W)
    (q : ∀ (F : Str) S', Cxn S' ic is nmr xs W → Grow ic S S' → F.length ≤ 4000 → Fit (cpsL F) → wds (cpsL F) = wds (cpsL z) → Q (.str F) S') : Wp ((cxt P (k + 3)).call "_law_loose" [.ref ic, .str z] S) Q := by
  have hs : z.length ≤ sizeLine := by rw [sizeLine_eq]; omega
  rw [call_fn (fn := fn_law_loose) (by kernel_rfl), run_fn2 rfl, wp_bind]
  unfold fn_law_loose
  show Wp (evSs (cxt P (k + 2)) b_law_loose [some (.ref ic), some (.str z), none, none, none, none] S) _
  unfold b_law_loose
  refine wp_ss ?_
  simp
  unfold b_law_loose_1
  refine wp_ss ?_
  simp [len_str hs]
  rw [rngItS (by omega) (by omega)]
  simp
  refine wp_for (it := ⟨rngL 0 z.length, none⟩) (LoI z S ic is nmr xs W) (fun _ _ _ _ => rfl) ?_ ?_ ⟨"", none, none, none, rfl, c0, .refl, Nat.zero_le _, fun T h => by
      rw [show cpsL ("" : Str) = [] by decide +kernel]
      simpa [prevB] using h⟩
  · rintro j d e S1 hi ⟨F, v3, v4, v5, rfl, c1, g1, hF, hT⟩
    obtain ⟨hj, rfl⟩ := rng_at hi
    refine ⟨_, rfl, (loose_step hz hf he hj c1 g1 hF hT).mono fun o S2 h => ?_⟩
    cases o with
    | nx e => exact h
    | cnt e => exact h
    | ret v => exact h.elim
  · rintro e S1 ⟨F, v3, v4, v5, rfl, c1, g1, hF, hT⟩
    rw [show (It.mk (rngL 0 z.length) none).items.length = z.length from rng_len] at hF hT
    have hlo : Lo false (cpsL z) (cpsL F) := by
      have h0 : (cpsL z).drop z.length = [] := List.drop_eq_nil_of_le (Nat.le_refl _)
      rw [h0] at hT
      have := hT [] .nil
      rwa [List.append_nil] at this
    simp
    unfold b_law_loose_2
    refine ret_wp ?_
    simp only [v_bin, v_var, v_sub, v_lst, es_cons2, es_nil, v_call, v_str, v_int, List.getElem?_cons_zero, List.getElem?_cons_succ, Option.bind_some, id_eq, optR_some, R.bind_ok, wp_bind, wp_ok]
    refine take_cx gens c1.app (by omega) (by omega) fun d1 S2 a1 b1 c2 g2 => ?_
    rw [sub_lst (g2.at new_at c1.new)]
    obtain ⟨y, hy, ey⟩ := str_at (N := ends3) a1 (by show d1 < 3; exact b1)
    refine Wp.of (congrArg (optR · S2) ey) ?_
    obtain ⟨y1, y2⟩ := ends3_ok y hy
    rw [fit_add (by omega)]
    simp only [wp_ok]
    refine take_cx gens c2.app (by omega) (by omega) fun d2 S3 a3 b3 c3 g3 => ?_
    rw [sub_lst (g3.at new_at c2.new)]
    obtain ⟨u, hu, eu⟩ := str_at (N := ends3) a3 (by show d2 < 3; exact b3)
    refine Wp.of (congrArg (optR · S3) eu) ?_
    obtain ⟨u1, u2⟩ := ends3_ok u hu
    have hyF : (y ++ F).length ≤ 1 + 3 * z.length := by rw [str_len_app]; omega
    rw [fit_add (by omega)]
    simp only [wp_ok, outV_ret]
    have hfF := lo_fit hlo hf.fit
    obtain ⟨hw, hw2⟩ := lo_scan hlo
    refine q _ S3 c3 (((g1.trans .app).trans g2).trans (Grow.trans .app g3)) (by rw [str_len_app]; omega) ?_ ?_
    · rw [cpsL_app, cpsL_app]
      intro c hc
      rcases List.mem_append.mp hc with hc | hc
      · rcases List.mem_append.mp hc with hc | hc
        · exact .inl (y1 c hc)
        · exact hfF c hc
      · exact .inl (u1 c hc)
    · rw [cpsL_app, cpsL_app, List.append_assoc, wds_sp y1]
      unfold wds
      rw [scan_end u1]
      exact hw
end
end K02
set_option Elab.async false
set_option linter.all false
set_option maxRecDepth 100000
set_option maxHeartbeats 4000000
/-! M49: the start of a law; pairs compared. -/
namespace Mi
open PySem L2
def startB : Sms := .cons (.ret (.lst (.cons (.lc (.nm 1) (.seq (.slc (.var 0) .nop (.int 63))) .nop (.bf .int (.cons (.var 1) .nil)) [1]) (.cons (.int 0) (.cons (.int 0) (.cons (.int 0) (.cons (.int 20) (.cons (.lst .nil) .nil)))))))) .nil
theorem slc_lit {xs : List D} {lo hi : Option Int} {S : Sto} : slcD (.lit xs) lo hi S = .ok (.ref S.length) (S ++ [.lst (cutL xs lo hi)]) := rfl
theorem cut_map (ns : List Int) (lo hi : Option Int) : cutL (ns.map D.int) lo hi = (cutL ns lo hi).map D.int := by
  unfold cutL
  rw [List.map_take, List.map_drop]
  simp
theorem cut_le {α : Type} (xs : List α) (lo hi : Option Int) : (cutL xs lo hi).length ≤ xs.length := by
  unfold cutL
  rw [List.length_take, List.length_drop]
  omega
theorem start_ok {P : Pr} (hs : P.fns.lookup ("_law_start" : Str) = some ⟨1, 2, startB⟩) {k : Nat} {S : Sto} {Q : D → Sto → Prop} {ns : List Int} (hn : ns.length ≤ 63) (q : ∀ ic is nmr xs S', S <+: S' → S.length ≤ ic → Gs S' ic is xs 20 (.ref nmr) → Q (.ref ic) S') :
    Wp ((cxt P (k + 1)).call "_law_start" [.lit (ns.map .int)] S) Q := by
  rw [call_fn hs, run_fn2 rfl, wp_bind]
  show Wp (evSs (cxt P k) startB [some (.lit (ns.map .int)), none] S) _
  unfold startB
  refine ret_wp ?_
  simp only [v_lst, es_cons2, es_nil, v_lc, i_seq, v_slc, v_var, v_int, evP_nop, evP_int, partR_int, List.getElem?_cons_zero, Option.bind_some, id_eq, optR_some, R.bind_ok, slc_lit, cut_map, wp_bind, wp_ok]
  have hl := cut_le ns none (some 63)
  generalize cutL ns none (some 63) = xs at hl ⊢
  rw [seqIt_lst new_at]
  simp only [wp_ok]
  refine lcP (it := ⟨xs.map D.int, some (S.length, xs.map D.int)⟩) (fun x => x) (by simp [wipeE]) (by simp; omega) (still_lst new_at) (fun x hx S1 K p1 q1 => ?_) fun S1 p1 h1 => ?_
  · obtain ⟨i, _, rfl⟩ := List.mem_map.mp hx
    simp [wipeE]
    exact q1 _ (List.prefix_refl _)
  · simp only [List.map_id'] at h1
    simp [-List.append_assoc, -List.length_append]
    have p2 : S <+: S1 := (pre_self _ _).trans p1
    refine q _ (S ++ [O.lst (xs.map D.int)]).length S1.length xs _ ((p2.trans (pre_self _ _)).trans (pre_self _ _)) (by have := pre_len p2; simp; omega) ⟨0, 0, 0, new_at, ?_, by omega, ?_⟩
    · rw [List.getElem?_append_left (Nat.lt_of_lt_of_le (lt_of h1) (by simp)), List.getElem?_append_left (lt_of h1)]
      exact h1
    · have := lt_of h1
      simp at this ⊢
      omega
theorem ne_ints (a b : Int) (S : Sto) (cds : Nat → List (Str × D)) : cmpD cds .NotEq (.tup [.int a, .int b]) (.tup [.int a, .int b]) S = .ok (.bl false) S := by
  show eqD true (.tup [.int a, .int b]) (.tup [.int a, .int b]) S = _
  unfold eqD
  have e : pdT S (.tup [.int a, .int b]) = some (.tuple [.int a, .int b]) := rfl
  simp only [e]
  have h : SeqAt.shaped (.tuple [.int a, .int b]) = true := by
    unfold SeqAt.shaped
    simp [PyData.canLay0, PyData.canLayAll0, PyData.depth, PyData.depthAll]
  rw [if_pos ⟨h, h⟩]
  simp [PyData.eqv, PyData.eqvAll]
theorem ne_bl (b : Bool) (S : Sto) (cds : Nat → List (Str × D)) : cmpD cds .NotEq (.bl b) (.bl b) S = .ok (.bl false) S := by
  show eqD true (.bl b) (.bl b) S = _
  unfold eqD
  have e : pdT S (.bl b) = some (.bool b) := rfl
  simp only [e]
  have h : SeqAt.shaped (.bool b) = true := by
    unfold SeqAt.shaped
    simp [PyData.canLay0, PyData.depth]
  rw [if_pos ⟨h, h⟩]
  simp [PyData.eqv]
end Mi
set_option Elab.async false
set_option linter.all false
set_option maxRecDepth 100000
set_option maxHeartbeats 4000000
/-! K02s: the law says True. -/
namespace K02
open PySem L2 Mi
theorem words_code : ∀ x ∈ wordsS, PyData.strOk x = true := by decide +kernel
theorem word_code {x : Str} (h : word x) : PyData.strOk x = true := by
  have k1 : ∀ c ∈ lettersS, c < 0x110000 := by decide +kernel
  have k2 : ∀ c ∈ digitsS, c < 0x110000 := by decide +kernel
  unfold PyData.strOk
  rw [Array.all_eq_true_iff_forall_mem]
  intro c hc
  rcases h.2.2.2.2 c (by simpa using hc) with q | q
  · simpa using k1 c q
  · simpa using k2 c q
theorem ex_pq : ∀ (n : Nat) (x : Ex) {N : List Str} {A : Option Str}, x.sz ≤ n → x.ok N A → PQ x.d (2 * x.dp + 1)
  | 0, x, _, _, h, _ => by cases x <;> simp [Ex.sz] at h
  | n + 1, x, N, A, hz, h => by
    have hdp : 1 ≤ x.dp := by cases x <;> simp [Ex.dp]
    have hps : ∀ p ∈ x.pts, PQ p.d (2 * x.dp - 1) := fun p hp => by
      obtain ⟨g, ge⟩ := pt_ok h p hp
      cases p with
      | ex y =>
        obtain ⟨N', A', hy⟩ := ge y rfl
        have := pt_sz hp
        exact (ex_pq n y (by omega) hy).up (by omega)
      | nm y => exact (pq_str (word_code g)).up (by omega)
      | kn y => exact (pq_str (words_code y (kinds_words y g))).up (by omega)
      | nu m => exact (pq_int m).up (by omega)
    have hmap : ∀ d ∈ x.pts.map Pt.d, PQ d (2 * x.dp - 1) := fun d hd => by
      obtain ⟨p, hp, rfl⟩ := List.mem_map.mp hd
      exact hps p hp
    by_cases hdo : x.isDo = true
    · rw [d_do hdo]
      refine (pq_tup (n := 2 * x.dp) fun d hd => ?_).up (by omega)
      simp only [List.mem_cons, List.not_mem_nil, or_false] at hd
      rcases hd with rfl | rfl
      · exact (pq_str (words_code _ (by decide +kernel))).up (by omega)
      · exact (pq_tup hmap).up (by omega)
    · rw [d_pts (by simpa using hdo)]
      refine (pq_tup (n := 2 * x.dp) fun d hd => ?_).up (by omega)
      rcases List.mem_cons.mp hd with rfl | hd
      · exact (pq_str (words_code _ (kd_words x))).up (by omega)
      · exact (hmap d hd).up (by omega)
theorem ex_eq (x : Ex) {N : List Str} {A : Option Str} (h : x.ok N A) (hd : x.dp ≤ 10) (S : Sto) : eqD false x.d x.d S = .ok (.bl true) S := by
  have hp := ex_pq _ x (Nat.le_refl _) h
  obtain ⟨l, e⟩ : ∃ l, x.d = .tup l := by cases x <;> exact ⟨_, rfl⟩
  rw [e] at hp ⊢
  exact eqD_self hp (by omega) S
theorem says : Says P 690 63 := by
  intro ns hns
  have key : Wp ((cxt P 691).call "law" [.lit (ns.map .int)] []) fun v _ => v = .bl true := by
    rw [call_fn (fn := fn_law) (by kernel_rfl), run_fn2 rfl, wp_bind]
    show Wp (evSs (cxt P 690) b_law [some (.lit (ns.map .int)), none, none, none] []) _
    unfold b_law
    refine wp_ss ?_
    try simp
    refine start_ok (by kernel_rfl) hns fun ic is nmr xs S1 p1 hic g1 => ?_
    try simp
    unfold b_law_1
    refine wp_ss ?_
    try simp
    refine program_ok (k := 649) gens g1 fun x S2 nmr W hok hdp hht hsz c2 hW hWw w2 => ?_
    try simp
    unfold b_law_2
    refine wp_ss ?_
    try simp
    refine text_ok 10 679 x [] none S2 _ hok hdp (by omega) fun S3 p3 => ?_
    have htl := tx_len _ x (Nat.le_refl _) hok
    have hs : x.tx.length ≤ sizeLine := by rw [sizeLine_eq]; omega
    try simp
    unfold b_law_3
    refine wp_ss ?_
    try simp
    refine print_ok 10 679 x [] none S3 _ hok hdp (by omega) fun S4 p4 => ?_
    have p24 := p3.trans p4
    have c4 : Cxn S4 ic is nmr xs W := by
      obtain ⟨T, rfl⟩ := p24
      exact c2.appT
    simp [len_str hs]
    by_cases hbig : 1300 < x.tx.length
    · have hbi : (1300 : Int) < (x.tx.length : Int) := by omega
      rw [if_pos hbi]
      try simp only [wp_ok, if_true]
      unfold b_law_3t
      refine ret_wp ?_
      simp [len_str hs, hbi]
    · have hbi : ¬ (1300 : Int) < (x.tx.length : Int) := by omega
      rw [if_neg hbi]
      try simp
      unfold b_law_4
      refine ret_wp ?_
      have hfs := fit_tx _ x (Nat.le_refl _) hok
      have hwd : wds (cpsL x.tx) = x.tk.map cpsL := by
        have := pc_tx _ x (Nat.le_refl _) hok [] trivial
        rw [List.append_nil, wds_nil, List.append_nil] at this
        exact this
      simp
      refine parse_ok (k := 660) (by omega) hfs.fit hwd hok hdp hht hsz fun S5 k5 => ?_
      rw [show cmpD (cxt P 690).cds .Eq x.d x.d S5 = .ok (.bl true) S5 from ex_eq x hok hdp S5]
      have c5 : Cxn S5 ic is nmr xs W := by
        obtain ⟨⟨b, p, a, c, g⟩, n, ne⟩ := c4
        have gg := k5.grow ic
        refine ⟨⟨b, p, a, c, ⟨?_, gg.at g.s (Ne.symm g.ne), g.pos0, g.ne⟩⟩, gg.at n ne, ne⟩
        rw [k5.2 _ g.lt]
        exact g.c
      simp
      refine loose_ok (k := 687) (by omega) hfs (edge_tx x hok) c5 fun F S6 c6 g6 hF hfF hwF => ?_
      try simp
      refine parse_ok (k := 660) hF hfF (hwF.trans hwd) hok hdp hht hsz fun S7 k7 => ?_
      rw [show cmpD (cxt P 690).cds .Eq x.d x.d S7 = .ok (.bl true) S7 from ex_eq x hok hdp S7]
      simp
  obtain ⟨v, S', h1, h2⟩ := key.ex
  exact ⟨S', by rw [h1, h2]⟩
end K02
set_option Elab.async false
set_option linter.all false
set_option maxRecDepth 100000
namespace K02
open PySem PySem.Spec L2 Mi
open PyProof.Rows hiding St
def top (i : Nat) : Stmt := PySem.Challenge.pw_ziggurat_k02_texts_of_programs.main.body.getD i (.Pass ⟨0, 0, 0, 0⟩)
def fd_is_name : FD := ⟨⟨("is_name", none), "is_name", "is_name", C8.fnArgs (top 14), C8.fnBody (top 14), C8.fnScope (top 14), [], []⟩, ["word", "char"], ["word"], fn_is_name⟩
theorem ok_is_name : fd_is_name.ok T = true := by decide +kernel
def fd_is_integer : FD := ⟨⟨("is_integer", none), "is_integer", "is_integer", C8.fnArgs (top 15), C8.fnBody (top 15), C8.fnScope (top 15), [], []⟩, ["value"], ["value"], fn_is_integer⟩
theorem ok_is_integer : fd_is_integer.ok T = true := by decide +kernel
def fd_expressions : FD := ⟨⟨("expressions", none), "expressions", "expressions", C8.fnArgs (top 16), C8.fnBody (top 16), C8.fnScope (top 16), [], []⟩, ["e", "kind"], ["e"], fn_expressions⟩
theorem ok_expressions : fd_expressions.ok T = true := by decide +kernel
def fd_has_form : FD := ⟨⟨("has_form", none), "has_form", "has_form", C8.fnArgs (top 17), C8.fnBody (top 17), C8.fnScope (top 17), [], []⟩, ["e", "kind"], ["e"], fn_has_form⟩
theorem ok_has_form : fd_has_form.ok T = true := by decide +kernel
def fd_is_allowed : FD := ⟨⟨("is_allowed", none), "is_allowed", "is_allowed", C8.fnArgs (top 18), C8.fnBody (top 18), C8.fnScope (top 18), [], []⟩, ["e", "about", "kind"], ["e", "about"], fn_is_allowed⟩
theorem ok_is_allowed : fd_is_allowed.ok T = true := by decide +kernel
def fd_inner : FD := ⟨⟨("inner", none), "inner", "inner", C8.fnArgs (top 19), C8.fnBody (top 19), C8.fnScope (top 19), [], []⟩, ["e", "about", "names", "kind", "part"], ["e", "about", "names"], fn_inner⟩
theorem ok_inner : fd_inner.ok T = true := by decide +kernel
def fd_is_well_formed : FD := ⟨⟨("is_well_formed", none), "is_well_formed", "is_well_formed", C8.fnArgs (top 20), C8.fnBody (top 20), C8.fnScope (top 20), [], []⟩, ["program", "steps", "e", "about", "names"], ["program"], fn_is_well_formed⟩
theorem ok_is_well_formed : fd_is_well_formed.ok T = true := by decide +kernel
def fd_size : FD := ⟨⟨("size", none), "size", "size", C8.fnArgs (top 21), C8.fnBody (top 21), C8.fnScope (top 21), [], []⟩, ["program", "level", "nodes", "depth", "e", "part"], ["program"], fn_size⟩
theorem ok_size : fd_size.ok T = true := by decide +kernel
def fd_height : FD := ⟨⟨("height", none), "height", "height", C8.fnArgs (top 22), C8.fnBody (top 22), C8.fnScope (top 22), [], []⟩, ["program", "highest", "steps", "e", "level", "part"], ["program"], fn_height⟩
theorem ok_height : fd_height.ok T = true := by decide +kernel
def fd_print_program : FD := ⟨⟨("print_program", none), "print_program", "print_program", C8.fnArgs (top 26), C8.fnBody (top 26), C8.fnScope (top 26), [], []⟩, ["program", "kind", "words", "part"], ["program"], fn_print_program⟩
theorem ok_print_program : fd_print_program.ok T = true := by decide +kernel
def fd_words_of : FD := ⟨⟨("words_of", none), "words_of", "words_of", C8.fnArgs (top 27), C8.fnBody (top 27), C8.fnScope (top 27), [], []⟩, ["text", "found", "at", "char", "end"], ["text"], fn_words_of⟩
theorem ok_words_of : fd_words_of.ok T = true := by decide +kernel
def fd_is_number : FD := ⟨⟨("is_number", none), "is_number", "is_number", C8.fnArgs (top 28), C8.fnBody (top 28), C8.fnScope (top 28), [], []⟩, ["word", "digits", "char"], ["word"], fn_is_number⟩
theorem ok_is_number : fd_is_number.ok T = true := by decide +kernel
def fd_is_word : FD := ⟨⟨("is_word", none), "is_word", "is_word", C8.fnArgs (top 29), C8.fnBody (top 29), C8.fnScope (top 29), [], []⟩, ["word"], ["word"], fn_is_word⟩
theorem ok_is_word : fd_is_word.ok T = true := by decide +kernel
def fd_short : FD := ⟨⟨("short", none), "short", "short", C8.fnArgs (top 31), C8.fnBody (top 31), C8.fnScope (top 31), [], []⟩, ["table", "name"], ["table", "name"], fn_short⟩
theorem ok_short : fd_short.ok T = true := by decide +kernel
def fd_tame : FD := ⟨⟨("tame", none), "tame", "tame", C8.fnArgs (top 32), C8.fnBody (top 32), C8.fnScope (top 32), [], []⟩, ["e", "table", "kind", "part", "found", "k"], ["e", "table"], fn_tame⟩
theorem ok_tame : fd_tame.ok T = true := by decide +kernel
def fd_parse : FD := ⟨⟨("parse", none), "parse", "parse", C8.fnArgs (top 33), C8.fnBody (top 33), C8.fnScope (top 33), [], []⟩, ["text", "reader", "program", "nodes", "depth"], ["text"], fn_parse⟩
theorem ok_parse : fd_parse.ok T = true := by decide +kernel
def fd_law_start : FD := ⟨⟨("_law_start", none), "_law_start", "_law_start", C8.fnArgs (top 35), C8.fnBody (top 35), C8.fnScope (top 35), [], []⟩, ["_law_script", "_law_cell"], ["_law_script"], fn_law_start⟩
theorem ok_law_start : fd_law_start.ok T = true := by decide +kernel
def fd_law_fill : FD := ⟨⟨("_law_fill", none), "_law_fill", "_law_fill", C8.fnArgs (top 36), C8.fnBody (top 36), C8.fnScope (top 36), [], []⟩, ["_law_c", "_law_number"], ["_law_c"], fn_law_fill⟩
theorem ok_law_fill : fd_law_fill.ok T = true := by decide +kernel
def fd_law_take : FD := ⟨⟨("_law_take", none), "_law_take", "_law_take", C8.fnArgs (top 37), C8.fnBody (top 37), C8.fnScope (top 37), [], []⟩, ["_law_c", "_law_many", "_law_digit"], ["_law_c", "_law_many"], fn_law_take⟩
theorem ok_law_take : fd_law_take.ok T = true := by decide +kernel
def fd_law_kinds : FD := ⟨⟨("_law_kinds", none), "_law_kinds", "_law_kinds", C8.fnArgs (top 38), C8.fnBody (top 38), C8.fnScope (top 38), [], []⟩, [], [], fn_law_kinds⟩
theorem ok_law_kinds : fd_law_kinds.ok T = true := by decide +kernel
def fd_law_parts : FD := ⟨⟨("_law_parts", none), "_law_parts", "_law_parts", C8.fnArgs (top 39), C8.fnBody (top 39), C8.fnScope (top 39), [], []⟩, ["_law_kind"], ["_law_kind"], fn_law_parts⟩
theorem ok_law_parts : fd_law_parts.ok T = true := by decide +kernel
def fd_law_names : FD := ⟨⟨("_law_names", none), "_law_names", "_law_names", C8.fnArgs (top 40), C8.fnBody (top 40), C8.fnScope (top 40), [], []⟩, ["_law_c", "_law_signs", "_law_stem", "_law_k", "_law_start_here", "_law_step", "_law_found", "_law_name"], ["_law_c"], fn_law_names⟩
theorem ok_law_names : fd_law_names.ok T = true := by decide +kernel
def fd_law_free : FD := ⟨⟨("_law_free", none), "_law_free", "_law_free", C8.fnArgs (top 41), C8.fnBody (top 41), C8.fnScope (top 41), [], []⟩, ["_law_name"], ["_law_name"], fn_law_free⟩
theorem ok_law_free : fd_law_free.ok T = true := by decide +kernel
def fd_law_integer : FD := ⟨⟨("_law_integer", none), "_law_integer", "_law_integer", C8.fnArgs (top 42), C8.fnBody (top 42), C8.fnScope (top 42), [], []⟩, ["_law_c"], ["_law_c"], fn_law_integer⟩
theorem ok_law_integer : fd_law_integer.ok T = true := by decide +kernel
def fd_law_leaf : FD := ⟨⟨("_law_leaf", none), "_law_leaf", "_law_leaf", C8.fnArgs (top 43), C8.fnBody (top 43), C8.fnScope (top 43), [], []⟩, ["_law_c", "_law_names_here", "_law_about", "_law_k"], ["_law_c", "_law_names_here", "_law_about"], fn_law_leaf⟩
theorem ok_law_leaf : fd_law_leaf.ok T = true := by decide +kernel
def fd_law_rule : FD := ⟨⟨("_law_rule", none), "_law_rule", "_law_rule", C8.fnArgs (top 44), C8.fnBody (top 44), C8.fnScope (top 44), [], []⟩, ["_law_c", "_law_level", "_law_kind", "_law_depth_here", "_law_k", "_law_v", "_law_w"], ["_law_c", "_law_level", "_law_kind", "_law_depth_here"], fn_law_rule⟩
theorem ok_law_rule : fd_law_rule.ok T = true := by decide +kernel
def fd_law_ask : FD := ⟨⟨("_law_ask", none), "_law_ask", "_law_ask", C8.fnArgs (top 45), C8.fnBody (top 45), C8.fnScope (top 45), [], []⟩, ["_law_c", "_law_level", "_law_names_here", "_law_about", "_law_depth_here"], ["_law_c", "_law_level", "_law_names_here", "_law_about", "_law_depth_here"], fn_law_ask⟩
theorem ok_law_ask : fd_law_ask.ok T = true := by decide +kernel
def fd_law_binding : FD := ⟨⟨("_law_binding", none), "_law_binding", "_law_binding", C8.fnArgs (top 46), C8.fnBody (top 46), C8.fnScope (top 46), [], []⟩, ["_law_c", "_law_k", "_law_level", "_law_names_here", "_law_about", "_law_depth_here", "_law_x", "_law_body", "_law_f", "_law_use"], ["_law_c", "_law_k", "_law_level", "_law_names_here", "_law_about", "_law_depth_here"], fn_law_binding⟩
theorem ok_law_binding : fd_law_binding.ok T = true := by decide +kernel
def fd_law_change : FD := ⟨⟨("_law_change", none), "_law_change", "_law_change", C8.fnArgs (top 47), C8.fnBody (top 47), C8.fnScope (top 47), [], []⟩, ["_law_c", "_law_k", "_law_level", "_law_names_here", "_law_about", "_law_depth_here", "_law_kind", "_law_rule_here"], ["_law_c", "_law_k", "_law_level", "_law_names_here", "_law_about", "_law_depth_here"], fn_law_change⟩
theorem ok_law_change : fd_law_change.ok T = true := by decide +kernel
def fd_law_expression : FD := ⟨⟨("_law_expression", none), "_law_expression", "_law_expression", C8.fnArgs (top 48), C8.fnBody (top 48), C8.fnScope (top 48), [], []⟩, ["_law_c", "_law_level", "_law_names_here", "_law_about", "_law_depth_here", "_law_k", "_law_a", "_law_b", "_law_x"], ["_law_c", "_law_level", "_law_names_here", "_law_about", "_law_depth_here"], fn_law_expression⟩
theorem ok_law_expression : fd_law_expression.ok T = true := by decide +kernel
def fd_law_inner : FD := ⟨⟨("_law_inner", none), "_law_inner", "_law_inner", C8.fnArgs (top 49), C8.fnBody (top 49), C8.fnScope (top 49), [], []⟩, ["_law_e", "_law_part"], ["_law_e"], fn_law_inner⟩
theorem ok_law_inner : fd_law_inner.ok T = true := by decide +kernel
def fd_law_depth : FD := ⟨⟨("_law_depth", none), "_law_depth", "_law_depth", C8.fnArgs (top 50), C8.fnBody (top 50), C8.fnScope (top 50), [], []⟩, ["_law_e", "_law_part"], ["_law_e"], fn_law_depth⟩
theorem ok_law_depth : fd_law_depth.ok T = true := by decide +kernel
def fd_law_size : FD := ⟨⟨("_law_size", none), "_law_size", "_law_size", C8.fnArgs (top 51), C8.fnBody (top 51), C8.fnScope (top 51), [], []⟩, ["_law_e", "_law_part"], ["_law_e"], fn_law_size⟩
theorem ok_law_size : fd_law_size.ok T = true := by decide +kernel
def fd_law_program : FD := ⟨⟨("_law_program", none), "_law_program", "_law_program", C8.fnArgs (top 52), C8.fnBody (top 52), C8.fnScope (top 52), [], []⟩, ["_law_c", "_law_program_here"], ["_law_c"], fn_law_program⟩
theorem ok_law_program : fd_law_program.ok T = true := by decide +kernel
def fd_law_text : FD := ⟨⟨("_law_text", none), "_law_text", "_law_text", C8.fnArgs (top 53), C8.fnBody (top 53), C8.fnScope (top 53), [], []⟩, ["_law_e", "_law_words", "_law_part", "_law_one"], ["_law_e"], fn_law_text⟩
theorem ok_law_text : fd_law_text.ok T = true := by decide +kernel
def fd_law_loose : FD := ⟨⟨("_law_loose", none), "_law_loose", "_law_loose", C8.fnArgs (top 54), C8.fnBody (top 54), C8.fnScope (top 54), [], []⟩, ["_law_c", "_law_text_here", "_law_found", "_law_k", "_law_one", "_law_gap"], ["_law_c", "_law_text_here"], fn_law_loose⟩
theorem ok_law_loose : fd_law_loose.ok T = true := by decide +kernel
def fd_law : FD := ⟨⟨("law", none), "law", "law", C8.fnArgs (top 55), C8.fnBody (top 55), C8.fnScope (top 55), [], []⟩, ["_law_script", "_law_c", "_law_program_here", "_law_text_here"], ["_law_script"], fn_law⟩
theorem ok_law : fd_law.ok T = true := by decide +kernel
def fd_Reader_init : FD := ⟨⟨("Reader", some "__init__"), "__init__", "Reader.__init__", C8.fnArgs ((C8.clsBody (top 30)).getD 0 (.Pass ⟨0, 0, 0, 0⟩)), C8.fnBody ((C8.clsBody (top 30)).getD 0 (.Pass ⟨0, 0, 0, 0⟩)), C8.fnScope ((C8.clsBody (top 30)).getD 0 (.Pass ⟨0, 0, 0, 0⟩)), [], []⟩, ["self", "text"], ["self", "text"], fn_Reader_init⟩
theorem ok_Reader_init : fd_Reader_init.ok T = true := by decide +kernel
def fd_Reader_word : FD := ⟨⟨("Reader", some "word"), "word", "Reader.word", C8.fnArgs ((C8.clsBody (top 30)).getD 1 (.Pass ⟨0, 0, 0, 0⟩)), C8.fnBody ((C8.clsBody (top 30)).getD 1 (.Pass ⟨0, 0, 0, 0⟩)), C8.fnScope ((C8.clsBody (top 30)).getD 1 (.Pass ⟨0, 0, 0, 0⟩)), [], []⟩, ["self"], ["self"], fn_Reader_word⟩
theorem ok_Reader_word : fd_Reader_word.ok T = true := by decide +kernel
def fd_Reader_fail : FD := ⟨⟨("Reader", some "fail"), "fail", "Reader.fail", C8.fnArgs ((C8.clsBody (top 30)).getD 2 (.Pass ⟨0, 0, 0, 0⟩)), C8.fnBody ((C8.clsBody (top 30)).getD 2 (.Pass ⟨0, 0, 0, 0⟩)), C8.fnScope ((C8.clsBody (top 30)).getD 2 (.Pass ⟨0, 0, 0, 0⟩)), [], []⟩, ["self"], ["self"], fn_Reader_fail⟩
theorem ok_Reader_fail : fd_Reader_fail.ok T = true := by decide +kernel
def fd_Reader_take : FD := ⟨⟨("Reader", some "take"), "take", "Reader.take", C8.fnArgs ((C8.clsBody (top 30)).getD 3 (.Pass ⟨0, 0, 0, 0⟩)), C8.fnBody ((C8.clsBody (top 30)).getD 3 (.Pass ⟨0, 0, 0, 0⟩)), C8.fnScope ((C8.clsBody (top 30)).getD 3 (.Pass ⟨0, 0, 0, 0⟩)), [], []⟩, ["self", "is_good", "word"], ["self", "is_good"], fn_Reader_take⟩
theorem ok_Reader_take : fd_Reader_take.ok T = true := by decide +kernel
def fd_Reader_name : FD := ⟨⟨("Reader", some "name"), "name", "Reader.name", C8.fnArgs ((C8.clsBody (top 30)).getD 4 (.Pass ⟨0, 0, 0, 0⟩)), C8.fnBody ((C8.clsBody (top 30)).getD 4 (.Pass ⟨0, 0, 0, 0⟩)), C8.fnScope ((C8.clsBody (top 30)).getD 4 (.Pass ⟨0, 0, 0, 0⟩)), [], []⟩, ["self", "word"], ["self"], fn_Reader_name⟩
theorem ok_Reader_name : fd_Reader_name.ok T = true := by decide +kernel
def fd_Reader_number : FD := ⟨⟨("Reader", some "number"), "number", "Reader.number", C8.fnArgs ((C8.clsBody (top 30)).getD 5 (.Pass ⟨0, 0, 0, 0⟩)), C8.fnBody ((C8.clsBody (top 30)).getD 5 (.Pass ⟨0, 0, 0, 0⟩)), C8.fnScope ((C8.clsBody (top 30)).getD 5 (.Pass ⟨0, 0, 0, 0⟩)), [], []⟩, ["self", "word"], ["self"], fn_Reader_number⟩
theorem ok_Reader_number : fd_Reader_number.ok T = true := by decide +kernel
def fd_Reader_expression : FD := ⟨⟨("Reader", some "expression"), "expression", "Reader.expression", C8.fnArgs ((C8.clsBody (top 30)).getD 6 (.Pass ⟨0, 0, 0, 0⟩)), C8.fnBody ((C8.clsBody (top 30)).getD 6 (.Pass ⟨0, 0, 0, 0⟩)), C8.fnScope ((C8.clsBody (top 30)).getD 6 (.Pass ⟨0, 0, 0, 0⟩)), [], []⟩, ["self", "word", "e"], ["self"], fn_Reader_expression⟩
theorem ok_Reader_expression : fd_Reader_expression.ok T = true := by decide +kernel
def fd_Reader_compound : FD := ⟨⟨("Reader", some "compound"), "compound", "Reader.compound", C8.fnArgs ((C8.clsBody (top 30)).getD 7 (.Pass ⟨0, 0, 0, 0⟩)), C8.fnBody ((C8.clsBody (top 30)).getD 7 (.Pass ⟨0, 0, 0, 0⟩)), C8.fnScope ((C8.clsBody (top 30)).getD 7 (.Pass ⟨0, 0, 0, 0⟩)), [], []⟩, ["self", "kind", "parts", "found", "shape"], ["self"], fn_Reader_compound⟩
theorem ok_Reader_compound : fd_Reader_compound.ok T = true := by decide +kernel
def L : LawD := ⟨P, T, [(("is_name" : Str), fd_is_name), (("is_integer" : Str), fd_is_integer), (("expressions" : Str), fd_expressions), (("has_form" : Str), fd_has_form), (("is_allowed" : Str), fd_is_allowed), (("inner" : Str), fd_inner), (("is_well_formed" : Str), fd_is_well_formed), (("size" : Str), fd_size), (("height" : Str), fd_height), (("print_program" : Str), fd_print_program), (("words_of" : Str), fd_words_of), (("is_number" : Str), fd_is_number), (("is_word" : Str), fd_is_word), (("short" : Str), fd_short), (("tame" : Str), fd_tame), (("parse" : Str), fd_parse), (("_law_start" : Str), fd_law_start), (("_law_fill" : Str), fd_law_fill), (("_law_take" : Str), fd_law_take), (("_law_kinds" : Str), fd_law_kinds), (("_law_parts" : Str), fd_law_parts), (("_law_names" : Str), fd_law_names), (("_law_free" : Str), fd_law_free), (("_law_integer" : Str), fd_law_integer), (("_law_leaf" : Str), fd_law_leaf), (("_law_rule" : Str), fd_law_rule), (("_law_ask" : Str), fd_law_ask), (("_law_binding" : Str), fd_law_binding), (("_law_change" : Str), fd_law_change), (("_law_expression" : Str), fd_law_expression), (("_law_inner" : Str), fd_law_inner), (("_law_depth" : Str), fd_law_depth), (("_law_size" : Str), fd_law_size), (("_law_program" : Str), fd_law_program), (("_law_text" : Str), fd_law_text), (("_law_loose" : Str), fd_law_loose), (("law" : Str), fd_law)], [(("Reader" : Str), [(("__init__" : Str), fd_Reader_init), (("word" : Str), fd_Reader_word), (("fail" : Str), fd_Reader_fail), (("take" : Str), fd_Reader_take), (("name" : Str), fd_Reader_name), (("number" : Str), fd_Reader_number), (("expression" : Str), fd_Reader_expression), (("compound" : Str), fd_Reader_compound)])], ["PARTS", "DONE", "LENGTHS", "SHAPES"]⟩
theorem L_ok : L.Ok := by
  refine ⟨?_, ?_, ?_, ?_, by rfl, by rfl, by rfl, by rfl, by decide +kernel, by decide +kernel, by decide +kernel, by rfl⟩
  · intro p hp
    simp only [L, List.mem_cons, List.not_mem_nil, or_false] at hp
    rcases hp with rfl | rfl | rfl | rfl | rfl | rfl | rfl | rfl | rfl | rfl | rfl | rfl | rfl | rfl | rfl | rfl | rfl | rfl | rfl | rfl | rfl | rfl | rfl | rfl | rfl | rfl | rfl | rfl | rfl | rfl | rfl | rfl | rfl | rfl | rfl | rfl | rfl
    · exact ok_is_name
    · exact ok_is_integer
    · exact ok_expressions
    · exact ok_has_form
    · exact ok_is_allowed
    · exact ok_inner
    · exact ok_is_well_formed
    · exact ok_size
    · exact ok_height
    · exact ok_print_program
    · exact ok_words_of
    · exact ok_is_number
    · exact ok_is_word
    · exact ok_short
    · exact ok_tame
    · exact ok_parse
    · exact ok_law_start
    · exact ok_law_fill
    · exact ok_law_take
    · exact ok_law_kinds
    · exact ok_law_parts
    · exact ok_law_names
    · exact ok_law_free
    · exact ok_law_integer
    · exact ok_law_leaf
    · exact ok_law_rule
    · exact ok_law_ask
    · exact ok_law_binding
    · exact ok_law_change
    · exact ok_law_expression
    · exact ok_law_inner
    · exact ok_law_depth
    · exact ok_law_size
    · exact ok_law_program
    · exact ok_law_text
    · exact ok_law_loose
    · exact ok_law
  · intro c hc p hp
    simp only [L, List.mem_cons, List.not_mem_nil, or_false] at hc
    rcases hc with rfl
    · simp only [List.mem_cons, List.not_mem_nil, or_false] at hp
      rcases hp with rfl | rfl | rfl | rfl | rfl | rfl | rfl | rfl
      · exact ok_Reader_init
      · exact ok_Reader_word
      · exact ok_Reader_fail
      · exact ok_Reader_take
      · exact ok_Reader_name
      · exact ok_Reader_number
      · exact ok_Reader_expression
      · exact ok_Reader_compound
  · intro p hp
    simp only [L, List.mem_cons, List.not_mem_nil, or_false] at hp
    rcases hp with rfl | rfl | rfl | rfl | rfl | rfl | rfl | rfl | rfl | rfl | rfl | rfl | rfl | rfl | rfl | rfl | rfl | rfl | rfl | rfl | rfl | rfl | rfl | rfl | rfl | rfl | rfl | rfl | rfl | rfl | rfl | rfl | rfl | rfl | rfl | rfl | rfl <;> rfl
  · intro c hc p hp
    simp only [L, List.mem_cons, List.not_mem_nil, or_false] at hc
    rcases hc with rfl
    · simp only [List.mem_cons, List.not_mem_nil, or_false] at hp
      rcases hp with rfl | rfl | rfl | rfl | rfl | rfl | rfl | rfl <;> rfl
end K02
set_option Elab.async false
set_option linter.all false
set_option maxRecDepth 100000
set_option maxHeartbeats 0
namespace K02
open PySem PySem.W PySem.Calls PyProof.Rows Mi
def loose0 : List PySem.Str := ["ZigguratError", "LimitError", "FormError", "ParseError", "KINDS", "PARTS", "DONE", "WORDS", "LETTERS", "DIGITS", "LENGTHS", "GREATEST", "is_name", "is_integer", "expressions", "has_form", "is_allowed", "inner", "is_well_formed", "size", "height", "MOST_NESTED", "SHAPES", "print_program", "words_of", "is_number", "is_word", "Reader", "short", "tame"]
def loose1 : List PySem.Str := ["parse", "_law_start", "_law_fill", "_law_take", "_law_kinds", "_law_parts", "_law_names", "_law_free", "_law_integer", "_law_leaf", "_law_rule", "_law_ask", "_law_binding", "_law_change", "_law_expression", "_law_inner", "_law_depth", "_law_size", "_law_program", "_law_text", "_law_loose"]
def loose : List PySem.Str := loose0 ++ loose1
abbrev R : OpenRow := OpenLaw.row PySem.Challenge.rw_ziggurat_k02_texts_of_programs
abbrev hk : Hook := He.hookX 6 L.fa L.fn L.ts [] L.ex
def ob (s : SharedT) : He.AlX := He.obsX 6 L.fa L.fn L.ts [] L.ex (HandSHeadRun.getT s)
theorem ob_eq (s : SharedT) : ob s = hk.obs s.abs := He.obsX_eq (HandSHeadRun.getT_eq s)
theorem run_false (w : World) : HandSHeadRun.RunEq R (view R.prog [55]) hk ob 4000 loose (w.withFollow "special-get-raises" false) := by
  intro os
  kernel_rfl
theorem run_true (w : World) : HandSHeadRun.RunEq R (view R.prog [55]) hk ob 4000 loose (w.withFollow "special-get-raises" true) := by
  intro os
  kernel_rfl
theorem run (w : World) : HandSHeadRun.RunEq R (view R.prog [55]) hk ob 4000 loose w := byRow2 "special-get-raises" run_false run_true w
end K02
set_option Elab.async false
set_option linter.all false
set_option maxRecDepth 100000
set_option maxHeartbeats 0
def K02.kk : Nat := 690
open PySem PySem.W PySem.Calls PyProof.Rows in
theorem PySem.Challenge.rw_ziggurat_k02_texts_of_programs_holds_if (ev : Mi.Says K02.P K02.kk 63) : PySem.Challenge.rw_ziggurat_k02_texts_of_programs.Holds := by
  w_on; o_law
  refine HandSHeadRun.head_any (r := OpenLaw.row PySem.Challenge.rw_ziggurat_k02_texts_of_programs) (q := view (OpenLaw.row PySem.Challenge.rw_ziggurat_k02_texts_of_programs).prog [55]) (H := K02.hk) (ob := K02.ob) (M := 4000) (loose := K02.loose) (d := HandSHeadRun.topDef (OpenLaw.row PySem.Challenge.rw_ziggurat_k02_texts_of_programs).prog 55) (kwd := []) K02.ob_eq
    (by kernel_rfl) (fun s => by kernel_rfl) K02.run (by kernel_rfl) (by kernel_rfl) (by kernel_rfl) (by rfl) (by first | assumption | decide +kernel) (by decide +kernel) ⟨rfl, rfl, rfl, rfl, rfl, by decide +kernel⟩ ?hw ?hc
  case hw => w_witness2
  case hc =>
    exact Mi.law_end (l := PySem.Challenge.rw_ziggurat_k02_texts_of_programs) (n := 63) (k := K02.kk) K02.L K02.L_ok (p := "_law_script") rfl (by decide) (by kernel_rfl) (by decide) (by kernel_rfl) (by decide +kernel) (fun x hx => by
      have : (K02.L.fds.all fun q => !decide (q.1 = ("law" : PySem.Str)) || decide (q.2.ps = [("_law_script" : PySem.Str)])) = true := by decide +kernel
      have h2 := List.all_eq_true.mp this _ hx
      simpa using h2) ev
theorem PySem.Challenge.cw_ziggurat_k02_texts_of_programs_holds : PySem.Challenge.rw_ziggurat_k02_texts_of_programs.Holds :=
  PySem.Challenge.rw_ziggurat_k02_texts_of_programs_holds_if K02.says
