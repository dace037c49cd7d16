import PyProof.Rows.All
import Wide.All
import OpenK.AllK
import Wide.FinOn
import HandS.ForMost
import HandS.Flow
import HandS.Conv
import HandS.Lambda
import HandS.TupAny
import HandS.Wide
import HandS.Style
import HandS.Text
import KE.DataEq
import HandS.TupMul
import PyProof.StrOps2
import HandS.Codes
import HandS.IsInst
import HandS.ExcIs
import HandS.WordsDict
import HandS.Replace
import HandS.ReplaceList
import HandS.ReplaceLit
import HandS.Zip
import HandS.ExcOwn
import HandS.Small
import HandS.Defaults
import HandS.HeadEnd
import HandS.EndTab
import HandS.HeadWalk
import HandS.Head0
import HandS.Head1
import HandS.Head2
import HandS.HeadHook4
import KE.KNestM
import HandS.ReplaceDef
import PySem.Challenge.RW_everyview_k27_whole_mixing_texts_numbers
/-! Ev0: data, a small language, its evaluator (core Lean alone). -/
namespace Pm
set_option autoImplicit false

/-- keys of dicts: ints and texts (texts by their codes) -/
inductive DKey where
  | i (n : Int) | s (x : List Nat)
  deriving DecidableEq

/-- values: tuples, lists, dicts that nobody changes any more stand by value; what may change stands in the store -/
inductive D where
  | non | bl (b : Bool) | int (i : Int) | str (x : List Nat)
  | tup (xs : List D) | lst (xs : List D) | dct (kvs : List (DKey × D))
  | ref (n : Nat)
  | scr (ns : List Int)

/-- what stands in the store -/
inductive Ob where
  | dead
  | lst (xs : List D)
  | dct (kvs : List (DKey × D))
  | ins (c : Nat) (fs : List (List Nat × D))

abbrev Store := List Ob
abbrev Loc := List (Option D)

inductive Res (α : Type) where
  | ok (a : α) (st : Store)
  | exc (c : Nat) (fs : List D) (st : Store)
  | bad

def Res.bind {α β : Type} : Res α → (α → Store → Res β) → Res β
  | .ok a st, f => f a st
  | .exc c fs st, _ => .exc c fs st
  | .bad, _ => .bad
/-- where nothing may be raised -/
def Res.calm {α : Type} : Res α → Res α
  | .exc _ _ _ => .bad
  | r => r

inductive Flow where
  | nx (l : Loc) | rt (d : D) | bk (l : Loc) | ct (l : Loc)

inductive Op where
  | add | sub | mul | fdiv | mod | pow | shl
  deriving DecidableEq
inductive Cm where
  | eq | ne | lt | le | gt | ge | isin | notin
  deriving DecidableEq
inductive Tg where
  | int | bool | str | tuple | list | dict | own (c : Nat) | verr
  deriving DecidableEq
inductive Bi where
  | len | tuple | list | dict | int | str | abs | ord | all | any | repr | sorted | max2 | max | min | sum | bool
  deriving DecidableEq
inductive Mt where
  | append | extend | join | split | replace1 | replace | get | items | pop0 | count | index | upper
  deriving DecidableEq
inductive T where
  | nm (i : Nat) | tp (is : List Nat)
  deriving DecidableEq

mutual
inductive E where
  | non | bl (b : Bool) | int (i : Int) | str (x : List Nat)
  | v (i : Nat)
  | g (i : Nat)
  | tup (es : Es) | lst (es : Es)
  | bin (op : Op) (a b : E) | neg (a : E)
  | cmp (op : Cm) (a b : E) | chn (o1 o2 : Cm) (a b c : E)
  | isn (a : E) | nisn (a : E)
  | and (a b : E) | or (a b : E) | not (a : E) | ite (c a b : E)
  | ix (a b : E) | slc (a : E) (lo hi : Oe) | rev (a : E)
  | isi (a : E) (ts : List Tg)
  | call (f : Nat) (es : Es)
  | thk (f : Nat) (body : E)
  | frc
  | isx (t : Tg)
  | bi (b : Bi) (es : Es)
  | mt (m : Mt) (o : E) (es : Es)
  | lc (elt : E) (t : T) (it : It) (c : Oe)
  | fmt (es : Es)
  | dic (ks : List DKey) (es : Es)
  | box (a : E) | frz (i : Nat)
inductive Oe where
  | no | yes (e : E)
inductive Es where
  | nil | cons (e : E) (es : Es)
inductive It where
  | seq (a : E) | rng (a : E) | rng2 (a b : E) | zip (a b : E) | enm (a : E) | itm (a : E)
end

mutual
inductive S where
  | pass
  | asg (t : T) (e : E)
  | par (is : List Nat) (es : Es)
  | aug (i : Nat) (op : Op) (e : E)
  | sub (o i e : E)
  | ex (e : E)
  | ret (e : E)
  | retn
  | iff (c : E) (a b : Ss)
  | for (t : T) (it : It) (b : Ss)
  | whl (c : E) (b : Ss)
  | rse (c : Nat) (es : Es)
  | try (b : Ss) (c : Nat) (i : Nat) (h : Ss)
inductive Ss where
  | nil | cons (s : S) (ss : Ss)
end
end Pm

namespace Pm
set_option autoImplicit false

/-- the most items of a list, signs of a text -/
abbrev SL : Nat := 16777216

/-! ### plain data: equality, what is shown -/
def keyD : DKey → D
  | .i n => .int n
  | .s x => .str x
def asKey : D → Option DKey
  | .int n => some (.i n)
  | .str x => some (.s x)
  | _ => none

mutual
/-- no stored thing, dict or error within -/
def D.plain : D → Bool
  | .non => true | .bl _ => true | .int _ => true | .str _ => true
  | .tup xs => plains xs
  | .lst xs => plains xs
  | _ => false
def plains : List D → Bool
  | [] => true
  | x :: xs => x.plain && plains xs
end
mutual
def D.depth : D → Nat
  | .tup xs => depths xs + 1
  | .lst xs => depths xs + 1
  | _ => 0
def depths : List D → Nat
  | [] => 0
  | x :: xs => max x.depth (depths xs)
end
mutual
/-- == of plain data -/
def eqv : D → D → Bool
  | .non, .non => true
  | .bl a, .bl b => a == b
  | .bl a, .int i => (if a then 1 else 0) == i
  | .int i, .bl a => i == (if a then 1 else 0)
  | .int i, .int j => i == j
  | .str x, .str y => x == y
  | .tup xs, .tup ys => eqvs xs ys
  | .lst xs, .lst ys => eqvs xs ys
  | _, _ => false
def eqvs : List D → List D → Bool
  | [], [] => true
  | x :: xs, y :: ys => eqv x y && eqvs xs ys
  | _, _ => false
end
mutual
/-- a bound of the length of what repr tells -/
def D.weight : D → Nat
  | .int i => i.natAbs.log2 + 3
  | .str x => 10 * x.length + 2
  | .tup xs => weights xs + 3
  | .lst xs => weights xs + 3
  | _ => 5
def weights : List D → Nat
  | [] => 0
  | x :: xs => x.weight + 2 + weights xs
end
mutual
def D.tame : D → Bool
  | .int i => decide (i.natAbs.log2 < 1920)
  | .str x => x.all fun c => decide (c < 128)
  | .tup xs => tames xs
  | .lst xs => tames xs
  | _ => true
def tames : List D → Bool
  | [] => true
  | x :: xs => x.tame && tames xs
end
def D.level (d : D) : Bool := d.plain && decide (d.depth ≤ 64)

/-! ### the store -/
/-- a list, by value or in the store -/
def listOf (st : Store) : D → Option (List D)
  | .lst xs => some xs
  | .ref n => match st[n]? with
    | some (.lst xs) => some xs
    | _ => none
  | _ => none
/-- what may be walked: lists, tuples, texts by signs -/
def seqOf (st : Store) : D → Option (List D)
  | .tup xs => some xs
  | .str x => some (x.map fun c => .str [c])
  | .lst xs => some xs
  | _ => none
def dictOf (st : Store) : D → Option (List (DKey × D))
  | .dct kvs => some kvs
  | .ref n => match st[n]? with
    | some (.dct kvs) => some kvs
    | _ => none
  | _ => none
/-- a list of the store at its top by value -/
def top (st : Store) (d : D) : D := match d with
  | .ref n => match st[n]? with
    | some (.lst xs) => .lst xs
    | _ => d
  | d => d
mutual
/-- stored lists by value, through and through (so deep) -/
def deref (st : Store) : Nat → D → D
  | 0, d => d
  | n + 1, .tup xs => .tup (derefs st n xs)
  | n + 1, .lst xs => .lst (derefs st n xs)
  | n + 1, .ref k => match st[k]? with
    | some (.lst xs) => .lst (derefs st n xs)
    | _ => .ref k
  | _ + 1, d => d
def derefs (st : Store) : Nat → List D → List D
  | 0, xs => xs
  | _ + 1, [] => []
  | n + 1, x :: xs => deref st n x :: derefs st (n + 1) xs
end

def truth (st : Store) : D → Option Bool
  | .non => some false
  | .bl b => some b
  | .int i => some (i != 0)
  | .str x => if x.length ≤ SL then some (!x.isEmpty) else none
  | .tup xs => some (!xs.isEmpty)
  | .lst xs => some (!xs.isEmpty)
  | .dct kvs => some (!kvs.isEmpty)
  | .ref n => match st[n]? with
    | some (.lst xs) => some (!xs.isEmpty)
    | some (.dct kvs) => some (!kvs.isEmpty)
    | _ => none
  | _ => none

/-! ### operators -/
def big : Nat := 2 ^ 900
def mulOk (i j : Int) : Bool := (decide (-(2 ^ 64) < i) && decide (i < 2 ^ 64)) || (decide (-(2 ^ 64) < j) && decide (j < 2 ^ 64)) || (decide (i.natAbs < big) && decide (j.natAbs < big))
def ints2 (a b : D) (f : Int → Int → Option Int) : Option D := match a, b with
  | .int i, .int j => (f i j).map .int
  | _, _ => none
def addD (st : Store) (a b : D) : Option D := match a, b with
  | .int i, .int j => some (.int (i + j))
  | .str x, .str y => if x.length + y.length ≤ SL then some (.str (x ++ y)) else none
  | .tup x, .tup y => if x.length + y.length ≤ SL then some (.tup (x ++ y)) else none
  | a, b => match listOf st a, listOf st b with
    | some x, some y => if x.length + y.length ≤ SL then some (.lst (x ++ y)) else none
    | _, _ => none
def mulD (st : Store) (a b : D) : Option D := match a, b with
  | .int i, .int j => if mulOk i j then some (.int (i * j)) else none
  | .str x, .int j => if x.length * j.toNat ≤ SL ∧ j < 2 ^ 62 ∧ -(2 ^ 62) < j then some (.str (List.replicate j.toNat x).flatten) else none
  | .tup x, .int j => if 2 ≤ j ∧ j ≤ 1000 ∧ x.length ≤ 1000 ∧ x ≠ [] then some (.tup (List.replicate j.toNat x).flatten) else none
  | a, .int j => (listOf st a).bind fun x => if x.length * j.toNat ≤ SL ∧ j < 2 ^ 62 ∧ -(2 ^ 62) < j then some (.lst (List.replicate j.toNat x).flatten) else none
  | _, _ => none
def binD (st : Store) (op : Op) (a b : D) : Option D := match op with
  | .add => addD st a b
  | .sub => ints2 a b fun i j => some (i - j)
  | .mul => mulD st a b
  | .fdiv => ints2 a b fun i j => if 0 < j ∧ j < 1073741824 then some (i / j) else none
  | .mod => ints2 a b fun i j => if 0 < j then some (i % j) else none
  | .pow => ints2 a b fun i j => if 0 ≤ j ∧ j ≤ 1000 ∧ i.natAbs < 2 ^ 64 then some (i ^ j.toNat) else none
  | .shl => ints2 a b fun i j => if 0 ≤ j ∧ j ≤ 1000 ∧ i.natAbs < 2 ^ 64 then some (i * 2 ^ j.toNat) else none

def lookK (k : DKey) : List (DKey × D) → Option D
  | [] => none
  | p :: r => if p.1 = k then some p.2 else lookK k r
def putK (k : DKey) (d : D) (kvs : List (DKey × D)) : List (DKey × D) :=
  if (kvs.any fun p => decide (p.1 = k)) = true then kvs.map (fun p => if p.1 = k then (p.1, d) else p) else kvs ++ [(k, d)]
def mergeD (ks : List DKey) (ds : List D) : List (DKey × D) := (ks.zip ds).foldl (fun a p => putK p.1 p.2 a) []
/-- x < y of texts -/
def ltS (x y : List Nat) : Bool := decide (x < y)
/-- < of what is put in order: ints, texts, tuples of such -/
def ordB (f : Int → Int → Bool) (g : List Nat → List Nat → Bool) (a b : D) : Option Bool := match a, b with
  | .int i, .int j => some (f i j)
  | .str x, .str y => some (g x y)
  | _, _ => none
def eqD (st : Store) (a b : D) : Option Bool := if (top st a).level && (top st b).level then some (eqv (top st a) (top st b)) else none
def inSeq (a : D) (ys : List D) : Option Bool := if a.level && plains ys && decide (depths ys ≤ 60) then some (ys.any fun y => eqv y a) else none
def inD (st : Store) (a b : D) : Option Bool := match b with
  | .str y => match a with
    | .str [c] => some (y.contains c)
    | _ => none
  | .tup ys => inSeq a ys
  | b => match listOf st b with
    | some ys => inSeq a ys
    | none => none
def cmpD (st : Store) (op : Cm) (a b : D) : Option Bool := match op with
  | .lt => ordB (fun i j => decide (i < j)) (fun x y => ltS x y) a b
  | .le => ordB (fun i j => decide (i ≤ j)) (fun x y => !ltS y x) a b
  | .gt => ordB (fun i j => decide (j < i)) (fun x y => ltS y x) a b
  | .ge => ordB (fun i j => decide (j ≤ i)) (fun x y => !ltS x y) a b
  | .eq => eqD st a b
  | .ne => (eqD st a b).map (!·)
  | .isin => inD st a b
  | .notin => (inD st a b).map (!·)

/-- a place counted from the end where below 0 -/
def place (n : Nat) (i : Int) : Option Nat := if 0 ≤ i then (if i < n then some i.toNat else none) else if -(n : Int) ≤ i then some (i + n).toNat else none
def ixD (st : Store) (a b : D) : Option D := match a, b with
  | .str x, .int i => if x.length ≤ SL then (place x.length i).bind fun j => (x[j]?).map fun c => .str [c] else none
  | .tup xs, .int i => (place xs.length i).bind fun j => xs[j]?
  | a, b => match listOf st a, b with
    | some xs, .int i => (place xs.length i).bind fun j => xs[j]?
    | _, _ => match dictOf st a, asKey b with
      | some kvs, some k => lookK k kvs
      | _, _ => none
/-- a bound of a slice among n places (d where it is left out) -/
def cutIx (n d : Nat) : Option Int → Nat
  | none => d
  | some v => if v < 0 then (v + (n : Int)).toNat else min v.toNat n
def cut {α : Type} (xs : List α) (lo hi : Option Int) : List α := (xs.drop (cutIx xs.length 0 lo)).take (cutIx xs.length xs.length hi - cutIx xs.length 0 lo)
def slcD (st : Store) (a : D) (lo hi : Option Int) : Option D := match a with
  | .scr ns => some (.lst ((cut ns lo hi).map .int))
  | .str x => if x.length ≤ SL then some (.str (cut x lo hi)) else none
  | .tup xs => some (.tup (cut xs lo hi))
  | a => (listOf st a).map fun xs => .lst (cut xs lo hi)
def partD : D → Option (Option Int)
  | .int i => some (some i)
  | _ => none

def isD (st : Store) (anc : Nat → List Nat) (d : D) (t : Tg) : Bool := match d, t with
  | .bl _, .bool => true
  | .bl _, .int => true
  | .int _, .int => true
  | .str _, .str => true
  | .tup _, .tuple => true
  | .lst _, .list => true
  | .dct _, .dict => true
  | .ref n, .list => match st[n]? with
    | some (.lst _) => true
    | _ => false
  | .ref n, .dict => match st[n]? with
    | some (.dct _) => true
    | _ => false
  | .ref n, .own k => match st[n]? with
    | some (.ins c _) => (anc c).contains k
    | _ => false
  | _, _ => false

/-! ### built-ins -/
def codes (s : String) : List Nat := s.toList.map Char.toNat
def intText (i : Int) : List Nat := codes (toString i)
def isDigits (x : List Nat) : Bool := !x.isEmpty && x.all fun c => decide (48 ≤ c) && decide (c ≤ 57)
def digitsVal (x : List Nat) : Nat := x.foldl (fun a c => 10 * a + (c - 48)) 0
def strsOf : List D → Option (List (List Nat))
  | [] => some []
  | .str x :: r => (strsOf r).map (x :: ·)
  | _ :: _ => none
def boolsOf : List D → Option (List Bool)
  | [] => some []
  | .bl b :: r => (boolsOf r).map (b :: ·)
  | _ :: _ => none
def intsOf : List D → Option (List Int)
  | [] => some []
  | .int i :: r => (intsOf r).map (i :: ·)
  | _ :: _ => none
def joinT (sep : List Nat) : List (List Nat) → List Nat
  | [] => []
  | [x] => x
  | x :: y :: r => x ++ sep ++ joinT sep (y :: r)
/-- a text parted at each sign c -/
def splitC (c : Nat) : List Nat → List (List Nat)
  | [] => [[]]
  | a :: r => if a = c then [] :: splitC c r else match splitC c r with
    | [] => [[a]]
    | p :: ps => (a :: p) :: ps
/-- each sign c replaced -/
def replC (c : Nat) (y : List Nat) : List Nat → List Nat
  | [] => []
  | a :: r => if a = c then y ++ replC c y r else a :: replC c y r
/-- the first sign c replaced -/
def replC1 (c : Nat) (y : List Nat) : List Nat → List Nat
  | [] => []
  | a :: r => if a = c then y ++ r else a :: replC1 c y r
def rangeD (a b : Int) : List D := (List.range (b - a).toNat).map fun (i : Nat) => .int (a + (i : Int))
end Pm

namespace Pm
set_option autoImplicit false
set_option linter.unusedVariables false

/-- what a program's text gives: its functions, constants, classes (each with its own ancestors, itself too), what repr tells -/
structure Fn where
  nps : Nat
  nsl : Nat
  body : Ss
structure Par where
  funs : Nat → Option Fn
  consts : Nat → D
  anc : Nat → List Nat
  ncl : Nat
  fuel : Nat
  rp : D → List Nat

abbrev M := Store → Res D
abbrev FnSem := Nat → List D → M → M

def insI (i : Int) : List Int → List Int
  | [] => [i]
  | j :: r => if i ≤ j then i :: j :: r else j :: insI i r
def sortI : List Int → List Int
  | [] => []
  | i :: r => insI i (sortI r)
def insS (i : List Nat) : List (List Nat) → List (List Nat)
  | [] => [i]
  | j :: r => if ltS j i then j :: insS i r else i :: j :: r
def sortS : List (List Nat) → List (List Nat)
  | [] => []
  | i :: r => insS i (sortS r)

def biD (P : Par) (st : Store) (b : Bi) (ds : List D) : Option D := match b, ds with
  | .len, [.str x] => if x.length ≤ SL then some (.int x.length) else none
  | .len, [.tup x] => some (.int x.length)
  | .len, [d] => match listOf st d with
    | some xs => some (.int xs.length)
    | none => (dictOf st d).map fun kvs => .int kvs.length
  | .tuple, [.tup x] => some (.tup x)
  | .tuple, [d] => (listOf st d).map .tup
  | .list, [.tup x] => some (.lst x)
  | .list, [d] => match listOf st d with
    | some xs => some (.lst xs)
    | none => (dictOf st d).map fun kvs => .lst (kvs.map fun p => keyD p.1)
  | .int, [.int i] => some (.int i)
  | .int, [.bl b] => some (.int (if b then 1 else 0))
  | .int, [.str x] => if isDigits x && decide (x.length ≤ 600) then some (.int (digitsVal x)) else none
  | .str, [.int i] => if i.natAbs.log2 < 1920 then some (.str (intText i)) else none
  | .abs, [.int i] => some (.int (if i < 0 then -i else i))
  | .ord, [.str [c]] => some (.int c)
  | .all, [d] => ((listOf st d).bind boolsOf).map fun bs => .bl (bs.all id)
  | .any, [d] => ((listOf st d).bind boolsOf).map fun bs => .bl (bs.any id)
  | .repr, [d] => if (deref st 9 d).level && (deref st 9 d).tame && decide ((deref st 9 d).weight ≤ 10000000) then some (.str (P.rp (deref st 9 d))) else none
  | .sorted, [d] => (listOf st d).bind fun xs => if xs.length < 64 then (match intsOf xs with
    | some is => some (.lst ((sortI is).map .int))
    | none => (strsOf xs).map fun ss => .lst ((sortS ss).map .str)) else none
  | .max, [d] => (listOf st d).bind fun xs => (intsOf xs).bind fun is => match is with
    | [] => none
    | i :: r => some (.int (r.foldl (fun a b => if a < b then b else a) i))
  | .sum, [d] => (listOf st d).bind fun xs => (intsOf xs).map fun is => .int is.sum
  | .max2, [.int i, .int j] => some (.int (if j > i then j else i))
  | .bool, [.bl b] => some (.bl b)
  | _, _ => none

def mtD (P : Par) (m : Mt) (o : D) (ds : List D) (st : Store) : Option (D × Store) := match m, o, ds with
  | .append, .ref n, [d] => match st[n]? with
    | some (.lst xs) => if xs.length < SL then some (.non, st.set n (.lst (xs ++ [d]))) else none
    | _ => none
  | .extend, .ref n, [d] => match st[n]?, listOf st d with
    | some (.lst xs), some ys => if xs.length + ys.length ≤ SL then some (.non, st.set n (.lst (xs ++ ys))) else none
    | _, _ => none
  | .join, .str sep, [d] => ((listOf st d).bind strsOf).bind fun xs => if (xs.map List.length).sum + xs.length * sep.length ≤ SL then some (.str (joinT sep xs), st) else none
  | .split, .str x, [.str [c]] => if x.length + 2 ≤ SL ∧ c < 256 then some (.lst ((splitC c x).map .str), st) else none
  | .replace1, .str x, [.str [c], .str y, .int 1] => if x.length + y.length < SL then some (.str (replC1 c y x), st) else none
  | .replace, .str x, [.str [c], .str y] => if x.length + (x.length + 1) * y.length ≤ SL then some (.str (replC c y x), st) else none
  | .upper, .str x, [] => if x.length ≤ 5000000 ∧ x.all (fun c => decide (c < 128)) = true then some (.str (x.map fun c => if 97 ≤ c ∧ c ≤ 122 then c - 32 else c), st) else none
  | .index, d, [.bl b] => (listOf st d).bind fun xs => (boolsOf xs).bind fun bs => if b ∈ bs then some (.int (bs.idxOf b), st) else none
  | .count, d, [.bl b] => (listOf st d).bind fun xs => (boolsOf xs).map fun bs => (.int (bs.count b), st)
  | .get, d, [k, e] => (dictOf st d).bind fun kvs => (asKey k).map fun k => ((lookK k kvs).getD e, st)
  | .items, d, [] => (dictOf st d).map fun kvs => (.lst (kvs.map fun p => .tup [keyD p.1, p.2]), st)
  | _, _, _ => none

inductive Mk where
  | str | list | dict
  deriving DecidableEq
def mtK : Mt → Mk
  | .append => .list | .extend => .list | .index => .list | .count => .list | .pop0 => .list
  | .get => .dict | .items => .dict
  | _ => .str
/-- the receiver is of the method's type -/
def mtOk (m : Mt) (st : Store) (x : D) : Bool := match mtK m with
  | .str => match x with
    | .str _ => true
    | _ => false
  | .list => (listOf st x).isSome
  | .dict => (dictOf st x).isSome
def fmtD : List D → Option (List Nat)
  | [] => some []
  | .str x :: r => (fmtD r).bind fun y => if x.length ≤ SL ∧ x.length + y.length ≤ SL then some (x ++ y) else none
  | .int i :: r => (fmtD r).bind fun y => if i.natAbs.log2 < 1920 ∧ (intText i).length + y.length ≤ SL then some (intText i ++ y) else none
  | _ => none

/-- a target is given a value -/
def setT (t : T) (d : D) (l : Loc) : Option Loc := match t with
  | .nm i => if i < l.length then some (l.set i (some d)) else none
  | .tp is => match d with
    | .tup ds => if is.length = ds.length ∧ (is.all fun i => decide (i < l.length)) = true then some ((is.zip ds).foldl (fun l p => l.set p.1 (some p.2)) l) else none
    | _ => none

def Res.ofOpt {α : Type} (o : Option α) (st : Store) : Res α := match o with
  | some a => .ok a st
  | none => .bad
def Res.ofPair {α : Type} (o : Option (α × Store)) : Res α := match o with
  | some (a, st) => .ok a st
  | none => .bad


/-- x op= y: ints alone -/
def augD (op : Op) (x y : D) : Option D := match op with
  | .add => ints2 x y fun i j => some (i + j)
  | .sub => ints2 x y fun i j => some (i - j)
  | _ => none

/-! ### ends, put together by names -/
def Flow.go (f : Flow) (k : Loc → Res Flow) (st : Store) : Res Flow := match f with
  | .nx l => k l
  | f => .ok f st
/-- behind a turn: on, or out -/
def Flow.turn (f : Flow) (k : Loc → Res Flow) (st : Store) : Res Flow := match f with
  | .nx l => k l
  | .ct l => k l
  | .bk l => .ok (.nx l) st
  | .rt d => .ok (.rt d) st
def Flow.ends (f : Flow) (st : Store) : Res D := match f with
  | .nx _ => .ok .non st
  | .rt d => .ok d st
  | _ => .bad
/-- behind an except suite: the error's name is gone -/
def Flow.out (f : Flow) (i : Nat) (st : Store) : Res Flow := match f with
  | .nx l => .ok (.nx (l.set i none)) st
  | .rt d => .ok (.rt d) st
  | _ => .bad
def optB {α : Type} (o : Option Bool) (t f : Res α) : Res α := match o with
  | some true => t
  | some false => f
  | none => .bad
def ifB {α : Type} (b : Bool) (t f : Res α) : Res α := match b with
  | true => t
  | false => f
def optR {α β : Type} (o : Option α) (f : α → Res β) : Res β := match o with
  | some a => f a
  | none => .bad
def asInt {α : Type} (d : D) (f : Int → Res α) : Res α := match d with
  | .int i => f i
  | _ => .bad
/-- what is not gone from the store -/
def live (st : Store) (x : D) : Option D := match x with
  | .ref n => match st[n]? with
    | some .dead => none
    | some _ => some x
    | none => none
  | x => some x
def liveT (st : Store) (x : D) : Option D := match x with
  | .scr _ => none
  | x => live st x
/-- is an error of the class c a t? -/
def isE (anc : Nat → List Nat) (c : Nat) : Tg → Bool
  | .own k => (anc c).contains k
  | .verr => true
  | _ => false
def isNon : D → Bool
  | .non => true
  | _ => false
def revD : D → Option D
  | .tup xs => some (.tup xs.reverse)
  | .lst xs => some (.lst xs.reverse)
  | _ => none
def boxD (d : D) (st : Store) : Res D := match d with
  | .lst xs => .ok (.ref st.length) (st ++ [.lst xs])
  | .dct kvs => .ok (.ref st.length) (st ++ [.dct kvs])
  | _ => .bad
def frzD (o : Option (Option D)) (st : Store) : Res D := match o with
  | some (some (.ref n)) => match st[n]? with
    | some (.lst xs) => .ok (.lst xs) (st.set n .dead)
    | some (.dct kvs) => .ok (.dct kvs) (st.set n .dead)
    | _ => .bad
  | _ => .bad
def subD (x k d : D) (l : Loc) (st : Store) : Res Flow := match x with
  | .ref n => match st[n]? with
    | some (.lst xs) => asInt k fun k => optR (place xs.length k) fun j => .ok (.nx l) (st.set n (.lst (xs.set j d)))
    | some (.dct kvs) => optR (asKey k) fun k => if kvs.length < SL then .ok (.nx l) (st.set n (.dct (putK k d kvs))) else .bad
    | _ => .bad
  | _ => .bad
def zipD (x y : D) : Option (List D) := match x, y with
  | .tup xs, .tup ys => some ((xs.zip ys).map fun p => .tup [p.1, p.2])
  | .lst xs, .lst ys => some ((xs.zip ys).map fun p => .tup [p.1, p.2])
  | _, _ => none
def enmD (x : D) : Option (List D) := match x with
  | .lst xs => some ((xs.zipIdx).map fun p => .tup [.int p.2, p.1])
  | _ => none
def rngD (i j : Int) : Option (List D) := if -(2 ^ 62) ≤ i ∧ i < 2 ^ 62 ∧ -(2 ^ 62) ≤ j ∧ j < 2 ^ 62 then some (rangeD i j) else none
def sized (ds : List D) (d : D) (st : Store) : Res D := if ds.length ≤ SL then .ok d st else .bad
/-- a try: the body's end, or its error where the clause is for it -/
def Res.tried (r : Res Flow) (p : Nat → Option Bool) (h : Nat → Store → Res Flow) : Res Flow := match r with
  | .exc k fs st => optB (p k) (h k st) (.exc k fs st)
  | r => r
/-- is an error of the class k caught by a clause for c? -/
def Par.catches (P : Par) (c k : Nat) : Option Bool := if k < P.ncl then some ((P.anc k).contains c) else none

/-- the elements of a comprehension, item by item -/
def compL (t : T) (tst : Loc → Store → Res Bool) (elt : Loc → Store → Res D) (l : Loc) : List D → Store → Res (List D)
  | [], st => .ok [] st
  | x :: xs, st => optR (setT t x l) fun l' => (tst l' st).bind fun b st => ifB b ((elt l' st).bind fun d st => (compL t tst elt l xs st).bind fun ds st => .ok (d :: ds) st) (compL t tst elt l xs st)
/-- a for over items -/
def forL (t : T) (body : Loc → Store → Res Flow) : List D → Loc → Store → Res Flow
  | [], l, st => .ok (.nx l) st
  | x :: xs, l, st => optR (setT t x l) fun l' => (body l' st).bind fun f st => f.turn (fun l => forL t body xs l st) st
def whlL (tst : Loc → Store → Res Bool) (body : Loc → Store → Res Flow) : Nat → Loc → Store → Res Flow
  | 0, _, _ => .bad
  | n + 1, l, st => (tst l st).bind fun b st => ifB b ((body l st).bind fun f st => f.turn (fun l => whlL tst body n l st) st) (.ok (.nx l) st)

section
variable (P : Par) (F : FnSem) (th : M) (xc : Option Nat)
mutual
def evE : E → Loc → Store → Res D
  | .non, _, st => .ok .non st
  | .bl b, _, st => .ok (.bl b) st
  | .int i, _, st => .ok (.int i) st
  | .str x, _, st => .ok (.str x) st
  | .v i, l, st => optR (l[i]?) fun o => optR o fun d => .ok d st
  | .g i, _, st => .ok (P.consts i) st
  | .tup es, l, st => (evEs es l st).bind fun ds st => sized ds (.tup ds) st
  | .lst es, l, st => (evEs es l st).bind fun ds st => sized ds (.lst ds) st
  | .bin op a b, l, st => (evE a l st).bind fun x st => (evE b l st).bind fun y st => .ofOpt (binD st op x y) st
  | .neg a, l, st => (evE a l st).bind fun x st => asInt x fun i => .ok (.int (-i)) st
  | .cmp op a b, l, st => (evE a l st).bind fun x st => (evE b l st).bind fun y st => .ofOpt ((cmpD st op x y).map .bl) st
  | .chn o1 o2 a b c, l, st => (evE a l st).bind fun x st => (evE b l st).bind fun y st => optB (cmpD st o1 x y) ((evE c l st).bind fun z st => .ofOpt ((cmpD st o2 y z).map .bl) st) (.ok (.bl false) st)
  | .isn a, l, st => (evE a l st).bind fun x st => optR (live st x) fun x => .ok (.bl (isNon x)) st
  | .nisn a, l, st => (evE a l st).bind fun x st => optR (live st x) fun x => .ok (.bl (!isNon x)) st
  | .and a b, l, st => (evE a l st).bind fun x st => optB (truth st x) (evE b l st) (.ok x st)
  | .or a b, l, st => (evE a l st).bind fun x st => optB (truth st x) (.ok x st) (evE b l st)
  | .not a, l, st => (evE a l st).bind fun x st => .ofOpt ((truth st x).map fun b => .bl (!b)) st
  | .ite c a b, l, st => (evT c l st).bind fun k st => ifB k (evE a l st) (evE b l st)
  | .ix a b, l, st => (evE a l st).bind fun x st => (evE b l st).bind fun y st => .ofOpt (ixD st x y) st
  | .slc a lo hi, l, st => (evE a l st).bind fun x st => (evO lo l st).bind fun u st => (evO hi l st).bind fun w st => .ofOpt (slcD st x u w) st
  | .rev a, l, st => (evE a l st).bind fun x st => .ofOpt (revD x) st
  | .isi a ts, l, st => (evE a l st).bind fun x st => optR (liveT st x) fun x => .ok (.bl (ts.any (isD st P.anc x))) st
  | .call f es, l, st => (evEs es l st).bind fun ds st => F f ds (fun _ => .bad) st
  | .thk f body, l, st => (F f [] (evE body l) st).calm
  | .frc, _, st => th st
  | .isx t, _, st => optR xc fun c => .ok (.bl (isE P.anc c t)) st
  | .bi b es, l, st => (evEs es l st).bind fun ds st => .ofOpt (biD P st b ds) st
  | .mt m o es, l, st => (evE o l st).bind fun x st => ifB (mtOk m st x) ((evEs es l st).bind fun ds st => .ofPair (mtD P m x ds st)) .bad
  | .lc elt t it c, l, st => (evI it l st).bind fun xs st => ((compL t (fun l st => evC c l st) (fun l st => evE elt l st) l xs st).calm).bind fun ds st => sized ds (.lst ds) st
  | .fmt es, l, st => (evEs es l st).bind fun ds st => .ofOpt ((fmtD ds).map .str) st
  | .dic ks es, l, st => (evEs es l st).bind fun ds st => if ks.length = ds.length ∧ ds.length ≤ 15 then .ok (.dct (mergeD ks ds)) st else .bad
  | .box a, l, st => (evE a l st).bind fun x st => boxD x st
  | .frz i, l, st => frzD (l[i]?) st
/-- a test -/
def evT : E → Loc → Store → Res Bool
  | .and a b, l, st => (evT a l st).bind fun k st => ifB k (evT b l st) (.ok false st)
  | .or a b, l, st => (evT a l st).bind fun k st => ifB k (.ok true st) (evT b l st)
  | .not a, l, st => (evT a l st).bind fun k st => .ok (!k) st
  | e, l, st => (evE e l st).bind fun x st => .ofOpt (truth st x) st
def evO : Oe → Loc → Store → Res (Option Int)
  | .no, _, st => .ok none st
  | .yes e, l, st => (evE e l st).bind fun x st => asInt x fun i => .ok (some i) st
/-- a comprehension's test -/
def evC : Oe → Loc → Store → Res Bool
  | .no, _, st => .ok true st
  | .yes e, l, st => evT e l st
def evEs : Es → Loc → Store → Res (List D)
  | .nil, _, st => .ok [] st
  | .cons e es, l, st => (evE e l st).bind fun d st => (evEs es l st).bind fun ds st => .ok (d :: ds) st
/-- what a loop walks -/
def evI : It → Loc → Store → Res (List D)
  | .seq a, l, st => (evE a l st).bind fun x st => .ofOpt (seqOf st x) st
  | .rng a, l, st => (evE a l st).bind fun x st => asInt x fun j => .ofOpt (rngD 0 j) st
  | .rng2 a b, l, st => (evE a l st).bind fun x st => (evE b l st).bind fun y st => asInt x fun i => asInt y fun j => .ofOpt (rngD i j) st
  | .zip a b, l, st => (evE a l st).bind fun x st => (evE b l st).bind fun y st => .ofOpt (zipD x y) st
  | .enm a, l, st => (evE a l st).bind fun x st => .ofOpt (enmD x) st
  | .itm a, l, st => (evE a l st).bind fun x st => .ofOpt ((dictOf st x).map fun kvs => kvs.map fun p => .tup [keyD p.1, p.2]) st
end

end
section
variable (P : Par) (F : FnSem) (th : M)
mutual
def evS : S → Option Nat → Loc → Store → Res Flow
  | .pass, xc, l, st => .ok (.nx l) st
  | .asg t e, xc, l, st => (evE P F th xc e l st).bind fun d st => .ofOpt ((setT t d l).map .nx) st
  | .par is es, xc, l, st => (evEs P F th xc es l st).bind fun ds st => .ofOpt ((setT (.tp is) (.tup ds) l).map .nx) st
  | .aug i op e, xc, l, st => optR (l[i]?) fun o => optR o fun x => (evE P F th xc e l st).bind fun y st => .ofOpt ((augD op x y).map fun d => .nx (l.set i (some d))) st
  | .sub o i e, xc, l, st => (evE P F th xc e l st).bind fun d st => (evE P F th xc o l st).bind fun x st => (evE P F th xc i l st).bind fun k st => subD x k d l st
  | .ex e, xc, l, st => (evE P F th xc e l st).bind fun _ st => .ok (.nx l) st
  | .ret e, xc, l, st => (evE P F th xc e l st).bind fun d st => .ok (.rt d) st
  | .retn, xc, _, st => .ok (.rt .non) st
  | .iff c a b, xc, l, st => (evT P F th xc c l st).bind fun k st => ifB k (evSs a xc l st) (evSs b xc l st)
  | .for t it b, xc, l, st => (evI P F th xc it l st).bind fun xs st => forL t (fun l st => evSs b xc l st) xs l st
  | .whl c b, xc, l, st => whlL (fun l st => evT P F th xc c l st) (fun l st => evSs b xc l st) P.fuel l st
  | .rse c es, xc, l, st => (evEs P F th xc es l st).bind fun ds st => .exc c ds st
  | .try b c i h, xc, l, st => (evSs b xc l st).tried (P.catches c) fun k st => ((evSs h (some k) (l.set i none) st).calm).bind fun f st => f.out i st
def evSs : Ss → Option Nat → Loc → Store → Res Flow
  | .nil, xc, l, st => .ok (.nx l) st
  | .cons s ss, xc, l, st => (evS s xc l st).bind fun f st => f.go (fun l => evSs ss xc l st) st
end
end

/-- a call, so deep at the most -/
def evF (P : Par) : Nat → FnSem
  | 0, _, _, _, _ => .bad
  | n + 1, f, ds, th, st => optR (P.funs f) fun fn => if ds.length = fn.nps then (evSs P (evF P n) th fn.body none (ds.map some ++ List.replicate (fn.nsl - fn.nps) none) st).bind fun r st => r.ends st else .bad
end Pm

set_option Elab.async false
set_option linter.all false
set_option maxRecDepth 100000
set_option maxHeartbeats 2000000
/-! Ev1: how the evaluator's data stand in the abstract heap of the hand layer. -/
namespace Pm
open PySem PySem.Spec PyProof.Rows L2
set_option autoImplicit false

/-- where the store's things stand: none for what is dead -/
abbrev Rho := List (Option Addr)
/-- the frame: tables of code objects, slots that stay, things that stay, the classes, how many lists are hidden -/
structure Kx where
  T : List (Addr × PySem.Str)
  fx : List (Nat × Addr)
  cd : List (Addr × HO)
  en : List (Rho × Hp)
  cl : Nat → Addr
  h : Nat
structure Kit extends Kx where
  K : PySem.W.Frag

def strS (x : List Nat) : Str := ⟨x.toArray⟩
def keyK : DKey → Key
  | .i n => .inl n
  | .s x => .inr (strS x)

/-- a list that nobody writes: locked, or an object of the module -/
def SqF (K : PySem.W.Frag) (H : Hp) (a : Addr) (xs : List V) : Prop :=
  (∃ o, H a = some (.frz o (.lst xs))) ∨ (SqL K (fun _ => none) a xs)
theorem SqF.sq {K : PySem.W.Frag} {H : Hp} {a : Addr} {xs : List V} (h : SqF K H a xs) : SqL K H a xs := by
  rcases h with ⟨o, h⟩ | (h | ⟨o, h⟩) | h
  · exact .inl (.inr ⟨o, h⟩)
  · cases h
  · cases h
  · exact .inr h

mutual
inductive RelD (K : Kit) (ρ : Rho) (H : Hp) : D → V → Prop
  | non : RelD K ρ H .non .non
  | bl (b : Bool) : RelD K ρ H (.bl b) (.bl b)
  | int (i : Int) : RelD K ρ H (.int i) (.int i)
  | str (x : List Nat) : RelD K ρ H (.str x) (.str (strS x))
  | tup {ds : List D} {vs : List V} {a : Addr} : SqT K.K H a vs → RelDs K ρ H ds vs → RelD K ρ H (.tup ds) (.ref a)
  | lst {ds : List D} {vs : List V} {a : Addr} : H a = some (.lst vs) → some a ∉ ρ → RelDs K ρ H ds vs → RelD K ρ H (.lst ds) (.ref a)
  | dct {ds : List (DKey × D)} {vs : List (Key × V)} {a : Addr} : H a = some (.dK vs) → some a ∉ ρ → RelKs K ρ H ds vs → RelD K ρ H (.dct ds) (.ref a)
  | scr {ns : List Int} {a : Addr} : SqF K.K H a (ns.map V.int) → RelD K ρ H (.scr ns) (.ref a)
  | ref {n : Nat} {a : Addr} : ρ[K.h + n]? = some (some a) → RelD K ρ H (.ref n) (.ref a)
  | dead {n : Nat} {v : V} : ρ[K.h + n]? = some none → RelD K ρ H (.ref n) v
inductive RelDs (K : Kit) (ρ : Rho) (H : Hp) : List D → List V → Prop
  | nil : RelDs K ρ H [] []
  | cons {d : D} {ds : List D} {v : V} {vs : List V} : RelD K ρ H d v → RelDs K ρ H ds vs → RelDs K ρ H (d :: ds) (v :: vs)
inductive RelKs (K : Kit) (ρ : Rho) (H : Hp) : List (DKey × D) → List (Key × V) → Prop
  | nil : RelKs K ρ H [] []
  | cons {k : DKey} {d : D} {ds : List (DKey × D)} {v : V} {vs : List (Key × V)} : RelD K ρ H d v → RelKs K ρ H ds vs → RelKs K ρ H ((k, d) :: ds) ((keyK k, v) :: vs)
end

def RelOb (K : Kit) (ρ : Rho) (H : Hp) : Ob → Addr → Prop
  | .lst ds, a => ∃ vs, H a = some (.lst vs) ∧ RelDs K ρ H ds vs
  | .dct ds, a => ∃ vs, H a = some (.dK vs) ∧ RelKs K ρ H ds vs
  | _, _ => False

/-- no code object's table -/
def Calm (o : HO) : Prop := ∀ ps, o ≠ .tbl ps
/-- what a program may write -/
def mutO : HO → Bool
  | .lst _ => true
  | .dK _ => true
  | .dT _ => true
  | .set _ _ => true
  | .ins _ _ _ => true
  | _ => false

structure Sim (K : Kit) (ρ : Rho) (st : Store) (H : Hp) : Prop where
  len : ρ.length = K.h + st.length
  inj : ∀ (n m : Nat) (a : Addr), ρ[n]? = some (some a) → ρ[m]? = some (some a) → n = m
  ob : ∀ (n : Nat) (o : Ob), st[n]? = some o → (o = .dead ∧ ρ[K.h + n]? = some none) ∨ ∃ a, ρ[K.h + n]? = some (some a) ∧ RelOb K ρ H o a
  hd : ∀ (n : Nat) (a : Addr), n < K.h → ρ[n]? = some (some a) → ∃ o, H a = some o ∧ mutO o = true
  tab : LamX.Tabs K.T H
  cd : ∀ p ∈ K.cd, H p.1 = some p.2 ∧ ∃ φ, p.2 = HO.ext φ

/-- nothing but a table stands there -/
def Free (H : Hp) (a : Addr) : Prop := ∀ o, H a = some o → ∃ ps, o = HO.tbl ps
theorem Free.of {H : Hp} {a : Addr} (h : H a = none) : Free H a := fun o e => by rw [h] at e; cases e
theorem Free.no {H : Hp} {a : Addr} {o : HO} (f : Free H a) (h : H a = some o) (c : Calm o) : False := by
  obtain ⟨ps, e⟩ := f o h
  exact c ps e
structure Ext (h : Nat) (ρ : Rho) (H : Hp) (ρ' : Rho) (H' : Hp) : Prop where
  len : ρ.length ≤ ρ'.length
  old : ∀ n : Nat, n < ρ.length → ρ'[n]? = ρ[n]? ∨ ρ'[n]? = some none
  new : ∀ (n : Nat) (a : Addr), ρ.length ≤ n → ρ'[n]? = some (some a) → Free H a
  keep : ∀ (a : Addr) (o : HO), H a = some o → some a ∉ ρ → Calm o → H' a = some o
  dom : ∀ a : Addr, Free H' a → Free H a
  hid : ∀ (n : Nat) (a : Addr), n < h → ρ[n]? = some (some a) → ρ'[n]? = some (some a) ∧ ∀ o, H a = some o → H' a = some o

theorem mem_rho {ρ : Rho} {a : Addr} : some a ∈ ρ ↔ ∃ n : Nat, ρ[n]? = some (some a) := by
  rw [List.mem_iff_getElem?]

theorem Ext.refl {h : Nat} (ρ : Rho) (H : Hp) : Ext h ρ H ρ H :=
  ⟨Nat.le_refl _, fun _ _ => .inl rfl, fun n a hn e => (by rw [List.getElem?_eq_none hn] at e; exact nomatch e), fun _ _ e _ _ => e, fun _ e => e, fun _ _ _ e => ⟨e, fun _ z => z⟩⟩
theorem Ext.mem {n0 : Nat} {ρ ρ' : Rho} {H H' : Hp} (x : Ext n0 ρ H ρ' H') {a : Addr} (h : some a ∈ ρ') : some a ∈ ρ ∨ Free H a := by
  obtain ⟨n, e⟩ := mem_rho.mp h
  by_cases hn : n < ρ.length
  · rcases x.old n hn with q | q
    · exact .inl (mem_rho.mpr ⟨n, q ▸ e⟩)
    · rw [q] at e; cases e
  · exact .inr (x.new n a (Nat.le_of_not_lt hn) e)
theorem Ext.trans {h : Nat} {ρ ρ1 ρ2 : Rho} {H H1 H2 : Hp} (x : Ext h ρ H ρ1 H1) (y : Ext h ρ1 H1 ρ2 H2) : Ext h ρ H ρ2 H2 where
  len := Nat.le_trans x.len y.len
  old := fun n hn => by
    rcases y.old n (Nat.lt_of_lt_of_le hn x.len) with q | q
    · rw [q]; exact x.old n hn
    · exact .inr q
  new := fun n a hn e => by
    by_cases h1 : n < ρ1.length
    · rcases y.old n h1 with q | q
      · exact x.new n a hn (q ▸ e)
      · rw [q] at e; cases e
    · exact x.dom a (y.new n a (Nat.le_of_not_lt h1) e)
  keep := fun a o e hn hc => y.keep a o (x.keep a o e hn hc) (fun hm => by
    rcases x.mem hm with q | q
    · exact hn q
    · exact q.no e hc) hc
  dom := fun a e => x.dom a (y.dom a e)
  hid := fun n a hn e => let ⟨e1, k1⟩ := x.hid n a hn e; let ⟨e2, k2⟩ := y.hid n a hn e1; ⟨e2, fun o z => k2 o (k1 o z)⟩

/-- what is live may be written -/
theorem Sim.live {K : Kit} {ρ : Rho} {st : Store} {H : Hp} (s : Sim K ρ st H) {a : Addr} (h : some a ∈ ρ) : ∃ o, H a = some o ∧ mutO o = true := by
  obtain ⟨n, e⟩ := mem_rho.mp h
  by_cases hh : n < K.h
  · exact s.hd n a hh e
  obtain ⟨m, rfl⟩ : ∃ m, n = K.h + m := ⟨n - K.h, by omega⟩
  have hn : m < st.length := by have := (List.getElem?_eq_some_iff.mp e).1; rw [s.len] at this; omega
  rcases s.ob m st[m] (List.getElem?_eq_getElem hn) with ⟨_, q⟩ | ⟨b, q, r⟩
  · rw [q] at e; cases e
  · rw [q] at e; cases e
    cases ho : st[m] with
    | lst ds => rw [ho] at r; obtain ⟨vs, h1, _⟩ := r; exact ⟨_, h1, rfl⟩
    | dct kvs => rw [ho] at r; obtain ⟨vs, h1, _⟩ := r; exact ⟨_, h1, rfl⟩
    | dead => rw [ho] at r; exact r.elim
    | ins c fs => rw [ho] at r; exact r.elim
theorem Sim.nolive {K : Kit} {ρ : Rho} {st : Store} {H : Hp} (s : Sim K ρ st H) {a : Addr} {o : HO} (h : H a = some o) (hl : mutO o = false) : some a ∉ ρ := fun hm => by
  obtain ⟨o', e, m⟩ := s.live hm
  rw [h] at e
  cases e
  rw [hl] at m
  cases m

section
variable {K : Kit} {ρ ρ' : Rho} {st : Store} {H H' : Hp}
theorem sqT_mono (s : Sim K ρ st H) (x : Ext K.h ρ H ρ' H') {a : Addr} {vs : List V} (h : SqT K.K H a vs) : SqT K.K H' a vs := by
  rcases h with (h | ⟨o, h⟩) | h
  · exact .inl (.inl (x.keep _ _ h (s.nolive h rfl) nofun))
  · exact .inl (.inr ⟨o, x.keep _ _ h (s.nolive h rfl) nofun⟩)
  · exact .inr h
theorem Ext.stay {n0 : Nat} (x : Ext n0 ρ H ρ' H') {a : Addr} {o : HO} (h : H a = some o) (c : Calm o) (n : some a ∉ ρ) : some a ∉ ρ' := fun hm => (x.mem hm).elim n fun q => q.no h c
theorem sqT_monoN {h0 : Nat} (nl : ∀ {a o}, H a = some o → mutO o = false → some a ∉ ρ) (x : Ext h0 ρ H ρ' H') {a : Addr} {vs : List V} (h : SqT K.K H a vs) : SqT K.K H' a vs := by
  rcases h with (h | ⟨o, h⟩) | h
  · exact .inl (.inl (x.keep _ _ h (nl h rfl) nofun))
  · exact .inl (.inr ⟨o, x.keep _ _ h (nl h rfl) nofun⟩)
  · exact .inr h
mutual
theorem RelD.monoN {h0 : Nat} (nl : ∀ {a o}, H a = some o → mutO o = false → some a ∉ ρ) (x : Ext h0 ρ H ρ' H') : ∀ {d : D} {v : V}, RelD K ρ H d v → RelD K ρ' H' d v
  | _, _, .non => .non
  | _, _, .bl b => .bl b
  | _, _, .int i => .int i
  | _, _, .str y => .str y
  | _, _, .tup h r => .tup (sqT_monoN nl x h) (RelDs.monoN nl x r)
  | _, _, .lst h n r => .lst (x.keep _ _ h n nofun) (x.stay h nofun n) (RelDs.monoN nl x r)
  | _, _, .dct h n r => .dct (x.keep _ _ h n nofun) (x.stay h nofun n) (RelKs.monoN nl x r)
  | _, _, .scr h => by
    rcases h with ⟨o, h⟩ | h
    · exact .scr (.inl ⟨o, x.keep _ _ h (nl h rfl) nofun⟩)
    · exact .scr (.inr h)
  | _, _, @RelD.ref _ _ _ n a h => by
    rcases x.old (K.h + n) (List.getElem?_eq_some_iff.mp h).1 with q | q
    · exact .ref (q.trans h)
    · exact .dead q
  | _, _, @RelD.dead _ _ _ n v h => by
    rcases x.old (K.h + n) (List.getElem?_eq_some_iff.mp h).1 with q | q
    · exact .dead (q.trans h)
    · exact .dead q
theorem RelDs.monoN {h0 : Nat} (nl : ∀ {a o}, H a = some o → mutO o = false → some a ∉ ρ) (x : Ext h0 ρ H ρ' H') : ∀ {ds : List D} {vs : List V}, RelDs K ρ H ds vs → RelDs K ρ' H' ds vs
  | _, _, .nil => .nil
  | _, _, .cons h r => .cons (RelD.monoN nl x h) (RelDs.monoN nl x r)
theorem RelKs.monoN {h0 : Nat} (nl : ∀ {a o}, H a = some o → mutO o = false → some a ∉ ρ) (x : Ext h0 ρ H ρ' H') : ∀ {ds : List (DKey × D)} {vs : List (Key × V)}, RelKs K ρ H ds vs → RelKs K ρ' H' ds vs
  | _, _, .nil => .nil
  | _, _, .cons h r => .cons (RelD.monoN nl x h) (RelKs.monoN nl x r)
end
theorem RelD.mono (s : Sim K ρ st H) (x : Ext K.h ρ H ρ' H') {d : D} {v : V} (r : RelD K ρ H d v) : RelD K ρ' H' d v := r.monoN (fun h m => s.nolive h m) x
theorem RelDs.mono (s : Sim K ρ st H) (x : Ext K.h ρ H ρ' H') {ds : List D} {vs : List V} (r : RelDs K ρ H ds vs) : RelDs K ρ' H' ds vs := r.monoN (fun h m => s.nolive h m) x
theorem RelKs.mono (s : Sim K ρ st H) (x : Ext K.h ρ H ρ' H') {ds : List (DKey × D)} {vs : List (Key × V)} (r : RelKs K ρ H ds vs) : RelKs K ρ' H' ds vs := r.monoN (fun h m => s.nolive h m) x
end
end Pm

set_option Elab.async false
set_option linter.all false
set_option maxRecDepth 100000
set_option maxHeartbeats 2000000
/-! Ev2: the evaluator's ends as readings of the hand layer. -/
namespace Pm
open PySem PySem.Spec PyProof.Rows L2
set_option autoImplicit false

theorem SL_eq : sizeLine = SL := sizeLine_eq

/-- the locals -/
def RelL (K : Kit) (ρ : Rho) (H : Hp) (l : Loc) (σ : L2.St) : Prop :=
  l.length = σ.length ∧ (∀ (i : Nat) (d : D), l[i]? = some (some d) → ∃ v, σ[i]? = some (some v) ∧ RelD K ρ H d v) ∧ ∀ p ∈ K.fx, σ[p.1]? = some (some (.ref p.2))
theorem RelL.mono {K : Kit} {ρ ρ' : Rho} {H H' : Hp} {st : Store} {l : Loc} {σ : L2.St} (s : Sim K ρ st H) (x : Ext K.h ρ H ρ' H') (r : RelL K ρ H l σ) : RelL K ρ' H' l σ :=
  ⟨r.1, fun i d e => let ⟨v, h1, h2⟩ := r.2.1 i d e; ⟨v, h1, h2.mono s x⟩, r.2.2⟩

/-- what is wished of an error: its class, its dict, the heap -/
abbrev XW := Nat → Option Addr → Hp → Prop
def XOk (fs : List D) (dx : Option Addr) (_ : Hp) : Prop := fs = [] ∧ dx = none

/-- an end: R ties what is told (with the heap ahead and behind) -/
def EndG {α β : Type} (K : Kit) (B : XW) (R : Rho → Store → Hp → Hp → α → β → Prop) (ρ : Rho) (H : Hp) (r : Res α) (Q : β → Hp → Prop) : Prop := match r with
  | .ok a st' => ∀ ρ' b H', Ext K.h ρ H ρ' H' → Sim K ρ' st' H' → R ρ' st' H H' a b → Q b H'
  | .exc c fs st' => ∀ ρ' H' dx, Ext K.h ρ H ρ' H' → Sim K ρ' st' H' → XOk fs dx H' → B c dx H'
  | .bad => False

/-- R may be told of an elder heap -/
def Back {α β : Type} (R : Rho → Store → Hp → Hp → α → β → Prop) : Prop := ∀ ρ' st H H1 H' a b, (∀ x, Free H1 x → Free H x) → R ρ' st H1 H' a b → R ρ' st H H' a b

section
variable {α β γ δ : Type} {K : Kit} {B : XW} {R : Rho → Store → Hp → Hp → α → β → Prop} {R' : Rho → Store → Hp → Hp → γ → δ → Prop} {ρ ρ1 : Rho} {H H1 : Hp} {st : Store}
theorem EndG.mono (hb : Back R) {r : Res α} {Q : β → Hp → Prop} (h : EndG K B R ρ H r Q) (x : Ext K.h ρ H ρ1 H1) : EndG K B R ρ1 H1 r Q := by
  cases r with
  | ok a st' => exact fun ρ' b H' y s q => h ρ' b H' (x.trans y) s (hb _ _ _ _ _ _ _ x.dom q)
  | exc c fs st' => exact fun ρ' H' dx y s q => h ρ' H' dx (x.trans y) s q
  | bad => exact h
theorem EndG.bind (hb : Back R') {r : Res α} {f : α → Store → Res γ} {Q : δ → Hp → Prop} {Q1 : β → Hp → Prop} (h : EndG K B R' ρ H (r.bind f) Q)
    (k : ∀ a st1 ρ1 b H1, Ext K.h ρ H ρ1 H1 → Sim K ρ1 st1 H1 → R ρ1 st1 H H1 a b → EndG K B R' ρ1 H1 (f a st1) Q → Q1 b H1) : EndG K B R ρ H r Q1 := by
  cases r with
  | ok a st' => exact fun ρ' b H' x s q => k a st' ρ' b H' x s q (EndG.mono hb h x)
  | exc c fs st' => exact h
  | bad => exact h
theorem EndG.imp {r : Res α} {Q Q' : β → Hp → Prop} (h : EndG K B R ρ H r Q) (k : ∀ b H', Q b H' → Q' b H') : EndG K B R ρ H r Q' := by
  cases r with
  | ok a st' => exact fun ρ' b H' x s q => k _ _ (h ρ' b H' x s q)
  | exc c fs st' => exact h
  | bad => exact h
end

/-- a list or dict by value -/
def D.tmp : D → Bool
  | .lst _ => true
  | .dct _ => true
  | _ => false
/-- a list or dict by value that was just laid: no one knows it -/
def Fresh (K : Kit) (ρ' : Rho) (st' : Store) (H H' : Hp) (d : D) (v : V) : Prop := ∃ a H0, v = .ref a ∧ Free H a ∧ H0 a = none ∧ Sim K ρ' st' H0 ∧
  ((∃ ds vs, d = .lst ds ∧ H' = upd H0 a (.lst vs) ∧ RelDs K ρ' H0 ds vs) ∨ ∃ ds vs, d = .dct ds ∧ H' = upd H0 a (.dK vs) ∧ RelKs K ρ' H0 ds vs)
theorem Fresh.back {K : Kit} {ρ' : Rho} {st' : Store} {H H1 H' : Hp} {d : D} {v : V} (k : ∀ x, Free H1 x → Free H x) (h : Fresh K ρ' st' H1 H' d v) : Fresh K ρ' st' H H' d v := by
  obtain ⟨a, H0, h1, h2, h3⟩ := h
  exact ⟨a, H0, h1, k a h2, h3⟩
theorem Fresh.lst {K : Kit} {ρ : Rho} {st : Store} {H : Hp} {p : Addr} {ds : List D} {vs : List V} (s : Sim K ρ st H) (hp : H p = none) (r : RelDs K ρ H ds vs) : Fresh K ρ st H (upd H p (.lst vs)) (.lst ds) (.ref p) :=
  ⟨p, H, rfl, Free.of hp, hp, s, .inl ⟨ds, vs, rfl, rfl, r⟩⟩
theorem Fresh.dct {K : Kit} {ρ : Rho} {st : Store} {H : Hp} {p : Addr} {ds : List (DKey × D)} {vs : List (Key × V)} (s : Sim K ρ st H) (hp : H p = none) (r : RelKs K ρ H ds vs) : Fresh K ρ st H (upd H p (.dK vs)) (.dct ds) (.ref p) :=
  ⟨p, H, rfl, Free.of hp, hp, s, .inr ⟨ds, vs, rfl, rfl, r⟩⟩
/-- a value; fr: a list by value is new -/
def RE (K : Kit) (fr : Bool) : Rho → Store → Hp → Hp → D → V → Prop := fun ρ' st H H' d v => RelD K ρ' H' d v ∧ (fr = true → d.tmp = true → Fresh K ρ' st H H' d v)
theorem RE.back {K : Kit} {fr : Bool} : Back (RE K fr) := fun _ _ _ _ _ _ _ k h => ⟨h.1, fun f t => (h.2 f t).back k⟩
def REs (K : Kit) : Rho → Store → Hp → Hp → List D → List V → Prop := fun ρ' _ _ H' d v => RelDs K ρ' H' d v
theorem REs.back {K : Kit} : Back (REs K) := fun _ _ _ _ _ _ _ _ h => h
def RB {α : Type} : Rho → Store → Hp → Hp → α → α → Prop := fun _ _ _ _ a b => a = b
theorem RB.back {α : Type} : Back (RB (α := α)) := fun _ _ _ _ _ _ _ _ h => h

section
variable (K : Kit) (B : L2.St → XW)
/-- where the evaluator stands -/
structure At (ρ : Rho) (H : Hp) (l : Loc) (σ : L2.St) (st : Store) : Prop where
  sim : Sim K ρ st H
  loc : RelL K ρ H l σ
  en : ∀ p ∈ K.en, Ext K.h p.1 p.2 ρ H
def tE (fr : Bool) (m : Loc → Store → Res D) : TE := fun σ H Q => ∃ ρ l st, At K ρ H l σ st ∧ EndG K (B σ) (RE K fr) ρ H (m l st) Q
def tT (m : Loc → Store → Res Bool) : TT := fun σ H Q => ∃ ρ l st, At K ρ H l σ st ∧ EndG K (B σ) RB ρ H (m l st) Q
def tO (m : Loc → Store → Res (Option Int)) : TO := fun σ H Q => ∃ ρ l st, At K ρ H l σ st ∧ EndG K (B σ) RB ρ H (m l st) Q
def tA (m : Loc → Store → Res (List D)) : TA := fun σ H Q => ∃ ρ l st, At K ρ H l σ st ∧ EndG K (B σ) (REs K) ρ H (m l st) Q
end
theorem At.go {K : Kit} {ρ ρ1 : Rho} {H H1 : Hp} {l : Loc} {σ : L2.St} {st st1 : Store} (a : At K ρ H l σ st) (x : Ext K.h ρ H ρ1 H1) (s : Sim K ρ1 st1 H1) : At K ρ1 H1 l σ st1 := ⟨s, a.loc.mono a.sim x, fun p hp => (a.en p hp).trans x⟩

theorem PE.imp {X : Cx} {e : Expr} {t t' : TE} (h : PE X e t) (w : ∀ σ H Q, t' σ H Q → t σ H Q) : PE X e t' := ⟨fun pins s σ H Q I q => h.run pins s σ H Q I (w σ H Q q)⟩
theorem PT.imp {X : Cx} {e : Expr} {t t' : TT} (h : PT X e t) (w : ∀ σ H Q, t' σ H Q → t σ H Q) : PT X e t' := ⟨fun pins s σ H Q I q => h.run pins s σ H Q I (w σ H Q q)⟩
theorem PA.imp {X : Cx} {e : List Expr} {t t' : TA} (h : PA X e t) (w : ∀ σ H Q, t' σ H Q → t σ H Q) : PA X e t' := ⟨fun pos pins s σ H Q I q => h.run pos pins s σ H Q I (w σ H Q q)⟩
theorem PO.imp {X : Cx} {e : Option Expr} {t t' : TO} (h : PO X e t) (w : ∀ σ H Q, t' σ H Q → t σ H Q) : PO X e t' := ⟨fun pins s σ H Q I q => h.run pins s σ H Q I (w σ H Q q)⟩

/-- an operation by values, the store as it is: what the evaluator tells is what the rule asks -/
theorem EndG.opt {K : Kit} {B : XW} {fr : Bool} {ρ : Rho} {H : Hp} {st : Store} {o : Option D} {Q : VK} (h : EndG K B (RE K fr) ρ H (Res.ofOpt o st) Q) : ∃ d, o = some d ∧
    ∀ ρ' v H', Ext K.h ρ H ρ' H' → Sim K ρ' st H' → RelD K ρ' H' d v → (fr = true → d.tmp = true → Fresh K ρ' st H H' d v) → Q v H' := by
  cases o with
  | none => exact h.elim
  | some d => exact ⟨d, rfl, fun ρ' v H' x s r f => h ρ' v H' x s ⟨r, f⟩⟩

/-- a new untracked thing is laid: the store stays -/
theorem ext_new {h : Nat} {ρ : Rho} {H : Hp} {p : Addr} {o : HO} (hp : H p = none) : Ext h ρ H ρ (upd H p o) where
  hid := fun _ a _ e => ⟨e, fun u z => by rw [upd_ne (ne_of_none z hp)]; exact z⟩
  len := Nat.le_refl _
  old := fun _ _ => .inl rfl
  new := fun n a hn e => (by rw [List.getElem?_eq_none hn] at e; exact nomatch e)
  keep := fun a u e _ _ => (by rw [upd_ne (ne_of_none e hp)]; exact e)
  dom := fun a e => by
    by_cases h : a = p
    · rw [h]; exact Free.of hp
    · exact fun o q => e o (by rw [upd_ne h]; exact q)
theorem sim_new {K : Kit} {ρ : Rho} {H : Hp} {st : Store} {p : Addr} {o : HO} (s : Sim K ρ st H) (hp : H p = none) : Sim K ρ st (upd H p o) where
  len := s.len
  inj := s.inj
  ob := fun n ob e => by
    rcases s.ob n ob e with q | ⟨a, e1, r⟩
    · exact .inl q
    · refine .inr ⟨a, e1, ?_⟩
      have x : Ext K.h ρ H ρ (upd H p o) := ext_new hp
      cases ob with
      | lst ds =>
        obtain ⟨vs, h1, h2⟩ := r
        exact ⟨vs, by rw [upd_ne (ne_of_none h1 hp)]; exact h1, RelDs.mono s x h2⟩
      | dct ds =>
        obtain ⟨vs, h1, h2⟩ := r
        exact ⟨vs, by rw [upd_ne (ne_of_none h1 hp)]; exact h1, RelKs.mono s x h2⟩
      | dead => exact r
      | ins _ _ => exact r
  hd := fun n a hn e => let ⟨u, h1, h2⟩ := s.hd n a hn e; ⟨u, by rw [upd_ne (ne_of_none h1 hp)]; exact h1, h2⟩
  cd := fun q hq => let ⟨h1, h2⟩ := s.cd q hq; ⟨by rw [upd_ne (ne_of_none h1 hp)]; exact h1, h2⟩
  tab := s.tab.ext fun b o e => by rw [upd_ne (ne_of_none e hp)]; exact e
theorem new_free {K : Kit} {ρ : Rho} {H : Hp} {st : Store} {p : Addr} (s : Sim K ρ st H) (hp : H p = none) : some p ∉ ρ := fun hm => by
  obtain ⟨o, e, _⟩ := s.live hm
  rw [hp] at e; cases e
theorem RelDs.length {K : Kit} {ρ : Rho} {H : Hp} : ∀ {ds : List D} {vs : List V}, RelDs K ρ H ds vs → ds.length = vs.length
  | _, _, .nil => rfl
  | _, _, .cons _ r => by rw [List.length_cons, List.length_cons, RelDs.length r]
/-- a new list by value -/
theorem new_lst {K : Kit} {ρ : Rho} {H : Hp} {st : Store} {p : Addr} {ds : List D} {vs : List V} (s : Sim K ρ st H) (hp : H p = none) (r : RelDs K ρ H ds vs) : RelD K ρ (upd H p (.lst vs)) (.lst ds) (.ref p) :=
  .lst upd_same (new_free s hp) (r.mono s (ext_new hp))
theorem new_tup {K : Kit} {ρ : Rho} {H : Hp} {st : Store} {p : Addr} {ds : List D} {vs : List V} (s : Sim K ρ st H) (hp : H p = none) (r : RelDs K ρ H ds vs) : RelD K ρ (upd H p (.tup vs)) (.tup ds) (.ref p) :=
  .tup (.inl (.inl upd_same)) (r.mono s (ext_new hp))

abbrev Cx.kit (X : Cx) (κ : Kx) : Kit := ⟨κ, X.K⟩
section
variable {X : Cx} {κ : Kx} {B : L2.St → XW}
/-! ### names, constants -/
theorem se_const {e : Expr} {v : V} {d : D} {fr : Bool} (h : PE X e (tC v)) (hr : ∀ (K : Kit) ρ H, RelD K ρ H d v) (ht : d.tmp = false) : PE X e (tE (Cx.kit X κ) B fr fun _ st => .ok d st) :=
  PE.imp h fun σ H Q ⟨ρ, l, st, a, q⟩ => q ρ v H (Ext.refl _ _) a.sim ⟨hr _ ρ H, fun _ t => by rw [ht] at t; cases t⟩
theorem se_var {e : Expr} {i : Nat} (h : PE X e (tVar i)) : PE X e (tE (Cx.kit X κ) B false fun l st => optR (l[i]?) fun o => optR o fun d => .ok d st) :=
  PE.imp h fun σ H Q ⟨ρ, l, st, a, q⟩ => by
    dsimp only at q
    cases hi : l[i]? with
    | none => rw [hi] at q; exact q.elim
    | some o =>
      rw [hi] at q
      cases o with
      | none => exact q.elim
      | some d =>
        obtain ⟨v, e, r⟩ := a.loc.2.1 i d hi
        exact ⟨v, e, q ρ v H (Ext.refl _ _) a.sim ⟨r, fun f => nomatch f⟩⟩

/-! ### argument lists -/
theorem sa_nil : PA X [] (tA (Cx.kit X κ) B fun _ st => .ok [] st) :=
  PA.imp pa_nil fun σ H Q ⟨ρ, l, st, a, q⟩ => q ρ [] H (Ext.refl _ _) a.sim .nil
theorem sa_cons {e : Expr} {es : List Expr} {fr : Bool} {m : Loc → Store → Res D} {ms : Loc → Store → Res (List D)} (he : PE X e (tE (Cx.kit X κ) B fr m)) (hs : PA X es (tA (Cx.kit X κ) B ms))
    (hst : starEach (e :: es) X.env = (false, eval e X.env) :: starEach es X.env) : PA X (e :: es) (tA (Cx.kit X κ) B fun l st => (m l st).bind fun d st => (ms l st).bind fun ds st => .ok (d :: ds) st) :=
  PA.imp (pa_cons he hs hst) fun σ H Q ⟨ρ, l, st, a, q⟩ =>
    ⟨ρ, l, st, a, EndG.bind REs.back q fun d st1 ρ1 v H1 x1 s1 r1 q1 =>
      ⟨ρ1, l, st1, a.go x1 s1, EndG.bind REs.back q1 fun ds st2 ρ2 vs H2 x2 s2 r2 q2 => q2 ρ2 (v :: vs) H2 (Ext.refl _ _) s2 (.cons (r1.1.mono s1 x2) r2)⟩⟩
/-! ### displays -/
theorem se_tup {es : List Expr} {k : Nat} {pos : Pos} {fr : Bool} {ms : Loc → Store → Res (List D)} (h : PA X es (tA (Cx.kit X κ) B ms)) : PE X (.Tuple es k pos) (tE (Cx.kit X κ) B fr fun l st => (ms l st).bind fun ds st => sized ds (.tup ds) st) :=
  PE.imp (pe_tup h) fun σ H Q ⟨ρ, l, st, a, q⟩ => ⟨ρ, l, st, a, EndG.bind RE.back q fun ds st1 ρ1 vs H1 x1 s1 r1 q1 => by
    unfold sized at q1
    split at q1
    · rename_i hz
      have r1 : RelDs (Cx.kit X κ) ρ1 H1 ds vs := r1
      refine ⟨by rw [← r1.length, SL_eq]; exact hz, fun p hp => ?_⟩
      exact q1 ρ1 (.ref p) _ (ext_new hp) (sim_new s1 hp) ⟨new_tup s1 hp r1, fun _ t => nomatch t⟩
    · exact q1.elim⟩
theorem se_lst {es : List Expr} {pos : Pos} {fr : Bool} {ms : Loc → Store → Res (List D)} (h : PA X es (tA (Cx.kit X κ) B ms)) : PE X (.List es pos) (tE (Cx.kit X κ) B fr fun l st => (ms l st).bind fun ds st => sized ds (.lst ds) st) :=
  PE.imp (pe_lst h) fun σ H Q ⟨ρ, l, st, a, q⟩ => ⟨ρ, l, st, a, EndG.bind RE.back q fun ds st1 ρ1 vs H1 x1 s1 r1 q1 => by
    unfold sized at q1
    split at q1
    · rename_i hz
      have r1 : RelDs (Cx.kit X κ) ρ1 H1 ds vs := r1
      refine ⟨by rw [← r1.length, SL_eq]; exact hz, fun p hp => ?_⟩
      exact q1 ρ1 (.ref p) _ (ext_new hp) (sim_new s1 hp) ⟨new_lst s1 hp r1, fun _ _ => Fresh.lst s1 hp r1⟩
    · exact q1.elim⟩
end
end Pm

set_option Elab.async false
set_option linter.all false
set_option maxRecDepth 100000
set_option maxHeartbeats 2000000
/-! Ev3: operators by data. -/
namespace Pm
open PySem PySem.Spec PyProof.Rows L2
set_option autoImplicit false

section
variable {K : Kit} {ρ : Rho} {H : Hp} {st : Store}
theorem listOf_rel (s : Sim K ρ st H) {d : D} {v : V} {xs : List D} (r : RelD K ρ H d v) (h : listOf st d = some xs) : ∃ a vs, v = .ref a ∧ H a = some (.lst vs) ∧ RelDs K ρ H xs vs := by
  cases r with
  | lst h1 h2 h3 => cases h; exact ⟨_, _, rfl, h1, h3⟩
  | @ref n a e =>
    dsimp only [listOf] at h
    cases hs : st[n]? with
    | none => rw [hs] at h; cases h
    | some o =>
      rw [hs] at h
      cases o with
      | lst ys =>
        cases h
        rcases s.ob n _ hs with ⟨q, _⟩ | ⟨b, e2, r2⟩
        · cases q
        · rw [e] at e2; cases e2
          obtain ⟨vs, h1, h2⟩ := r2
          exact ⟨a, vs, rfl, h1, h2⟩
      | _ => cases h
  | @dead n v e =>
    dsimp only [listOf] at h
    cases hs : st[n]? with
    | none => rw [hs] at h; cases h
    | some o =>
      rw [hs] at h
      rcases s.ob n _ hs with ⟨q, _⟩ | ⟨b, e2, r2⟩
      · subst q; cases h
      · rw [e] at e2; cases e2
  | _ => cases h
theorem RelDs.append : ∀ {xs : List D} {vs : List V} {ys : List D} {ws : List V}, RelDs K ρ H xs vs → RelDs K ρ H ys ws → RelDs K ρ H (xs ++ ys) (vs ++ ws)
  | _, _, _, _, .nil, q => q
  | _, _, _, _, .cons h r, q => .cons h (RelDs.append r q)
theorem RelDs.get : ∀ {xs : List D} {vs : List V} {i : Nat} {d : D}, RelDs K ρ H xs vs → xs[i]? = some d → ∃ v, vs[i]? = some v ∧ RelD K ρ H d v
  | _, _, _, _, .nil, e => by simp at e
  | _, _, 0, _, .cons h _, e => by simp at e; subst e; exact ⟨_, rfl, h⟩
  | _, _, i + 1, d, .cons _ r, e => by
    obtain ⟨v, h1, h2⟩ := RelDs.get (i := i) (d := d) r (by simpa using e)
    exact ⟨v, by simpa using h1, h2⟩
theorem RelDs.take : ∀ {xs : List D} {vs : List V} (n : Nat), RelDs K ρ H xs vs → RelDs K ρ H (xs.take n) (vs.take n)
  | _, _, 0, _ => .nil
  | _, _, _ + 1, .nil => .nil
  | _, _, n + 1, .cons h r => .cons h (RelDs.take n r)
theorem RelDs.drop : ∀ {xs : List D} {vs : List V} (n : Nat), RelDs K ρ H xs vs → RelDs K ρ H (xs.drop n) (vs.drop n)
  | _, _, 0, r => r
  | _, _, _ + 1, .nil => .nil
  | _, _, n + 1, .cons _ r => RelDs.drop n r
theorem RelDs.set {d : D} {v : V} (h : RelD K ρ H d v) : ∀ {xs : List D} {vs : List V} (i : Nat), RelDs K ρ H xs vs → RelDs K ρ H (xs.set i d) (vs.set i v)
  | _, _, _, .nil => .nil
  | _, _, 0, .cons _ r => .cons h r
  | _, _, i + 1, .cons q r => .cons q (RelDs.set h i r)
theorem RelDs.reverse : ∀ {xs : List D} {vs : List V}, RelDs K ρ H xs vs → RelDs K ρ H xs.reverse vs.reverse
  | _, _, .nil => .nil
  | _, _, .cons h r => by rw [List.reverse_cons, List.reverse_cons]; exact RelDs.append (RelDs.reverse r) (.cons h .nil)
theorem RelDs.rep {xs : List D} {vs : List V} (r : RelDs K ρ H xs vs) : ∀ k : Nat, RelDs K ρ H (List.replicate k xs).flatten (List.replicate k vs).flatten
  | 0 => .nil
  | k + 1 => by rw [List.replicate_succ, List.replicate_succ, List.flatten_cons, List.flatten_cons]; exact RelDs.append r (RelDs.rep r k)

/-- what an operation by values must hand on -/
def Out (K : Kit) (fr : Bool) (ρ : Rho) (H : Hp) (st : Store) (d : D) (Q : VK) : Prop :=
  ∀ ρ' v H', Ext K.h ρ H ρ' H' → Sim K ρ' st H' → RelD K ρ' H' d v → (fr = true → d.tmp = true → Fresh K ρ' st H H' d v) → Q v H'
variable {fr : Bool} {d : D} {Q : VK}
theorem Out.flat {v : V} (h : Out K fr ρ H st d Q) (s : Sim K ρ st H) (r : RelD K ρ H d v) (t : d.tmp = false) : Q v H := h ρ v H (Ext.refl _ _) s r fun _ e => by rw [t] at e; cases e
theorem Out.lst {p : Addr} {ds : List D} {vs : List V} (h : Out K fr ρ H st (.lst ds) Q) (s : Sim K ρ st H) (hp : H p = none) (r : RelDs K ρ H ds vs) : Q (.ref p) (upd H p (.lst vs)) :=
  h ρ _ _ (ext_new hp) (sim_new s hp) (new_lst s hp r) fun _ _ => Fresh.lst s hp r
theorem Out.tup {p : Addr} {ds : List D} {vs : List V} (h : Out K fr ρ H st (.tup ds) Q) (s : Sim K ρ st H) (hp : H p = none) (r : RelDs K ρ H ds vs) : Q (.ref p) (upd H p (.tup vs)) :=
  h ρ _ _ (ext_new hp) (sim_new s hp) (new_tup s hp r) fun _ t => nomatch t
end

section
variable {X : Cx} {κ : Kx} {B : L2.St → XW} {a b : Expr} {fa fb fr : Bool} {ma mb : Loc → Store → Res D} {pos : Pos}
/-- two values, an operation of them -/
theorem two_of {r : R2} {ta tb : TE} (ha : PE X a (tE (Cx.kit X κ) B fa ma)) (hb : PE X b (tE (Cx.kit X κ) B fb mb)) {f : Store → D → D → Option D}
    (hr : ∀ ρ H st d1 d2 v1 v2 d Q, Sim (Cx.kit X κ) ρ st H → RelD (Cx.kit X κ) ρ H d1 v1 → RelD (Cx.kit X κ) ρ H d2 v2 → f st d1 d2 = some d → Out (Cx.kit X κ) fr ρ H st d Q → r v1 v2 H Q) :
    ∀ σ H Q, tE (Cx.kit X κ) B fr (fun l st => (ma l st).bind fun x st => (mb l st).bind fun y st => .ofOpt (f st x y) st) σ H Q → tOp r (tE (Cx.kit X κ) B fa ma) (tE (Cx.kit X κ) B fb mb) σ H Q :=
  fun σ H Q ⟨ρ, l, st, at0, q⟩ => ⟨ρ, l, st, at0, EndG.bind RE.back q fun d1 st1 ρ1 v1 H1 x1 s1 r1 q1 =>
    ⟨ρ1, l, st1, at0.go x1 s1, EndG.bind RE.back q1 fun d2 st2 ρ2 v2 H2 x2 s2 r2 q2 => by
      obtain ⟨d, e, k⟩ := EndG.opt q2
      exact hr ρ2 H2 st2 d1 d2 v1 v2 d Q s2 (r1.1.mono s1 x2) r2.1 e k⟩⟩
theorem se_op {op : Operator} {r : R2} (ho : OpR X (binaryOp op) r) (ha : PE X a (tE (Cx.kit X κ) B fa ma)) (hb : PE X b (tE (Cx.kit X κ) B fb mb)) {f : Store → D → D → Option D}
    (hr : ∀ ρ H st d1 d2 v1 v2 d Q, Sim (Cx.kit X κ) ρ st H → RelD (Cx.kit X κ) ρ H d1 v1 → RelD (Cx.kit X κ) ρ H d2 v2 → f st d1 d2 = some d → Out (Cx.kit X κ) fr ρ H st d Q → r v1 v2 H Q) :
    PE X (.BinOp a op b pos) (tE (Cx.kit X κ) B fr fun l st => (ma l st).bind fun x st => (mb l st).bind fun y st => .ofOpt (f st x y) st) :=
  PE.imp (pe_op ho ha hb) (two_of (ta := tE (Cx.kit X κ) B fa ma) (tb := tE (Cx.kit X κ) B fb mb) ha hb hr)

/-! ### + -/
def rAddA (K : PySem.W.Frag) : R2 := fun x y H Q => (rI0 fun i j => .int (i + j)) x y H Q ∨ (∃ i j, x = .str i ∧ y = .str j ∧ i.length + j.length ≤ sizeLine ∧ Q (.str (i ++ j)) H) ∨ rCatA K x y H Q ∨ rCat x y H Q
theorem op_addA : OpR X (binaryOp .Add) (rAddA X.K) := op_add.or (op_add_str.or (op_catA.or op_cat))
theorem strS_append (x y : List Nat) : strS x ++ strS y = strS (x ++ y) := by
  show Str.mk (x.toArray ++ y.toArray) = _
  simp [strS]
theorem strS_length (x : List Nat) : (strS x).length = x.length := by
  show (x.toArray).size = _
  simp
theorem add_lists {K : Kit} {ρ : Rho} {H : Hp} {st : Store} {d1 d2 d : D} {v1 v2 : V} {Q : VK} {fr : Bool} (s : Sim K ρ st H) (r1 : RelD K ρ H d1 v1) (r2 : RelD K ρ H d2 v2)
    (e : (match listOf st d1, listOf st d2 with
      | some x, some y => if x.length + y.length ≤ SL then some (D.lst (x ++ y)) else none
      | _, _ => none) = some d) (k : Out K fr ρ H st d Q) : rAddA K.K v1 v2 H Q := by
  split at e
  · rename_i x y h1 h2
    split at e
    · rename_i hz
      cases e
      obtain ⟨a1, w1, rfl, g1, q1⟩ := listOf_rel s r1 h1
      obtain ⟨a2, w2, rfl, g2, q2⟩ := listOf_rel s r2 h2
      exact .inr (.inr (.inr ⟨a1, a2, w1, w2, rfl, rfl, g1, g2, by rw [← q1.length, ← q2.length, SL_eq]; exact hz, fun p hp => k.lst s hp (q1.append q2)⟩))
    · cases e
  · cases e
theorem RelDs.nil_iff {K : Kit} {ρ : Rho} {H : Hp} {xs : List D} {vs : List V} (r : RelDs K ρ H xs vs) : vs = [] ↔ xs = [] := by
  cases r <;> simp
theorem add_tups {K : Kit} {ρ : Rho} {H : Hp} {st : Store} {x y : List D} {v1 v2 : V} {Q : VK} {fr : Bool} (s : Sim K ρ st H) (r1 : RelD K ρ H (.tup x) v1) (r2 : RelD K ρ H (.tup y) v2)
    (hz : x.length + y.length ≤ SL) (k : Out K fr ρ H st (.tup (x ++ y)) Q) : rAddA K.K v1 v2 H Q := by
  cases r1 with
  | @tup _ w1 a1 h1 q1 =>
    cases r2 with
    | @tup _ w2 a2 h2 q2 =>
      refine .inr (.inr (.inl ⟨a1, a2, w1, w2, rfl, rfl, h1, h2, by rw [← q1.length, ← q2.length, SL_eq]; exact hz, fun e => ?_, fun e1 e2 => ?_, fun _ _ p hp => k.tup s hp (q1.append q2)⟩))
      · have e' := q1.nil_iff.mp e
        subst e'
        exact k.flat s (.tup h2 q2) rfl
      · have e' := q2.nil_iff.mp e2
        subst e'
        rw [List.append_nil] at k
        exact k.flat s (.tup h1 q1) rfl
theorem add_all {ρ : Rho} {H : Hp} {st : Store} {d1 d2 d : D} {v1 v2 : V} {Q : VK} {K : Kit} {fr : Bool} (s : Sim K ρ st H) (r1 : RelD K ρ H d1 v1) (r2 : RelD K ρ H d2 v2) (e : addD st d1 d2 = some d) (k : Out K fr ρ H st d Q) : rAddA K.K v1 v2 H Q := by
  unfold addD at e
  split at e
  · cases e; cases r1; cases r2
    exact .inl ⟨_, _, rfl, rfl, k.flat s (.int _) rfl⟩
  · split at e
    · rename_i hz
      cases e; cases r1; cases r2
      refine .inr (.inl ⟨_, _, rfl, rfl, by rw [strS_length, strS_length, SL_eq]; exact hz, ?_⟩)
      rw [strS_append]
      exact k.flat s (.str _) rfl
    · cases e
  · split at e
    · rename_i hz
      cases e
      exact add_tups s r1 r2 hz k
    · cases e
  · exact add_lists s r1 r2 e k
/-! ### ints -/
theorem ints2_rel {K : Kit} {ρ : Rho} {H : Hp} {st : Store} {d1 d2 d : D} {v1 v2 : V} {f : Int → Int → Option Int} (r1 : RelD K ρ H d1 v1) (r2 : RelD K ρ H d2 v2) (e : ints2 d1 d2 f = some d) :
    ∃ i j k, v1 = .int i ∧ v2 = .int j ∧ f i j = some k ∧ d = .int k := by
  unfold ints2 at e
  split at e
  · rename_i i j
    cases r1; cases r2
    obtain ⟨k, h1, h2⟩ := Option.map_eq_some_iff.mp e
    exact ⟨i, j, k, rfl, rfl, h1, h2.symm⟩
  · cases e
/-! ### * -/
def rMulA (K : PySem.W.Frag) : R2 := fun x y H Q => (rI CMul fun i j => .int (i * j)) x y H Q ∨ (rI CMulW fun i j => .int (i * j)) x y H Q ∨ rRep x y H Q
theorem op_mulA : OpR X (binaryOp .Mult) (rMulA X.K) := op_mul.or (op_mulW.or op_rep)
theorem mul_ints {K : PySem.W.Frag} {i j : Int} {H : Hp} {Q : VK} (h : mulOk i j = true) (k : Q (.int (i * j)) H) : rMulA K (.int i) (.int j) H Q := by
  unfold mulOk at h
  simp only [Bool.or_eq_true, Bool.and_eq_true, decide_eq_true_eq] at h
  rcases h with (h | h) | h
  · exact .inl ⟨i, j, rfl, rfl, .inl h, k⟩
  · exact .inl ⟨i, j, rfl, rfl, .inr h, k⟩
  · refine .inr (.inl ⟨i, j, rfl, rfl, wide_mul (a := 900) (b := 900) h.1 h.2 (by decide) (by decide) (by decide), k⟩)
theorem mul_all {ρ : Rho} {H : Hp} {st : Store} {d1 d2 d : D} {v1 v2 : V} {Q : VK} {K : Kit} {fr : Bool} (s : Sim K ρ st H) (r1 : RelD K ρ H d1 v1) (r2 : RelD K ρ H d2 v2) (e : mulD st d1 d2 = some d)
    (hs : ∀ x j, d1 = .str x → d2 = .int j → False) (ht : ∀ x j, d1 = .tup x → d2 = .int j → False) (k : Out K fr ρ H st d Q) : rMulA K.K v1 v2 H Q := by
  unfold mulD at e
  split at e
  · split at e
    · rename_i hz
      cases e; cases r1; cases r2
      exact mul_ints hz (k.flat s (.int _) rfl)
    · cases e
  · exact (hs _ _ rfl rfl).elim
  · exact (ht _ _ rfl rfl).elim
  · rename_i j _ _ _
    obtain ⟨x, h1, h2⟩ := Option.bind_eq_some_iff.mp e
    split at h2
    · rename_i hz
      cases h2; cases r2
      obtain ⟨a1, w1, rfl, g1, q1⟩ := listOf_rel s r1 h1
      exact .inr (.inr ⟨a1, j, w1, rfl, rfl, g1, by omega, by omega, by rw [← q1.length, SL_eq]; exact hz.1, fun p hp => k.lst s hp (q1.rep _)⟩)
    · cases h2
  · cases e
end
end Pm

set_option Elab.async false
set_option linter.all false
set_option maxRecDepth 100000
set_option maxHeartbeats 2000000
/-! Ev4: comparisons by data. -/
namespace Pm
open PySem PySem.Spec PyProof.Rows L2
set_option autoImplicit false

mutual
def toP : D → PyData
  | .non => .none
  | .bl b => .bool b
  | .int i => .int i
  | .str x => .str (strS x)
  | .tup xs => .tuple (toPs xs)
  | .lst xs => .list (toPs xs)
  | _ => .none
def toPs : List D → List PyData
  | [] => []
  | x :: xs => toP x :: toPs xs
end
theorem strS_inj {x y : List Nat} (h : strS x = strS y) : x = y := by
  unfold strS at h
  injection h with h
  simpa using congrArg Array.toList h
theorem strS_beq (x y : List Nat) : (strS x == strS y) = (x == y) := by
  by_cases h : x = y
  · subst h; simp
  · rw [beq_eq_false_iff_ne.mpr h, beq_eq_false_iff_ne.mpr fun q => h (strS_inj q)]
section
variable {K : Kit} {ρ : Rho} {H : Hp}
mutual
theorem dp_of : ∀ {d : D} {v : V}, RelD K ρ H d v → d.plain = true → Dp K.K H v (toP d)
  | _, _, .non, _ => .non
  | _, _, .bl b, _ => .bl b
  | _, _, .int i, _ => .int i
  | _, _, .str x, _ => .str _
  | _, _, .tup h r, p => .tup h (dps_of r (by simpa only [D.plain] using p))
  | _, _, .lst h _ r, p => .lst (SqL.of h) (dps_of r (by simpa only [D.plain] using p))
  | _, _, .scr _, p => by simp [D.plain] at p
  | _, _, .ref _, p => by simp [D.plain] at p
  | _, _, .dead _, p => by simp [D.plain] at p
  | _, _, .dct _ _ _, p => by simp [D.plain] at p
theorem dps_of : ∀ {ds : List D} {vs : List V}, RelDs K ρ H ds vs → plains ds = true → DpAll K.K H vs (toPs ds)
  | _, _, .nil, _ => .nil
  | _, _, .cons h r, p => by
    simp only [plains, Bool.and_eq_true] at p
    exact .cons (dp_of h p.1) (dps_of r p.2)
end
end
mutual
theorem toP_plain : ∀ d : D, d.plain = true → (toP d).plain = true
  | .non, _ => rfl
  | .bl _, _ => rfl
  | .int _, _ => rfl
  | .str _, _ => rfl
  | .tup xs, h => by simp only [toP, PyData.plain]; exact toPs_plain xs (by simpa only [D.plain] using h)
  | .lst xs, h => by simp only [toP, PyData.plain]; exact toPs_plain xs (by simpa only [D.plain] using h)
  | .dct _, h => by simp [D.plain] at h
  | .ref _, h => by simp [D.plain] at h
  | .scr _, h => by simp [D.plain] at h
theorem toPs_plain : ∀ ds : List D, plains ds = true → PyData.plainAll (toPs ds) = true
  | [], _ => rfl
  | x :: xs, h => by
    simp only [plains, Bool.and_eq_true] at h
    simp only [toPs, PyData.plainAll, toP_plain x h.1, toPs_plain xs h.2, Bool.and_self]
end
mutual
theorem toP_depth : ∀ d : D, (toP d).depth ≤ d.depth
  | .tup xs => by simp only [toP, PyData.depth, D.depth]; exact Nat.succ_le_succ (toPs_depth xs)
  | .lst xs => by simp only [toP, PyData.depth, D.depth]; exact Nat.succ_le_succ (toPs_depth xs)
  | .non => Nat.zero_le _
  | .bl _ => Nat.zero_le _
  | .int _ => Nat.zero_le _
  | .str _ => Nat.zero_le _
  | .dct _ => Nat.zero_le _
  | .ref _ => Nat.zero_le _
  | .scr _ => Nat.zero_le _
theorem toPs_depth : ∀ ds : List D, PyData.depthAll (toPs ds) ≤ depths ds
  | [] => Nat.le_refl _
  | x :: xs => by
    simp only [toPs, PyData.depthAll, depths]
    have h1 := toP_depth x
    have h2 := toPs_depth xs
    omega
end
mutual
theorem eqv_toP : ∀ a b : D, a.plain = true → b.plain = true → PyData.eqv (toP a) (toP b) = eqv a b
  | .tup xs, .tup ys, h1, h2 => by simp only [toP, PyData.eqv, eqv]; exact eqvs_toPs xs ys (by simpa only [D.plain] using h1) (by simpa only [D.plain] using h2)
  | .lst xs, .lst ys, h1, h2 => by simp only [toP, PyData.eqv, eqv]; exact eqvs_toPs xs ys (by simpa only [D.plain] using h1) (by simpa only [D.plain] using h2)
  | .non, b, _, h => by cases b <;> first | rfl | (simp [D.plain] at h)
  | .bl _, b, _, h => by cases b <;> first | rfl | (simp [D.plain] at h)
  | .int _, b, _, h => by cases b <;> first | rfl | (simp [D.plain] at h)
  | .str x, .str y, _, _ => by simp only [toP, PyData.eqv, eqv]; exact strS_beq _ _
  | .str _, .non, _, _ => rfl
  | .str _, .bl _, _, _ => rfl
  | .str _, .int _, _, _ => rfl
  | .str _, .tup _, _, _ => rfl
  | .str _, .lst _, _, _ => rfl
  | .str _, .dct _, _, h => by simp [D.plain] at h
  | .str _, .ref _, _, h => by simp [D.plain] at h
  | .str _, .scr _, _, h => by simp [D.plain] at h
  | .tup _, .non, _, _ => rfl
  | .tup _, .bl _, _, _ => rfl
  | .tup _, .int _, _, _ => rfl
  | .tup _, .str _, _, _ => rfl
  | .tup _, .lst _, _, _ => rfl
  | .lst _, .non, _, _ => rfl
  | .lst _, .bl _, _, _ => rfl
  | .lst _, .int _, _, _ => rfl
  | .lst _, .str _, _, _ => rfl
  | .lst _, .tup _, _, _ => rfl
  | .tup _, .dct _, _, h => by simp [D.plain] at h
  | .tup _, .ref _, _, h => by simp [D.plain] at h
  | .tup _, .scr _, _, h => by simp [D.plain] at h
  | .lst _, .dct _, _, h => by simp [D.plain] at h
  | .lst _, .ref _, _, h => by simp [D.plain] at h
  | .lst _, .scr _, _, h => by simp [D.plain] at h
  | .dct _, _, h, _ => by simp [D.plain] at h
  | .ref _, _, h, _ => by simp [D.plain] at h
  | .scr _, _, h, _ => by simp [D.plain] at h
theorem eqvs_toPs : ∀ xs ys : List D, plains xs = true → plains ys = true → PyData.eqvAll (toPs xs) (toPs ys) = eqvs xs ys
  | [], [], _, _ => rfl
  | [], _ :: _, _, _ => rfl
  | _ :: _, [], _, _ => rfl
  | x :: xs, y :: ys, h1, h2 => by
    simp only [plains, Bool.and_eq_true] at h1 h2
    simp only [toPs, PyData.eqvAll, eqvs, eqv_toP x y h1.1 h2.1, eqvs_toPs xs ys h1.2 h2.2]
end
theorem any_toPs (a : D) (ha : a.plain = true) : ∀ ys : List D, plains ys = true → ((toPs ys).any fun y => PyData.eqv y (toP a)) = ys.any fun y => eqv y a
  | [], _ => rfl
  | y :: ys, h => by
    simp only [plains, Bool.and_eq_true] at h
    simp only [toPs, List.any_cons, eqv_toP y a h.1 ha, any_toPs a ha ys h.2]

/-! ### rules by data without canLay0 -/
section
variable {X : Cx}
def rEqP (K : PySem.W.Frag) : R2 := fun x y H Q => ∃ d e, Dp K H x d ∧ Dp K H y e ∧ d.plain = true ∧ e.plain = true ∧ d.depth ≤ 64 ∧ Q (.bl (PyData.eqv d e)) H
def rNeP (K : PySem.W.Frag) : R2 := fun x y H Q => ∃ d e, Dp K H x d ∧ Dp K H y e ∧ d.plain = true ∧ e.plain = true ∧ d.depth ≤ 64 ∧ Q (.bl (!PyData.eqv d e)) H
def rInP (K : PySem.W.Frag) : R2 := fun x y H Q => ∃ d es, Dp K H x d ∧ (Dp K H y (.list es) ∨ Dp K H y (.tuple es)) ∧ d.plain = true ∧ PyData.plainAll es = true ∧ PyData.depthAll es ≤ 60 ∧ Q (.bl (es.any fun y => PyData.eqv y d)) H
def rNotInP (K : PySem.W.Frag) : R2 := fun x y H Q => ∃ d es, Dp K H x d ∧ (Dp K H y (.list es) ∨ Dp K H y (.tuple es)) ∧ d.plain = true ∧ PyData.plainAll es = true ∧ PyData.depthAll es ≤ 60 ∧ Q (.bl (!es.any fun y => PyData.eqv y d)) H
theorem op_eqP (hu : X.A.units + 64 < cLine) : OpR X (compareOp .Eq) (rEqP X.K) := by
  intro pins s σ H x y v u Q I rx ry h
  obtain ⟨d, e, hd, he, pd, pe, dd, q⟩ := h
  obtain ⟨as, r1⟩ := Dp.reads I d x v hd rx
  obtain ⟨bs, r2⟩ := Dp.reads I e y u he ry
  exact SeqAt.eq_plain r1 r2 pd pe (by omega) ⟨.bl _, H, I, rfl, q⟩
theorem op_neP (hu : X.A.units + 64 < cLine) : OpR X (compareOp .NotEq) (rNeP X.K) := by
  intro pins s σ H x y v u Q I rx ry h
  obtain ⟨d, e, hd, he, pd, pe, dd, q⟩ := h
  obtain ⟨as, r1⟩ := Dp.reads I d x v hd rx
  obtain ⟨bs, r2⟩ := Dp.reads I e y u he ry
  exact SeqAt.ne_plain r1 r2 pd pe (by omega) ⟨.bl _, H, I, rfl, q⟩
theorem op_inP (hu : X.A.units + 64 < cLine) : OpR X (compareOp .In) (rInP X.K) := by
  intro pins s σ H x y v u Q I rx ry h
  obtain ⟨d, es, hd, he, pd, pe, dd, q⟩ := h
  obtain ⟨as, r1⟩ := Dp.reads I d x v hd rx
  rcases he with he | he
  · obtain ⟨bs, r2⟩ := Dp.reads I _ y u he ry
    exact SeqAt.in_list_data r2 r1 pe pd (by omega) ⟨.bl _, H, I, rfl, q⟩
  · obtain ⟨bs, r2⟩ := Dp.reads I _ y u he ry
    exact SeqAt.in_tuple_data r2 r1 pe pd (by omega) ⟨.bl _, H, I, rfl, q⟩
theorem op_notInP (hu : X.A.units + 64 < cLine) : OpR X (compareOp .NotIn) (rNotInP X.K) := by
  intro pins s σ H x y v u Q I rx ry h
  obtain ⟨d, es, hd, he, pd, pe, dd, q⟩ := h
  obtain ⟨as, r1⟩ := Dp.reads I d x v hd rx
  rcases he with he | he
  · obtain ⟨bs, r2⟩ := Dp.reads I _ y u he ry
    exact SeqAt.notIn_list_data r2 r1 pe pd (by omega) ⟨.bl _, H, I, rfl, q⟩
  · obtain ⟨bs, r2⟩ := Dp.reads I _ y u he ry
    exact SeqAt.notIn_tuple_data r2 r1 pe pd (by omega) ⟨.bl _, H, I, rfl, q⟩
/-! ### texts in order -/
def rStr2 (f : List Nat → List Nat → Bool) : R2 := fun x y H Q => ∃ i j, x = .str i ∧ y = .str j ∧ Q (.bl (f i.cps.toList j.cps.toList)) H
theorem op_ltS : OpR X (compareOp .Lt) (rStr2 fun x y => ltS x y) := by
  intro pins s σ H x y v u Q I rx ry h
  obtain ⟨i, j, rfl, rfl, q⟩ := h
  obtain ⟨t, rfl⟩ := rx
  obtain ⟨t', rfl⟩ := ry
  exact PySem.P.lt_str ⟨.bl _, H, I, rfl, q⟩
theorem op_leS : OpR X (compareOp .LtE) (rStr2 fun x y => !ltS y x) := by
  intro pins s σ H x y v u Q I rx ry h
  obtain ⟨i, j, rfl, rfl, q⟩ := h
  obtain ⟨t, rfl⟩ := rx
  obtain ⟨t', rfl⟩ := ry
  exact PySem.P.le_str ⟨.bl _, H, I, rfl, q⟩
theorem op_gtS : OpR X (compareOp .Gt) (rStr2 fun x y => ltS y x) := by
  intro pins s σ H x y v u Q I rx ry h
  obtain ⟨i, j, rfl, rfl, q⟩ := h
  obtain ⟨t, rfl⟩ := rx
  obtain ⟨t', rfl⟩ := ry
  exact PySem.P.gt_str ⟨.bl _, H, I, rfl, q⟩
theorem op_geS : OpR X (compareOp .GtE) (rStr2 fun x y => !ltS x y) := by
  intro pins s σ H x y v u Q I rx ry h
  obtain ⟨i, j, rfl, rfl, q⟩ := h
  obtain ⟨t, rfl⟩ := rx
  obtain ⟨t', rfl⟩ := ry
  exact PySem.P.ge_str ⟨.bl _, H, I, rfl, q⟩
def rInSg : R2 := fun x y H Q => ∃ (c : Nat) (z : Str), x = .str ⟨#[c]⟩ ∧ y = .str z ∧ Q (.bl (decide (c ∈ z.cps.toList))) H
def rNotInSg : R2 := fun x y H Q => ∃ (c : Nat) (z : Str), x = .str ⟨#[c]⟩ ∧ y = .str z ∧ Q (.bl (!decide (c ∈ z.cps.toList))) H
end

/-! ### the comparisons, told by data -/
def cmA : Cm → CmpOp
  | .eq => .Eq | .ne => .NotEq | .lt => .Lt | .le => .LtE | .gt => .Gt | .ge => .GtE | .isin => .In | .notin => .NotIn
def rCm (K : PySem.W.Frag) : Cm → R2
  | .eq => rEqP K
  | .ne => rNeP K
  | .lt => fun x y H Q => (rI0 fun i j => .bl (decide (i < j))) x y H Q ∨ (rStr2 fun x y => ltS x y) x y H Q
  | .le => fun x y H Q => (rI0 fun i j => .bl (decide (i ≤ j))) x y H Q ∨ (rStr2 fun x y => !ltS y x) x y H Q
  | .gt => fun x y H Q => (rI0 fun i j => .bl (decide (j < i))) x y H Q ∨ (rStr2 fun x y => ltS y x) x y H Q
  | .ge => fun x y H Q => (rI0 fun i j => .bl (decide (j ≤ i))) x y H Q ∨ (rStr2 fun x y => !ltS x y) x y H Q
  | .isin => fun x y H Q => rInP K x y H Q ∨ rInSg x y H Q
  | .notin => fun x y H Q => rNotInP K x y H Q ∨ rNotInSg x y H Q
theorem op_cm {X : Cx} (hu : X.A.units + 64 < cLine) : ∀ c : Cm, OpR X (compareOp (cmA c)) (rCm X.K c)
  | .eq => op_eqP hu
  | .ne => op_neP hu
  | .lt => op_lt.or op_ltS
  | .le => op_le.or op_leS
  | .gt => op_gt.or op_gtS
  | .ge => op_ge.or op_geS
  | .isin => (op_inP hu).or op_in_sign
  | .notin => (op_notInP hu).or op_notIn_sign

section
variable {K : Kit} {ρ : Rho} {H : Hp} {st : Store} {d1 d2 : D} {v1 v2 : V} {Q : VK} {b : Bool}
theorem top_rel (s : Sim K ρ st H) {d : D} {v : V} (r : RelD K ρ H d v) (h : (top st d).plain = true) : Dp K.K H v (toP (top st d)) := by
  cases r with
  | @ref n a e =>
    unfold top at h ⊢
    dsimp only at h ⊢
    cases hs : st[n]? with
    | none => rw [hs] at h; simp [D.plain] at h
    | some o =>
      rw [hs] at h
      cases o with
      | lst ys =>
        dsimp only at h ⊢
        rcases s.ob n _ hs with ⟨q, _⟩ | ⟨b, e2, r2⟩
        · cases q
        · rw [e] at e2; cases e2
          obtain ⟨vs, h1, h2⟩ := r2
          simp only [toP]
          exact .lst (SqL.of h1) (dps_of h2 (by simpa only [D.plain] using h))
      | _ => simp [D.plain] at h
  | @dead n v e =>
    unfold top at h
    dsimp only at h
    cases hs : st[n]? with
    | none => rw [hs] at h; simp [D.plain] at h
    | some o =>
      rw [hs] at h
      rcases s.ob n _ hs with ⟨q, _⟩ | ⟨b, e2, r2⟩
      · subst q; simp [D.plain] at h
      · rw [e] at e2; cases e2
  | non => exact .non
  | bl b => exact .bl b
  | int i => exact .int i
  | str x => exact .str _
  | tup h1 h2 => exact dp_of (.tup h1 h2) h
  | lst h1 h2 h3 => exact dp_of (.lst h1 h2 h3) h
  | scr h1 => simp [top, D.plain] at h
  | dct h1 h2 h3 => simp [top, D.plain] at h
theorem level_of {d : D} (h : d.level = true) : d.plain = true ∧ d.depth ≤ 64 := by
  simpa [D.level] using h
theorem eqD_rel (s : Sim K ρ st H) (r1 : RelD K ρ H d1 v1) (r2 : RelD K ρ H d2 v2) (h : eqD st d1 d2 = some b) :
    ∃ d e, Dp K.K H v1 d ∧ Dp K.K H v2 e ∧ d.plain = true ∧ e.plain = true ∧ d.depth ≤ 64 ∧ PyData.eqv d e = b := by
  unfold eqD at h
  split at h
  · rename_i hl
    simp only [Bool.and_eq_true] at hl
    have l1 := level_of hl.1
    have l2 := level_of hl.2
    exact ⟨_, _, top_rel s r1 l1.1, top_rel s r2 l2.1, toP_plain _ l1.1, toP_plain _ l2.1, Nat.le_trans (toP_depth _) l1.2, (eqv_toP _ _ l1.1 l2.1).trans (Option.some.inj h)⟩
  · cases h
theorem ord_rel {f : Int → Int → Bool} {g : List Nat → List Nat → Bool} (r1 : RelD K ρ H d1 v1) (r2 : RelD K ρ H d2 v2) (h : ordB f g d1 d2 = some b) (q : Q (.bl b) H) :
    (rI0 fun i j => .bl (f i j)) v1 v2 H Q ∨ (rStr2 g) v1 v2 H Q := by
  unfold ordB at h
  split at h
  · cases h; cases r1; cases r2; exact .inl ⟨_, _, rfl, rfl, q⟩
  · cases h; cases r1; cases r2
    exact .inr ⟨_, _, rfl, rfl, by simpa only [strS, List.toList_toArray] using q⟩
  · cases h
theorem inSeq_rel {ys : List D} (r1 : RelD K ρ H d1 v1) (h : inSeq d1 ys = some b) : ∃ d, Dp K.K H v1 d ∧ d.plain = true ∧ PyData.plainAll (toPs ys) = true ∧ PyData.depthAll (toPs ys) ≤ 60 ∧ ((toPs ys).any fun y => PyData.eqv y d) = b ∧ plains ys = true := by
  unfold inSeq at h
  split at h
  · rename_i hl
    simp only [Bool.and_eq_true, decide_eq_true_eq] at hl
    have l1 := level_of hl.1.1
    exact ⟨_, dp_of r1 l1.1, toP_plain _ l1.1, toPs_plain _ hl.1.2, Nat.le_trans (toPs_depth _) hl.2, (any_toPs _ l1.1 _ hl.1.2).trans (Option.some.inj h), hl.1.2⟩
  · cases h
theorem inD_rel (s : Sim K ρ st H) (r1 : RelD K ρ H d1 v1) (r2 : RelD K ρ H d2 v2) (h : inD st d1 d2 = some b) :
    (∃ d es, Dp K.K H v1 d ∧ (Dp K.K H v2 (.list es) ∨ Dp K.K H v2 (.tuple es)) ∧ d.plain = true ∧ PyData.plainAll es = true ∧ PyData.depthAll es ≤ 60 ∧ (es.any fun y => PyData.eqv y d) = b) ∨
      ∃ (c : Nat) (z : Str), v1 = .str ⟨#[c]⟩ ∧ v2 = .str z ∧ decide (c ∈ z.cps.toList) = b := by
  unfold inD at h
  split at h
  · rename_i y
    split at h
    · rename_i c
      cases r1; cases r2
      refine .inr ⟨c, strS y, rfl, rfl, ?_⟩
      rw [← Option.some.inj h, List.contains_eq_mem]
      exact decide_eq_decide.mpr (by simp [strS])
    · cases h
  · cases r2 with
    | tup h1 h2 =>
      obtain ⟨d, a1, a2, a3, a4, a5, a6⟩ := inSeq_rel r1 h
      exact .inl ⟨d, _, a1, .inr (.tup h1 (dps_of h2 a6)), a2, a3, a4, a5⟩
  · split at h
    · rename_i ys hy
      obtain ⟨a, vs, rfl, h1, h2⟩ := listOf_rel s r2 hy
      obtain ⟨d, a1, a2, a3, a4, a5, a6⟩ := inSeq_rel r1 h
      exact .inl ⟨d, _, a1, .inl (.lst (SqL.of h1) (dps_of h2 a6)), a2, a3, a4, a5⟩
    · cases h
theorem cmp_rel (s : Sim K ρ st H) (r1 : RelD K ρ H d1 v1) (r2 : RelD K ρ H d2 v2) {c : Cm} (h : cmpD st c d1 d2 = some b) (q : Q (.bl b) H) : rCm K.K c v1 v2 H Q := by
  cases c with
  | eq =>
    obtain ⟨d, e, a1, a2, a3, a4, a5, a6⟩ := eqD_rel s r1 r2 h
    exact ⟨d, e, a1, a2, a3, a4, a5, by rw [a6]; exact q⟩
  | ne =>
    obtain ⟨b', h1, h2⟩ := Option.map_eq_some_iff.mp h
    obtain ⟨d, e, a1, a2, a3, a4, a5, a6⟩ := eqD_rel s r1 r2 h1
    exact ⟨d, e, a1, a2, a3, a4, a5, by rw [a6, h2]; exact q⟩
  | lt => exact ord_rel r1 r2 h q
  | le => exact ord_rel r1 r2 h q
  | gt => exact ord_rel r1 r2 h q
  | ge => exact ord_rel r1 r2 h q
  | isin =>
    rcases inD_rel s r1 r2 h with ⟨d, es, a1, a2, a3, a4, a5, a6⟩ | ⟨c, z, e1, e2, e3⟩
    · exact .inl ⟨d, es, a1, a2, a3, a4, a5, by rw [a6]; exact q⟩
    · exact .inr ⟨c, z, e1, e2, by rw [e3]; exact q⟩
  | notin =>
    obtain ⟨b', h1, h2⟩ := Option.map_eq_some_iff.mp h
    rcases inD_rel s r1 r2 h1 with ⟨d, es, a1, a2, a3, a4, a5, a6⟩ | ⟨c, z, e1, e2, e3⟩
    · exact .inl ⟨d, es, a1, a2, a3, a4, a5, by rw [a6, h2]; exact q⟩
    · exact .inr ⟨c, z, e1, e2, by rw [e3, h2]; exact q⟩
end
end Pm

set_option Elab.async false
set_option linter.all false
set_option maxRecDepth 100000
set_option maxHeartbeats 2000000
/-! Ev5: operators, comparisons, tests of the evaluator as readings. -/
namespace Pm
open PySem PySem.Spec PyProof.Rows L2
set_option autoImplicit false

/-! ### a text * an int -/
def rRepS : R2 := fun x y H Q => ∃ (z : Str) (k : Int), x = .str z ∧ y = .int k ∧ z.length * k.toNat ≤ sizeLine ∧ k < 2 ^ 62 ∧ -(2 ^ 62) < k ∧ Q (.str ⟨(List.replicate k.toNat z.cps.toList).flatten.toArray⟩) H
theorem foldl_app (l : List (Array Nat)) : ∀ b : Array Nat, l.foldl (· ++ ·) b = b ++ ((l.map Array.toList).flatten).toArray := by
  induction l with
  | nil => intro b; simp
  | cons x r ih =>
    intro b
    rw [List.foldl_cons, ih]
    apply Array.ext'
    simp
theorem foldl_cps (a : Array Nat) (n : Nat) : (List.replicate n a).foldl (· ++ ·) #[] = (List.replicate n a.toList).flatten.toArray := by
  rw [foldl_app]; simp
theorem op_repS {X : Cx} : OpR X (binaryOp .Mult) rRepS := by
  intro pins s σ H x y v u Q I rx ry h
  obtain ⟨z, k, rfl, rfl, h1, h2, h3, q⟩ := h
  obtain ⟨t, rfl⟩ := rx
  obtain ⟨t', rfl⟩ := ry
  have hs := sizeLine_eq
  refine PySem.P.mul_str (by rw [decide_eq_false (by omega), decide_eq_false (by omega)]; rfl) (fun hk h0 => ?_) (fun hk h0 => ?_) ?_
  · have hk0 : (0 : Int) < k := by omega
    have e : ((z.length * k.toNat : Nat) : Int) = (z.length : Int) * k := by rw [Int.natCast_mul, Int.toNat_of_nonneg (by omega)]
    have : (z.length : Int) ≤ (2 ^ 63 - 1) / k := (Int.le_ediv_iff_mul_le hk0).mpr (by rw [← e]; omega)
    omega
  · exact decide_eq_false (by omega)
  · by_cases hk : k < 1
    · rw [if_pos hk]
      have e : k.toNat = 0 := by omega
      rw [e] at q
      exact ⟨by decide, ⟨.str Str.empty, H, I.tok _, ⟨_, rfl⟩, q⟩⟩
    · rw [if_neg hk]
      by_cases h0 : (k == 1 || z.length == 0) = true
      · rw [if_pos h0]
        refine ⟨.str z, H, I.tok _, ⟨_, rfl⟩, ?_⟩
        have e : (⟨(List.replicate k.toNat z.cps.toList).flatten.toArray⟩ : Str) = z := by
          rcases Bool.or_eq_true_iff.mp h0 with e | e
          · have e := eq_of_beq e
            subst e
            simp
          · have e := eq_of_beq e
            have e2 : z.cps = #[] := Array.eq_empty_of_size_eq_zero e
            obtain ⟨c⟩ := z
            simp only at e2
            subst e2
            simp
        rw [e] at q
        exact q
      · rw [if_neg h0]
        refine ⟨?_, ⟨.str _, H, I.tok _, ⟨_, rfl⟩, by rw [foldl_cps]; exact q⟩⟩
        rw [foldl_cps]
        show (List.replicate k.toNat z.cps.toList).flatten.toArray.size ≤ sizeLine
        rw [List.size_toArray, PyProof.Rows.lm_len_rep_flat, Array.length_toList]
        rw [Nat.mul_comm]
        exact h1
end Pm

set_option Elab.async false
set_option linter.all false
set_option maxRecDepth 100000
set_option maxHeartbeats 2000000
/-! Ev6: operators, comparisons, tests of the evaluator as readings. -/
namespace Pm
open PySem PySem.Spec PyProof.Rows L2
set_option autoImplicit false

theorem Res.bind_assoc {α β γ : Type} (r : Res α) (f : α → Store → Res β) (g : β → Store → Res γ) : (r.bind f).bind g = r.bind fun a st => (f a st).bind g := by
  cases r <;> rfl

/-! ### the operators -/
def opA : Op → Operator
  | .add => .Add | .sub => .Sub | .mul => .Mult | .fdiv => .FloorDiv | .mod => .Mod | .pow => .Pow | .shl => .LShift
def rBin (K : PySem.W.Frag) : Op → R2
  | .add => rAddA K
  | .sub => rI0 fun i j => .int (i - j)
  | .mul => fun x y H Q => rMulA K x y H Q ∨ rRepS x y H Q ∨ rRepT K x y H Q
  | .fdiv => rI CDiv fun i j => .int (i / j)
  | .mod => rI (fun _ j => 0 < j) fun i j => .int (i % j)
  | .pow => rI CPow fun i j => .int (i ^ j.toNat)
  | .shl => rI CPow fun i j => .int (i * 2 ^ j.toNat)
theorem op_bin {X : Cx} : ∀ o : Op, OpR X (binaryOp (opA o)) (rBin X.K o)
  | .add => op_addA
  | .sub => op_sub
  | .mul => op_mulA.or (op_repS.or op_repT)
  | .fdiv => op_fdiv
  | .mod => op_mod
  | .pow => op_pow
  | .shl => op_shl
theorem bin_rel {K : Kit} {ρ : Rho} {H : Hp} {st : Store} {d1 d2 d : D} {v1 v2 : V} {Q : VK} {fr : Bool} (s : Sim K ρ st H) (r1 : RelD K ρ H d1 v1) (r2 : RelD K ρ H d2 v2) {o : Op} (e : binD st o d1 d2 = some d) (k : Out K fr ρ H st d Q) : rBin K.K o v1 v2 H Q := by
  cases o with
  | add => exact add_all s r1 r2 e k
  | sub =>
    obtain ⟨i, j, m, rfl, rfl, e1, rfl⟩ := ints2_rel (st := st) r1 r2 e
    cases e1
    exact ⟨i, j, rfl, rfl, k.flat s (.int _) rfl⟩
  | mul =>
    by_cases hs : ∃ x j, d1 = .str x ∧ d2 = .int j
    · obtain ⟨x, j, rfl, rfl⟩ := hs
      cases r1; cases r2
      simp only [binD, mulD] at e
      split at e
      · rename_i hz
        cases e
        refine .inr (.inl ⟨strS x, j, rfl, rfl, by rw [strS_length, SL_eq]; exact hz.1, hz.2.1, hz.2.2, ?_⟩)
        have := k.flat s (.str _) rfl
        simpa [strS] using this
      · cases e
    · by_cases ht : ∃ x j, d1 = .tup x ∧ d2 = .int j
      · obtain ⟨x, j, rfl, rfl⟩ := ht
        cases r2
        cases r1 with
        | @tup _ w1 a1 h1 q1 =>
          simp only [binD, mulD] at e
          split at e
          · rename_i hz
            cases e
            exact .inr (.inr ⟨a1, j, w1, rfl, rfl, h1, fun z => hz.2.2.2 (q1.nil_iff.mp z), hz.1, hz.2.1, by rw [← q1.length]; exact hz.2.2.1, fun p hp => k.tup s hp (q1.rep _)⟩)
          · cases e
      · exact .inl (mul_all s r1 r2 e (fun x j h1 h2 => hs ⟨x, j, h1, h2⟩) (fun x j h1 h2 => ht ⟨x, j, h1, h2⟩) k)
  | fdiv =>
    obtain ⟨i, j, m, rfl, rfl, e1, rfl⟩ := ints2_rel (st := st) r1 r2 e
    split at e1
    · rename_i hz
      cases e1
      exact ⟨i, j, rfl, rfl, hz, k.flat s (.int _) rfl⟩
    · cases e1
  | mod =>
    obtain ⟨i, j, m, rfl, rfl, e1, rfl⟩ := ints2_rel (st := st) r1 r2 e
    split at e1
    · rename_i hz
      cases e1
      exact ⟨i, j, rfl, rfl, hz, k.flat s (.int _) rfl⟩
    · cases e1
  | pow =>
    obtain ⟨i, j, m, rfl, rfl, e1, rfl⟩ := ints2_rel (st := st) r1 r2 e
    split at e1
    · rename_i hz
      cases e1
      exact ⟨i, j, rfl, rfl, ⟨hz.1, by omega, hz.2.2⟩, k.flat s (.int _) rfl⟩
    · cases e1
  | shl =>
    obtain ⟨i, j, m, rfl, rfl, e1, rfl⟩ := ints2_rel (st := st) r1 r2 e
    split at e1
    · rename_i hz
      cases e1
      exact ⟨i, j, rfl, rfl, ⟨hz.1, by omega, hz.2.2⟩, k.flat s (.int _) rfl⟩
    · cases e1

/-! ### truth -/
theorem dictOf_rel {K : Kit} {ρ : Rho} {H : Hp} {st : Store} (s : Sim K ρ st H) {d : D} {v : V} {xs : List (DKey × D)} (r : RelD K ρ H d v) (h : dictOf st d = some xs) : ∃ a vs, v = .ref a ∧ H a = some (.dK vs) ∧ RelKs K ρ H xs vs := by
  cases r with
  | dct h1 h2 h3 => cases h; exact ⟨_, _, rfl, h1, h3⟩
  | @ref n a e =>
    dsimp only [dictOf] at h
    cases hs : st[n]? with
    | none => rw [hs] at h; cases h
    | some o =>
      rw [hs] at h
      cases o with
      | dct ys =>
        cases h
        rcases s.ob n _ hs with ⟨q, _⟩ | ⟨b, e2, r2⟩
        · cases q
        · rw [e] at e2; cases e2
          obtain ⟨vs, h1, h2⟩ := r2
          exact ⟨a, vs, rfl, h1, h2⟩
      | _ => cases h
  | @dead n v e =>
    dsimp only [dictOf] at h
    cases hs : st[n]? with
    | none => rw [hs] at h; cases h
    | some o =>
      rw [hs] at h
      rcases s.ob n _ hs with ⟨q, _⟩ | ⟨b, e2, r2⟩
      · subst q; cases h
      · rw [e] at e2; cases e2
  | _ => cases h
section
variable {K : Kit} {ρ : Rho} {H : Hp} {st : Store}
theorem RelDs.empty {xs : List D} {vs : List V} (r : RelDs K ρ H xs vs) : (!xs.isEmpty) = !vs.isEmpty := by cases r <;> rfl
theorem RelKs.empty {xs : List (DKey × D)} {vs : List (Key × V)} (r : RelKs K ρ H xs vs) : (!xs.isEmpty) = !vs.isEmpty := by cases r <;> rfl
theorem RelKs.length : ∀ {xs : List (DKey × D)} {vs : List (Key × V)}, RelKs K ρ H xs vs → xs.length = vs.length
  | _, _, .nil => rfl
  | _, _, .cons _ r => by rw [List.length_cons, List.length_cons, RelKs.length r]
theorem truth_rel (s : Sim K ρ st H) {d : D} {v : V} {b : Bool} (r : RelD K ρ H d v) (h : truth st d = some b) : TruV K.K v H b := by
  cases r with
  | non => cases h; rfl
  | bl b => cases h; rfl
  | int i => cases h; rfl
  | str x =>
    dsimp only [truth] at h
    split at h
    · rename_i hz
      cases h
      refine ⟨by rw [strS_length, SL_eq]; exact hz, ?_⟩
      rw [strS_length]
      cases x with
      | nil => rfl
      | cons a l => exact (bne_iff_ne.mpr (by rw [List.length_cons]; omega)).symm
    · cases h
  | tup h1 h2 => cases h; exact .inr (.inl ⟨_, h1, h2.empty⟩)
  | lst h1 h2 h3 => cases h; exact .inl ⟨_, SqL.of h1, h3.empty⟩
  | dct h1 h2 h3 => cases h; exact .inr (.inr ⟨_, h1, h3.empty⟩)
  | scr h1 => cases h
  | @ref n a e =>
    dsimp only [truth] at h
    split at h
    · rename_i xs hs
      cases h
      obtain ⟨a, vs, e1, e2, e3⟩ := listOf_rel (d := .ref n) (xs := xs) s (.ref e) (by simp only [listOf, hs])
      cases e1
      exact .inl ⟨_, SqL.of e2, e3.empty⟩
    · rename_i xs hs
      cases h
      obtain ⟨a, vs, e1, e2, e3⟩ := dictOf_rel (d := .ref n) (xs := xs) s (.ref e) (by simp only [dictOf, hs])
      cases e1
      exact .inr (.inr ⟨_, e2, e3.empty⟩)
    · cases h
  | @dead n v e =>
    dsimp only [truth] at h
    split at h
    · rename_i xs hs
      rcases s.ob n _ hs with ⟨q, _⟩ | ⟨b, e2, r2⟩
      · cases q
      · rw [e] at e2; cases e2
    · rename_i xs hs
      rcases s.ob n _ hs with ⟨q, _⟩ | ⟨b, e2, r2⟩
      · cases q
      · rw [e] at e2; cases e2
    · cases h
end

section
variable {X : Cx} {κ : Kx} {B : L2.St → XW} {a b c : Expr} {fa fb fc fr : Bool} {ma mb mc : Loc → Store → Res D} {pos : Pos}
abbrev eE (X : Cx) (κ : Kx) (B : L2.St → XW) (fr : Bool) (m : Loc → Store → Res D) : TE := tE (Cx.kit X κ) B fr m
abbrev eT (X : Cx) (κ : Kx) (B : L2.St → XW) (m : Loc → Store → Res Bool) : TT := tT (Cx.kit X κ) B m
abbrev eA (X : Cx) (κ : Kx) (B : L2.St → XW) (m : Loc → Store → Res (List D)) : TA := tA (Cx.kit X κ) B m
abbrev eO (X : Cx) (κ : Kx) (B : L2.St → XW) (m : Loc → Store → Res (Option Int)) : TO := tO (Cx.kit X κ) B m

theorem EndG.weak {K : Kit} {B : XW} {ρ : Rho} {H : Hp} {r : Res D} {Q : VK} (h : EndG K B (RE K false) ρ H r Q) : EndG K B (RE K fr) ρ H r Q := by
  cases r with
  | ok a st => exact fun ρ' v H' x s q => h ρ' v H' x s ⟨q.1, fun z => nomatch z⟩
  | exc c fs st => exact h
  | bad => exact h
theorem EndG.weak2 {K : Kit} {B : XW} {ρ : Rho} {H : Hp} {r : Res D} {Q : VK} {f1 f2 : Bool} (hf : f1 = true → f2 = true) (h : EndG K B (RE K f1) ρ H r Q) : EndG K B (RE K f2) ρ H r Q := by
  cases r with
  | ok a st => exact fun ρ' v H' x s q => h ρ' v H' x s ⟨q.1, fun z => q.2 (hf z)⟩
  | exc c fs st => exact h
  | bad => exact h

theorem se_bin (o : Op) (ha : PE X a (eE X κ B fa ma)) (hb : PE X b (eE X κ B fb mb)) :
    PE X (.BinOp a (opA o) b pos) (eE X κ B fr fun l st => (ma l st).bind fun x st => (mb l st).bind fun y st => .ofOpt (binD st o x y) st) :=
  se_op (op_bin o) ha hb fun ρ H st d1 d2 v1 v2 d Q s r1 r2 e k => bin_rel s r1 r2 e k
theorem se_neg (ha : PE X a (eE X κ B fa ma)) : PE X (.UnaryOp .USub a pos) (eE X κ B fr fun l st => (ma l st).bind fun x st => asInt x fun i => .ok (.int (-i)) st) :=
  PE.imp (pe_un un_neg ha) fun σ H Q ⟨ρ, l, st, a, q⟩ => ⟨ρ, l, st, a, EndG.bind RE.back q fun d st1 ρ1 v H1 x1 s1 r1 q1 => by
    cases d with
    | int i => obtain ⟨r1, _⟩ := r1; cases r1; exact ⟨i, rfl, q1 ρ1 _ H1 (Ext.refl _ _) s1 ⟨.int _, fun _ t => nomatch t⟩⟩
    | _ => exact q1.elim⟩

/-! ### comparisons -/
theorem cmp_end {K : Kit} {B : XW} {ρ : Rho} {H : Hp} {st : Store} {d1 d2 : D} {v1 v2 : V} {o : Cm} {Q : VK} (s : Sim K ρ st H) (r1 : RelD K ρ H d1 v1) (r2 : RelD K ρ H d2 v2)
    (q : EndG K B (RE K fr) ρ H (Res.ofOpt ((cmpD st o d1 d2).map .bl) st) Q) : rCm K.K o v1 v2 H Q := by
  cases h : cmpD st o d1 d2 with
  | none => rw [h] at q; exact q.elim
  | some b =>
    rw [h] at q
    exact cmp_rel s r1 r2 h (q ρ (.bl b) H (Ext.refl _ _) s ⟨.bl b, fun _ t => nomatch t⟩)
theorem se_cmp (hu : X.A.units + 64 < cLine) (o : Cm) (hm : behindInMarks (cmA o) b = false) (ha : PE X a (eE X κ B fa ma)) (hb : PE X b (eE X κ B fb mb)) :
    PE X (.Compare a [cmA o] [b] pos) (eE X κ B fr fun l st => (ma l st).bind fun x st => (mb l st).bind fun y st => .ofOpt ((cmpD st o x y).map .bl) st) :=
  PE.imp (pe_cmpR (op_cm hu o) ha hb hm) fun σ H Q ⟨ρ, l, st, a, q⟩ => ⟨ρ, l, st, a, EndG.bind RE.back q fun d1 st1 ρ1 v1 H1 x1 s1 r1 q1 =>
    ⟨ρ1, l, st1, a.go x1 s1, EndG.bind RE.back q1 fun d2 st2 ρ2 v2 H2 x2 s2 r2 q2 => cmp_end s2 (r1.1.mono s1 x2) r2.1 q2⟩⟩
theorem cmp_endT {K : Kit} {B : XW} {ρ : Rho} {H : Hp} {st : Store} {d1 d2 : D} {v1 v2 : V} {o : Cm} {Q : Bool → Hp → Prop} (s : Sim K ρ st H) (r1 : RelD K ρ H d1 v1) (r2 : RelD K ρ H d2 v2)
    (q : EndG K B RB ρ H ((Res.ofOpt ((cmpD st o d1 d2).map .bl) st).bind fun x st => .ofOpt (truth st x) st) Q) : rCm K.K o v1 v2 H fun x H' => ∃ k, x = .bl k ∧ Q k H' := by
  cases h : cmpD st o d1 d2 with
  | none => rw [h] at q; exact q.elim
  | some b =>
    rw [h] at q
    exact cmp_rel s r1 r2 h ⟨b, rfl, q ρ b H (Ext.refl _ _) s rfl⟩
theorem st_cmp (hu : X.A.units + 64 < cLine) (o : Cm) (hm : behindInMarks (cmA o) b = false) (ha : PE X a (eE X κ B fa ma)) (hb : PE X b (eE X κ B fb mb)) :
    PT X (.Compare a [cmA o] [b] pos) (eT X κ B fun l st => ((ma l st).bind fun x st => (mb l st).bind fun y st => .ofOpt ((cmpD st o x y).map .bl) st).bind fun x st => .ofOpt (truth st x) st) :=
  PT.imp (pt_cmpR (op_cm hu o) ha hb hm) fun σ H Q ⟨ρ, l, st, a, q⟩ => ⟨ρ, l, st, a, by
    dsimp only at q
    rw [Res.bind_assoc] at q
    refine EndG.bind RB.back q fun d1 st1 ρ1 v1 H1 x1 s1 r1 q1 => ⟨ρ1, l, st1, a.go x1 s1, ?_⟩
    rw [Res.bind_assoc] at q1
    exact EndG.bind RB.back q1 fun d2 st2 ρ2 v2 H2 x2 s2 r2 q2 => cmp_endT s2 (r1.1.mono s1 x2) r2.1 q2⟩
theorem se_chn (hu : X.A.units + 64 < cLine) (o1 o2 : Cm) (hm : behindInMarks (cmA o2) c = false) (ha : PE X a (eE X κ B fa ma)) (hb : PE X b (eE X κ B fb mb)) (hc : PE X c (eE X κ B fc mc)) :
    PE X (.Compare a [cmA o1, cmA o2] [b, c] pos) (eE X κ B fr fun l st => (ma l st).bind fun x st => (mb l st).bind fun y st => optB (cmpD st o1 x y) ((mc l st).bind fun z st => .ofOpt ((cmpD st o2 y z).map .bl) st) (.ok (.bl false) st)) :=
  PE.imp (pe_chain (op_cm hu o1) (op_cm hu o2) ha hb hc hm) fun σ H Q ⟨ρ, l, st, a, q⟩ => ⟨ρ, l, st, a, EndG.bind RE.back q fun d1 st1 ρ1 v1 H1 x1 s1 r1 q1 =>
    ⟨ρ1, l, st1, a.go x1 s1, EndG.bind RE.back q1 fun d2 st2 ρ2 v2 H2 x2 s2 r2 q2 => by
      cases h : cmpD st2 o1 d1 d2 with
      | none => rw [h] at q2; exact q2.elim
      | some k =>
        rw [h] at q2
        refine cmp_rel s2 (r1.1.mono s1 x2) r2.1 h ⟨k, rfl, ?_⟩
        cases k with
        | true =>
          rw [if_pos rfl]
          exact ⟨ρ2, l, st2, (a.go x1 s1).go x2 s2, EndG.bind RE.back q2 fun d3 st3 ρ3 v3 H3 x3 s3 r3 q3 => cmp_end s3 (r2.1.mono s2 x3) r3.1 q3⟩
        | false =>
          rw [if_neg (by decide)]
          exact q2 ρ2 _ H2 (Ext.refl _ _) s2 ⟨.bl false, fun _ t => nomatch t⟩⟩⟩
theorem st_chn (hu : X.A.units + 64 < cLine) (o1 o2 : Cm) (hm : behindInMarks (cmA o2) c = false) (ha : PE X a (eE X κ B fa ma)) (hb : PE X b (eE X κ B fb mb)) (hc : PE X c (eE X κ B fc mc)) :
    PT X (.Compare a [cmA o1, cmA o2] [b, c] pos) (eT X κ B fun l st => ((ma l st).bind fun x st => (mb l st).bind fun y st => optB (cmpD st o1 x y) ((mc l st).bind fun z st => .ofOpt ((cmpD st o2 y z).map .bl) st) (.ok (.bl false) st)).bind fun x st => .ofOpt (truth st x) st) :=
  PT.imp (pt_chain (op_cm hu o1) (op_cm hu o2) ha hb hc hm) fun σ H Q ⟨ρ, l, st, a, q⟩ => ⟨ρ, l, st, a, by
    dsimp only at q
    rw [Res.bind_assoc] at q
    refine EndG.bind RB.back q fun d1 st1 ρ1 v1 H1 x1 s1 r1 q1 => ⟨ρ1, l, st1, a.go x1 s1, ?_⟩
    rw [Res.bind_assoc] at q1
    refine EndG.bind RB.back q1 fun d2 st2 ρ2 v2 H2 x2 s2 r2 q2 => ?_
    cases h : cmpD st2 o1 d1 d2 with
    | none => rw [h] at q2; exact q2.elim
    | some k =>
      rw [h] at q2
      refine cmp_rel s2 (r1.1.mono s1 x2) r2.1 h ⟨k, rfl, ?_⟩
      cases k with
      | true =>
        rw [if_pos rfl]
        refine ⟨ρ2, l, st2, (a.go x1 s1).go x2 s2, ?_⟩
        simp only [optB] at q2
        rw [Res.bind_assoc] at q2
        exact EndG.bind RB.back q2 fun d3 st3 ρ3 v3 H3 x3 s3 r3 q3 => cmp_endT s3 (r2.1.mono s2 x3) r3.1 q3
      | false =>
        rw [if_neg (by decide)]
        exact ⟨false, rfl, q2 ρ2 _ H2 (Ext.refl _ _) s2 rfl⟩⟩
theorem live_rel {K : Kit} {ρ : Rho} {H : Hp} {st : Store} {d e : D} {v : V} (s : Sim K ρ st H) (r : RelD K ρ H d v) (h : live st d = some e) : e = d ∧ ∀ n, d = .ref n → ρ[K.h + n]? ≠ some none := by
  unfold live at h
  split at h
  · rename_i n
    split at h
    · cases h
    · rename_i o hn hs
      cases h
      refine ⟨rfl, fun m em q => ?_⟩
      cases em
      rcases s.ob n _ hs with ⟨z, _⟩ | ⟨a, z, _⟩
      · exact hn z
      · rw [q] at z; cases z
    · cases h
  · rename_i hn
    cases h
    exact ⟨rfl, fun n e => (hn n e).elim⟩
theorem isNon_rel {K : Kit} {ρ : Rho} {H : Hp} {d : D} {v : V} (r : RelD K ρ H d v) (hd : ∀ n, d = .ref n → ρ[K.h + n]? ≠ some none) : decide (v = .non) = isNon d := by
  cases r with
  | dead e => exact (hd _ rfl e).elim
  | _ => first | rfl | simp [isNon]
theorem se_isn {k : Nat} {p : Pos} (ha : PE X a (eE X κ B fa ma)) :
    PE X (.Compare a [.Is] [.Constant .none k p] pos) (eE X κ B fr fun l st => (ma l st).bind fun x st => optR (live st x) fun x => .ok (.bl (isNon x)) st) :=
  PE.imp (pe_cmpR op_isN ha pe_non (nomark _)) fun σ H Q ⟨ρ, l, st, a, q⟩ => ⟨ρ, l, st, a, EndG.bind RE.back q fun d1 st1 ρ1 v1 H1 x1 s1 r1 q1 => by
    cases h : live st1 d1 with
    | none => rw [h] at q1; exact q1.elim
    | some d =>
      rw [h] at q1
      obtain ⟨rfl, h2⟩ := live_rel s1 r1.1 h
      exact ⟨rfl, by rw [isNon_rel r1.1 h2]; exact q1 ρ1 _ H1 (Ext.refl _ _) s1 ⟨.bl _, fun _ t => nomatch t⟩⟩⟩
theorem se_nisn {k : Nat} {p : Pos} (ha : PE X a (eE X κ B fa ma)) :
    PE X (.Compare a [.IsNot] [.Constant .none k p] pos) (eE X κ B fr fun l st => (ma l st).bind fun x st => optR (live st x) fun x => .ok (.bl (!isNon x)) st) :=
  PE.imp (pe_cmpR op_notN ha pe_non (nomark _)) fun σ H Q ⟨ρ, l, st, a, q⟩ => ⟨ρ, l, st, a, EndG.bind RE.back q fun d1 st1 ρ1 v1 H1 x1 s1 r1 q1 => by
    cases h : live st1 d1 with
    | none => rw [h] at q1; exact q1.elim
    | some d =>
      rw [h] at q1
      obtain ⟨rfl, h2⟩ := live_rel s1 r1.1 h
      exact ⟨rfl, by rw [isNon_rel r1.1 h2]; exact q1 ρ1 _ H1 (Ext.refl _ _) s1 ⟨.bl _, fun _ t => nomatch t⟩⟩⟩
theorem st_isn {k : Nat} {p : Pos} (ha : PE X a (eE X κ B fa ma)) :
    PT X (.Compare a [.Is] [.Constant .none k p] pos) (eT X κ B fun l st => ((ma l st).bind fun x st => optR (live st x) fun x => .ok (.bl (isNon x)) st).bind fun x st => .ofOpt (truth st x) st) :=
  PT.imp (pt_cmpR op_isN ha pe_non (nomark _)) fun σ H Q ⟨ρ, l, st, a, q⟩ => ⟨ρ, l, st, a, by
    dsimp only at q
    rw [Res.bind_assoc] at q
    refine EndG.bind RB.back q fun d1 st1 ρ1 v1 H1 x1 s1 r1 q1 => ?_
    cases h : live st1 d1 with
    | none => rw [h] at q1; exact q1.elim
    | some d =>
      rw [h] at q1
      obtain ⟨rfl, h2⟩ := live_rel s1 r1.1 h
      exact ⟨rfl, _, by rw [isNon_rel r1.1 h2], q1 ρ1 _ H1 (Ext.refl _ _) s1 rfl⟩⟩
theorem st_nisn {k : Nat} {p : Pos} (ha : PE X a (eE X κ B fa ma)) :
    PT X (.Compare a [.IsNot] [.Constant .none k p] pos) (eT X κ B fun l st => ((ma l st).bind fun x st => optR (live st x) fun x => .ok (.bl (!isNon x)) st).bind fun x st => .ofOpt (truth st x) st) :=
  PT.imp (pt_cmpR op_notN ha pe_non (nomark _)) fun σ H Q ⟨ρ, l, st, a, q⟩ => ⟨ρ, l, st, a, by
    dsimp only at q
    rw [Res.bind_assoc] at q
    refine EndG.bind RB.back q fun d1 st1 ρ1 v1 H1 x1 s1 r1 q1 => ?_
    cases h : live st1 d1 with
    | none => rw [h] at q1; exact q1.elim
    | some d =>
      rw [h] at q1
      obtain ⟨rfl, h2⟩ := live_rel s1 r1.1 h
      exact ⟨rfl, _, by rw [isNon_rel r1.1 h2], q1 ρ1 _ H1 (Ext.refl _ _) s1 rfl⟩⟩

/-! ### and, or, not, if -/
theorem se_and {rest : List Expr} (ha : PE X a (eE X κ B fa ma)) (hb : PE X (.BoolOp .And (b :: rest) pos) (eE X κ B fb mb)) :
    PE X (.BoolOp .And (a :: b :: rest) pos) (eE X κ B false fun l st => (ma l st).bind fun x st => optB (truth st x) (mb l st) (.ok x st)) :=
  PE.imp (pe_andT ha hb) fun σ H Q ⟨ρ, l, st, a, q⟩ => ⟨ρ, l, st, a, EndG.bind RE.back q fun d1 st1 ρ1 v1 H1 x1 s1 r1 q1 => by
    cases h : truth st1 d1 with
    | none => rw [h] at q1; exact q1.elim
    | some k =>
      rw [h] at q1
      refine ⟨k, truth_rel s1 r1.1 h, ?_⟩
      cases k with
      | true => exact ⟨ρ1, l, st1, a.go x1 s1, EndG.weak q1⟩
      | false => exact q1 ρ1 _ H1 (Ext.refl _ _) s1 ⟨r1.1, fun z => nomatch z⟩⟩
theorem se_or {rest : List Expr} (ha : PE X a (eE X κ B fa ma)) (hb : PE X (.BoolOp .Or (b :: rest) pos) (eE X κ B fb mb)) :
    PE X (.BoolOp .Or (a :: b :: rest) pos) (eE X κ B false fun l st => (ma l st).bind fun x st => optB (truth st x) (.ok x st) (mb l st)) :=
  PE.imp (pe_orT ha hb) fun σ H Q ⟨ρ, l, st, a, q⟩ => ⟨ρ, l, st, a, EndG.bind RE.back q fun d1 st1 ρ1 v1 H1 x1 s1 r1 q1 => by
    cases h : truth st1 d1 with
    | none => rw [h] at q1; exact q1.elim
    | some k =>
      rw [h] at q1
      refine ⟨k, truth_rel s1 r1.1 h, ?_⟩
      cases k with
      | false => exact ⟨ρ1, l, st1, a.go x1 s1, EndG.weak q1⟩
      | true => exact q1 ρ1 _ H1 (Ext.refl _ _) s1 ⟨r1.1, fun z => nomatch z⟩⟩
theorem se_not (ha : PE X a (eE X κ B fa ma)) : PE X (.UnaryOp .Not a pos) (eE X κ B fr fun l st => (ma l st).bind fun x st => .ofOpt ((truth st x).map fun b => .bl (!b)) st) :=
  PE.imp (pe_notT ha) fun σ H Q ⟨ρ, l, st, a, q⟩ => ⟨ρ, l, st, a, EndG.bind RE.back q fun d1 st1 ρ1 v1 H1 x1 s1 r1 q1 => by
    cases h : truth st1 d1 with
    | none => rw [h] at q1; exact q1.elim
    | some k =>
      rw [h] at q1
      exact ⟨k, truth_rel s1 r1.1 h, q1 ρ1 _ H1 (Ext.refl _ _) s1 ⟨.bl _, fun _ t => nomatch t⟩⟩⟩
/-- the truth of a value -/
theorem st_truth (ha : PE X a (eE X κ B fa ma)) (he : ∀ whole, isTrue a X.env whole = (do let v ← whole; standAt a.pos; holding [v] (truthy v))) :
    PT X a (eT X κ B fun l st => (ma l st).bind fun x st => .ofOpt (truth st x) st) :=
  PT.imp (pt_truth ha he) fun σ H Q ⟨ρ, l, st, a, q⟩ => ⟨ρ, l, st, a, EndG.bind RB.back q fun d1 st1 ρ1 v1 H1 x1 s1 r1 q1 => by
    cases h : truth st1 d1 with
    | none => rw [h] at q1; exact q1.elim
    | some k =>
      rw [h] at q1
      exact ⟨k, truth_rel s1 r1.1 h, q1 ρ1 _ H1 (Ext.refl _ _) s1 rfl⟩⟩
variable {na nb nc : Loc → Store → Res Bool}
theorem sw_and {rest : List Expr} (ha : PT X a (eT X κ B na)) (hb : PW X (.BoolOp .And (b :: rest) pos) (eT X κ B nb)) : PW X (.BoolOp .And (a :: b :: rest) pos) (eT X κ B fun l st => (na l st).bind fun k st => ifB k (nb l st) (.ok false st)) := by
  have h := pw_and ha hb
  refine ⟨fun wh pins s σ H Q I ⟨ρ, l, st, a, q⟩ => h.run wh pins s σ H Q I ⟨ρ, l, st, a, EndG.bind RB.back q fun k st1 ρ1 k' H1 x1 s1 r1 q1 => ?_⟩⟩
  cases r1
  cases k with
  | true => exact ⟨ρ1, l, st1, a.go x1 s1, q1⟩
  | false => exact q1 ρ1 _ H1 (Ext.refl _ _) s1 rfl
theorem sw_or {rest : List Expr} (ha : PT X a (eT X κ B na)) (hb : PW X (.BoolOp .Or (b :: rest) pos) (eT X κ B nb)) : PW X (.BoolOp .Or (a :: b :: rest) pos) (eT X κ B fun l st => (na l st).bind fun k st => ifB k (.ok true st) (nb l st)) := by
  have h := pw_or ha hb
  refine ⟨fun wh pins s σ H Q I ⟨ρ, l, st, a, q⟩ => h.run wh pins s σ H Q I ⟨ρ, l, st, a, EndG.bind RB.back q fun k st1 ρ1 k' H1 x1 s1 r1 q1 => ?_⟩⟩
  cases r1
  cases k with
  | false => exact ⟨ρ1, l, st1, a.go x1 s1, q1⟩
  | true => exact q1 ρ1 _ H1 (Ext.refl _ _) s1 rfl
theorem st_not (ha : PT X a (eT X κ B na)) : PT X (.UnaryOp .Not a pos) (eT X κ B fun l st => (na l st).bind fun k st => .ok (!k) st) :=
  PT.imp (pt_not ha) fun σ H Q ⟨ρ, l, st, a, q⟩ => ⟨ρ, l, st, a, EndG.bind RB.back q fun k st1 ρ1 k' H1 x1 s1 r1 q1 => by
    cases r1
    exact q1 ρ1 _ H1 (Ext.refl _ _) s1 rfl⟩
theorem se_ite (hc : PT X c (eT X κ B nc)) (ha : PE X a (eE X κ B fa ma)) (hb : PE X b (eE X κ B fb mb)) :
    PE X (.IfExp c a b pos) (eE X κ B (fa && fb) fun l st => (nc l st).bind fun k st => ifB k (ma l st) (mb l st)) :=
  PE.imp (pe_ifExp hc ha hb) fun σ H Q ⟨ρ, l, st, a, q⟩ => ⟨ρ, l, st, a, EndG.bind RE.back q fun k st1 ρ1 k' H1 x1 s1 r1 q1 => by
    cases r1
    cases k with
    | true => exact ⟨ρ1, l, st1, a.go x1 s1, EndG.weak2 (fun z => (Bool.and_eq_true_iff.mp z).1) q1⟩
    | false => exact ⟨ρ1, l, st1, a.go x1 s1, EndG.weak2 (fun z => (Bool.and_eq_true_iff.mp z).2) q1⟩⟩
end
end Pm

set_option Elab.async false
set_option linter.all false
set_option maxRecDepth 100000
set_option maxHeartbeats 2000000
/-! Ev7: subscripts, slices, isinstance. -/
namespace Pm
open PySem PySem.Spec PyProof.Rows L2
set_option autoImplicit false

theorem asKey_rel {K : Kit} {ρ : Rho} {H : Hp} {d : D} {v : V} {k : DKey} (r : RelD K ρ H d v) (h : asKey d = some k) : v = kV (keyK k) := by
  unfold asKey at h
  split at h
  · cases h; cases r; rfl
  · cases h; cases r; rfl
  · cases h
theorem keyK_inj {a b : DKey} (h : keyK a = keyK b) : a = b := by
  cases a <;> cases b <;> simp only [keyK] at h
  · cases h; rfl
  · cases h
  · cases h
  · rw [strS_inj (Sum.inr.inj h)]
theorem lookK_rel {K : Kit} {ρ : Rho} {H : Hp} {k : DKey} : ∀ {xs : List (DKey × D)} {vs : List (Key × V)}, RelKs K ρ H xs vs → (lookK k xs = none ∧ valV vs (keyK k) = none) ∨ ∃ d v, lookK k xs = some d ∧ valV vs (keyK k) = some v ∧ RelD K ρ H d v
  | _, _, .nil => .inl ⟨rfl, rfl⟩
  | _, _, @RelKs.cons _ _ _ k' d xs v vs h r => by
    by_cases e : k' = k
    · subst e
      exact .inr ⟨d, v, by simp [lookK], valV_pos rfl, h⟩
    · have e2 : ¬ keyK k' = keyK k := fun q => e (keyK_inj q)
      rcases lookK_rel (k := k) r with ⟨h1, h2⟩ | ⟨d', v', h1, h2, h3⟩
      · exact .inl ⟨by simp [lookK, e, h1], by rw [valV_neg e2]; exact h2⟩
      · exact .inr ⟨d', v', by simp [lookK, e, h1], by rw [valV_neg e2]; exact h2, h3⟩

/-! ### a[b] -/
def rIxD : R2 := fun x y H Q => ∃ a v, x = .ref a ∧ DGet H a y (some v) ∧ Q v H
theorem ix_dict {X : Cx} (hu : X.A.units + 1 < cLine) : IxR X rIxD := by
  intro value slice pins s σ H x y v u Q I rx ry h hs
  obtain ⟨a, z, rfl, g, q⟩ := h
  obtain rfl : v = Value.ref a := rx
  have hT := dict_typeIs I g
  unfold subscriptTail
  refine wpAny_bind ?_
  rw [getitemInPython_of_ne hT.not_modules]
  refine wpAny_bind (wpAny_specialOf hT PySem.F.slot_dict_getitem.lookup ?_)
  have hb2 : wpAny (model X.prog X.w) X.A (getItem (.ref a) u) (EP X pins σ Q) X.xe s := d_getItem hu I g ry fun w' s3 I3 rw' => ⟨z, H, I3, rw', q⟩
  have fin : wpAny (model X.prog X.w) X.A (subscripted slice false (.ref a) u) (fun r sc3 => wpAny (model X.prog X.w) X.A (letTemporaryGo value (.ref a) r >>= fun _ => pure r) (EP X pins σ Q) X.xe sc3) X.xe s := by
    rw [hs]
    exact wpAny_operating (wpAny_mono hb2 (fun r sc3 hc3 => wpAny_bind (wpAny_letTemporaryGo (wpAny_pure hc3))) fun _ _ x => x)
  first
    | exact wpAny_pure (wpAny_bind fin)
    | exact wpAny_bind (wpAny_pure (wpAny_bind fin))
    | exact wpAny_bind fin
def rIxA (K : PySem.W.Frag) : R2 := fun x y H Q => rIx K x y H Q ∨ rIxD x y H Q
theorem ix_all {X : Cx} (hu : X.A.units + 1 < cLine) : IxR X (rIxA X.K) := ix_seq.or (ix_dict hu)
section
variable {K : Kit} {ρ : Rho} {H : Hp} {st : Store} {d1 d2 d : D} {v1 v2 : V} {Q : VK}
theorem place_eq : place = ixN := rfl
theorem RelDs.atI {xs : List D} {vs : List V} {i : Int} {d : D} (r : RelDs K ρ H xs vs) (h : ((place xs.length i).bind fun j => xs[j]?) = some d) : ∃ v, L2.atI vs i = some v ∧ RelD K ρ H d v := by
  obtain ⟨j, h1, h2⟩ := Option.bind_eq_some_iff.mp h
  obtain ⟨v, h3, h4⟩ := r.get h2
  refine ⟨v, ?_, h4⟩
  unfold L2.atI
  rw [← r.length]
  rw [place_eq] at h1
  rw [h1]
  exact h3
theorem ix_rel (s : Sim K ρ st H) (r1 : RelD K ρ H d1 v1) (r2 : RelD K ρ H d2 v2) (h : ixD st d1 d2 = some d) (q : ∀ v, RelD K ρ H d v → Q v H) : rIxA K.K v1 v2 H Q := by
  unfold ixD at h
  split at h
  · rename_i x i
    split at h
    · rename_i hz
      cases r1; cases r2
      obtain ⟨j, h1, h2⟩ := Option.bind_eq_some_iff.mp h
      obtain ⟨c, h3, h4⟩ := Option.map_eq_some_iff.mp h2
      subst h4
      refine .inl (.inr (.inr ⟨strS x, i, c, rfl, rfl, by rw [strS_length, SL_eq]; exact hz, ?_, ?_⟩))
      · show (ixN (strS x).cps.toList.length i).bind _ = _
        rw [show (strS x).cps.toList = x from rfl, ← place_eq, h1]
        exact h3
      · exact q (.str ⟨#[c]⟩) (.str [c])
    · cases h
  · rename_i xs i
    cases r2
    cases r1 with
    | tup h1 h2 =>
      obtain ⟨v, h3, h4⟩ := h2.atI h
      exact .inl (.inr (.inl ⟨_, _, i, v, rfl, rfl, h1, h3, q v h4⟩))
  · split at h
    · cases r2
      obtain ⟨a, vs, rfl, h1, h2⟩ := listOf_rel s r1 (by assumption)
      obtain ⟨v, h3, h4⟩ := h2.atI h
      exact .inl (.inl ⟨_, _, _, v, rfl, rfl, SqL.of h1, h3, q v h4⟩)
    · split at h
      · rename_i kvs k hd hk
        obtain ⟨a, vs, rfl, h1, h2⟩ := dictOf_rel s r1 hd
        have e := asKey_rel r2 hk
        subst e
        rcases lookK_rel (k := k) h2 with ⟨h3, _⟩ | ⟨d', v', h3, h4, h5⟩
        · rw [h3] at h; cases h
        · rw [h3] at h; cases h
          exact .inr ⟨a, v', rfl, by rw [← h4]; exact DGet.k h1, q v' h5⟩
      · cases h
/-- a key there -/
theorem dget_rel (s : Sim K ρ st H) (r1 : RelD K ρ H d1 v1) (r2 : RelD K ρ H d2 v2) {kvs : List (DKey × D)} {k : DKey} (hd : dictOf st d1 = some kvs) (hk : asKey d2 = some k) : ∃ a o, v1 = .ref a ∧ DGet H a v2 o ∧ ((lookK k kvs = none ∧ o = none) ∨ ∃ d v, lookK k kvs = some d ∧ o = some v ∧ RelD K ρ H d v) := by
  obtain ⟨a, vs, rfl, h1, h2⟩ := dictOf_rel s r1 hd
  have e := asKey_rel r2 hk
  subst e
  refine ⟨a, _, rfl, DGet.k h1, ?_⟩
  rcases lookK_rel (k := k) h2 with ⟨h3, h4⟩ | ⟨d', v', h3, h4, h5⟩
  · exact .inl ⟨h3, h4⟩
  · exact .inr ⟨d', v', h3, h4, h5⟩
end

/-! ### slices -/
theorem cut_eq {α : Type} (xs : List α) (lo hi : Option Int) : cut xs lo hi = (xs.drop (HT.sIx xs.length 0 lo)).take (HT.sIx xs.length xs.length hi - HT.sIx xs.length 0 lo) := by
  have h : ∀ n d (o : Option Int), cutIx n d o = HT.sIx n d o := fun n d o => by cases o <;> rfl
  unfold cut
  rw [h, h]
theorem cut_map {α β : Type} (f : α → β) (xs : List α) (lo hi : Option Int) : (cut xs lo hi).map f = cut (xs.map f) lo hi := by
  unfold cut
  rw [List.length_map, List.map_take, List.map_drop]
def rSlAll (K : PySem.W.Frag) : V → Option Int → Option Int → Hp → VK → Prop := fun x lo hi H Q => rSlL K x lo hi H Q ∨ rSlA K x lo hi H Q ∨ C8.rSlX x lo hi H Q
theorem sl_all {X : Cx} : SlR X (rSlAll X.K) := sl_list.or (sl_tupA.or C8.sl_txt)
section
variable {K : Kit} {ρ : Rho} {H : Hp} {st : Store} {d1 d : D} {v1 : V} {Q : VK} {lo hi : Option Int} {fr : Bool}
theorem RelDs.cut {xs : List D} {vs : List V} (r : RelDs K ρ H xs vs) : RelDs K ρ H (cut xs lo hi) (cutV vs lo hi) := by
  unfold cutV
  rw [cut_eq, ← r.length]
  exact (r.drop _).take _
theorem rel_ints : ∀ ns : List Int, RelDs K ρ H (ns.map .int) (ns.map V.int)
  | [] => .nil
  | n :: r => .cons (.int n) (rel_ints r)
theorem slice_eq (x : List Nat) : Txt.slice (strS x) lo hi = strS (Pm.cut x lo hi) := by
  rw [← C8.cutS_slice]
  unfold cutS
  rw [cut_eq]
  rfl
theorem sl_rel (s : Sim K ρ st H) (r1 : RelD K ρ H d1 v1) (h : slcD st d1 lo hi = some d) (k : Out K fr ρ H st d Q) : rSlAll K.K v1 lo hi H Q := by
  unfold slcD at h
  split at h
  · rename_i ns
    cases h; cases r1
    rename_i a h1
    refine .inl ⟨a, _, rfl, h1.sq, fun p hp => ?_⟩
    have e : cutV (ns.map V.int) lo hi = (Pm.cut ns lo hi).map V.int := by
      rw [cut_map]; unfold cutV; rw [cut_eq]
    rw [e]
    exact k.lst s hp (rel_ints _)
  · rename_i x
    split at h
    · rename_i hz
      cases h; cases r1
      refine .inr (.inr ⟨_, rfl, by rw [strS_length, SL_eq]; exact hz, ?_⟩)
      rw [slice_eq]
      exact k.flat s (.str _) rfl
    · cases h
  · rename_i xs
    cases h
    cases r1 with
    | @tup _ vs a h1 h2 =>
      refine .inr (.inl ⟨a, vs, rfl, h1, fun hw => ?_, fun _ p hp => k.tup s hp h2.cut⟩)
      have e : Pm.cut xs lo hi = xs := by
        rw [cut_eq, h2.length, hw.1, hw.2, ← h2.length]; simp
      rw [e] at k
      exact k.flat s (.tup h1 h2) rfl
  · obtain ⟨xs, h1, h2⟩ := Option.map_eq_some_iff.mp h
    subst h2
    obtain ⟨a, vs, rfl, h3, h4⟩ := listOf_rel s r1 h1
    exact .inl ⟨a, vs, rfl, SqL.of h3, fun p hp => k.lst s hp h4.cut⟩
end

section
variable {X : Cx} {κ : Kx} {B : L2.St → XW} {a b c : Expr} {fa fb fc fr : Bool} {ma mb mc : Loc → Store → Res D} {pos p2 : Pos}
theorem se_ix (hu : X.A.units + 64 < cLine) (hs : PlainIx b) (ha : PE X a (eE X κ B fa ma)) (hb : PE X b (eE X κ B fb mb)) :
    PE X (.Subscript a b pos) (eE X κ B false fun l st => (ma l st).bind fun x st => (mb l st).bind fun y st => .ofOpt (ixD st x y) st) :=
  PE.imp (pe_ix (ix_all (by omega)) ha hb hs) fun σ H Q ⟨ρ, l, st, a, q⟩ => ⟨ρ, l, st, a, EndG.bind RE.back q fun d1 st1 ρ1 v1 H1 x1 s1 r1 q1 =>
    ⟨ρ1, l, st1, a.go x1 s1, EndG.bind RE.back q1 fun d2 st2 ρ2 v2 H2 x2 s2 r2 q2 => by
      obtain ⟨d, e, k⟩ := EndG.opt q2
      exact ix_rel s2 (r1.1.mono s1 x2) r2.1 e fun v r => k ρ2 v H2 (Ext.refl _ _) s2 r fun z => nomatch z⟩⟩
theorem so_no : PO X none (eO X κ B fun _ st => .ok none st) := PO.imp po_none fun σ H Q ⟨ρ, l, st, a, q⟩ => q ρ none H (Ext.refl _ _) a.sim rfl
theorem so_yes (ha : PE X a (eE X κ B fa ma)) : PO X (some a) (eO X κ B fun l st => (ma l st).bind fun x st => asInt x fun i => .ok (some i) st) :=
  PO.imp (po_some ha) fun σ H Q ⟨ρ, l, st, a, q⟩ => ⟨ρ, l, st, a, EndG.bind RB.back q fun d1 st1 ρ1 v1 H1 x1 s1 r1 q1 => by
    cases d1 with
    | int i => obtain ⟨r1, _⟩ := r1; cases r1; exact ⟨i, rfl, q1 ρ1 _ H1 (Ext.refl _ _) s1 rfl⟩
    | _ => exact q1.elim⟩
variable {lo hi : Option Expr} {mlo mhi : Loc → Store → Res (Option Int)}
theorem se_slc (ha : PE X a (eE X κ B fa ma)) (hl : PO X lo (eO X κ B mlo)) (hh : PO X hi (eO X κ B mhi)) :
    PE X (.Subscript a (.Slice lo hi none p2) pos) (eE X κ B true fun l st => (ma l st).bind fun x st => (mlo l st).bind fun u st => (mhi l st).bind fun w st => .ofOpt (slcD st x u w) st) :=
  PE.imp (pe_slice sl_all ha hl hh) fun σ H Q ⟨ρ, l, st, a, q⟩ => ⟨ρ, l, st, a, EndG.bind RE.back q fun d1 st1 ρ1 v1 H1 x1 s1 r1 q1 =>
    ⟨ρ1, l, st1, a.go x1 s1, EndG.bind RE.back q1 fun u st2 ρ2 u' H2 x2 s2 r2 q2 => by
      cases r2
      exact ⟨ρ2, l, st2, (a.go x1 s1).go x2 s2, EndG.bind RE.back q2 fun w st3 ρ3 w' H3 x3 s3 r3 q3 => by
        cases r3
        obtain ⟨d, e, k⟩ := EndG.opt q3
        exact sl_rel s3 ((r1.1.mono s1 x2).mono s2 x3) e k⟩⟩⟩
end
end Pm

set_option Elab.async false
set_option linter.all false
set_option maxRecDepth 100000
set_option maxHeartbeats 2000000
/-! Ev8: isinstance, built-ins. -/
namespace Pm
open PySem PySem.Spec PyProof.Rows L2
set_option autoImplicit false

/-! ### isinstance -/
def tyN (st : Store) : D → Option String
  | .non => some "NoneType"
  | .bl _ => some "bool"
  | .int _ => some "int"
  | .str _ => some "str"
  | .tup _ => some "tuple"
  | .lst _ => some "list"
  | .dct _ => some "dict"
  | .ref n => match st[n]? with
    | some (.lst _) => some "list"
    | some (.dct _) => some "dict"
    | _ => none
  | _ => none
def tyNs : List String := ["NoneType", "bool", "int", "str", "tuple", "list", "dict"]
def tgN : Tg → Option String
  | .int => some "int" | .bool => some "bool" | .str => some "str" | .tuple => some "tuple" | .list => some "list" | .dict => some "dict" | .verr => some "ValueError" | .own _ => none
def isNm (n m : String) : Bool := n == m || (n == "bool" && m == "int")
theorem kit_names : (tyNs.all fun n => ["int", "bool", "str", "tuple", "list", "dict", "ValueError"].all fun m => kitB n m == some (isNm n m)) = true := by decide +kernel
theorem kit_nm {n m : String} (hn : n ∈ tyNs) (hm : m ∈ ["int", "bool", "str", "tuple", "list", "dict", "ValueError"]) : kitB n m = some (isNm n m) := by
  have h := List.all_eq_true.mp (List.all_eq_true.mp kit_names n hn) m hm
  exact eq_of_beq h
def tgV (κ : Kx) : Tg → V
  | .own c => .ref (κ.cl c)
  | t => .ty ((tgN t).getD "")
def tgU (κ : Kx) : Tg → Value
  | .own c => .ref (κ.cl c)
  | t => .type ((tgN t).getD "")
theorem tg_cls (κ : Kx) (t : Tg) : ClsV (tgV κ t) (tgU κ t) := by cases t <;> constructor

/-- what must be known of the own classes (so many) -/
structure Glo (κ : Kx) (K : PySem.W.Frag) (anc : Nat → List Nat) (ncl : Nat) : Prop where
  ownT : ∀ c, c < ncl → ∀ n, n ∈ tyNs → PySem.W.kitOne K (.type n) (.ref (κ.cl c)) = some false
  ownE : ∀ c, c < ncl → ∀ k, k < ncl → PySem.W.kitOne K (.ref (κ.cl c)) (.ref (κ.cl k)) = some ((anc c).contains k)
  verr : ∀ c, c < ncl → PySem.W.kitOne K (.ref (κ.cl c)) (.type "ValueError") = some true

section
variable {K : Kit} {ρ : Rho} {H : Hp} {st : Store} {d d' : D} {v : V}
theorem ty_of (s : Sim K ρ st H) (r : RelD K ρ H d v) {n : String} (h : tyN st d = some n) : TyX K.K H v (.type n) ∧ n ∈ tyNs := by
  cases r with
  | non => cases h; exact ⟨.base .non, by decide⟩
  | bl b => cases h; exact ⟨.base (.bl b), by decide⟩
  | int i => cases h; exact ⟨.base (.int i), by decide⟩
  | str x => cases h; exact ⟨.base (.str _), by decide⟩
  | tup h1 h2 =>
    cases h
    rcases h1 with (h1 | ⟨o, h1⟩) | ⟨o, its, n, h1, h2, _⟩
    · exact ⟨.base (.tup h1), by decide⟩
    · exact ⟨.fTuple h1, by decide⟩
    · exact ⟨.kTuple h1 h2, by decide⟩
  | lst h1 h2 h3 => cases h; exact ⟨.base (.lst h1), by decide⟩
  | dct h1 h2 h3 => cases h; exact ⟨.base (.dK h1), by decide⟩
  | scr h1 => cases h
  | @ref m a e =>
    dsimp only [tyN] at h
    split at h
    · rename_i xs hs
      cases h
      obtain ⟨a, vs, e1, e2, e3⟩ := listOf_rel (d := .ref m) (xs := xs) s (.ref e) (by simp only [listOf, hs])
      cases e1
      exact ⟨.base (.lst e2), by decide⟩
    · rename_i xs hs
      cases h
      obtain ⟨a, vs, e1, e2, e3⟩ := dictOf_rel (d := .ref m) (xs := xs) s (.ref e) (by simp only [dictOf, hs])
      cases e1
      exact ⟨.base (.dK e2), by decide⟩
    · cases h
  | @dead m v e =>
    dsimp only [tyN] at h
    split at h
    · rename_i xs hs
      rcases s.ob m _ hs with ⟨q, _⟩ | ⟨b, e2, r2⟩
      · cases q
      · rw [e] at e2; cases e2
    · rename_i xs hs
      rcases s.ob m _ hs with ⟨q, _⟩ | ⟨b, e2, r2⟩
      · cases q
      · rw [e] at e2; cases e2
    · cases h
theorem isD_nm (anc : Nat → List Nat) {n m : String} {t : Tg} (h : tyN st d = some n) (ht : tgN t = some m) : isD st anc d t = isNm n m := by
  cases d with
  | ref k =>
    dsimp only [tyN] at h
    split at h
    · rename_i xs hs
      cases h
      cases t <;> cases ht <;> simp [isD, hs] <;> decide
    · rename_i xs hs
      cases h
      cases t <;> cases ht <;> simp [isD, hs] <;> decide
    · cases h
  | scr _ => cases h
  | _ => cases h <;> cases t <;> cases ht <;> simp only [isD] <;> decide
theorem isD_own (anc : Nat → List Nat) {n : String} {c : Nat} (h : tyN st d = some n) : isD st anc d (.own c) = false := by
  cases d with
  | ref k =>
    dsimp only [tyN] at h
    split at h
    · rename_i xs hs; simp [isD, hs]
    · rename_i xs hs; simp [isD, hs]
    · cases h
  | _ => rfl
def tgOk (ncl : Nat) : Tg → Bool
  | .own c => decide (c < ncl)
  | _ => true
theorem kit_one {κ : Kx} {K : PySem.W.Frag} {anc : Nat → List Nat} {ncl : Nat} (G : Glo κ K anc ncl) {n : String} (h : tyN st d = some n) (hn : n ∈ tyNs) {t : Tg} (ht : tgOk ncl t = true) : PySem.W.kitOne K (.type n) (tgU κ t) = some (isD st anc d t) := by
  cases t with
  | own c => rw [isD_own anc h]; exact G.ownT c (of_decide_eq_true ht) n hn
  | _ => rw [isD_nm anc h rfl]; exact kit_ty (kit_nm hn (by decide))
theorem kit_any {κ : Kx} {K : PySem.W.Frag} {anc : Nat → List Nat} {ncl : Nat} (G : Glo κ K anc ncl) {n : String} (h : tyN st d = some n) (hn : n ∈ tyNs) : ∀ ts : List Tg, ts.all (tgOk ncl) = true → PySem.W.kitAny K (.type n) (ts.map (tgU κ)) = some (ts.any (isD st anc d))
  | [], _ => rfl
  | t :: ts, ht => by
    simp only [List.all_cons, Bool.and_eq_true] at ht
    refine kitAny_cons (kit_one G h hn ht.1) (fun e => ?_) fun e => ?_
    · rw [List.any_cons, e, Bool.false_or]; exact kit_any G h hn ts ht.2
    · rw [List.any_cons, e, Bool.true_or]
theorem pair_cls (κ : Kx) : ∀ ts : List Tg, Paired ClsV (ts.map (tgV κ)) (ts.map (tgU κ))
  | [] => .nil
  | t :: ts => .cons (tg_cls κ t) (pair_cls κ ts)
end
/-- what is live and no error has a type's name -/
theorem ty_live {K : Kit} {ρ : Rho} {H : Hp} {st : Store} {d d' : D} {v : V} (s : Sim K ρ st H) (r : RelD K ρ H d v) (h : live st d = some d') (hsc : ∀ ns, d ≠ .scr ns) : ∃ n, tyN st d = some n := by
  cases r with
  | @ref n a e =>
    dsimp only [live] at h
    split at h
    · cases h
    · rename_i o ho hs
      rcases s.ob n o hs with ⟨q, _⟩ | ⟨b, e2, r2⟩
      · exact (ho q).elim
      · cases o with
        | lst xs => exact ⟨_, by simp [tyN, hs]; rfl⟩
        | dct xs => exact ⟨_, by simp [tyN, hs]; rfl⟩
        | dead => exact r2.elim
        | ins c fs => exact r2.elim
    · cases h
  | @dead n v e =>
    dsimp only [live] at h
    split at h
    · cases h
    · rename_i o ho hs
      rcases s.ob n o hs with ⟨q, _⟩ | ⟨b, e2, r2⟩
      · exact (ho q).elim
      · rw [e] at e2; cases e2
    · cases h
  | scr h => exact (hsc _ rfl).elim
  | _ => exact ⟨_, rfl⟩

/-! ### built-ins -/
def biU : Bi → Value
  | .len => .builtin "len" | .tuple => .type "tuple" | .list => .type "list" | .dict => .type "dict" | .int => .type "int" | .str => .type "str" | .abs => .builtin "abs" | .ord => .builtin "ord" | .all => .builtin "all"
  | .any => .builtin "any" | .repr => .builtin "repr" | .sorted => .builtin "sorted" | .max2 => .builtin "max" | .max => .builtin "max" | .min => .builtin "min" | .sum => .builtin "sum" | .bool => .type "bool"
def biN : Bi → Str
  | .len => "len" | .tuple => "tuple" | .list => "list" | .dict => "dict" | .int => "int" | .str => "str" | .abs => "abs" | .ord => "ord" | .all => "all"
  | .any => "any" | .repr => "repr" | .sorted => "sorted" | .max2 => "max" | .max => "max" | .min => "min" | .sum => "sum" | .bool => "bool"
theorem bi_boot : ∀ b : Bi, bootBuiltins (biN b) = some (biU b) := by intro b; cases b <;> rfl
end Pm

set_option Elab.async false
set_option linter.all false
set_option maxRecDepth 100000
set_option maxHeartbeats 2000000
/-! Ev9: shapes of arguments; isinstance and built-ins as readings. -/
namespace Pm
open PySem PySem.Spec PyProof.Rows L2
set_option autoImplicit false

/-! ### shapes -/
def notStar : Expr → Bool
  | .Starred _ _ => false
  | _ => true
theorem star_cons {e : Expr} (h : notStar e = true) (es : List Expr) (env : Env) : starEach (e :: es) env = (false, eval e env) :: starEach es env := by
  cases e <;> first | rfl | cases h
theorem star_any : ∀ {es : List Expr} (env : Env), es.all notStar = true → (starEach es env).any (·.1) = false
  | [], _, _ => rfl
  | e :: es, env, h => by
    simp only [List.all_cons, Bool.and_eq_true] at h
    rw [star_cons h.1, List.any_cons, star_any env h.2]; rfl
theorem back_any (pos : Pos) (l : List (Bool × Sem Value)) : (backTo pos l).any (·.1) = l.any (·.1) := by
  unfold backTo
  rw [List.any_map]; rfl
theorem back_plain {es : List Expr} (pos : Pos) (env : Env) (h : es.all notStar = true) : (backTo pos (starEach es env)).any (·.1) = false := by rw [back_any, star_any env h]
theorem back_all {es : List Expr} (pos : Pos) (env : Env) (h : es.all notStar = true) : (backTo pos (starEach es env)).all (fun x => !x.1) = true := by
  have := back_plain pos env h
  rw [List.all_eq_not_any_not]
  simpa using this
def baseOk : Expr → Bool
  | .Call (.Name _ _) [] [] _ => false
  | _ => true
theorem base_eq {o : Expr} (h : baseOk o = true) (attr : Str) (env : Env) (whole : Sem Value) : attributeBase o attr env whole = whole := by
  unfold attributeBase
  split
  · cases h
  · rfl
def plainIx : Expr → Bool
  | .Slice _ _ _ _ => false
  | _ => true
theorem plainIx_ok {b : Expr} (h : plainIx b = true) : PlainIx b := fun o i => by
  cases b <;> first | rfl | cases h
def noSet : Expr → Bool
  | .Set _ _ _ => false
  | _ => true
theorem noSet_in {b : Expr} (h : noSet b = true) (op : CmpOp) : behindInMarks op b = false := by
  cases b <;> first | rfl | cases h
theorem noSet_it {b : Expr} (h : noSet b = true) (env : Env) (x : Value) : foldedSetIterable b env x = pure x := by
  cases b <;> first | rfl | cases h
/-- whose test is its value's truth -/
def truePlain : Expr → Bool
  | .UnaryOp .Not _ _ => false
  | .BoolOp _ _ _ => false
  | .IfExp _ _ _ _ => false
  | .Compare _ _ _ _ => false
  | _ => true
theorem truePlain_ok {a : Expr} (h : truePlain a = true) (env : Env) (whole : Sem Value) : isTrue a env whole = (do let v ← whole; standAt a.pos; holding [v] (truthy v)) := by
  cases a with
  | UnaryOp op x p => cases op <;> first | rfl | cases h
  | BoolOp _ _ _ => cases h
  | IfExp _ _ _ _ => cases h
  | Compare _ _ _ _ => cases h
  | _ => rfl

section
variable {X : Cx} {κ : Kx} {B : L2.St → XW} {a b c : Expr} {fa fb fc fr : Bool} {ma mb mc : Loc → Store → Res D} {pos p2 p : Pos}
/-! ### isinstance -/
theorem liveT_live {st : Store} {d d' : D} (h : liveT st d = some d') : live st d = some d' ∧ ∀ ns, d ≠ .scr ns := by
  unfold liveT at h
  split at h
  · cases h
  · rename_i h1
    exact ⟨h, fun ns e => h1 _ e⟩
theorem se_isi1 {anc : Nat → List Nat} {ncl : Nat} {T : Expr} {t : Tg} (G : Glo κ X.K anc ncl) (ht : tgOk ncl t = true) (hg : Gl X "isinstance") (hm : X.mg "isinstance" = none)
    (ns : notStar a = true) (nT : notStar T = true) (ha : PE X a (eE X κ B fa ma)) (hT : PE X T (tC (tgV κ t))) :
    PE X (.Call (.Name "isinstance" p) [a, T] [] pos) (eE X κ B fr fun l st => (ma l st).bind fun x st => optR (liveT st x) fun x => .ok (.bl ([t].any (isD st anc x))) st) :=
  PE.imp (pe_callB call_isi hg hm rfl (pa_cons ha (pa_cons hT pa_nil (star_cons nT [] _)) (star_cons ns _ _)) (he := star_cons ns _ _) (hpl := back_plain _ _ (by simp [nT]))) fun σ H Q ⟨ρ, l, st, at0, q⟩ =>
    ⟨ρ, l, st, at0, EndG.bind RE.back q fun d st1 ρ1 v H1 x1 s1 r1 q1 => by
      show rIsi X.K [v, tgV κ t] H1 Q
      cases hl : liveT st1 d with
      | none => rw [hl] at q1; exact q1.elim
      | some d' =>
        rw [hl] at q1
        have q2 : Q (.bl ([t].any (isD st1 anc d'))) H1 := q1 ρ1 _ H1 (Ext.refl _ _) s1 ⟨.bl _, fun _ t => nomatch t⟩
        obtain ⟨h1, h2⟩ := liveT_live hl
        obtain ⟨n, hn⟩ := ty_live s1 r1.1 h1 h2
        obtain ⟨ty, hin⟩ := ty_of s1 r1.1 hn
        obtain ⟨e, _⟩ := live_rel s1 r1.1 h1
        subst e
        refine ⟨v, tgV κ t, .type n, tgU κ t, _, rfl, tg_cls κ t, ty, kit_one G hn hin ht, ?_⟩
        rw [List.any_cons, List.any_nil, Bool.or_false] at q2
        exact q2⟩
/-- the error in hand is asked -/
theorem se_isx {anc : Nat → List Nat} {ncl : Nat} {T : Expr} {t : Tg} {x : Str} {px : Pos} {ae c i : Nat} (G : Glo κ X.K anc ncl) (hc : c < ncl) (ht : (match t with | .own k => decide (k < ncl) | .verr => true | _ => false) = true) (hg : Gl X "isinstance") (hm : X.mg "isinstance" = none)
    (hx : CallR X (.builtin "isinstance") (rIsE X.K (κ.cl c) ae)) (hv : PE X (.Name x px) (tVar i)) (hfx : (i, ae) ∈ κ.fx) (nT : notStar T = true) (hT : PE X T (tC (tgV κ t))) :
    PE X (.Call (.Name "isinstance" p) [.Name x px, T] [] pos) (eE X κ B fr fun l st => .ok (.bl (isE anc c t)) st) :=
  PE.imp (pe_callB hx hg hm rfl (pa_cons hv (pa_cons hT pa_nil (star_cons nT [] _)) (star_cons rfl _ _)) (he := star_cons rfl _ _) (hpl := back_plain _ _ (by simp [nT]))) fun σ H Q ⟨ρ, l, st, at0, q⟩ => by
    have q2 : Q (.bl (isE anc c t)) H := q ρ _ H (Ext.refl _ _) at0.sim ⟨.bl _, fun _ t => nomatch t⟩
    refine ⟨.ref ae, at0.loc.2.2 _ hfx, tgV κ t, tgU κ t, _, rfl, fun u ru => (tg_cls κ t).eq ru, ?_, q2⟩
    cases t with
    | own k => exact G.ownE c hc k (of_decide_eq_true ht)
    | verr => exact G.verr c hc
    | _ => cases ht
/-- a tuple of classes -/
def tTgs (κ : Kx) (ts : List Tg) : TA := fun _ H Q => Q (ts.map (tgV κ)) H
theorem pa_tgs_nil : PA X [] (tTgs κ []) := PA.imp pa_nil fun _ _ _ q => q
theorem pa_tgs_cons {T : Expr} {Ts : List Expr} {t : Tg} {ts : List Tg} (nT : notStar T = true) (hT : PE X T (tC (tgV κ t))) (hr : PA X Ts (tTgs κ ts)) : PA X (T :: Ts) (tTgs κ (t :: ts)) :=
  PA.imp (pa_cons hT hr (star_cons nT _ _)) fun _ _ _ q => q
theorem se_isiT {anc : Nat → List Nat} {ncl : Nat} {Ts : List Expr} {k : Nat} {ts : List Tg} {p3 : Pos} (G : Glo κ X.K anc ncl) (ht : ts.all (tgOk ncl) = true) (h2 : 2 ≤ ts.length) (hsz : ts.length ≤ 100) (hg : Gl X "isinstance") (hm : X.mg "isinstance" = none)
    (ns : notStar a = true) (ha : PE X a (eE X κ B fa ma)) (hT : PA X Ts (tTgs κ ts)) :
    PE X (.Call (.Name "isinstance" p) [a, .Tuple Ts k p3] [] pos) (eE X κ B fr fun l st => (ma l st).bind fun x st => optR (liveT st x) fun x => .ok (.bl (ts.any (isD st anc x))) st) :=
  PE.imp (pe_callB call_isiT hg hm rfl (pa_cons ha (pa_cons (pe_tup hT) pa_nil (star_cons rfl [] _)) (star_cons ns _ _)) (he := star_cons ns _ _) (hpl := back_plain _ _ rfl)) fun σ H Q ⟨ρ, l, st, at0, q⟩ =>
    ⟨ρ, l, st, at0, EndG.bind RE.back q fun d st1 ρ1 v H1 x1 s1 r1 q1 => by
      refine ⟨by rw [List.length_map, SL_eq]; exact Nat.le_trans hsz (by decide), fun tp hp => ?_⟩
      show rIsiT X.K [v, .ref tp] (upd H1 tp (.tup (ts.map (tgV κ)))) Q
      cases hl : liveT st1 d with
      | none => rw [hl] at q1; exact q1.elim
      | some d' =>
        rw [hl] at q1
        obtain ⟨h1, h2⟩ := liveT_live hl
        have x2 : Ext κ.h ρ1 H1 ρ1 (upd H1 tp (.tup (ts.map (tgV κ)))) := ext_new hp
        have s2 : Sim (Cx.kit X κ) ρ1 st1 (upd H1 tp (.tup (ts.map (tgV κ)))) := sim_new s1 hp
        have r2 := r1.1.mono s1 x2
        have q2 : Q (.bl (ts.any (isD st1 anc d'))) (upd H1 tp (.tup (ts.map (tgV κ)))) := q1 ρ1 _ _ x2 s2 ⟨.bl _, fun _ t => nomatch t⟩
        obtain ⟨n, hn⟩ := ty_live s2 r2 h1 h2
        obtain ⟨ty, hin⟩ := ty_of s2 r2 hn
        obtain ⟨e, _⟩ := live_rel s2 r2 h1
        subst e
        exact ⟨v, tp, _, .type n, ts.map (tgU κ), _, rfl, upd_same, pair_cls κ ts, ty, kit_any G hn hin ts ht, q2⟩⟩
end
end Pm

set_option Elab.async false
set_option linter.all false
set_option maxRecDepth 100000
set_option maxHeartbeats 2000000
/-! Ev10: built-ins as readings. -/
namespace Pm
open PySem PySem.Spec PyProof.Rows L2
set_option autoImplicit false

def rBi (K : PySem.W.Frag) : Bi → List V → Hp → VK → Prop
  | .len => fun xs H Q => (∃ x n, xs = [x] ∧ LenV K x H n ∧ Q (.int n) H) ∨ (∃ a kvs, xs = [V.ref a] ∧ H a = some (.dK kvs) ∧ Q (.int kvs.length) H)
  | .tuple => fun xs H Q => ∃ p ys, xs = [.ref p] ∧ ((SqL K H p ys ∧ ∀ l, H l = none → Q (.ref l) (upd H l (.tup ys))) ∨ (SqT K H p ys ∧ Q (.ref p) H))
  | .list => fun xs H Q => (∃ p ys, xs = [.ref p] ∧ (SqL K H p ys ∨ SqT K H p ys) ∧ ∀ l, H l = none → Q (.ref l) (upd H l (.lst ys))) ∨ rListD xs H Q
  | .int => fun xs H Q => ((∃ i, xs = [.int i] ∧ Q (.int i) H) ∨ ∃ k, xs = [.bl k] ∧ Q (.int (if k then 1 else 0)) H) ∨ ∃ a n, xs = [.str a] ∧ PySem.intText? a = some n ∧ a.length ≤ 640 ∧ Q (.int n) H
  | .str => fun xs H Q => ∃ i, xs = [.int i] ∧ i.natAbs.log2 < 1920 ∧ Q (.str (toString i)) H
  | .abs => fun xs H Q => ∃ i, xs = [.int i] ∧ Q (.int (if i < 0 then -i else i)) H
  | .ord => fun xs H Q => ∃ x, xs = [.str x] ∧ x.length = 1 ∧ Q (.int (x.cps.getD 0 0 : Nat)) H
  | .all => rAll K
  | .any => rAny K
  | .max => rMax K
  | .sum => rSum K
  | .max2 => fun xs H Q => ∃ i j, xs = [.int i, .int j] ∧ Q (.int (if j > i then j else i)) H
  | .bool => fun xs H Q => (∃ i, xs = [.int i] ∧ Q (.bl (i != 0)) H) ∨ ∃ k, xs = [.bl k] ∧ Q (.bl k) H
  | _ => fun _ _ _ => False
/-- which want a calm place -/
def biHot : Bi → Bool
  | .list => true | .all => true | .any => true | .max => true | .sum => true | .max2 => true
  | _ => false
theorem call_bi {X : Cx} : ∀ b : Bi, (biHot b = true → X.calm = true) → CallR X (biU b) (rBi X.K b)
  | .len, _ => call_len.or call_lenD
  | .tuple, _ => call_tuple_of
  | .list, h => call_list_of.or (call_list_dK (h rfl))
  | .int, _ => call_int1.or call_int_str
  | .str, _ => call_str_int
  | .abs, _ => call_abs
  | .ord, _ => call_ord
  | .all, h => cr_all (h rfl)
  | .any, h => cr_any (h rfl)
  | .max, h => cr_max (h rfl)
  | .sum, h => cr_sum (h rfl)
  | .max2, h => call_max2 (h rfl)
  | .bool, _ => call_bool1
  | .dict, _ => fun _ _ _ _ _ _ _ _ _ q => q.elim
  | .repr, _ => fun _ _ _ _ _ _ _ _ _ q => q.elim
  | .sorted, _ => fun _ _ _ _ _ _ _ _ _ q => q.elim
  | .min, _ => fun _ _ _ _ _ _ _ _ _ q => q.elim

section
variable {K : Kit} {ρ : Rho} {H : Hp} {st : Store}
theorem bools_rel : ∀ {xs : List D} {vs : List V} {bs : List Bool}, RelDs K ρ H xs vs → boolsOf xs = some bs → vs = bs.map V.bl
  | _, _, bs, .nil, h => by cases h; rfl
  | _, _, bs, .cons (d := d) h r, e => by
    cases d <;> simp only [boolsOf] at e <;> try cases e
    obtain ⟨bs', h1, h2⟩ := Option.map_eq_some_iff.mp e
    subst h2
    cases h
    rw [bools_rel r h1]; rfl
theorem ints_rel : ∀ {xs : List D} {vs : List V} {bs : List Int}, RelDs K ρ H xs vs → intsOf xs = some bs → vs = bs.map V.int
  | _, _, bs, .nil, h => by cases h; rfl
  | _, _, bs, .cons (d := d) h r, e => by
    cases d <;> simp only [intsOf] at e <;> try cases e
    obtain ⟨bs', h1, h2⟩ := Option.map_eq_some_iff.mp e
    subst h2
    cases h
    rw [ints_rel r h1]; rfl
theorem strs_rel : ∀ {xs : List D} {vs : List V} {bs : List (List Nat)}, RelDs K ρ H xs vs → strsOf xs = some bs → vs = (bs.map strS).map V.str
  | _, _, bs, .nil, h => by cases h; rfl
  | _, _, bs, .cons (d := d) h r, e => by
    cases d <;> simp only [strsOf] at e <;> try cases e
    obtain ⟨bs', h1, h2⟩ := Option.map_eq_some_iff.mp e
    subst h2
    cases h
    rw [strs_rel r h1]; rfl
theorem lists_rel (s : Sim K ρ st H) {d : D} {vs : List V} {xs : List D} (r : RelDs K ρ H [d] vs) (h : listOf st d = some xs) : ∃ a ws, vs = [.ref a] ∧ H a = some (.lst ws) ∧ RelDs K ρ H xs ws := by
  cases r with
  | cons r1 r2 =>
    cases r2
    obtain ⟨a, ws, rfl, h1, h2⟩ := listOf_rel s r1 h
    exact ⟨a, ws, rfl, h1, h2⟩
theorem keys_rel : ∀ {xs : List (DKey × D)} {vs : List (Key × V)}, RelKs K ρ H xs vs → RelDs K ρ H (xs.map fun p => keyD p.1) (vs.map fun kv => kV kv.1)
  | _, _, .nil => .nil
  | _, _, .cons (k := k) _ r => by
    refine .cons ?_ (keys_rel r)
    cases k with
    | i n => exact .int n
    | s x => exact .str x
theorem max_fold : ∀ (r : List Int) (i : Int), (r.foldl (fun a b => if a < b then b else a) i ∈ i :: r) ∧ ∀ y ∈ i :: r, y ≤ r.foldl (fun a b => if a < b then b else a) i
  | [], i => ⟨by simp, fun y hy => by simp at hy; simp [hy]⟩
  | j :: r, i => by
    rw [List.foldl_cons]
    obtain ⟨h1, h2⟩ := max_fold r (if i < j then j else i)
    refine ⟨?_, fun y hy => ?_⟩
    · rcases List.mem_cons.mp h1 with e | e
      · rw [e]; split <;> simp
      · exact List.mem_cons_of_mem _ (List.mem_cons_of_mem _ e)
    · have h3 := h2 _ (List.mem_cons_self ..)
      rcases List.mem_cons.mp hy with e | e
      · subst e; exact Int.le_trans (by split <;> omega) h3
      · rcases List.mem_cons.mp e with e | e
        · subst e; exact Int.le_trans (by split <;> omega) h3
        · exact h2 _ (List.mem_cons_of_mem _ e)
theorem int_text (i : Int) : Str.ofString (toString i) = strS (intText i) := by
  rw [Str.ofString_eq_toList]
  rfl
variable {Q : VK} {fr : Bool} {P : Par}
theorem bi_rel (s : Sim K ρ st H) {b : Bi} {ds : List D} {vs : List V} {d : D} (r : RelDs K ρ H ds vs) (h : biD P st b ds = some d) (hb : b ≠ .sorted ∧ b ≠ .repr ∧ b ≠ .dict ∧ b ≠ .min) (k : Out K fr ρ H st d Q) : rBi K.K b vs H Q := by
  unfold biD at h
  split at h
  · -- len text
    rename_i x
    split at h
    · rename_i hz
      cases h; cases r with
      | cons r1 r2 =>
        cases r1; cases r2
        exact .inl ⟨_, x.length, rfl, ⟨by rw [strS_length, SL_eq]; exact hz, (strS_length x).symm⟩, k.flat s (.int _) rfl⟩
    · cases h
  · rename_i x
    cases h; cases r with
    | cons r1 r2 =>
      cases r2
      cases r1 with
      | tup h1 h2 => exact .inl ⟨_, x.length, rfl, .inr ⟨_, h1, h2.length⟩, k.flat s (.int _) rfl⟩
  · rename_i e _ _
    split at h
    · rename_i xs hx
      cases h
      obtain ⟨a, ws, rfl, h1, h2⟩ := lists_rel s r hx
      exact .inl ⟨_, xs.length, rfl, .inl ⟨_, SqL.of h1, h2.length⟩, k.flat s (.int _) rfl⟩
    · obtain ⟨kvs, h1, h2⟩ := Option.map_eq_some_iff.mp h
      subst h2
      cases r with
      | cons r1 r2 =>
        cases r2
        obtain ⟨a, ws, rfl, h3, h4⟩ := dictOf_rel s r1 h1
        exact .inr ⟨a, ws, rfl, h3, by rw [← h4.length]; exact k.flat s (.int _) rfl⟩
  · rename_i x
    cases h; cases r with
    | cons r1 r2 =>
      cases r2
      cases r1 with
      | tup h1 h2 => exact ⟨_, _, rfl, .inr ⟨h1, k.flat s (.tup h1 h2) rfl⟩⟩
  · obtain ⟨xs, h1, h2⟩ := Option.map_eq_some_iff.mp h
    subst h2
    obtain ⟨a, ws, rfl, h3, h4⟩ := lists_rel s r h1
    exact ⟨a, ws, rfl, .inl ⟨SqL.of h3, fun l hl => k.tup s hl h4⟩⟩
  · rename_i x
    cases h; cases r with
    | cons r1 r2 =>
      cases r2
      cases r1 with
      | tup h1 h2 => exact .inl ⟨_, _, rfl, .inr h1, fun l hl => k.lst s hl h2⟩
  · split at h
    · rename_i xs hx
      cases h
      obtain ⟨a, ws, rfl, h3, h4⟩ := lists_rel s r hx
      exact .inl ⟨a, ws, rfl, .inl (SqL.of h3), fun l hl => k.lst s hl h4⟩
    · obtain ⟨kvs, h1, h2⟩ := Option.map_eq_some_iff.mp h
      subst h2
      cases r with
      | cons r1 r2 =>
        cases r2
        obtain ⟨a, ws, rfl, h3, h4⟩ := dictOf_rel s r1 h1
        exact .inr ⟨a, ws, rfl, h3, fun l hl => k.lst s hl (keys_rel h4)⟩
  · rename_i i
    cases h; cases r with
    | cons r1 r2 => cases r1; cases r2; exact .inl (.inl ⟨i, rfl, k.flat s (.int _) rfl⟩)
  · rename_i b
    cases h; cases r with
    | cons r1 r2 => cases r1; cases r2; exact .inl (.inr ⟨b, rfl, k.flat s (.int _) rfl⟩)
  · rename_i x
    split at h
    · rename_i hz
      simp only [isDigits, Bool.and_eq_true, Bool.not_eq_true', decide_eq_true_eq] at hz
      cases h; cases r with
      | cons r1 r2 =>
        cases r1; cases r2
        have e : PySem.intText? (strS x) = some ((NumText.digitsVal x : Nat) : Int) := SX.int_S hz.1.2 (fun e => by rw [e] at hz; simp at hz) (by omega)
        have e2 : NumText.digitsVal x = digitsVal x := by
          unfold NumText.digitsVal digitsVal
          congr 1
          funext a c
          rw [Nat.mul_comm]
        refine .inr ⟨_, _, rfl, e, by rw [strS_length]; omega, ?_⟩
        rw [e2]
        exact k.flat s (.int _) rfl
    · cases h
  · rename_i i
    split at h
    · rename_i hz
      cases h; cases r with
      | cons r1 r2 =>
        cases r1; cases r2
        refine ⟨i, rfl, hz, ?_⟩
        rw [show ((toString i : String) : Str) = strS (intText i) from int_text i]
        exact k.flat s (.str _) rfl
    · cases h
  · rename_i i
    cases h; cases r with
    | cons r1 r2 => cases r1; cases r2; exact ⟨i, rfl, k.flat s (.int _) rfl⟩
  · rename_i c
    cases h; cases r with
    | cons r1 r2 => cases r1; cases r2; exact ⟨_, rfl, rfl, k.flat s (.int _) rfl⟩
  · obtain ⟨bs, h1, h2⟩ := Option.map_eq_some_iff.mp h
    obtain ⟨xs, h3, h4⟩ := Option.bind_eq_some_iff.mp h1
    subst h2
    obtain ⟨a, ws, rfl, h5, h6⟩ := lists_rel s r h3
    rw [bools_rel h6 h4] at h5
    exact ⟨a, bs, rfl, SqL.of h5, k.flat s (.bl _) rfl⟩
  · obtain ⟨bs, h1, h2⟩ := Option.map_eq_some_iff.mp h
    obtain ⟨xs, h3, h4⟩ := Option.bind_eq_some_iff.mp h1
    subst h2
    obtain ⟨a, ws, rfl, h5, h6⟩ := lists_rel s r h3
    rw [bools_rel h6 h4] at h5
    exact ⟨a, bs, rfl, SqL.of h5, k.flat s (.bl _) rfl⟩
  · exact (hb.2.1 rfl).elim
  · exact (hb.1 rfl).elim
  · obtain ⟨xs, h1, h2⟩ := Option.bind_eq_some_iff.mp h
    obtain ⟨is, h3, h4⟩ := Option.bind_eq_some_iff.mp h2
    split at h4
    · cases h4
    · rename_i i r'
      cases h4
      obtain ⟨a, ws, rfl, h5, h6⟩ := lists_rel s r h1
      rw [ints_rel h6 h3] at h5
      refine ⟨a, _, rfl, SqL.of h5, by simp, fun m hm hy => ?_⟩
      obtain ⟨g1, g2⟩ := max_fold r' i
      have e : m = r'.foldl (fun a b => if a < b then b else a) i := Int.le_antisymm (g2 m hm) (hy _ g1)
      rw [e]
      exact k.flat s (.int _) rfl
  · obtain ⟨xs, h1, h2⟩ := Option.bind_eq_some_iff.mp h
    obtain ⟨is, h3, h4⟩ := Option.map_eq_some_iff.mp h2
    subst h4
    obtain ⟨a, ws, rfl, h5, h6⟩ := lists_rel s r h1
    rw [ints_rel h6 h3] at h5
    exact ⟨a, _, rfl, SqL.of h5, k.flat s (.int _) rfl⟩
  · rename_i i j
    cases h; cases r with
    | cons r1 r2 =>
      cases r2 with
      | cons r2 r3 => cases r1; cases r2; cases r3; exact ⟨i, j, rfl, k.flat s (.int _) rfl⟩
  · rename_i b
    cases h; cases r with
    | cons r1 r2 => cases r1; cases r2; exact .inr ⟨b, rfl, k.flat s (.bl _) rfl⟩
  · cases h
end
end Pm

set_option Elab.async false
set_option linter.all false
set_option maxRecDepth 100000
set_option maxHeartbeats 2000000
/-! Ev11: built-ins called; methods; the store written. -/
namespace Pm
open PySem PySem.Spec PyProof.Rows L2
set_option autoImplicit false

/-! ### the store is written -/
section
variable {K : Kit} {ρ : Rho} {H : Hp} {st : Store} {n : Nat} {a : Addr} {o u : HO}
theorem ext_upd (s : Sim K ρ st H) (hn : ρ[K.h + n]? = some (some a)) (hu : H a = some u) (ho : Calm o) : Ext K.h ρ H ρ (upd H a o) where
  hid := fun m b hm e => ⟨e, fun v z => by
    have hb : b ≠ a := fun y => by
      have := s.inj (K.h + n) m a hn (by rw [y] at e; exact e)
      omega
    rw [upd_ne hb]; exact z⟩
  len := Nat.le_refl _
  old := fun _ _ => .inl rfl
  new := fun n a hn e => (by rw [List.getElem?_eq_none hn] at e; exact nomatch e)
  keep := fun b v e hb _ => by
    have : b ≠ a := fun z => hb (mem_rho.mpr ⟨K.h + n, by rw [z]; exact hn⟩)
    rw [upd_ne this]; exact e
  dom := fun b e => by
    by_cases h : b = a
    · subst h
      obtain ⟨ps, z⟩ := e _ upd_same
      exact (ho ps z).elim
    · exact fun o q => e o (by rw [upd_ne h]; exact q)
theorem tab_upd (t : LamX.Tabs K.T H) (hu : H a = some u) (hc : ∀ ps, u ≠ .tbl ps) (hx : ∀ φ, u ≠ .ext φ) : LamX.Tabs K.T (upd H a o) := fun p hp => by
  obtain ⟨ps, h1, h2, h3⟩ := t p hp
  have n1 : p.1 ≠ a := fun z => by rw [z, hu] at h1; exact hc ps (Option.some.inj h1)
  refine ⟨ps, by rw [upd_ne n1]; exact h1, h2, fun pos cv hcv => ?_⟩
  obtain ⟨c, e1, e2⟩ := h3 pos cv hcv
  have n2 : c ≠ a := fun z => by rw [z, hu] at e2; exact hx _ (Option.some.inj e2)
  exact ⟨c, e1, by rw [upd_ne n2]; exact e2⟩
theorem sim_upd (s : Sim K ρ st H) (hn : ρ[K.h + n]? = some (some a)) (hu : H a = some u) (hm0 : mutO u = true) (hc : ∀ ps, u ≠ .tbl ps) (hx : ∀ φ, u ≠ .ext φ) (ho : Calm o) {ob : Ob} (hob : RelOb K ρ (upd H a o) ob a) : Sim K ρ (st.set n ob) (upd H a o) where
  len := by rw [List.length_set]; exact s.len
  inj := s.inj
  ob := fun m x e => by
    have x0 : Ext K.h ρ H ρ (upd H a o) := ext_upd s hn hu ho
    by_cases hm : n = m
    · subst hm
      have hl : n < st.length := by have := (List.getElem?_eq_some_iff.mp hn).1; rw [s.len] at this; omega
      rw [List.getElem?_set_self hl] at e
      cases e
      exact .inr ⟨a, hn, hob⟩
    · rw [List.getElem?_set_ne hm] at e
      rcases s.ob m x e with q | ⟨b, e1, r⟩
      · exact .inl q
      · refine .inr ⟨b, e1, ?_⟩
        have hb : b ≠ a := fun z => hm (by have := s.inj (K.h + n) (K.h + m) a hn (by rw [z] at e1; exact e1); omega)
        cases x with
        | lst ds =>
          obtain ⟨vs, h1, h2⟩ := r
          exact ⟨vs, by rw [upd_ne hb]; exact h1, RelDs.mono s x0 h2⟩
        | dct ds =>
          obtain ⟨vs, h1, h2⟩ := r
          exact ⟨vs, by rw [upd_ne hb]; exact h1, RelKs.mono s x0 h2⟩
        | dead => exact r
        | ins _ _ => exact r
  hd := fun m b hm e => by
    obtain ⟨v, h1, h2⟩ := s.hd m b hm e
    have hb : b ≠ a := fun z => by
      have := s.inj (K.h + n) m a hn (by rw [z] at e; exact e)
      omega
    exact ⟨v, by rw [upd_ne hb]; exact h1, h2⟩
  cd := fun q hq => by
    obtain ⟨h1, h2⟩ := s.cd q hq
    have hb : q.1 ≠ a := fun z => by
      obtain ⟨φ, h2⟩ := h2
      rw [z, hu, h2] at h1
      exact hx φ (Option.some.inj h1)
    exact ⟨by rw [upd_ne hb]; exact h1, h2⟩
  tab := tab_upd s.tab hu hc hx
theorem ref_lst (s : Sim K ρ st H) {v : V} (r : RelD K ρ H (.ref n) v) {xs : List D} (h : st[n]? = some (.lst xs)) : ∃ a vs, v = .ref a ∧ ρ[K.h + n]? = some (some a) ∧ H a = some (.lst vs) ∧ RelDs K ρ H xs vs := by
  cases r with
  | ref e =>
    rcases s.ob n _ h with ⟨q, _⟩ | ⟨b, e2, r2⟩
    · cases q
    · rw [e] at e2; cases e2
      obtain ⟨vs, h1, h2⟩ := r2
      exact ⟨_, vs, rfl, e, h1, h2⟩
  | dead e =>
    rcases s.ob n _ h with ⟨q, _⟩ | ⟨b, e2, r2⟩
    · cases q
    · rw [e] at e2; cases e2
theorem ref_dct (s : Sim K ρ st H) {v : V} (r : RelD K ρ H (.ref n) v) {xs : List (DKey × D)} (h : st[n]? = some (.dct xs)) : ∃ a vs, v = .ref a ∧ ρ[K.h + n]? = some (some a) ∧ H a = some (.dK vs) ∧ RelKs K ρ H xs vs := by
  cases r with
  | ref e =>
    rcases s.ob n _ h with ⟨q, _⟩ | ⟨b, e2, r2⟩
    · cases q
    · rw [e] at e2; cases e2
      obtain ⟨vs, h1, h2⟩ := r2
      exact ⟨_, vs, rfl, e, h1, h2⟩
  | dead e =>
    rcases s.ob n _ h with ⟨q, _⟩ | ⟨b, e2, r2⟩
    · cases q
    · rw [e] at e2; cases e2
/-- a list of the store gets new items -/
theorem set_lst (s : Sim K ρ st H) (hn : ρ[K.h + n]? = some (some a)) {vs ws : List V} {ys : List D} (hu : H a = some (.lst vs)) (r : RelDs K ρ H ys ws) : Sim K ρ (st.set n (.lst ys)) (upd H a (.lst ws)) :=
  sim_upd s hn hu rfl nofun nofun (by intro ps z; cases z) ⟨ws, upd_same, r.mono s (ext_upd s hn hu (by intro ps z; cases z))⟩
theorem set_dct (s : Sim K ρ st H) (hn : ρ[K.h + n]? = some (some a)) {vs ws : List (Key × V)} {ys : List (DKey × D)} (hu : H a = some (.dK vs)) (r : RelKs K ρ H ys ws) : Sim K ρ (st.set n (.dct ys)) (upd H a (.dK ws)) :=
  sim_upd s hn hu rfl nofun nofun (by intro ps z; cases z) ⟨ws, upd_same, r.mono s (ext_upd s hn hu (by intro ps z; cases z))⟩
end

/-! ### built-ins called -/
section
variable {X : Cx} {κ : Kx} {B : L2.St → XW} {e : Expr} {es : List Expr} {fr : Bool} {ms : Loc → Store → Res (List D)} {pos p : Pos} {P : Par}
theorem se_bi (b : Bi) (hok : b ≠ .sorted ∧ b ≠ .repr ∧ b ≠ .dict ∧ b ≠ .min) (hh : biHot b = true → X.calm = true) (hg : Gl X (biN b)) (hm : X.mg (biN b) = none) (ns : (e :: es).all notStar = true) (ha : PA X (e :: es) (eA X κ B ms)) :
    PE X (.Call (.Name (biN b) p) (e :: es) [] pos) (eE X κ B fr fun l st => (ms l st).bind fun ds st => .ofOpt (biD P st b ds) st) := by
  have ns' : notStar e = true ∧ es.all notStar = true := by simpa using ns
  have hn : biN b ≠ "__name__" := by cases b <;> decide
  have hdb : (biN b == ("__debug__" : Str)) = false := by cases b <;> decide
  have hrule : PE X (.Call (.Name (biN b) p) (e :: es) [] pos) (tCB (rBi X.K b) (eA X κ B ms)) := by
    have hc := call_bi (X := X) b hh
    have hv := bi_boot b
    cases hb : biU b with
    | builtin id => rw [hb] at hc hv; exact pe_callB hc hg hm hv ha hn hdb (star_cons ns'.1 _ _) (back_plain _ _ ns'.2)
    | type T => rw [hb] at hc hv; exact pe_callTy hc hg hm hv ha hn hdb (star_cons ns'.1 _ _) (back_plain _ _ ns'.2)
    | _ => cases b <;> cases hb
  refine PE.imp hrule fun σ H Q ⟨ρ, l, st, at0, q⟩ => ⟨ρ, l, st, at0, ?_⟩
  have hq : EndG (Cx.kit X κ) (B σ) (RE (Cx.kit X κ) fr) ρ H ((ms l st).bind fun ds st => .ofOpt (biD P st b ds) st) Q := q
  cases hms : ms l st with
  | bad => rw [hms] at hq; exact hq
  | exc c fs st1 => rw [hms] at hq; exact hq
  | ok ds st1 =>
    rw [hms] at hq
    intro ρ1 vs H1 x1 s1 r1
    have q1 := EndG.mono RE.back (show EndG (Cx.kit X κ) (B σ) (RE (Cx.kit X κ) fr) ρ H (Res.ofOpt (biD P st1 b ds) st1) Q from hq) x1
    obtain ⟨d, e1, k⟩ := EndG.opt q1
    exact bi_rel s1 r1 e1 hok k
end
end Pm

set_option Elab.async false
set_option linter.all false
set_option maxRecDepth 100000
set_option maxHeartbeats 2000000
/-! Ev12: methods of built-in types. -/
namespace Pm
open PySem PySem.Spec PyProof.Rows L2 PySem.StrLaws
set_option autoImplicit false

/-! ### texts -/
theorem joinL_eq (sep : List Nat) : ∀ xs : List (List Nat), TL.joinL sep xs = joinT sep xs
  | [] => rfl
  | [_] => rfl
  | x :: y :: r => by
    show x ++ (sep ++ TL.joinL sep (y :: r)) = x ++ sep ++ joinT sep (y :: r)
    rw [joinL_eq sep (y :: r), List.append_assoc]
theorem join_eqS (sep : List Nat) (xs : List (List Nat)) : Txt.join (strS sep) (xs.map strS) = strS (joinT sep xs) := by
  rw [← joinL_eq]; exact SX.join_S sep xs
theorem splitC_ne (c : Nat) : ∀ l : List Nat, splitC c l ≠ []
  | [] => by simp [splitC]
  | a :: r => by
    unfold splitC
    split
    · simp
    · split <;> simp
theorem spl_one (c : Nat) : ∀ (l acc : List Nat), TL.spl [c] 0 acc l = match splitC c l with
    | [] => []
    | p :: ps => (acc ++ p) :: ps
  | [], acc => by simp [TL.spl, splitC]
  | a :: r, acc => by
    have hp : TL.pre [c] (a :: r) = (c == a) := by simp [TL.pre]; exact Bool.beq_comm ..
    unfold TL.spl
    rw [hp]
    by_cases h : a = c
    · subst h
      simp only [beq_self_eq_true, if_true, splitC, List.append_nil]
      rw [show [a].length - 1 = 0 from rfl, spl_one a r []]
      have := splitC_ne a r
      cases hs : splitC a r with
      | nil => exact (this hs).elim
      | cons p ps => simp
    · have h2 : (c == a) = false := beq_eq_false_iff_ne.mpr fun e => h e.symm
      simp only [h2, splitC, if_neg h]
      rw [if_neg (by decide), spl_one c r (acc ++ [a])]
      have := splitC_ne c r
      cases hs : splitC c r with
      | nil => exact (this hs).elim
      | cons p ps => simp
theorem split_eqS (c : Nat) (hc : c < 256) (x : List Nat) : Txt.split (strS x) (strS [c]) = (splitC c x).map strS := by
  have h := SX.split_S (a := x) (b := [c]) (by simp) (by simp [hc])
  have e : TL.spl [c] 0 [] x = splitC c x := by
    rw [spl_one]
    cases hs : splitC c x with
    | nil => exact (splitC_ne c x hs).elim
    | cons p ps => simp
  rw [e] at h
  exact h
theorem replC_eq (c : Nat) (z : List Nat) : ∀ l : List Nat, replL [c] z l = replC c z l
  | [] => by rw [replL_nil]; rfl
  | a :: r => by
    by_cases h : a = c
    · subst h
      rw [replL_hit (by simp) (by simp), show replC a z (a :: r) = z ++ replC a z r by simp [replC]]
      rw [← replC_eq a z r]; simp
    · rw [replL_miss (by simpa using h), show replC c z (a :: r) = a :: replC c z r by simp [replC, h]]
      rw [replC_eq c z r]
theorem replace_eqS (c : Nat) (z x : List Nat) : Txt.replace (strS x) (strS [c]) (strS z) = strS (replC c z x) := by
  have h := replace_list (x := strS x) (y := strS [c]) (z := strS z) (by show 1 ≤ (strS [c]).length; rw [strS_length]; simp)
  have h2 : (Txt.replace (strS x) (strS [c]) (strS z)).cps.toList = replC c z x := by
    rw [h]; exact replC_eq c z x
  apply TL.ext_tl
  exact h2

/-! ### list.count of a bool; dict.get -/
def eb (k : Bool) : Value → Bool
  | .bool b => b == k
  | _ => false
def rCntB (K : PySem.W.Frag) : V → List V → Hp → VK → Prop := fun x xs H Q => ∃ (p : Addr) (bs : List Bool) (k : Bool), x = .ref p ∧ xs = [.bl k] ∧ SqL K H p (bs.map V.bl) ∧ Q (.int (bs.count k : Nat)) H
theorem bools_of_vals : ∀ {bs : List Bool} {us : List Value}, Vals (bs.map V.bl) us → us = bs.map Value.bool
  | [], _, .nil => rfl
  | _ :: _, _, .cons r t => by
    rw [bools_of_vals t]
    have : _ = Value.bool _ := r
    rw [this]; rfl
theorem mt_bcount {X : Cx} : MtR X "list.count" (rCntB X.K) := by
  intro pins s σ H x xs v us Q I rx rxs h
  obtain ⟨p, bs, k, rfl, rfl, hs, q⟩ := h
  cases rx
  obtain ⟨u, rfl, ru⟩ := rxs.one
  obtain rfl : u = Value.bool k := ru
  obtain ⟨itl, rv, ⟨⟨cls, dd, data, sl⟩, n, hob, hc, hdnn, hd⟩, hlen⟩ := I.list hs
  simp only at hc hd
  subst hc hd
  have hi := bools_of_vals rv
  subst hi
  refine call_meets PySem.F.slot_list_count ⟨_, hob, rfl⟩ PySem.F.entry_list_count (PySem.F.args_list_count_2 _ _)
    (SeqAt.list_countAt p (bs.map Value.bool).toArray n dd sl (.bool k) (eb k)) ⟨hob, fun y hy => ?_, ?_⟩
  · have hy' : y ∈ bs.map Value.bool := by simpa using hy
    obtain ⟨b, _, rfl⟩ := List.mem_map.mp hy'
    exact eqAt_V (y := .bl b) (x := .bl k) rfl rfl rfl rfl
  · have ec : (bs.map Value.bool).toArray.toList.countP (eb k) = bs.count k := by
      rw [List.toList_toArray, List.countP_map]
      rfl
    refine ⟨.int (bs.count k : Nat), H, I.tok _, ⟨s.toks, ?_⟩, q⟩
    show Value.int (((bs.map Value.bool).toArray.toList.countP (eb k) : Nat) : Int) s.toks = Value.int ((bs.count k : Nat) : Int) s.toks
    rw [ec]
def rDGet : V → List V → Hp → VK → Prop := fun x xs H Q => ∃ a y d o, x = .ref a ∧ xs = [y, d] ∧ DGet H a y o ∧ Q (o.getD d) H
theorem mt_dget {X : Cx} (hu : X.A.units + 1 < cLine) : MtR X "dict.get" rDGet := by
  intro pins s σ H x xs v us Q I rx rxs h
  obtain ⟨a, y, d, o, rfl, rfl, g, q⟩ := h
  obtain rfl : v = Value.ref a := rx
  cases rxs with
  | cons r1 r2 =>
    cases r2 with
    | cons r2 r3 =>
      cases r3
      exact d_get2 hu I g r1 r2 fun w' s' I' r' => ⟨o.getD d, H, I', r', q⟩

/-! ### all of them -/
def rMt (K : PySem.W.Frag) : Mt → V → List V → Hp → VK → Prop
  | .append => rAppend
  | .extend => rExtend
  | .join => fun x xs H Q => ∃ a p, ∃ ys : List Str, x = .str a ∧ xs = [.ref p] ∧ (SqL K H p (ys.map V.str) ∨ SqT K H p (ys.map V.str)) ∧ (ys.map (·.length)).sum + ys.length * a.length ≤ 16777216 ∧ Q (.str (Txt.join a ys)) H
  | .split => fun x xs H Q => ∃ a b, x = .str a ∧ xs = [.str b] ∧ (b.length == 0) = false ∧ a.length + 2 ≤ sizeLine ∧ rNewStrs (Txt.split a b) H Q
  | .upper => fun x xs H Q => ∃ a, x = .str a ∧ xs = [] ∧ a.length ≤ 5592405 ∧ Q (.str (Txt.upper a)) H
  | .index => rIndex K
  | .count => rCntB K
  | .get => rDGet
  | _ => fun _ _ _ _ => False
def mtI : Mt → String
  | .append => "list.append" | .extend => "list.extend" | .join => "str.join" | .split => "str.split" | .upper => "str.upper" | .index => "list.index" | .count => "list.count" | .get => "dict.get"
  | _ => ""
def mtN : Mt → Str
  | .append => "append" | .extend => "extend" | .join => "join" | .split => "split" | .upper => "upper" | .index => "index" | .count => "count" | .get => "get"
  | .replace => "replace" | .replace1 => "replace" | .items => "items" | .pop0 => "pop"
def mkT : Mk → String
  | .str => "str" | .list => "list" | .dict => "dict"
def mtHas : Mt → Bool
  | .replace => false | .replace1 => false | .items => false | .pop0 => false
  | _ => true
theorem mt_all {X : Cx} (hu : X.A.units + 64 < cLine) : ∀ m : Mt, mtHas m = true → MtR X (mtI m) (rMt X.K m)
  | .append, _ => mt_append
  | .extend, _ => mt_extend
  | .join, _ => mt_join
  | .split, _ => mt_split
  | .upper, _ => mt_upper
  | .index, _ => mt_index
  | .count, _ => mt_bcount
  | .get, _ => mt_dget (by omega)
theorem mk_attrs : ∀ k : Mk, PlainAttrs (mkT k)
  | .str => PySem.F.plainAttrs_str
  | .list => PySem.F.plainAttrs_list
  | .dict => PySem.F.plainAttrs_dict
theorem mt_slot : ∀ m : Mt, mtHas m = true → Slot (mkT (mtK m)) (mtN m) (mtI m)
  | .append, _ => PySem.F.slot_list_append
  | .extend, _ => PySem.F.slot_list_extend
  | .join, _ => PySem.F.slot_str_join
  | .split, _ => PySem.F.slot_str_split
  | .upper, _ => PySem.F.slot_str_upper
  | .index, _ => PySem.F.slot_list_index
  | .count, _ => PySem.F.slot_list_count
  | .get, _ => PySem.F.slot_dict_get
theorem mt_type : ∀ m : Mt, mtHas m = true → typeOf (.builtin (mtI m)) = pure (.type "method_descriptor")
  | .append, _ => PySem.F.type_list_append
  | .extend, _ => PySem.F.type_list_extend
  | .join, _ => PySem.F.type_str_join
  | .split, _ => PySem.F.type_str_split
  | .upper, _ => PySem.F.type_str_upper
  | .index, _ => PySem.F.type_list_index
  | .count, _ => PySem.F.type_list_count
  | .get, _ => PySem.F.type_dict_get

section
variable {K : Kit} {ρ : Rho} {H : Hp} {st st' : Store} {x d : D} {v : V} {ds : List D} {vs : List V} {Q : VK} {fr : Bool} {P : Par}
theorem mtOk_rel (s : Sim K ρ st H) (r : RelD K ρ H x v) {m : Mt} (h : mtOk m st x = true) : tyV K.K (mkT (mtK m)) v H := by
  unfold mtOk at h
  cases hm : mtK m with
  | str =>
    rw [hm] at h
    dsimp only at h
    split at h
    · cases r; rfl
    · cases h
  | list =>
    rw [hm] at h
    obtain ⟨xs, hx⟩ := Option.isSome_iff_exists.mp h
    obtain ⟨a, ws, rfl, h1, h2⟩ := listOf_rel s r hx
    exact .inl ⟨rfl, ws, SqL.of h1⟩
  | dict =>
    rw [hm] at h
    obtain ⟨xs, hx⟩ := Option.isSome_iff_exists.mp h
    obtain ⟨a, ws, rfl, h1, h2⟩ := dictOf_rel s r hx
    exact .inr (.inr (.inl ⟨rfl, .inl ⟨ws, h1⟩⟩))
/-- what must be handed on, the store written or not -/
def Out2 (K : Kit) (fr : Bool) (ρ : Rho) (H : Hp) (st : Store) (d : D) (Q : VK) : Prop :=
  ∀ ρ' v H', Ext K.h ρ H ρ' H' → Sim K ρ' st H' → RelD K ρ' H' d v → (fr = true → d.tmp = true → Fresh K ρ' st H H' d v) → Q v H'
theorem newstrs (xs : List (List Nat)) : RelDs K ρ H (xs.map .str) ((xs.map strS).map V.str) := by
  induction xs with
  | nil => exact .nil
  | cons x r ih => exact .cons (.str x) ih
theorem idx_bool {bs : List Bool} {b : Bool} (h : b ∈ bs) : (bs.map V.bl)[bs.idxOf b]? = some (.bl b) ∧ ∀ (m : Nat) (z : V), m < bs.idxOf b → (bs.map V.bl)[m]? = some z → eqV z (.bl b) = false := by
  refine ⟨?_, fun m z hm hz => ?_⟩
  · rw [List.getElem?_map]
    have hl : bs.idxOf b < bs.length := List.idxOf_lt_length_of_mem h
    rw [List.getElem?_eq_getElem hl, List.getElem_idxOf hl]; rfl
  · rw [List.getElem?_map] at hz
    obtain ⟨c, h1, h2⟩ := Option.map_eq_some_iff.mp hz
    subst h2
    obtain ⟨hl, e⟩ := List.getElem?_eq_some_iff.mp h1
    have := List.not_of_lt_findIdx (p := (· == b)) (xs := bs) (i := m) hm
    simp only [e] at this
    simpa [eqV] using this
theorem mt_rel (s : Sim K ρ st H) (r : RelD K ρ H x v) (rs : RelDs K ρ H ds vs) {m : Mt} (hm : mtHas m = true) (hfr : m = .get → fr = false) (h : mtD P m x ds st = some (d, st')) (k : Out2 K fr ρ H st' d Q) : rMt K.K m v vs H Q := by
  unfold mtD at h
  split at h
  · -- append
    split at h
    · rename_i n d1 _ xs hs
      split at h
      · rename_i hz
        cases h
        obtain ⟨a, ws, rfl, h1, h2, h3⟩ := ref_lst s r hs
        cases rs with
        | cons r1 r2 =>
          cases r2
          refine ⟨a, ws, _, rfl, rfl, h2, by rw [← h3.length, SL_eq]; exact hz, ?_⟩
          exact k ρ .non _ (ext_upd s h1 h2 (by intro ps z; cases z)) (set_lst s h1 h2 (h3.append (.cons r1 .nil))) .non fun _ t => nomatch t
      · cases h
    · cases h
  · -- extend
    split at h
    · rename_i n d1 _ _ xs ys hs hy
      split at h
      · rename_i hz
        cases h
        obtain ⟨a, ws, rfl, h1, h2, h3⟩ := ref_lst s r hs
        obtain ⟨b, us, rfl, h5, h6⟩ := lists_rel s rs hy
        refine ⟨a, b, ws, us, rfl, rfl, h2, h5, by rw [← h3.length, ← h6.length, SL_eq]; exact hz, ?_⟩
        exact k ρ .non _ (ext_upd s h1 h2 (by intro ps z; cases z)) (set_lst s h1 h2 (h3.append h6)) .non fun _ t => nomatch t
      · cases h
    · cases h
  · -- join
    rename_i sep d1
    obtain ⟨xs, h1, h2⟩ := Option.bind_eq_some_iff.mp h
    obtain ⟨ys, h3, h4⟩ := Option.bind_eq_some_iff.mp h1
    split at h2
    · rename_i hz
      cases h2
      cases r
      obtain ⟨a, ws, rfl, h5, h6⟩ := lists_rel s rs h3
      rw [strs_rel h6 h4] at h5
      refine ⟨_, a, xs.map strS, rfl, rfl, .inl (SqL.of h5), ?_, ?_⟩
      · rw [List.map_map, List.length_map, strS_length]
        have : (xs.map ((fun x => x.length) ∘ strS)) = xs.map List.length := List.map_congr_left fun x _ => strS_length x
        rw [this]; exact hz
      · rw [join_eqS]
        exact k ρ _ H (Ext.refl _ _) s (.str _) fun _ t => nomatch t
    · cases h2
  · -- split
    rename_i x' c
    split at h
    · rename_i hz
      cases h
      cases r
      cases rs with
      | cons r1 r2 =>
        cases r1; cases r2
        refine ⟨_, _, rfl, rfl, rfl, by rw [strS_length, SL_eq]; exact hz.1, fun p hp => ?_⟩
        rw [split_eqS c hz.2]
        exact k ρ _ _ (ext_new hp) (sim_new s hp) (new_lst s hp (newstrs _)) fun _ _ => Fresh.lst s hp (newstrs _)
    · cases h
  · cases hm
  · cases hm
  · -- upper
    rename_i x'
    split at h
    · rename_i hz
      cases h
      cases r
      cases rs
      refine ⟨_, rfl, rfl, by rw [strS_length]; omega, ?_⟩
      have e : Txt.upper (strS x') = strS (x'.map fun c => if 97 ≤ c ∧ c ≤ 122 then c - 32 else c) := SX.upper_S hz.2
      rw [e]
      exact k ρ _ H (Ext.refl _ _) s (.str _) fun _ t => nomatch t
    · cases h
  · -- index
    rename_i d1 b
    obtain ⟨xs, h1, h2⟩ := Option.bind_eq_some_iff.mp h
    obtain ⟨bs, h3, h4⟩ := Option.bind_eq_some_iff.mp h2
    split at h4
    · rename_i hin
      cases h4
      obtain ⟨a, ws, rfl, h5, h6⟩ := listOf_rel s r h1
      rw [bools_rel h6 h3] at h5
      cases rs with
      | cons r1 r2 =>
        cases r1; cases r2
        obtain ⟨g1, g2⟩ := idx_bool hin
        exact ⟨a, _, .bl b, _, .bl b, rfl, rfl, SqL.of h5, rfl, by simp [flatV], g1, by simp [eqV], g2, k ρ _ H (Ext.refl _ _) s (.int _) fun _ t => nomatch t⟩
    · cases h4
  · -- count
    rename_i d1 b
    obtain ⟨xs, h1, h2⟩ := Option.bind_eq_some_iff.mp h
    obtain ⟨bs, h3, h4⟩ := Option.map_eq_some_iff.mp h2
    cases h4
    obtain ⟨a, ws, rfl, h5, h6⟩ := listOf_rel s r h1
    rw [bools_rel h6 h3] at h5
    cases rs with
    | cons r1 r2 =>
      cases r1; cases r2
      exact ⟨a, bs, b, rfl, rfl, SqL.of h5, k ρ _ H (Ext.refl _ _) s (.int _) fun _ t => nomatch t⟩
  · -- get
    rename_i d1 kd e
    obtain ⟨kvs, h1, h2⟩ := Option.bind_eq_some_iff.mp h
    obtain ⟨kk, h3, h4⟩ := Option.map_eq_some_iff.mp h2
    cases h4
    cases rs with
    | cons r1 r2 =>
      cases r2 with
      | cons r2 r3 =>
        cases r3
        obtain ⟨a, o, rfl, g, ho⟩ := dget_rel s r r1 h1 h3
        refine ⟨a, _, _, o, rfl, rfl, g, ?_⟩
        rcases ho with ⟨e1, rfl⟩ | ⟨d2, v2, e1, rfl, r5⟩
        · rw [e1] at k
          exact k ρ _ H (Ext.refl _ _) s r2 fun hf => by rw [hfr rfl] at hf; cases hf
        · rw [e1] at k
          exact k ρ _ H (Ext.refl _ _) s r5 fun hf => by rw [hfr rfl] at hf; cases hf
  · cases hm
  · cases h
end
end Pm

set_option Elab.async false
set_option linter.all false
set_option maxRecDepth 100000
set_option maxHeartbeats 2000000
/-! Ev13: methods, calls, what is walked. -/
namespace Pm
open PySem PySem.Spec PyProof.Rows L2
set_option autoImplicit false

theorem EndG.pair {K : Kit} {B : XW} {fr : Bool} {ρ : Rho} {H : Hp} {o : Option (D × Store)} {Q : VK} (h : EndG K B (RE K fr) ρ H (Res.ofPair o) Q) : ∃ d st, o = some (d, st) ∧ Out2 K fr ρ H st d Q := by
  cases o with
  | none => exact h.elim
  | some p => exact ⟨p.1, p.2, rfl, fun ρ' v H' x s r f => h ρ' v H' x s ⟨r, f⟩⟩

section
variable {X : Cx} {κ : Kx} {B : L2.St → XW} {e o : Expr} {es : List Expr} {fo fr : Bool} {mo : Loc → Store → Res D} {ms : Loc → Store → Res (List D)} {pos p apos cpos : Pos} {P : Par}
theorem se_mt (hu : X.A.units + 64 < cLine) (m : Mt) (hm : mtHas m = true) (hfr : m = .get → fr = false) (hb : baseOk o = true) (hl : (apos.endLine == cpos.line) = true) (ns : (e :: es).all notStar = true) (hn : (e :: es).length < 30)
    (ho : PE X o (eE X κ B fo mo)) (ha : PA X (e :: es) (eA X κ B ms)) :
    PE X (.Call (.Attribute o (mtN m) apos) (e :: es) [] cpos) (eE X κ B fr fun l st => (mo l st).bind fun x st => ifB (mtOk m st x) ((ms l st).bind fun ds st => .ofPair (mtD P m x ds st)) .bad) := by
  have ns' : notStar e = true ∧ es.all notStar = true := by simpa using ns
  have hfew : ((backTo cpos (starEach (e :: es) X.env)).all (fun x => !x.1) && (backToKw cpos (keywordEach [] X.env)).all (fun x => x.1.isSome)
      && decide ((e :: es).length + ([] : List Keyword).length + (if ([] : List Keyword).isEmpty then 0 else 1) < 30)) = true := by
    rw [back_all cpos X.env ns]
    simp only [Bool.true_and, Bool.and_eq_true, decide_eq_true_eq]
    exact ⟨rfl, by simpa using hn⟩
  refine PE.imp (pe_bm (mk_attrs _) (mt_slot m hm) (mt_type m hm) (mt_all hu m hm) ho ha (base_eq hb _ _ _) hfew hl (star_cons ns'.1 _ _) (back_plain _ _ ns'.2)) fun σ H Q ⟨ρ, l, st, at0, q⟩ => ⟨ρ, l, st, at0, EndG.bind RE.back q fun x st1 ρ1 v H1 x1 s1 r1 q1 => ?_⟩
  cases hok : mtOk m st1 x with
  | false => rw [hok] at q1; exact q1.elim
  | true =>
    rw [hok] at q1
    refine ⟨mtOk_rel s1 r1.1 hok, ρ1, l, st1, at0.go x1 s1, EndG.bind RE.back q1 fun ds st2 ρ2 vs H2 x2 s2 r2 q2 => ?_⟩
    obtain ⟨d, st3, e1, k⟩ := EndG.pair q2
    exact mt_rel s2 (r1.1.mono s1 x2) r2 hm hfr e1 k
theorem se_mt0 (hu : X.A.units + 64 < cLine) (m : Mt) (hm : mtHas m = true) (hfr : m = .get → fr = false) (hb : baseOk o = true) (hl : (apos.endLine == cpos.line) = true)
    (ho : PE X o (eE X κ B fo mo)) :
    PE X (.Call (.Attribute o (mtN m) apos) [] [] cpos) (eE X κ B fr fun l st => (mo l st).bind fun x st => ifB (mtOk m st x) ((Res.ok [] st).bind fun ds st => .ofPair (mtD P m x ds st)) .bad) := by
  refine PE.imp (pe_bm0 (mk_attrs _) (mt_slot m hm) (mt_type m hm) (mt_all hu m hm) ho (base_eq hb _ _ _) hl) fun σ H Q ⟨ρ, l, st, at0, q⟩ => ⟨ρ, l, st, at0, EndG.bind RE.back q fun x st1 ρ1 v H1 x1 s1 r1 q1 => ?_⟩
  cases hok : mtOk m st1 x with
  | false => rw [hok] at q1; exact q1.elim
  | true =>
    rw [hok] at q1
    refine ⟨mtOk_rel s1 r1.1 hok, ?_⟩
    obtain ⟨d, st3, e1, k⟩ := EndG.pair q1
    exact mt_rel s1 r1.1 .nil hm hfr e1 k
end

/-! ### calls -/
abbrev BX (κ : Kx) (E : XK) : XW := fun c dx H => E (.ref (κ.cl c)) dx H
abbrev BXs (κ : Kx) (E : L2.St → XK) : L2.St → XW := fun σ => BX κ (E σ)
/-! ### what is walked -/
/-- the new list of a comprehension is hidden: no one but the comprehension writes it -/
abbrev Kit.up (K : Kit) : Kit := ⟨{ K.toKx with h := K.h + 1, en := [] }, K.K⟩
section
variable {K : Kit} {ρ : Rho} {H : Hp} {st : Store} {p : Addr} {o : HO}
theorem sqT_hide {a : Addr} {vs : List V} (hp : H p = none) (h : SqT K.K H a vs) : SqT K.K (upd H p o) a vs := by
  rcases h with (h | ⟨u, h⟩) | h
  · exact .inl (.inl (by rw [upd_ne (ne_of_none h hp)]; exact h))
  · exact .inl (.inr ⟨u, by rw [upd_ne (ne_of_none h hp)]; exact h⟩)
  · exact .inr h
theorem mem_up {a : Addr} {u : HO} (hp : H p = none) (h : H a = some u) (n : some a ∉ ρ) : some a ∉ some p :: ρ := by
  simp only [List.mem_cons, not_or]
  exact ⟨fun z => ne_of_none h hp (Option.some.inj z), n⟩
theorem at_up (n : Nat) : (some p :: ρ : Rho)[K.up.h + n]? = ρ[K.h + n]? := by
  show (some p :: ρ : Rho)[K.h + 1 + n]? = _
  rw [show K.h + 1 + n = (K.h + n) + 1 by omega, List.getElem?_cons_succ]
mutual
theorem RelD.hide (hp : H p = none) : ∀ {d : D} {v : V}, RelD K ρ H d v → RelD K.up (some p :: ρ) (upd H p o) d v
  | _, _, .non => .non
  | _, _, .bl b => .bl b
  | _, _, .int i => .int i
  | _, _, .str y => .str y
  | _, _, .tup h r => .tup (sqT_hide hp h) (RelDs.hide hp r)
  | _, _, .lst h n r => .lst (by rw [upd_ne (ne_of_none h hp)]; exact h) (mem_up hp h n) (RelDs.hide hp r)
  | _, _, .dct h n r => .dct (by rw [upd_ne (ne_of_none h hp)]; exact h) (mem_up hp h n) (RelKs.hide hp r)
  | _, _, .scr h => by
    rcases h with ⟨u, h⟩ | h
    · exact .scr (.inl ⟨u, by rw [upd_ne (ne_of_none h hp)]; exact h⟩)
    · exact .scr (.inr h)
  | _, _, .ref h => .ref ((at_up _).trans h)
  | _, _, .dead h => .dead ((at_up _).trans h)
theorem RelDs.hide (hp : H p = none) : ∀ {ds : List D} {vs : List V}, RelDs K ρ H ds vs → RelDs K.up (some p :: ρ) (upd H p o) ds vs
  | _, _, .nil => .nil
  | _, _, .cons h r => .cons (RelD.hide hp h) (RelDs.hide hp r)
theorem RelKs.hide (hp : H p = none) : ∀ {ds : List (DKey × D)} {vs : List (Key × V)}, RelKs K ρ H ds vs → RelKs K.up (some p :: ρ) (upd H p o) ds vs
  | _, _, .nil => .nil
  | _, _, .cons h r => .cons (RelD.hide hp h) (RelKs.hide hp r)
end
mutual
theorem RelD.show : ∀ {d : D} {v : V}, RelD K.up (some p :: ρ) H d v → RelD K ρ H d v
  | _, _, .non => .non
  | _, _, .bl b => .bl b
  | _, _, .int i => .int i
  | _, _, .str y => .str y
  | _, _, .tup h r => .tup h (RelDs.show r)
  | _, _, .lst h n r => .lst h (fun m => n (List.mem_cons_of_mem _ m)) (RelDs.show r)
  | _, _, .dct h n r => .dct h (fun m => n (List.mem_cons_of_mem _ m)) (RelKs.show r)
  | _, _, .scr h => .scr h
  | _, _, .ref h => .ref ((at_up (K := K) (p := p) _).symm.trans h)
  | _, _, .dead h => .dead ((at_up (K := K) (p := p) _).symm.trans h)
theorem RelDs.show : ∀ {ds : List D} {vs : List V}, RelDs K.up (some p :: ρ) H ds vs → RelDs K ρ H ds vs
  | _, _, .nil => .nil
  | _, _, .cons h r => .cons (RelD.show h) (RelDs.show r)
theorem RelKs.show : ∀ {ds : List (DKey × D)} {vs : List (Key × V)}, RelKs K.up (some p :: ρ) H ds vs → RelKs K ρ H ds vs
  | _, _, .nil => .nil
  | _, _, .cons h r => .cons (RelD.show h) (RelKs.show r)
end
theorem RelOb.hide (hp : H p = none) {ob : Ob} {a : Addr} (r : RelOb K ρ H ob a) : RelOb K.up (some p :: ρ) (upd H p o) ob a := by
  cases ob with
  | lst ds => obtain ⟨vs, h1, h2⟩ := r; exact ⟨vs, by rw [upd_ne (ne_of_none h1 hp)]; exact h1, h2.hide hp⟩
  | dct ds => obtain ⟨vs, h1, h2⟩ := r; exact ⟨vs, by rw [upd_ne (ne_of_none h1 hp)]; exact h1, h2.hide hp⟩
  | dead => exact r
  | ins _ _ => exact r
theorem RelOb.show {ob : Ob} {a : Addr} (r : RelOb K.up (some p :: ρ) H ob a) : RelOb K ρ H ob a := by
  cases ob with
  | lst ds => obtain ⟨vs, h1, h2⟩ := r; exact ⟨vs, h1, h2.show⟩
  | dct ds => obtain ⟨vs, h1, h2⟩ := r; exact ⟨vs, h1, h2.show⟩
  | dead => exact r
  | ins _ _ => exact r
theorem sim_hide (s : Sim K ρ st H) (hp : H p = none) (ho : mutO o = true) : Sim K.up (some p :: ρ) st (upd H p o) where
  len := by show ρ.length + 1 = K.h + 1 + st.length; rw [s.len]; omega
  inj := fun n m a h1 h2 => by
    cases n with
    | zero =>
      cases m with
      | zero => rfl
      | succ m =>
        simp only [List.getElem?_cons_zero, List.getElem?_cons_succ] at h1 h2
        cases h1
        exact (new_free s hp (mem_rho.mpr ⟨m, h2⟩)).elim
    | succ n =>
      cases m with
      | zero =>
        simp only [List.getElem?_cons_zero, List.getElem?_cons_succ] at h1 h2
        cases h2
        exact (new_free s hp (mem_rho.mpr ⟨n, h1⟩)).elim
      | succ m =>
        simp only [List.getElem?_cons_succ] at h1 h2
        rw [s.inj n m a h1 h2]
  ob := fun n u e => by
    rcases s.ob n u e with ⟨q, e1⟩ | ⟨a, e1, r⟩
    · exact .inl ⟨q, (at_up n).trans e1⟩
    · exact .inr ⟨a, (at_up n).trans e1, r.hide hp⟩
  hd := fun n a hn e => by
    cases n with
    | zero =>
      simp only [List.getElem?_cons_zero] at e
      cases e
      exact ⟨o, upd_same, ho⟩
    | succ n =>
      simp only [List.getElem?_cons_succ] at e
      obtain ⟨u, h1, h2⟩ := s.hd n a (by have : n + 1 < K.h + 1 := hn; omega) e
      exact ⟨u, by rw [upd_ne (ne_of_none h1 hp)]; exact h1, h2⟩
  cd := fun q hq => let ⟨h1, h2⟩ := s.cd q hq; ⟨by rw [upd_ne (ne_of_none h1 hp)]; exact h1, h2⟩
  tab := s.tab.ext fun b u e => by rw [upd_ne (ne_of_none e hp)]; exact e
theorem sim_show (s : Sim K.up (some p :: ρ) st H) : Sim K ρ st H where
  len := by have : ρ.length + 1 = K.h + 1 + st.length := s.len; omega
  inj := fun n m a h1 h2 => by
    have := s.inj (n + 1) (m + 1) a (by simpa using h1) (by simpa using h2)
    omega
  ob := fun n u e => by
    rcases s.ob n u e with ⟨q, e1⟩ | ⟨a, e1, r⟩
    · exact .inl ⟨q, (at_up (K := K) (p := p) n).symm.trans e1⟩
    · exact .inr ⟨a, (at_up (K := K) (p := p) n).symm.trans e1, r.show⟩
  hd := fun n a hn e => s.hd (n + 1) a (by show n + 1 < K.h + 1; omega) (by simpa using e)
  cd := s.cd
  tab := s.tab
/-- later, perhaps with one thing more hidden -/
structure Later (K : Kit) (ρ : Rho) (H : Hp) (κ' : Kx) (ρ' : Rho) (H' : Hp) : Prop where
  rel : ∀ d v, RelD K ρ H d v → RelD ⟨κ', K.K⟩ ρ' H' d v
  keep : ∀ a o, H a = some o → some a ∉ ρ → Calm o → H' a = some o ∧ some a ∉ ρ'
theorem Later.rels {κ' : Kx} {ρ' : Rho} {H' : Hp} (y : Later K ρ H κ' ρ' H') : ∀ {ds : List D} {vs : List V}, RelDs K ρ H ds vs → RelDs ⟨κ', K.K⟩ ρ' H' ds vs
  | _, _, .nil => .nil
  | _, _, .cons h r => .cons (y.rel _ _ h) (y.rels r)
theorem Later.sqT {κ' : Kx} {ρ' : Rho} {H' : Hp} (s : Sim K ρ st H) (y : Later K ρ H κ' ρ' H') {a : Addr} {vs : List V} (h : SqT K.K H a vs) : SqT K.K H' a vs := by
  rcases h with (h | ⟨o, h⟩) | h
  · exact .inl (.inl (y.keep _ _ h (s.nolive h rfl) nofun).1)
  · exact .inl (.inr ⟨o, (y.keep _ _ h (s.nolive h rfl) nofun).1⟩)
  · exact .inr h
theorem Later.of_ext {ρ' : Rho} {H' : Hp} (s : Sim K ρ st H) (x : Ext K.h ρ H ρ' H') : Later K ρ H K.toKx ρ' H' where
  rel := fun d v r => r.mono s x
  keep := fun a o h n c => ⟨x.keep a o h n c, x.stay h c n⟩
mutual
theorem RelD.go {ρ' : Rho} {H' : Hp} (s : Sim K ρ st H) (x : Ext K.h ρ H ρ' H') (hp : H p = none) : ∀ {d : D} {v : V}, RelD K ρ H d v → RelD K.up (some p :: ρ') H' d v
  | _, _, .non => .non
  | _, _, .bl b => .bl b
  | _, _, .int i => .int i
  | _, _, .str y => .str y
  | _, _, .tup h r => .tup (sqT_mono s x h) (RelDs.go s x hp r)
  | _, _, .lst h n r => .lst (x.keep _ _ h n nofun) (mem_up hp h (x.stay h nofun n)) (RelDs.go s x hp r)
  | _, _, .dct h n r => .dct (x.keep _ _ h n nofun) (mem_up hp h (x.stay h nofun n)) (RelKs.go s x hp r)
  | _, _, .scr h => by
    rcases h with ⟨u, h⟩ | h
    · exact .scr (.inl ⟨u, x.keep _ _ h (s.nolive h rfl) nofun⟩)
    · exact .scr (.inr h)
  | _, _, @RelD.ref _ _ _ n a h => by
    rcases x.old (K.h + n) (List.getElem?_eq_some_iff.mp h).1 with q | q
    · exact .ref ((at_up _).trans (q.trans h))
    · exact .dead ((at_up _).trans q)
  | _, _, @RelD.dead _ _ _ n v h => by
    rcases x.old (K.h + n) (List.getElem?_eq_some_iff.mp h).1 with q | q
    · exact .dead ((at_up _).trans (q.trans h))
    · exact .dead ((at_up _).trans q)
theorem RelDs.go {ρ' : Rho} {H' : Hp} (s : Sim K ρ st H) (x : Ext K.h ρ H ρ' H') (hp : H p = none) : ∀ {ds : List D} {vs : List V}, RelDs K ρ H ds vs → RelDs K.up (some p :: ρ') H' ds vs
  | _, _, .nil => .nil
  | _, _, .cons h r => .cons (RelD.go s x hp h) (RelDs.go s x hp r)
theorem RelKs.go {ρ' : Rho} {H' : Hp} (s : Sim K ρ st H) (x : Ext K.h ρ H ρ' H') (hp : H p = none) : ∀ {ds : List (DKey × D)} {vs : List (Key × V)}, RelKs K ρ H ds vs → RelKs K.up (some p :: ρ') H' ds vs
  | _, _, .nil => .nil
  | _, _, .cons h r => .cons (RelD.go s x hp h) (RelKs.go s x hp r)
end
theorem Later.of_go {ρ' : Rho} {H' : Hp} (s : Sim K ρ st H) (x : Ext K.h ρ H ρ' H') (hp : H p = none) : Later K ρ H K.up.toKx (some p :: ρ') H' where
  rel := fun d v r => r.go s x hp
  keep := fun a o h n c => ⟨x.keep a o h n c, mem_up hp h (x.stay h c n)⟩
/-- from within a block to the outside -/
theorem ext_out {ρ1 : Rho} {H1 : Hp} (x : Ext K.up.h (some p :: ρ) H (some p :: ρ1) H1) : Ext K.h ρ H ρ1 H1 where
  len := by have := x.len; simpa using this
  old := fun n hn => by have := x.old (n + 1) (by simpa using hn); simpa using this
  new := fun n a hn e => x.new (n + 1) a (by simpa using hn) (by simpa using e)
  keep := fun a u e hn hc => by
    by_cases h : a = p
    · subst h
      exact (x.hid 0 a (by show 0 < K.h + 1; omega) rfl).2 u e
    · exact x.keep a u e (by simp only [List.mem_cons, not_or]; exact ⟨fun z => h (Option.some.inj z), hn⟩) hc
  dom := x.dom
  hid := fun n a hn e => by
    have := x.hid (n + 1) a (by show n + 1 < K.h + 1; omega) (by simpa using e)
    simpa using this
theorem up_cons {ρ1 : Rho} {H1 : Hp} (x : Ext K.up.h (some p :: ρ) H ρ1 H1) : ∃ ρ2, ρ1 = some p :: ρ2 := by
  have h := (x.hid 0 p (by show 0 < K.h + 1; omega) rfl).1
  cases ρ1 with
  | nil => cases h
  | cons a r => simp only [List.getElem?_cons_zero] at h; cases h; exact ⟨r, rfl⟩
/-- the hidden list gets a new content -/
theorem RelDs.hidw {n : Nat} (s : Sim K ρ st H) (hp : ρ[n]? = some (some p)) {u : HO} (hu : H p = some u) (hm : mutO u = true) (ho : Calm o) : (∀ {ds : List D} {vs : List V}, RelDs K ρ H ds vs → RelDs K ρ (upd H p o) ds vs) ∧ (∀ {ds : List (DKey × D)} {vs : List (Key × V)}, RelKs K ρ H ds vs → RelKs K ρ (upd H p o) ds vs) := by
  have x0 : Ext 0 ρ H ρ (upd H p o) := {
    len := Nat.le_refl _
    old := fun _ _ => .inl rfl
    new := fun n a hn e => (by rw [List.getElem?_eq_none hn] at e; exact nomatch e)
    keep := fun b v e hb _ => by
      have : b ≠ p := fun z => hb (mem_rho.mpr ⟨n, by rw [z]; exact hp⟩)
      rw [upd_ne this]; exact e
    dom := fun b e => by
      by_cases h : b = p
      · subst h
        obtain ⟨ps, z⟩ := e _ upd_same
        exact (ho ps z).elim
      · exact fun o q => e o (by rw [upd_ne h]; exact q)
    hid := fun n a hn => absurd hn (Nat.not_lt_zero _) }
  exact ⟨fun r => RelDs.monoN (fun h m => s.nolive h m) x0 r, fun r => RelKs.monoN (fun h m => s.nolive h m) x0 r⟩
/-- what is hidden is written -/
theorem sim_hid {n : Nat} {u : HO} (s : Sim K ρ st H) (hn : n < K.h) (hp : ρ[n]? = some (some p)) (hu : H p = some u) (hm : mutO u = true) (hc : ∀ ps, u ≠ .tbl ps) (ho : mutO o = true) : Sim K ρ st (upd H p o) where
  len := s.len
  inj := s.inj
  ob := fun m x e => by
    have x0 := RelDs.hidw (o := o) s hp hu hm (fun ps z => by rw [z] at ho; cases ho)
    rcases s.ob m x e with q | ⟨b, e1, r⟩
    · exact .inl q
    · have hb : b ≠ p := fun z => by
        have := s.inj (K.h + m) n p (by rw [z] at e1; exact e1) hp
        omega
      refine .inr ⟨b, e1, ?_⟩
      cases x with
      | lst ds => obtain ⟨vs, h1, h2⟩ := r; exact ⟨vs, by rw [upd_ne hb]; exact h1, x0.1 h2⟩
      | dct ds => obtain ⟨vs, h1, h2⟩ := r; exact ⟨vs, by rw [upd_ne hb]; exact h1, x0.2 h2⟩
      | dead => exact r
      | ins _ _ => exact r
  hd := fun m b hm' e => by
    by_cases hb : b = p
    · subst hb; exact ⟨o, upd_same, ho⟩
    · obtain ⟨v, h1, h2⟩ := s.hd m b hm' e
      exact ⟨v, by rw [upd_ne hb]; exact h1, h2⟩
  cd := fun q hq => by
    obtain ⟨h1, h2⟩ := s.cd q hq
    have hb : q.1 ≠ p := fun z => by
      obtain ⟨φ, h2⟩ := h2
      rw [z, hu, h2] at h1
      cases h1
      cases hm
    exact ⟨by rw [upd_ne hb]; exact h1, h2⟩
  tab := fun q hq => by
    obtain ⟨ps, h1, h2, h3⟩ := s.tab q hq
    have n1 : q.1 ≠ p := fun z => by rw [z, hu] at h1; exact hc ps (Option.some.inj h1)
    refine ⟨ps, by rw [upd_ne n1]; exact h1, h2, fun pos cv hcv => ?_⟩
    obtain ⟨c, e1, e2⟩ := h3 pos cv hcv
    have n2 : c ≠ p := fun z => by
      rw [z, hu] at e2
      have := Option.some.inj e2
      subst this
      unfold LamX.CodeO at hm
      cases hm
    exact ⟨c, e1, by rw [upd_ne n2]; exact e2⟩
end
/-- an iterator feeds these items -/
def Feeds (K : Kit) (ρ : Rho) (H : Hp) (J : L2.It) (xs : List D) : Prop := ∀ κ' ρ' st H', Later K ρ H κ' ρ' H' → Sim ⟨κ', K.K⟩ ρ' st H' → ∀ i : Nat,
  (∀ d, xs[i]? = some d → J.go i H' ∧ ∀ v H'', J.yld i H' v H'' → Ext κ'.h ρ' H' ρ' H'' ∧ Sim ⟨κ', K.K⟩ ρ' st H'' ∧ RelD ⟨κ', K.K⟩ ρ' H'' d v) ∧ (xs[i]? = none → J.stop i H')
def RI (K : Kit) : Rho → Store → Hp → Hp → List D → L2.It → Prop := fun ρ' _ _ H' xs J => Feeds K ρ' H' J xs
theorem RI.back {K : Kit} : Back (RI K) := fun _ _ _ _ _ _ _ _ h => h
def tI (K : Kit) (B : L2.St → XW) (m : Loc → Store → Res (List D)) : TI := fun σ H R => ∃ ρ l st, At K ρ H l σ st ∧ EndG K (B σ) (RI K) ρ H (m l st) R
section
variable {K : Kit} {ρ : Rho} {H : Hp} {st : Store}
theorem feeds_list {a : Addr} {xs : List D} {vs : List V} (s : Sim K ρ st H) (h : H a = some (.lst vs)) (n : some a ∉ ρ) (r : RelDs K ρ H xs vs) : Feeds K ρ H (Itl K.K a) xs := fun κ' ρ' st' H' x s' i => by
  have h' : H' a = some (.lst vs) := (x.keep _ _ h n nofun).1
  have r' := x.rels r
  refine ⟨fun d hd => ?_, fun hn => ?_⟩
  · obtain ⟨v, h1, h2⟩ := r'.get hd
    refine ⟨⟨vs, v, SqL.of h', h1⟩, fun w H'' hy => ?_⟩
    obtain ⟨rfl, hy⟩ := hy
    have e := hy vs (SqL.of h')
    rw [h1] at e
    cases e
    exact ⟨Ext.refl _ _, s', h2⟩
  · exact ⟨vs, SqL.of h', by rw [← r.length]; exact List.getElem?_eq_none_iff.mp hn⟩
theorem feeds_tup {a : Addr} {xs : List D} {vs : List V} (s : Sim K ρ st H) (h : SqT K.K H a vs) (r : RelDs K ρ H xs vs) : Feeds K ρ H (Itt K.K a) xs := fun κ' ρ' st' H' x s' i => by
  have h' : SqT K.K H' a vs := x.sqT s h
  have r' := x.rels r
  refine ⟨fun d hd => ?_, fun hn => ?_⟩
  · obtain ⟨v, h1, h2⟩ := r'.get hd
    refine ⟨⟨vs, v, h', h1⟩, fun w H'' hy => ?_⟩
    obtain ⟨rfl, hy⟩ := hy
    have e := hy vs h'
    rw [h1] at e
    cases e
    exact ⟨Ext.refl _ _, s', h2⟩
  · exact ⟨vs, h', by rw [← r.length]; exact List.getElem?_eq_none_iff.mp hn⟩
theorem feeds_str (x : List Nat) : Feeds K ρ H (Its (strS x)) (x.map fun c => .str [c]) := fun κ' ρ' st' H' _ s' i => by
  refine ⟨fun d hd => ?_, fun hn => ?_⟩
  · rw [List.getElem?_map] at hd
    obtain ⟨c, h1, h2⟩ := Option.map_eq_some_iff.mp hd
    subst h2
    have hl : i < x.length := (List.getElem?_eq_some_iff.mp h1).1
    refine ⟨by show i < (strS x).cps.size; simpa [strS] using hl, fun w H'' hy => ?_⟩
    obtain ⟨rfl, c', h3, rfl⟩ := hy
    have h4 : (strS x).cps[i]? = x[i]? := by simp [strS]
    rw [h4, h1] at h3
    cases h3
    exact ⟨Ext.refl _ _, s', .str [c]⟩
  · have : x.length ≤ i := by simpa using List.getElem?_eq_none_iff.mp hn
    show (strS x).cps.size ≤ i
    simpa [strS] using this
theorem range_get (a b : Int) (i : Nat) : (rangeD a b)[i]? = if i < (b - a).toNat then some (.int (a + (i : Int))) else none := by
  unfold rangeD
  rw [List.getElem?_map]
  by_cases h : i < (b - a).toNat
  · rw [if_pos h, List.getElem?_range h]; rfl
  · rw [if_neg h, List.getElem?_eq_none (by simpa using h)]; rfl
theorem feeds_rng (a b : Int) : Feeds K ρ H (Itr a (b - a).toNat) (rangeD a b) := fun κ' ρ' st' H' _ s' i => by
  rw [range_get]
  by_cases h : i < (b - a).toNat
  · rw [if_pos h]
    refine ⟨fun d hd => ?_, fun hn => (nomatch hn)⟩
    cases hd
    exact ⟨h, fun v H'' hy => by obtain ⟨rfl, rfl⟩ := hy; exact ⟨Ext.refl _ _, s', .int _⟩⟩
  · rw [if_neg h]
    refine ⟨fun d hd => ?_, fun _ => Nat.le_of_not_lt h⟩
    cases hd
theorem feeds_zip {a b : Addr} {xs ys : List D} {vs ws : List V} (s : Sim K ρ st H) (h : H a = some (.lst vs)) (n : some a ∉ ρ) (r : RelDs K ρ H xs vs) (h2 : H b = some (.lst ws)) (n2 : some b ∉ ρ) (r2 : RelDs K ρ H ys ws) :
    Feeds K ρ H (Itz K.K a b) ((xs.zip ys).map fun p => .tup [p.1, p.2]) := fun κ' ρ' st' H' x s' i => by
  have h' : H' a = some (.lst vs) := (x.keep _ _ h n nofun).1
  have h2' : H' b = some (.lst ws) := (x.keep _ _ h2 n2 nofun).1
  have r' := x.rels r
  have r2' := x.rels r2
  refine ⟨fun d hd => ?_, fun hn => ?_⟩
  · rw [List.getElem?_map] at hd
    obtain ⟨p, e1, e2⟩ := Option.map_eq_some_iff.mp hd
    subst e2
    rw [List.getElem?_zip_eq_some] at e1
    obtain ⟨v, g1, g2⟩ := r'.get e1.1
    obtain ⟨w, g3, g4⟩ := r2'.get e1.2
    refine ⟨⟨vs, ws, v, w, SqL.of h', SqL.of h2', g1, g3⟩, fun u H'' hy => ?_⟩
    obtain ⟨q, v', w', rfl, hp, rfl, hy1, hy2⟩ := hy
    have e3 := hy1 vs (SqL.of h')
    have e4 := hy2 ws (SqL.of h2')
    rw [g1] at e3; rw [g3] at e4
    cases e3; cases e4
    exact ⟨ext_new hp, sim_new s' hp, new_tup s' hp (.cons g2 (.cons g4 .nil))⟩
  · rw [List.getElem?_map, Option.map_eq_none_iff, List.getElem?_eq_none_iff, List.length_zip] at hn
    exact ⟨vs, ws, SqL.of h', SqL.of h2', by rw [← r.length, ← r2.length]; omega⟩
theorem feeds_zipT {a b : Addr} {xs ys : List D} {vs ws : List V} (s : Sim K ρ st H) (h : SqT K.K H a vs) (r : RelDs K ρ H xs vs) (h2 : SqT K.K H b ws) (r2 : RelDs K ρ H ys ws) :
    Feeds K ρ H (RZ.ItzT K.K a b) ((xs.zip ys).map fun p => .tup [p.1, p.2]) := fun κ' ρ' st' H' x s' i => by
  have h' := x.sqT s h
  have h2' := x.sqT s h2
  have r' := x.rels r
  have r2' := x.rels r2
  refine ⟨fun d hd => ?_, fun hn => ?_⟩
  · rw [List.getElem?_map] at hd
    obtain ⟨p, e1, e2⟩ := Option.map_eq_some_iff.mp hd
    subst e2
    rw [List.getElem?_zip_eq_some] at e1
    obtain ⟨v, g1, g2⟩ := r'.get e1.1
    obtain ⟨w, g3, g4⟩ := r2'.get e1.2
    refine ⟨⟨vs, ws, v, w, h', h2', g1, g3⟩, fun u H'' hy => ?_⟩
    obtain ⟨q, v', w', rfl, hp, rfl, hy1, hy2⟩ := hy
    have e3 := hy1 vs h'
    have e4 := hy2 ws h2'
    rw [g1] at e3; rw [g3] at e4
    cases e3; cases e4
    exact ⟨ext_new hp, sim_new s' hp, new_tup s' hp (.cons g2 (.cons g4 .nil))⟩
  · rw [List.getElem?_map, Option.map_eq_none_iff, List.getElem?_eq_none_iff, List.length_zip] at hn
    exact ⟨vs, ws, h', h2', by rw [← r.length, ← r2.length]; omega⟩
end
end Pm

set_option Elab.async false
set_option linter.all false
set_option maxRecDepth 100000
set_option maxHeartbeats 2000000
/-! Ev14: what is walked (rules); targets; comprehensions. -/
namespace Pm
open PySem PySem.Spec PyProof.Rows L2
set_option autoImplicit false

/-! ### walked: a list, a tuple, a text -/
def iAny (K : PySem.W.Frag) (tl : TE) : TI := fun σ H R => tl σ H fun x Ha => (∃ a, x = .ref a ∧ (∃ xs, SqL K Ha a xs) ∧ R (Itl K a) Ha) ∨ (∃ a, x = .ref a ∧ (∃ xs, SqT K Ha a xs) ∧ R (Itt K a) Ha) ∨ (∃ y, x = .str y ∧ R (Its y) Ha)
theorem pi_any {X : Cx} {tg l : Expr} {tl : TE} (hl : PE X l tl) : PI X tg l (iAny X.K tl) := by
  refine ⟨fun pins s σ H R I h => ?_⟩
  refine thn (hl.run pins s σ H _ I h) fun v sa ⟨x, Ha, Ia, r1, q1⟩ => ?_
  rcases q1 with ⟨a, e, ⟨xs, hq⟩, q⟩ | ⟨a, e, ⟨xs, hq⟩, q⟩ | ⟨y, e, q⟩
  · subst e
    cases r1
    obtain ⟨itl, rv, p, hz⟩ := Ia.list hq
    refine wpAny_pyIter_list p.isList ?_
    refine ⟨sa.heap.objs.size, [sa.heap.objs.size], _, _, Ha, rfl, Ia.kept (t' := sa.toks) fun b o e => Heap.get?_push_of_some _ e, turn_list a _, ⟨_, Heap.get?_push_size _ rfl, rfl, rfl⟩, fun b hb => ?_, q⟩
    have e : b = sa.heap.objs.size := by simpa using hb
    subst e
    exact Ia.fpOk (Nat.le_refl _) (Ia.hok.fresh (Nat.le_refl _))
  · subst e
    cases r1
    obtain ⟨itl, rv, p, hz⟩ := Ia.tuple hq
    refine wpAny_pyIter_tuple (show sa.heap.IsTuple a itl.toArray from p) ?_
    refine ⟨sa.heap.objs.size, [sa.heap.objs.size], _, _, Ha, rfl, Ia.kept (t' := sa.toks) fun b o e => Heap.get?_push_of_some _ e, turn_tuple a _, ⟨_, Heap.get?_push_size _ rfl, rfl, rfl⟩, fun b hb => ?_, q⟩
    have e : b = sa.heap.objs.size := by simpa using hb
    subst e
    exact Ia.fpOk (Nat.le_refl _) (Ia.hok.fresh (Nat.le_refl _))
  · subst e
    obtain ⟨t, rfl⟩ := r1
    cases ha : y.cps.all (· < 128)
    · exact wpAny_pyIter_wide ha (pi_one (tk := sa.toks) Ia _ (turn_str _ y t "str_iterator" (.inr rfl)) ⟨_, Heap.get?_push_size _ rfl, rfl, rfl⟩ q)
    · exact wpAny_pyIter_ascii ha (pi_one (tk := sa.toks) Ia _ (turn_str _ y t "str_ascii_iterator" (.inl rfl)) ⟨_, Heap.get?_push_size _ rfl, rfl, rfl⟩ q)

theorem PI.imp {X : Cx} {tg e : Expr} {w w' : TI} (h : PI X tg e w) (k : ∀ σ H R, w' σ H R → w σ H R) : PI X tg e w' := ⟨fun pins s σ H R I q => h.run pins s σ H R I (k σ H R q)⟩

section
variable {X : Cx} {κ : Kx} {B : L2.St → XW} {tg a b : Expr} {fa fb : Bool} {ma mb : Loc → Store → Res D} {pos p : Pos}
abbrev eI (X : Cx) (κ : Kx) (B : L2.St → XW) (m : Loc → Store → Res (List D)) : TI := tI (Cx.kit X κ) B m
theorem EndG.optI {K : Kit} {B : XW} {ρ : Rho} {H : Hp} {st : Store} {o : Option (List D)} {R : L2.It → Hp → Prop} (h : EndG K B (RI K) ρ H (Res.ofOpt o st) R) (s : Sim K ρ st H) : ∃ xs, o = some xs ∧ ∀ J, Feeds K ρ H J xs → R J H := by
  cases o with
  | none => exact h.elim
  | some xs => exact ⟨xs, rfl, fun J f => h ρ J H (Ext.refl _ _) s f⟩
theorem si_seq (ha : PE X a (eE X κ B fa ma)) : PI X tg a (eI X κ B fun l st => (ma l st).bind fun x st => .ofOpt (seqOf st x) st) :=
  PI.imp (pi_any ha) fun σ H R ⟨ρ, l, st, at0, q⟩ => ⟨ρ, l, st, at0, EndG.bind RI.back q fun d st1 ρ1 v H1 x1 s1 r1 q1 => by
    obtain ⟨xs, e, k⟩ := EndG.optI q1 s1
    obtain ⟨r, _⟩ := r1
    unfold seqOf at e
    split at e
    · cases e
      cases r with
      | tup h1 h2 => exact .inr (.inl ⟨_, rfl, ⟨_, h1⟩, k _ (feeds_tup s1 h1 h2)⟩)
    · cases e
      cases r
      exact .inr (.inr ⟨_, rfl, k _ (feeds_str _)⟩)
    · cases e
      cases r with
      | lst h1 h2 h3 => exact .inl ⟨_, rfl, ⟨_, SqL.of h1⟩, k _ (feeds_list s1 h1 h2 h3)⟩
    · cases e⟩
theorem si_rng (hg : Gl X "range") (hm : X.mg "range" = none) (ns : notStar a = true) (ha : PE X a (eE X κ B fa ma)) :
    PI X tg (.Call (.Name "range" p) [a] [] pos) (eI X κ B fun l st => (ma l st).bind fun x st => asInt x fun j => .ofOpt (rngD 0 j) st) :=
  PI.imp (pi_range1 hg hm (pa_cons ha pa_nil (star_cons ns _ _)) (star_cons ns _ _)) fun σ H R ⟨ρ, l, st, at0, q⟩ => ⟨ρ, l, st, at0, EndG.bind RI.back q fun d st1 ρ1 v H1 x1 s1 r1 q1 => by
    obtain ⟨r, _⟩ := r1
    cases d with
    | int j =>
      cases r
      obtain ⟨xs, e, k⟩ := EndG.optI (show EndG _ _ _ _ _ (Res.ofOpt (rngD 0 j) st1) R from q1) s1
      unfold rngD at e
      split at e
      · rename_i hz
        cases e
        have h := k _ (feeds_rng 0 j)
        rw [Int.sub_zero] at h
        exact ⟨j, rfl, hz.2.2.1, hz.2.2.2, h⟩
      · cases e
    | _ => exact q1.elim⟩
theorem si_rng2 (hg : Gl X "range") (hm : X.mg "range" = none) (na : notStar a = true) (nb : notStar b = true) (ha : PE X a (eE X κ B fa ma)) (hb : PE X b (eE X κ B fb mb)) :
    PI X tg (.Call (.Name "range" p) [a, b] [] pos) (eI X κ B fun l st => (ma l st).bind fun x st => (mb l st).bind fun y st => asInt x fun i => asInt y fun j => .ofOpt (rngD i j) st) :=
  PI.imp (pi_range2 hg hm (pa_cons ha (pa_cons hb pa_nil (star_cons nb _ _)) (star_cons na _ _)) (by rw [star_cons na, star_cons nb]; rfl) (star_cons nb _ _)) fun σ H R ⟨ρ, l, st, at0, q⟩ => ⟨ρ, l, st, at0, EndG.bind RI.back q fun d st1 ρ1 v H1 x1 s1 r1 q1 =>
    ⟨ρ1, l, st1, at0.go x1 s1, EndG.bind RI.back q1 fun d2 st2 ρ2 v2 H2 x2 s2 r2 q2 => by
    have r1' := r1.1.mono s1 x2
    obtain ⟨r2, _⟩ := r2
    cases d with
    | int i =>
      cases d2 with
      | int j =>
        cases r1'; cases r2
        obtain ⟨xs, e, k⟩ := EndG.optI (show EndG _ _ _ _ _ (Res.ofOpt (rngD i j) st2) R from q2) s2
        unfold rngD at e
        split at e
        · rename_i hz
          cases e
          exact ⟨i, j, rfl, hz, k _ (feeds_rng i j)⟩
        · cases e
      | _ => exact q2.elim
    | _ => exact q2.elim⟩⟩
theorem si_zip {elts : List Expr} {kk : Nat} {tpos : Pos} (hg : Gl X "zip") (hm : X.mg "zip" = none) (na : notStar a = true) (nb : notStar b = true) (ha : PE X a (eE X κ B fa ma)) (hb : PE X b (eE X κ B fb mb)) :
    PI X (.Tuple elts kk tpos) (.Call (.Name "zip" p) [a, b] [] pos) (eI X κ B fun l st => (ma l st).bind fun x st => (mb l st).bind fun y st => .ofOpt (zipD x y) st) :=
  PI.imp (RZ.pi_zipA hg hm (pa_cons ha (pa_cons hb pa_nil (star_cons nb _ _)) (star_cons na _ _)) (star_cons na _ _) (back_plain _ _ (by simp [nb]))) fun σ H R ⟨ρ, l, st, at0, q⟩ => ⟨ρ, l, st, at0, EndG.bind RI.back q fun d st1 ρ1 v H1 x1 s1 r1 q1 =>
    ⟨ρ1, l, st1, at0.go x1 s1, EndG.bind RI.back q1 fun d2 st2 ρ2 v2 H2 x2 s2 r2 q2 => by
    have r1' := r1.1.mono s1 x2
    obtain ⟨r2, _⟩ := r2
    obtain ⟨xs, e, k⟩ := EndG.optI q2 s2
    unfold zipD at e
    split at e
    · cases e
      cases r1' with
      | tup h1 h2 =>
        cases r2 with
        | tup h3 h4 => exact ⟨_, _, _, _, rfl, .inr ⟨h1, h3, k _ (feeds_zipT s2 h1 h2 h3 h4)⟩⟩
    · cases e
      cases r1' with
      | lst h1 n1 h2 =>
        cases r2 with
        | lst h3 n3 h4 => exact ⟨_, _, _, _, rfl, .inl ⟨SqL.of h1, SqL.of h3, k _ (feeds_zip s2 h1 n1 h2 h3 n3 h4)⟩⟩
    · cases e⟩⟩
theorem feeds_enum {K : Kit} {ρ : Rho} {H : Hp} {st : Store} {a : Addr} {xs : List D} {vs : List V} (s : Sim K ρ st H) (h : H a = some (.lst vs)) (n : some a ∉ ρ) (r : RelDs K ρ H xs vs) :
    Feeds K ρ H (Ite K.K a) ((xs.zipIdx).map fun p => .tup [.int p.2, p.1]) := fun κ' ρ' st' H' x s' i => by
  have h' : H' a = some (.lst vs) := (x.keep _ _ h n nofun).1
  have r' := x.rels r
  refine ⟨fun d hd => ?_, fun hn => ?_⟩
  · rw [List.getElem?_map] at hd
    obtain ⟨p, e1, e2⟩ := Option.map_eq_some_iff.mp hd
    subst e2
    rw [List.getElem?_zipIdx] at e1
    obtain ⟨d', e3, e4⟩ := Option.map_eq_some_iff.mp e1
    subst e4
    obtain ⟨v, g1, g2⟩ := r'.get e3
    refine ⟨⟨vs, v, SqL.of h', g1⟩, fun u H'' hy => ?_⟩
    obtain ⟨q, v', rfl, hp, rfl, hy⟩ := hy
    have e3 := hy vs (SqL.of h')
    rw [g1] at e3
    cases e3
    refine ⟨ext_new hp, sim_new s' hp, new_tup s' hp (.cons ?_ (.cons g2 .nil))⟩
    simp only [Nat.zero_add]
    exact .int _
  · rw [List.getElem?_map, Option.map_eq_none_iff, List.getElem?_eq_none_iff, List.length_zipIdx] at hn
    exact ⟨vs, SqL.of h', by rw [← r.length]; omega⟩
theorem si_enm {elts : List Expr} {kk : Nat} {tpos : Pos} (hg : Gl X "enumerate") (hm : X.mg "enumerate" = none) (na : notStar a = true) (ha : PE X a (eE X κ B fa ma)) :
    PI X (.Tuple elts kk tpos) (.Call (.Name "enumerate" p) [a] [] pos) (eI X κ B fun l st => (ma l st).bind fun x st => .ofOpt (enmD x) st) :=
  PI.imp (pi_enum hg hm (pa_cons ha pa_nil (star_cons na _ _)) (star_cons na _ _)) fun σ H R ⟨ρ, l, st, at0, q⟩ => ⟨ρ, l, st, at0, EndG.bind RI.back q fun d st1 ρ1 v H1 x1 s1 r1 q1 => by
    obtain ⟨r, _⟩ := r1
    obtain ⟨xs, e, k⟩ := EndG.optI q1 s1
    unfold enmD at e
    split at e
    · cases e
      cases r with
      | lst h1 h2 h3 => exact ⟨_, _, rfl, SqL.of h1, k _ (feeds_enum s1 h1 h2 h3)⟩
    · cases e⟩
end

/-! ### targets -/
def slotsT : T → List Nat
  | .nm i => [i]
  | .tp is => is
def RelLe (K : Kit) (ρ : Rho) (H : Hp) (ex : List Nat) (l : Loc) (σ : L2.St) : Prop :=
  l.length = σ.length ∧ (∀ (i : Nat) (d : D), i ∉ ex → l[i]? = some (some d) → ∃ v, σ[i]? = some (some v) ∧ RelD K ρ H d v) ∧ ∀ p ∈ K.fx, p.1 ∉ ex → σ[p.1]? = some (some (.ref p.2))
def gT (K : Kit) (t : T) : TG := fun v σ H Q => ∃ ρ l st d l', Sim K ρ st H ∧ RelLe K ρ H (slotsT t) l σ ∧ RelD K ρ H d v ∧ setT t d l = some l' ∧
  ∀ σ', RelL K ρ H l' σ' → (∀ j, j ∉ slotsT t → σ'[j]? = σ[j]?) → σ'.length = σ.length → Q σ' H
theorem PG.imp {X : Cx} {tg : Expr} {g g' : TG} (h : PG X tg g) (k : ∀ v σ H Q, g' v σ H Q → g v σ H Q) : PG X tg g' := ⟨fun pins s σ H v u Q I r q => h.run pins s σ H v u Q I r (k v σ H Q q)⟩
theorem RelLe.set {K : Kit} {ρ : Rho} {H : Hp} {i : Nat} {r : List Nat} {l : Loc} {σ : L2.St} {d : D} {v : V} (h : RelLe K ρ H (i :: r) l σ) (hd : RelD K ρ H d v) (hi : i < l.length) (hf : i ∉ K.fx.map (·.1)) : RelLe K ρ H r (l.set i (some d)) (σ.set i (some v)) := by
  refine ⟨by rw [List.length_set, List.length_set]; exact h.1, fun j e hj he => ?_, fun p hp hr => ?b⟩
  case b =>
    have hpi : i ≠ p.1 := fun z => hf (by rw [z]; exact List.mem_map_of_mem hp)
    rw [List.getElem?_set_ne hpi]
    exact h.2.2 p hp (by simp only [List.mem_cons, not_or]; exact ⟨fun z => hpi z.symm, hr⟩)
  by_cases hij : i = j
  · subst hij
    rw [List.getElem?_set_self hi] at he
    cases he
    exact ⟨v, by rw [List.getElem?_set_self (by rw [← h.1]; exact hi)], hd⟩
  · rw [List.getElem?_set_ne hij] at he
    obtain ⟨w, h1, h2⟩ := h.2.1 j e (by simp only [List.mem_cons, not_or]; exact ⟨fun z => hij z.symm, hj⟩) he
    exact ⟨w, by rw [List.getElem?_set_ne hij]; exact h1, h2⟩
theorem RelLe.nil {K : Kit} {ρ : Rho} {H : Hp} {l : Loc} {σ : L2.St} (h : RelLe K ρ H [] l σ) : RelL K ρ H l σ := ⟨h.1, fun i d e => h.2.1 i d (by simp) e, fun p hp => h.2.2 p hp (by simp)⟩
theorem RelL.ex {K : Kit} {ρ : Rho} {H : Hp} {l : Loc} {σ : L2.St} (h : RelL K ρ H l σ) (ex : List Nat) : RelLe K ρ H ex l σ := ⟨h.1, fun i d _ e => h.2.1 i d e, fun p hp _ => h.2.2 p hp⟩
def setV (σ : L2.St) (ps : List (Nat × V)) : L2.St := ps.foldl (fun σ p => σ.set p.1 (some p.2)) σ
theorem setV_length : ∀ (ps : List (Nat × V)) (σ : L2.St), (setV σ ps).length = σ.length
  | [], _ => rfl
  | p :: r, σ => by show (setV (σ.set p.1 (some p.2)) r).length = _; rw [setV_length r, List.length_set]
theorem setV_other : ∀ (ps : List (Nat × V)) (σ : L2.St) (j : Nat), j ∉ ps.map (·.1) → (setV σ ps)[j]? = σ[j]?
  | [], _, _, _ => rfl
  | p :: r, σ, j, h => by
    simp only [List.map_cons, List.mem_cons, not_or] at h
    show (setV (σ.set p.1 (some p.2)) r)[j]? = _
    rw [setV_other r _ j h.2, List.getElem?_set_ne (fun z => h.1 z.symm)]
theorem sets_rel {K : Kit} {ρ : Rho} {H : Hp} : ∀ {is : List Nat} {ds : List D} {vs : List V} {l : Loc} {σ : L2.St}, RelLe K ρ H is l σ → RelDs K ρ H ds vs → is.length = ds.length → (is.all fun i => decide (i < l.length)) = true → (∀ i ∈ is, i ∉ K.fx.map (·.1)) →
    RelL K ρ H ((is.zip ds).foldl (fun l p => l.set p.1 (some p.2)) l) (setV σ (is.zip vs))
  | [], [], _, l, σ, h, .nil, _, _, _ => h.nil
  | i :: is, d :: ds, _, l, σ, h, .cons r1 r2, hl, ha, hf => by
    simp only [List.all_cons, Bool.and_eq_true, decide_eq_true_eq] at ha
    have := sets_rel (h.set r1 ha.1 (hf i (by simp))) r2 (by simpa using hl) (by rw [List.length_set]; exact ha.2) fun j hj => hf j (List.mem_cons_of_mem _ hj)
    exact this
def gNs (is : List Nat) : TGs := fun vs σ H Q => vs.length = is.length ∧ Q (setV σ (is.zip vs)) H
section
variable {X : Cx} {pos : Pos}
/-- a name that may be stored -/
def Stores (X : Cx) (i : Nat) (x : Str) : Prop := X.N[i]? = some x ∧ L2.Loc X.env.scope x ∧ (X.fn x = true ∨ X.env.scope.names.lookup x = some .local)
theorem pgs_ns (hN : X.N.Nodup) : ∀ {es : List Expr} {is : List Nat}, Paired (fun e i => ∃ x p, e = Expr.Name x p ∧ Stores X i x) es is → PGs X es (gNs is)
  | [], [], .nil => by
    have h := pgs_nil (X := X)
    exact ⟨fun pins s σ H vs us Q I r ⟨h1, h2⟩ => h.run pins s σ H vs us Q I r ⟨List.eq_nil_of_length_eq_zero h1, by
      have : vs = [] := List.eq_nil_of_length_eq_zero h1
      subst this
      exact h2⟩⟩
  | e :: es, i :: is, .cons ⟨x, p, he, h1, h2, h3⟩ r => by
    subst he
    have h := pgs_cons (pg_name (pos := p) hN h1 h2 h3) (pgs_ns hN r)
    refine ⟨fun pins s σ H vs us Q I rv ⟨hl, hq⟩ => h.run pins s σ H vs us Q I rv ?_⟩
    cases vs with
    | nil => cases hl
    | cons v vr => exact ⟨v, vr, rfl, by simpa using hl, hq⟩
theorem assign_plain {X : Cx} : ∀ {es : List Expr} {is : List Nat}, Paired (fun e i => ∃ x p, e = Expr.Name x p ∧ Stores X i x) es is → (assignEach es X.env).length = is.length ∧ (assignEach es X.env).findIdx? (·.1) = none
  | [], [], .nil => ⟨rfl, rfl⟩
  | e :: es, i :: is, .cons ⟨x, p, he, _⟩ r => by
    subst he
    obtain ⟨h1, h2⟩ := assign_plain r
    have e1 : assignEach (.Name x p :: es) X.env = (false, assign (.Name x p) X.env) :: assignEach es X.env := rfl
    rw [e1]
    refine ⟨by rw [List.length_cons, List.length_cons, h1], ?_⟩
    rw [List.findIdx?_cons, h2]; rfl
variable {κ : Kx}
theorem sg_nm {i : Nat} {x : Str} (hN : X.N.Nodup) (hf : i ∉ κ.fx.map (·.1)) (h : Stores X i x) : PG X (.Name x pos) (gT (Cx.kit X κ) (.nm i)) :=
  PG.imp (pg_name hN h.1 h.2.1 h.2.2) fun v σ H Q ⟨ρ, l, st, d, l', s, hl, r, e, k⟩ => by
    simp only [setT] at e
    split at e
    · rename_i hi
      cases e
      exact k _ (hl.set r hi hf).nil (fun j hj => List.getElem?_set_ne fun z => hj (by simp [slotsT, z])) (List.length_set ..)
    · cases e
theorem sg_tp {es : List Expr} {is : List Nat} {kk : Nat} (hc : X.calm = true) (hN : X.N.Nodup) (hf : ∀ i ∈ is, i ∉ κ.fx.map (·.1)) (h : Paired (fun e i => ∃ x p, e = Expr.Name x p ∧ Stores X i x) es is) : PG X (.Tuple es kk pos) (gT (Cx.kit X κ) (.tp is)) :=
  PG.imp (pg_tup hc (pgs_ns hN h) (assign_plain h).1 (assign_plain h).2) fun v σ H Q ⟨ρ, l, st, d, l', s, hl, r, e, k⟩ => by
    cases d with
    | tup ds =>
      simp only [setT] at e
      split at e
      · rename_i hz
        cases e
        cases r with
        | @tup _ vs a h1 h2 =>
          have hlen : vs.length = is.length := by rw [← h2.length, hz.1]
          refine ⟨a, vs, rfl, h1, hlen, hlen, k _ (sets_rel hl h2 hz.1 hz.2 hf) (fun j hj => setV_other _ _ j ?_) (setV_length _ _)⟩
          rw [List.map_fst_zip (by omega)]
          exact hj
      · cases e
    | _ => simp only [setT] at e; cases e
end
end Pm

set_option Elab.async false
set_option linter.all false
set_option maxRecDepth 100000
set_option maxHeartbeats 2000000
/-! Ev15: list comprehensions. -/
namespace Pm
open PySem PySem.Spec PyProof.Rows L2
set_option autoImplicit false

theorem wipe_in {σ : L2.St} {j : Nat} : ∀ {vs : List Nat}, j ∈ vs → (wipe σ vs)[j]? = if j < σ.length then some none else none
  | [], h => by cases h
  | v :: vs, h => by
    show ((wipe σ vs).set v none)[j]? = _
    by_cases e : v = j
    · subst e
      rw [List.getElem?_set]
      simp [wipe_length]
    · rw [List.getElem?_set_ne e]
      rcases List.mem_cons.mp h with z | z
      · exact (e z.symm).elim
      · exact wipe_in z
theorem wipe_eq {σ σ2 : L2.St} {vs : List Nat} (hl : σ2.length = σ.length) (h : ∀ j, j ∉ vs → σ2[j]? = σ[j]?) : wipe σ2 vs = wipe σ vs := by
  apply List.ext_getElem?
  intro j
  by_cases hj : j ∈ vs
  · rw [wipe_in hj, wipe_in hj, hl]
  · rw [wipe_out hj, wipe_out hj, h j hj]

theorem compL_cons (t : T) (tst : Loc → Store → Res Bool) (elt : Loc → Store → Res D) (l : Loc) (x : D) (xs : List D) (st : Store) :
    compL t tst elt l (x :: xs) st = optR (setT t x l) fun l' => (tst l' st).bind fun b st => ifB b ((elt l' st).bind fun d st => (compL t tst elt l xs st).bind fun ds st => .ok (d :: ds) st) (compL t tst elt l xs st) := rfl

section
variable {X : Cx} {κ : Kx} {B : L2.St → XW}
abbrev Kx.up (κ : Kx) : Kx := { κ with h := κ.h + 1, en := [] }
def B0 : L2.St → XW := fun _ _ _ _ => False
theorem lc_read {own : List (Str × Nat)} {t : T} {fe : Bool} {mi : Loc → Store → Res (List D)} {mc : Loc → Store → Res Bool} {me : Loc → Store → Res D} (hs1 : ∀ i ∈ own.map (·.2), i ∈ slotsT t) (hs2 : ∀ i ∈ slotsT t, i ∈ own.map (·.2)) :
    ∀ σ H Q, eE X κ B false (fun l st => (mi l st).bind fun xs st => ((compL t mc me l xs st).calm).bind fun ds st => sized ds (.lst ds) st) σ H Q → tLc (eI X κ B mi) (gT (Cx.kit X κ.up) t) (eT X κ.up B0 mc) (eE X κ.up B0 fe me) (own.map (·.2)) σ H Q :=
  fun σ H Q ⟨ρ, l, st, at0, q⟩ => ⟨ρ, l, st, at0, EndG.bind RE.back q fun xs st1 ρ1 J H1 x1 s1 f1 q1 => fun p hp => by
    have at1 := at0.go x1 s1
    cases hE : compL t mc me l xs st1 with
    | bad => rw [hE] at q1; exact q1.elim
    | exc c fs st2 => rw [hE] at q1; exact q1.elim
    | ok dsF stF =>
      rw [hE] at q1
      simp only [Res.calm, Res.bind, sized] at q1
      have hz : dsF.length ≤ SL := by
        by_cases hz : dsF.length ≤ SL
        · exact hz
        · rw [if_neg hz] at q1; exact q1.elim
      rw [if_pos hz] at q1
      refine ⟨fun i m H' => m = xs.length - i ∧ i ≤ xs.length ∧ ∃ ρ' st' done rest vs, Ext κ.h ρ1 H1 ρ' H' ∧ Sim (Cx.kit X κ.up) (some p :: ρ') st' H' ∧ H' p = some (.lst vs) ∧ RelDs (Cx.kit X κ.up) (some p :: ρ') H' done vs ∧ compL t mc me l (xs.drop i) st' = .ok rest stF ∧ dsF = done ++ rest,
        ⟨xs.length, by simp, Nat.zero_le _, ρ1, st1, [], dsF, [], ext_new hp, sim_hide s1 hp rfl, upd_same, .nil, by simpa using hE, rfl⟩, ?_⟩
      rintro i m H' ⟨rfl, hi, ρ', st', done, rest, vs, x, s, hpv, r, hcomp, hds⟩
      have f := f1 κ.up (some p :: ρ') st' H' (Later.of_go s1 x hp) s i
      by_cases hlt : i < xs.length
      · have hd : xs[i]? = some xs[i] := List.getElem?_eq_getElem hlt
        rw [List.drop_eq_getElem_cons hlt, compL_cons] at hcomp
        refine .inr ⟨(f.1 _ hd).1, _, fun H'' w => ⟨xs.length - (i + 1), by omega, w⟩, fun x0 H2 hy => ?_⟩
        obtain ⟨x2, s2, r2⟩ := (f.1 _ hd).2 x0 H2 hy
        cases hset : setT t xs[i] l with
        | none => rw [hset] at hcomp; cases hcomp
        | some l' =>
          rw [hset] at hcomp
          simp only [optR] at hcomp
          have xo2 : Ext κ.h ρ1 H1 ρ' H2 := x.trans (ext_out (K := Cx.kit X κ) x2)
          refine ⟨some p :: ρ', l, st', xs[i], l', s2, ⟨by rw [wipe_length]; exact at1.loc.1, fun j d hj e => ?_, fun q hq hnq => ?_⟩, r2, hset, fun σ2 rl hoth hlen => ⟨wipe_eq (by rw [hlen, wipe_length]) fun j hj => ?_, ?_⟩⟩
          · obtain ⟨v, e1, e2⟩ := at1.loc.2.1 j d e
            exact ⟨v, by rw [wipe_out fun z => hj (hs1 j z)]; exact e1, e2.go s1 xo2 hp⟩
          · rw [wipe_out fun z => hnq (hs1 _ z)]
            exact at1.loc.2.2 q hq
          · rw [hoth j fun z => hj (hs2 j z), wipe_out hj]
          · refine ⟨some p :: ρ', l', st', ⟨s2, rl, fun _ h => nomatch h⟩, ?_⟩
            have hp2 : H2 p = some (.lst vs) := (x2.hid 0 p (Nat.succ_pos _) rfl).2 _ hpv
            cases hmc : mc l' st' with
            | bad => rw [hmc] at hcomp; cases hcomp
            | exc c fs st2 => rw [hmc] at hcomp; cases hcomp
            | ok b st2 =>
              rw [hmc] at hcomp
              simp only [Res.bind] at hcomp
              intro ρ3 b' H3 x3 s3 e3
              cases e3
              obtain ⟨ρ3', rfl⟩ := up_cons (K := Cx.kit X κ) x3
              have hp3 : H3 p = some (.lst vs) := (x3.hid 0 p (Nat.succ_pos _) rfl).2 _ hp2
              have r3 := (r.mono s x2).mono s2 x3
              have xo3 := xo2.trans (ext_out (K := Cx.kit X κ) x3)
              cases b with
              | false =>
                rw [if_neg (by decide)]
                simp only [ifB] at hcomp
                exact ⟨rfl, by omega, ρ3', st2, done, rest, vs, xo3, s3, hp3, r3, hcomp, hds⟩
              | true =>
                rw [if_pos rfl]
                simp only [ifB] at hcomp
                have at3 : At (Cx.kit X κ.up) (some p :: ρ3') H3 l' σ2 st2 := ⟨s3, rl.mono s2 x3, fun _ h => nomatch h⟩
                refine ⟨some p :: ρ3', l', st2, at3, ?_⟩
                cases hme : me l' st2 with
                | bad => rw [hme] at hcomp; cases hcomp
                | exc c fs st3 => rw [hme] at hcomp; cases hcomp
                | ok d st3 =>
                  rw [hme] at hcomp
                  simp only [Res.bind] at hcomp
                  intro ρ4 y H4 x4 s4 r4
                  obtain ⟨ρ4', rfl⟩ := up_cons (K := Cx.kit X κ) x4
                  have hp4 : H4 p = some (.lst vs) := (x4.hid 0 p (Nat.succ_pos _) rfl).2 _ hp3
                  have xo4 := xo3.trans (ext_out (K := Cx.kit X κ) x4)
                  cases hrest : compL t mc me l (xs.drop (i + 1)) st3 with
                  | bad => rw [hrest] at hcomp; cases hcomp
                  | exc c fs st4 => rw [hrest] at hcomp; cases hcomp
                  | ok rest' st4 =>
                    rw [hrest] at hcomp
                    simp only [Res.ok.injEq] at hcomp
                    obtain ⟨rfl, rfl⟩ := hcomp
                    have hlen : vs.length < SL := by
                      have h1 := r.length
                      have h2 : dsF.length = done.length + (rest'.length + 1) := by rw [hds, List.length_append, List.length_cons]
                      omega
                    refine ⟨vs, hp4, by rw [SL_eq]; exact hlen, rfl, by omega, ρ4', st3, done ++ [d], rest', vs ++ [y], ?_, ?_, upd_same, ?_, hrest, by rw [hds]; simp⟩
                    · exact {
                        len := xo4.len
                        old := xo4.old
                        new := xo4.new
                        keep := fun a u e hn hcl => by rw [upd_ne (ne_of_none e hp)]; exact xo4.keep a u e hn hcl
                        dom := fun a e => by
                          by_cases ha : a = p
                          · rw [ha]; exact Free.of hp
                          · exact xo4.dom a fun o q => e o (by rw [upd_ne ha]; exact q)
                        hid := fun n a hn e => ⟨(xo4.hid n a hn e).1, fun u z => by rw [upd_ne (ne_of_none z hp)]; exact (xo4.hid n a hn e).2 u z⟩ }
                    · exact sim_hid (n := 0) s4 (Nat.succ_pos _) rfl hp4 rfl nofun rfl
                    · exact (RelDs.hidw (n := 0) s4 rfl hp4 rfl (by intro ps z; cases z)).1 ((r3.mono s3 x4).append (.cons r4.1 .nil))
      · have e : i = xs.length := by omega
        subst e
        rw [List.drop_length] at hcomp
        cases hcomp
        rw [List.append_nil] at hds
        subst hds
        refine .inl ⟨f.2 (List.getElem?_eq_none (Nat.le_refl _)), ?_⟩
        have hnp : some p ∉ ρ' := fun hm => by
          obtain ⟨n, e⟩ := mem_rho.mp hm
          have := s.inj 0 (n + 1) p rfl (by simpa using e)
          omega
        exact q1 ρ' (.ref p) H' x (sim_show (K := Cx.kit X κ) s) ⟨.lst hpv hnp (RelDs.show (K := Cx.kit X κ) r), fun z => nomatch z⟩⟩
theorem se_lc {elt tg iter : Expr} {ifs : List Expr} {scope : Scope} {own : List (Str × Nat)} {pos : Pos} {t : T} {fe : Bool} {mi : Loc → Store → Res (List D)} {mc : Loc → Store → Res Bool} {me : Loc → Store → Res D}
    (hc : X.calm = true) (hN : X.N.Nodup) (hi : PI X tg iter (eI X κ B mi)) (ok : BlkOk X.N X.env.scope scope own) (hs1 : ∀ i ∈ own.map (·.2), i ∈ slotsT t) (hs2 : ∀ i ∈ slotsT t, i ∈ own.map (·.2))
    (hg : ∀ (s : Shared) (H : Hp) (C : Addr) (cl : List (Str × Addr)) (fp : List Addr), PG (X.blk s H scope (compEnvC scope cl C X.env) fp) tg (gT (Cx.kit X κ.up) t))
    (ht : ∀ (s : Shared) (H : Hp) (C : Addr) (cl : List (Str × Addr)) (fp : List Addr), PTs (X.blk s H scope (compEnvC scope cl C X.env) fp) ifs (eT X κ.up B0 mc))
    (he : ∀ (s : Shared) (H : Hp) (C : Addr) (cl : List (Str × Addr)) (fp : List Addr), PE (X.blk s H scope (compEnvC scope cl C X.env) fp) elt (eE X κ.up B0 fe me)) (hs : noSet iter = true) :
    PE X (.ListComp elt [⟨tg, iter, ifs, 0⟩] scope pos) (eE X κ B false fun l st => (mi l st).bind fun xs st => ((compL t mc me l xs st).calm).bind fun ds st => sized ds (.lst ds) st) :=
  PE.imp (pe_lc hc hN hi ok hg ht he (noSet_it hs _)) (lc_read hs1 hs2)
theorem sp_setLc {i : Nat} {y : Str} {py : Pos} {elt tg iter : Expr} {ifs : List Expr} {scope : Scope} {own : List (Str × Nat)} {pos spos : Pos} {t : T} {fe : Bool} {mi : Loc → Store → Res (List D)} {mc : Loc → Store → Res Bool} {me : Loc → Store → Res D}
    (hc : X.calm = true) (hN : X.N.Nodup) (hy : X.N[i]? = some y) (hyl : X.env.scope.names.lookup y = some .local) (hsw : swapsWith (.ListComp elt [⟨tg, iter, ifs, 0⟩] scope pos) (some (.Name y py)) spos.line X.env = pure true)
    (hi : PI X tg iter (eI X κ B mi)) (ok : BlkOk X.N X.env.scope scope own) (hs1 : ∀ i ∈ own.map (·.2), i ∈ slotsT t) (hs2 : ∀ i ∈ slotsT t, i ∈ own.map (·.2))
    (hg : ∀ (s : Shared) (H : Hp) (C : Addr) (cl : List (Str × Addr)) (fp : List Addr), PG (X.blk s H scope (compEnvC scope cl C X.env) fp) tg (gT (Cx.kit X κ.up) t))
    (ht : ∀ (s : Shared) (H : Hp) (C : Addr) (cl : List (Str × Addr)) (fp : List Addr), PTs (X.blk s H scope (compEnvC scope cl C X.env) fp) ifs (eT X κ.up B0 mc))
    (he : ∀ (s : Shared) (H : Hp) (C : Addr) (cl : List (Str × Addr)) (fp : List Addr), PE (X.blk s H scope (compEnvC scope cl C X.env) fp) elt (eE X κ.up B0 fe me)) (hs : noSet iter = true) :
    PS X (.Assign [.Name y py] (.ListComp elt [⟨tg, iter, ifs, 0⟩] scope pos) spos) (tAsg (eE X κ B false fun l st => (mi l st).bind fun xs st => ((compL t mc me l xs st).calm).bind fun ds st => sized ds (.lst ds) st) (gName i)) := by
  have h := ps_setLc (spos := spos) (py := py) hc hN hy hyl hsw hi ok hg ht he (noSet_it hs _)
  exact ⟨fun pins s σ H D I q => h.run pins s σ H D I (lc_read hs1 hs2 σ H _ q)⟩
end
end Pm

set_option Elab.async false
set_option linter.all false
set_option maxRecDepth 100000
set_option maxHeartbeats 2000000
/-! Ev16: statements. -/
namespace Pm
open PySem PySem.Spec PyProof.Rows L2
set_option autoImplicit false

def EndS (K : Kit) (B : XW) (ρ : Rho) (H : Hp) (r : Res Flow) (D : Ends) : Prop := match r with
  | .ok (.nx l) st => ∀ ρ' σ' H', Ext K.h ρ H ρ' H' → At K ρ' H' l σ' st → D.nx σ' H'
  | .ok (.rt d) st => ∀ ρ' v H', Ext K.h ρ H ρ' H' → Sim K ρ' st H' → RelD K ρ' H' d v → D.rt v H'
  | .ok (.bk l) st => ∀ ρ' σ' H', Ext K.h ρ H ρ' H' → At K ρ' H' l σ' st → D.bk σ' H'
  | .ok (.ct l) st => ∀ ρ' σ' H', Ext K.h ρ H ρ' H' → At K ρ' H' l σ' st → D.ct σ' H'
  | .exc c fs st => ∀ ρ' H' dx, Ext K.h ρ H ρ' H' → Sim K ρ' st H' → XOk fs dx H' → B c dx H'
  | .bad => False
def tS (K : Kit) (B : L2.St → XW) (m : Loc → Store → Res Flow) : TS := fun D σ H => ∃ ρ l st, At K ρ H l σ st ∧ EndS K (B σ) ρ H (m l st) D
abbrev eS (X : Cx) (κ : Kx) (B : L2.St → XW) (m : Loc → Store → Res Flow) : TS := tS (Cx.kit X κ) B m
section
variable {α β : Type} {K : Kit} {B : XW} {R : Rho → Store → Hp → Hp → α → β → Prop} {ρ ρ1 : Rho} {H H1 : Hp} {st : Store} {D : Ends}
theorem EndS.mono {r : Res Flow} (h : EndS K B ρ H r D) (x : Ext K.h ρ H ρ1 H1) : EndS K B ρ1 H1 r D := by
  cases r with
  | ok f st' =>
    cases f with
    | nx l => exact fun ρ' σ' H' y a => h ρ' σ' H' (x.trans y) a
    | rt d => exact fun ρ' v H' y s r => h ρ' v H' (x.trans y) s r
    | bk l => exact fun ρ' σ' H' y a => h ρ' σ' H' (x.trans y) a
    | ct l => exact fun ρ' σ' H' y a => h ρ' σ' H' (x.trans y) a
  | exc c fs st' => exact fun ρ' H' dx y s q => h ρ' H' dx (x.trans y) s q
  | bad => exact h
theorem EndS.bind {r : Res α} {f : α → Store → Res Flow} {Q1 : β → Hp → Prop} (h : EndS K B ρ H (r.bind f) D)
    (k : ∀ a st1 ρ1 b H1, Ext K.h ρ H ρ1 H1 → Sim K ρ1 st1 H1 → R ρ1 st1 H H1 a b → EndS K B ρ1 H1 (f a st1) D → Q1 b H1) : EndG K B R ρ H r Q1 := by
  cases r with
  | ok a st' => exact fun ρ' b H' x s q => k a st' ρ' b H' x s q (EndS.mono h x)
  | exc c fs st' => exact h
  | bad => exact h
theorem EndS.imp {r : Res Flow} {D' : Ends} (h : EndS K B ρ H r D) (h1 : ∀ σ H, D.nx σ H → D'.nx σ H) (h2 : ∀ v H, D.rt v H → D'.rt v H) (h3 : ∀ σ H, D.bk σ H → D'.bk σ H) (h4 : ∀ σ H, D.ct σ H → D'.ct σ H) : EndS K B ρ H r D' := by
  cases r with
  | ok f st' =>
    cases f with
    | nx l => exact fun ρ' σ' H' y a => h1 _ _ (h ρ' σ' H' y a)
    | rt d => exact fun ρ' v H' y s r => h2 _ _ (h ρ' v H' y s r)
    | bk l => exact fun ρ' σ' H' y a => h3 _ _ (h ρ' σ' H' y a)
    | ct l => exact fun ρ' σ' H' y a => h4 _ _ (h ρ' σ' H' y a)
  | exc c fs st' => exact h
  | bad => exact h
end
theorem PS.imp {X : Cx} {s : Stmt} {t t' : TS} (h : PS X s t) (k : ∀ D σ H, t' D σ H → t D σ H) : PS X s t' := ⟨fun pins s σ H D I q => h.run pins s σ H D I (k D σ H q)⟩
theorem PSs.imp {X : Cx} {s : List Stmt} {t t' : TS} (h : PSs X s t) (k : ∀ D σ H, t' D σ H → t D σ H) : PSs X s t' := ⟨fun pins s σ H D I q => h.run pins s σ H D I (k D σ H q)⟩

/-! ### shapes -/
def notComp : Expr → Bool
  | .ListComp _ _ _ _ => false
  | .SetComp _ _ _ _ => false
  | .DictComp _ _ _ _ _ => false
  | _ => true
theorem notComp_sw {e : Expr} (h : notComp e = true) (t : Option Expr) (n : Nat) (env : Env) : swapsWith e t n env = pure false := by
  cases e <;> first | rfl | cases h
/-- a comprehension, stored under a local of the same line, is stored within -/
def swLc (sc scope : Scope) (y : Str) (py pos : Pos) : Bool := decide (sc.names.lookup y = some .local) && py.line == pos.line && !(scope.names.any fun (n, k) => n == y && (k == .local || k == .cell))
theorem swLc_ok {elt : Expr} {gs : List Comprehension} {scope : Scope} {pos py : Pos} {y : Str} {l : Nat} {env : Env} (hk : env.scope.kind = .function) (h : swLc env.scope scope y py pos = true) : swapsWith (.ListComp elt gs scope pos) (some (.Name y py)) l env = pure true := by
  unfold swLc at h
  simp only [Bool.and_eq_true, decide_eq_true_eq, Bool.not_eq_true'] at h
  exact sw_true hk h.1.1 h.1.2 h.2

section
variable {X : Cx} {κ : Kx} {B : L2.St → XW} {e c : Expr} {es : List Expr} {fe : Bool} {me : Loc → Store → Res D} {mc : Loc → Store → Res Bool} {ms : Loc → Store → Res (List D)} {ma mb : Loc → Store → Res Flow} {pos : Pos} {a b : List Stmt}
theorem sp_pass : PS X (.Pass pos) (eS X κ B fun l st => .ok (.nx l) st) :=
  PS.imp ps_pass fun D σ H ⟨ρ, l, st, at0, q⟩ => q ρ σ H (Ext.refl _ _) at0
theorem sp_ex (h : notComp e = true) (he : PE X e (eE X κ B fe me)) : PS X (.Expr e pos) (eS X κ B fun l st => (me l st).bind fun _ st => .ok (.nx l) st) :=
  PS.imp (ps_expr he (notComp_sw h _ _ _)) fun D σ H ⟨ρ, l, st, at0, q⟩ => ⟨ρ, l, st, at0, EndS.bind q fun d st1 ρ1 v H1 x1 s1 r1 q1 => q1 ρ1 σ H1 (Ext.refl _ _) (at0.go x1 s1)⟩
theorem sp_ret (he : PE X e (eE X κ B fe me)) : PS X (.Return (some e) pos) (eS X κ B fun l st => (me l st).bind fun d st => .ok (.rt d) st) :=
  PS.imp (ps_ret he) fun D σ H ⟨ρ, l, st, at0, q⟩ => ⟨ρ, l, st, at0, EndS.bind q fun d st1 ρ1 v H1 x1 s1 r1 q1 => q1 ρ1 v H1 (Ext.refl _ _) s1 r1.1⟩
theorem sp_retn : PS X (.Return none pos) (eS X κ B fun _ st => .ok (.rt .non) st) :=
  PS.imp ps_retN fun D σ H ⟨ρ, l, st, at0, q⟩ => q ρ .non H (Ext.refl _ _) at0.sim .non
theorem ss_nil : PSs X [] (eS X κ B fun l st => .ok (.nx l) st) :=
  PSs.imp pss_nil fun D σ H ⟨ρ, l, st, at0, q⟩ => q ρ σ H (Ext.refl _ _) at0
theorem go_end {K : Kit} {Bx : XW} {B : L2.St → XW} {ρ : Rho} {H : Hp} {r : Res Flow} {k : Loc → Store → Res Flow} {D : Ends} (hB : ∀ σ, B σ = Bx) (h : EndS K Bx ρ H (r.bind fun f st => f.go (fun l => k l st) st) D) :
    EndS K Bx ρ H r { D with nx := tS K B k D } := by
  cases r with
  | ok f st' =>
    cases f with
    | nx l => exact fun ρ' σ' H' y at1 => ⟨ρ', l, st', at1, by rw [hB]; exact EndS.mono (show EndS K Bx ρ H (k l st') D from h) y⟩
    | rt d => exact h
    | bk l => exact h
    | ct l => exact h
  | exc c fs st' => exact h
  | bad => exact h
theorem ss_cons {s : Stmt} {ss : List Stmt} (hB : ∀ σ σ', B σ = B σ') (h1 : PS X s (eS X κ B ma)) (h2 : PSs X ss (eS X κ B mb)) : PSs X (s :: ss) (eS X κ B fun l st => (ma l st).bind fun f st => f.go (fun l => mb l st) st) :=
  PSs.imp (pss_cons h1 h2) fun D σ H ⟨ρ, l, st, at0, q⟩ => ⟨ρ, l, st, at0, go_end (fun σ' => hB σ' σ) q⟩
theorem sp_iff (hc : PT X c (eT X κ B mc)) (ha : PSs X a (eS X κ B ma)) (hb : PSs X b (eS X κ B mb)) : PS X (.If c a b pos) (eS X κ B fun l st => (mc l st).bind fun k st => ifB k (ma l st) (mb l st)) :=
  PS.imp (ps_if hc ha hb) fun D σ H ⟨ρ, l, st, at0, q⟩ => ⟨ρ, l, st, at0, EndS.bind q fun k st1 ρ1 k' H1 x1 s1 r1 q1 => by
    cases r1
    cases k with
    | true => exact ⟨ρ1, l, st1, at0.go x1 s1, q1⟩
    | false => exact ⟨ρ1, l, st1, at0.go x1 s1, q1⟩⟩
/-! ### stores -/
theorem set_end {K : Kit} {B : XW} {ρ : Rho} {H : Hp} {st : Store} {t : T} {d : D} {v : V} {l : Loc} {σ : L2.St} {D : Ends} (at1 : At K ρ H l σ st) (r : RelD K ρ H d v) (q : EndS K B ρ H (Res.ofOpt ((setT t d l).map .nx) st) D) : gT K t v σ H D.nx := by
  cases h : setT t d l with
  | none => rw [h] at q; exact q.elim
  | some l' =>
    rw [h] at q
    exact ⟨ρ, l, st, d, l', at1.sim, at1.loc.ex _, r, h, fun σ' rl _ _ => q ρ σ' H (Ext.refl _ _) ⟨at1.sim, rl, at1.en⟩⟩
theorem sp_asg {t : T} {tg : Expr} (hg : PG X tg (gT (Cx.kit X κ) t)) (he : PE X e (eE X κ B fe me)) (hs : swapsWithSole [tg] e pos.line X.env = pure false) (hw : swappedStores [tg] e X.env = pure none) (h1 : (assignEach [tg] X.env).map (·.2) = [assign tg X.env]) :
    PS X (.Assign [tg] e pos) (eS X κ B fun l st => (me l st).bind fun d st => .ofOpt ((setT t d l).map .nx) st) :=
  PS.imp (ps_asg he hg hs hw h1) fun D σ H ⟨ρ, l, st, at0, q⟩ => ⟨ρ, l, st, at0, EndS.bind q fun d st1 ρ1 v H1 x1 s1 r1 q1 => set_end (at0.go x1 s1) r1.1 q1⟩
theorem gN_end {K : Kit} {B : XW} {ρ : Rho} {H : Hp} {st : Store} {i : Nat} {d : D} {v : V} {l : Loc} {σ : L2.St} {D : Ends} (hf : i ∉ K.fx.map (·.1)) (at1 : At K ρ H l σ st) (r : RelD K ρ H d v) (q : EndS K B ρ H (Res.ofOpt ((setT (.nm i) d l).map .nx) st) D) : D.nx (σ.set i (some v)) H := by
  by_cases hi : i < l.length
  · have e : setT (.nm i) d l = some (l.set i (some d)) := by simp only [setT]; rw [if_pos hi]
    rw [e] at q
    exact q ρ _ H (Ext.refl _ _) ⟨at1.sim, ((at1.loc.ex [i]).set r hi hf).nil, at1.en⟩
  · have e : setT (.nm i) d l = none := by simp only [setT]; rw [if_neg hi]
    rw [e] at q
    exact q.elim
theorem sp_set {i : Nat} {x : Str} {px : Pos} (hf : i ∉ κ.fx.map (·.1)) (hN : X.N.Nodup) (h : Stores X i x) (he : PE X e (eE X κ B fe me)) (hs : swapsWith e (some (.Name x px)) pos.line X.env = pure false) :
    PS X (.Assign [.Name x px] e pos) (eS X κ B fun l st => (me l st).bind fun d st => .ofOpt ((setT (.nm i) d l).map .nx) st) :=
  PS.imp (ps_set hN h.1 h.2.1 he hs h.2.2) fun D σ H ⟨ρ, l, st, at0, q⟩ => ⟨ρ, l, st, at0, EndS.bind q fun d st1 ρ1 v H1 x1 s1 r1 q1 => gN_end hf (at0.go x1 s1) r1.1 q1⟩
/-- a comprehension stored within -/
theorem sp_lc {i : Nat} {s : Stmt} (hf : i ∉ κ.fx.map (·.1)) (h : PS X s (tAsg (eE X κ B fe me) (gName i))) : PS X s (eS X κ B fun l st => (me l st).bind fun d st => .ofOpt ((setT (.nm i) d l).map .nx) st) :=
  PS.imp h fun D σ H ⟨ρ, l, st, at0, q⟩ => ⟨ρ, l, st, at0, EndS.bind q fun d st1 ρ1 v H1 x1 s1 r1 q1 => gN_end hf (at0.go x1 s1) r1.1 q1⟩
end
end Pm

set_option Elab.async false
set_option linter.all false
set_option maxRecDepth 100000
set_option maxHeartbeats 2000000
/-! Ev17: swapped stores, items, loops, raise. -/
namespace Pm
open PySem PySem.Spec PyProof.Rows L2
set_option autoImplicit false

/-! ### which stores are swapped -/
inductive Sw where
  | no | yes (names : List Str) | bad
def isStar : Expr → Bool
  | .Starred .. => true
  | _ => false
def swp (sc : Scope) (ts vs : List Expr) : Sw :=
  if !(ts.length == 2 || ts.length == 3) || vs.length != ts.length then .no else
  if vs.any (fun | .Starred .. => true | _ => false) then .no else
  let line := (ts.head?.map (·.pos.line)).getD 0
  let names := ts.filterMap fun
    | .Name id pos => if sc.names.lookup id == some .local && pos.line == line then some id else none
    | _ => none
  if names.length != ts.length || names.eraseDups.length != names.length then .no else
  if vs.all (foldedForSure 8) then .no else
  if vs.all (constantsAlone 8) then .bad else .yes names
theorem swp_no {env : Env} {ts vs : List Expr} {k k2 : Nat} {p p2 : Pos} (hk : env.scope.kind = .function) (h : swp env.scope ts vs = .no) : swappedStores [.Tuple ts k p] (.Tuple vs k2 p2) env = pure none := by
  have hb : env.blockKind = .function := by unfold Env.blockKind; rw [hk]; rfl
  unfold swappedStores
  unfold swp at h
  simp only [hb] at h ⊢
  split at h
  · rename_i h1
    exact if_pos (by simpa using h1)
  · rename_i h1
    refine (if_neg (by simpa using h1)).trans ?_
    split at h
    · rename_i h2
      exact if_pos h2
    · rename_i h2
      refine (if_neg h2).trans ?_
      split at h
      · rename_i h3
        exact if_pos (by exact h3)
      · rename_i h3
        refine (if_neg (by exact h3)).trans ?_
        split at h
        · rename_i h4
          exact if_pos h4
        · split at h <;> cases h
theorem swp_yes {env : Env} {ts vs : List Expr} {k k2 : Nat} {p p2 : Pos} {ns : List Str} (hk : env.scope.kind = .function) (h : swp env.scope ts vs = .yes ns) : swappedStores [.Tuple ts k p] (.Tuple vs k2 p2) env = pure (some ns) := by
  have hb : env.blockKind = .function := by unfold Env.blockKind; rw [hk]; rfl
  unfold swappedStores
  unfold swp at h
  simp only [hb] at h ⊢
  split at h
  · cases h
  · rename_i h1
    refine (if_neg (by simpa using h1)).trans ?_
    split at h
    · cases h
    · rename_i h2
      refine (if_neg h2).trans ?_
      split at h
      · cases h
      · rename_i h3
        refine (if_neg (by exact h3)).trans ?_
        split at h
        · cases h
        · rename_i h4
          refine (if_neg h4).trans ?_
          split at h
          · cases h
          · rename_i h5
            refine (if_neg h5).trans ?_
            cases h
            rfl
theorem swp_other {tg e : Expr} (h : (match tg, e with
    | .Tuple _ _ _, .Tuple _ _ _ => false
    | .List _ _, .Tuple _ _ _ => false
    | _, _ => true) = true) (env : Env) : swappedStores [tg] e env = pure none := by
  unfold swappedStores
  cases tg <;> cases e <;> first | rfl | cases h

theorem notComp_sole {e : Expr} (h : notComp e = true) (t : Expr) (n : Nat) (env : Env) : swapsWithSole [t] e n env = pure false := by
  unfold swapsWithSole
  exact notComp_sw h _ _ _
section
variable {X : Cx} {κ : Kx} {B : L2.St → XW} {e c o i : Expr} {es : List Expr} {fe fo fi : Bool} {me mo mi : Loc → Store → Res D} {mc : Loc → Store → Res Bool} {ms mI : Loc → Store → Res (List D)} {mb : Loc → Store → Res Flow} {pos : Pos} {body : List Stmt}
/-! ### a, b = x, y swapped -/
theorem par_end {K : Kit} {B : XW} {ρ : Rho} {H : Hp} {st : Store} {is : List Nat} {ds : List D} {vs : List V} {l : Loc} {σ : L2.St} {D : Ends} (hf : ∀ i ∈ is, i ∉ K.fx.map (·.1)) (at1 : At K ρ H l σ st) (r : RelDs K ρ H ds vs) (q : EndS K B ρ H (Res.ofOpt ((setT (.tp is) (.tup ds) l).map .nx) st) D) : vs.length = is.length ∧ D.nx (setV σ (is.zip vs)) H := by
  by_cases hz : is.length = ds.length ∧ (is.all fun i => decide (i < l.length)) = true
  · have e : setT (.tp is) (.tup ds) l = some ((is.zip ds).foldl (fun l p => l.set p.1 (some p.2)) l) := by simp only [setT]; rw [if_pos hz]
    rw [e] at q
    exact ⟨by rw [← r.length, hz.1], q ρ _ H (Ext.refl _ _) ⟨at1.sim, sets_rel (at1.loc.ex is) r hz.1 hz.2 hf, at1.en⟩⟩
  · have e : setT (.tp is) (.tup ds) l = none := by simp only [setT]; rw [if_neg hz]
    rw [e] at q
    exact q.elim
theorem sp_par2 {i j : Nat} {x y : Str} {a b : Expr} {px py pt pt2 : Pos} {kt k2 : Nat} (hf : ∀ n ∈ [i, j], n ∉ κ.fx.map (·.1)) (hc : X.calm = true) (hN : X.N.Nodup) (hi : X.N[i]? = some x) (hj : X.N[j]? = some y) (hij : i ≠ j)
    (hx : X.env.scope.names.lookup x = some .local) (hy : X.env.scope.names.lookup y = some .local) (ha : PA X [a, b] (eA X κ B ms)) (hk : X.env.scope.kind = .function)
    (hw : swp X.env.scope [.Name x px, .Name y py] [a, b] = .yes [x, y]) :
    PS X (.Assign [.Tuple [.Name x px, .Name y py] kt pt] (.Tuple [a, b] k2 pt2) pos) (eS X κ B fun l st => (ms l st).bind fun ds st => .ofOpt ((setT (.tp [i, j]) (.tup ds) l).map .nx) st) :=
  PS.imp (ps_par hc hN hi hj hij hx hy ha (swp_yes hk hw) rfl) fun D σ H ⟨ρ, l, st, at0, q⟩ => ⟨ρ, l, st, at0, EndS.bind q fun ds st1 ρ1 vs H1 x1 s1 r1 q1 => by
    obtain ⟨h1, h2⟩ := par_end hf (at0.go x1 s1) r1 q1
    match vs, h1 with
    | [v, w], _ => exact ⟨v, w, rfl, h2⟩⟩
theorem sp_par3 {i j k : Nat} {x y z : Str} {a b c : Expr} {px py pz pt pt2 : Pos} {kt k2 : Nat} (hf : ∀ n ∈ [i, j, k], n ∉ κ.fx.map (·.1)) (hc : X.calm = true) (hN : X.N.Nodup) (hi : X.N[i]? = some x) (hj : X.N[j]? = some y) (hk' : X.N[k]? = some z) (hij : i ≠ j) (hil : i ≠ k) (hjl : j ≠ k)
    (hx : X.env.scope.names.lookup x = some .local) (hy : X.env.scope.names.lookup y = some .local) (hz : X.env.scope.names.lookup z = some .local) (ha : PA X [a, b, c] (eA X κ B ms)) (hk : X.env.scope.kind = .function)
    (hw : swp X.env.scope [.Name x px, .Name y py, .Name z pz] [a, b, c] = .yes [x, y, z]) :
    PS X (.Assign [.Tuple [.Name x px, .Name y py, .Name z pz] kt pt] (.Tuple [a, b, c] k2 pt2) pos) (eS X κ B fun l st => (ms l st).bind fun ds st => .ofOpt ((setT (.tp [i, j, k]) (.tup ds) l).map .nx) st) :=
  PS.imp (ps_par3 hc hN hi hj hk' hij hil hjl hx hy hz ha (swp_yes hk hw) rfl) fun D σ H ⟨ρ, l, st, at0, q⟩ => ⟨ρ, l, st, at0, EndS.bind q fun ds st1 ρ1 vs H1 x1 s1 r1 q1 => by
    obtain ⟨h1, h2⟩ := par_end hf (at0.go x1 s1) r1 q1
    match vs, h1 with
    | [v, w, u], _ => exact ⟨v, w, u, rfl, h2⟩⟩
/-! ### x op= e -/
def rAug (o : Op) : TIp := match o with
  | .add => ipI fun i j => i + j
  | .sub => ipI fun i j => i - j
  | _ => fun _ _ _ _ => False
theorem ip_aug : ∀ o : Op, PIp X (opA o) (rAug o)
  | .add => ip_add
  | .sub => ip_sub
  | .mul => fun _ _ _ _ _ _ _ _ _ _ _ _ h => h.elim
  | .fdiv => fun _ _ _ _ _ _ _ _ _ _ _ _ h => h.elim
  | .mod => fun _ _ _ _ _ _ _ _ _ _ _ _ h => h.elim
  | .pow => fun _ _ _ _ _ _ _ _ _ _ _ _ h => h.elim
  | .shl => fun _ _ _ _ _ _ _ _ _ _ _ _ h => h.elim
theorem sp_aug {i : Nat} {x : Str} {px : Pos} (op : Op) (hf : i ∉ κ.fx.map (·.1)) (hN : X.N.Nodup) (h : Stores X i x) (he : PE X e (eE X κ B fe me)) :
    PS X (.AugAssign (.Name x px) (opA op) e pos) (eS X κ B fun l st => optR (l[i]?) fun o => optR o fun x => (me l st).bind fun y st => .ofOpt ((augD op x y).map fun d => .nx (l.set i (some d))) st) :=
  PS.imp (ps_aug hN h.1 h.2.1 he (ip_aug op) h.2.2) fun D σ H ⟨ρ, l, st, at0, q⟩ => by
    dsimp only at q
    cases hl : l[i]? with
    | none => rw [hl] at q; exact q.elim
    | some o =>
      cases o with
      | none => rw [hl] at q; exact q.elim
      | some d =>
        rw [hl] at q
        obtain ⟨v, e1, r⟩ := at0.loc.2.1 i d hl
        refine ⟨v, e1, ρ, l, st, at0, EndS.bind (show EndS (Cx.kit X κ) (B σ) ρ H ((me l st).bind fun y st => Res.ofOpt ((augD op d y).map fun d => .nx (l.set i (some d))) st) D from q) fun d2 st1 ρ1 v2 H1 x1 s1 r1 q1 => ?_⟩
        have r' := r.mono at0.sim x1
        have hi : i < l.length := (List.getElem?_eq_some_iff.mp hl).1
        have at1 := at0.go x1 s1
        cases ha : augD op d d2 with
        | none => rw [ha] at q1; exact q1.elim
        | some d3 =>
          rw [ha] at q1
          have fin : RelD (Cx.kit X κ) ρ1 H1 d3 = RelD (Cx.kit X κ) ρ1 H1 d3 := rfl
          cases op with
          | add =>
            obtain ⟨a, b, m, rfl, rfl, e2, rfl⟩ := ints2_rel (st := st1) r' r1.1 ha
            cases e2
            exact ⟨a, b, rfl, rfl, q1 ρ1 _ H1 (Ext.refl _ _) ⟨s1, ((at1.loc.ex [i]).set (.int _) hi hf).nil, at1.en⟩⟩
          | sub =>
            obtain ⟨a, b, m, rfl, rfl, e2, rfl⟩ := ints2_rel (st := st1) r' r1.1 ha
            cases e2
            exact ⟨a, b, rfl, rfl, q1 ρ1 _ H1 (Ext.refl _ _) ⟨s1, ((at1.loc.ex [i]).set (.int _) hi hf).nil, at1.en⟩⟩
          | _ => cases ha
/-! ### o[i] = e -/
theorem set_all (hu : X.A.units + 1 < cLine) : PSet X (fun o i v H Q => rSetL o i v H Q ∨ rSetD o i v H Q) := by
  intro pins s σ H o i v ov iv u Q I ro ri rv h
  rcases h with h | h
  · exact set_list pins s σ H o i v ov iv u Q I ro ri rv h
  · exact set_dict hu pins s σ H o i v ov iv u Q I ro ri rv h
theorem putK_rel {K : Kit} {ρ : Rho} {H : Hp} {k : DKey} {d : D} {v : V} (r : RelD K ρ H d v) {xs : List (DKey × D)} {vs : List (Key × V)} (h : RelKs K ρ H xs vs) : RelKs K ρ H (Pm.putK k d xs) (L2.putK vs (keyK k) v) := by
  have hdec : ∀ a : DKey, decide (keyK a = keyK k) = decide (a = k) := fun a => by
    by_cases e : a = k
    · subst e; simp
    · rw [decide_eq_false e, decide_eq_false fun z => e (keyK_inj z)]
  have hany : ∀ {xs : List (DKey × D)} {vs : List (Key × V)}, RelKs K ρ H xs vs → (vs.any fun kv => decide (kv.1 = keyK k)) = xs.any fun p => decide (p.1 = k) := by
    intro xs vs h
    induction xs generalizing vs with
    | nil => cases h; rfl
    | cons p xs ih =>
      cases h with
      | cons h1 h2 => rw [List.any_cons, List.any_cons, ih h2, hdec]
  have hmap : ∀ {xs : List (DKey × D)} {vs : List (Key × V)}, RelKs K ρ H xs vs → RelKs K ρ H (xs.map fun p => if p.1 = k then (p.1, d) else p) (vs.map fun kv => if kv.1 = keyK k then (kv.1, v) else kv) := by
    intro xs vs h
    induction xs generalizing vs with
    | nil => cases h; exact .nil
    | cons p xs ih =>
      cases h with
      | @cons a d' _ v' _ h1 h2 =>
        rw [List.map_cons, List.map_cons]
        by_cases e : a = k
        · subst e
          rw [if_pos rfl, if_pos rfl]
          exact .cons r (ih h2)
        · rw [if_neg e, if_neg fun z => e (keyK_inj z)]
          exact .cons h1 (ih h2)
  have happ : ∀ {xs : List (DKey × D)} {vs : List (Key × V)}, RelKs K ρ H xs vs → RelKs K ρ H (xs ++ [(k, d)]) (vs ++ [(keyK k, v)]) := by
    intro xs vs h
    induction xs generalizing vs with
    | nil => cases h; exact .cons r .nil
    | cons p xs ih =>
      cases h with
      | cons h1 h2 => exact .cons h1 (ih h2)
  unfold Pm.putK L2.putK
  rw [hany h]
  split
  · exact hmap h
  · exact happ h
theorem sp_sub {p : Pos} (hu : X.A.units + 1 < cLine) (hn : notComp e = true) (hix : plainIx i = true) (ho : PE X o (eE X κ B fo mo)) (hi : PE X i (eE X κ B fi mi)) (he : PE X e (eE X κ B fe me)) :
    PS X (.Assign [.Subscript o i p] e pos) (eS X κ B fun l st => (me l st).bind fun d st => (mo l st).bind fun x st => (mi l st).bind fun k st => subD x k d l st) := by
  have hg : PG X (.Subscript o i p) (gSub (eE X κ B fo mo) (eE X κ B fi mi) fun o i v H Q => rSetL o i v H Q ∨ rSetD o i v H Q) := pg_sub ho hi (set_all hu) (by intro v; cases i <;> first | rfl | cases hix)
  refine PS.imp (ps_asg he hg (notComp_sole hn _ _ _) (swp_other rfl _) rfl) fun D σ H ⟨ρ, l, st, at0, q⟩ => ⟨ρ, l, st, at0, EndS.bind q fun d st1 ρ1 v H1 x1 s1 r1 q1 =>
    ⟨ρ1, l, st1, at0.go x1 s1, EndS.bind q1 fun x st2 ρ2 vx H2 x2 s2 r2 q2 => ⟨ρ2, l, st2, (at0.go x1 s1).go x2 s2, EndS.bind q2 fun k st3 ρ3 vk H3 x3 s3 r3 q3 => ?_⟩⟩⟩
  have rd := (r1.1.mono s1 x2).mono s2 x3
  have rx := r2.1.mono s2 x3
  have rk := r3.1
  have at3 := ((at0.go x1 s1).go x2 s2).go x3 s3
  unfold subD at q3
  split at q3
  · rename_i n
    split at q3
    · rename_i xs hs
      obtain ⟨a, ws, rfl, h1, h2, h3⟩ := ref_lst s3 rx hs
      cases k with
      | int k =>
        cases rk
        simp only [asInt] at q3
        cases hp : place xs.length k with
        | none => rw [hp] at q3; exact q3.elim
        | some j =>
          rw [hp] at q3
          refine .inl ⟨a, ws, k, j, rfl, rfl, h2, by rw [← place_eq, ← h3.length]; exact hp, ?_⟩
          have hs' := set_lst s3 h1 h2 (h3.set rd j)
          exact q3 ρ3 σ _ (ext_upd s3 h1 h2 (by intro ps z; cases z)) ⟨hs', at3.loc.mono s3 (ext_upd s3 h1 h2 (by intro ps z; cases z)), fun p hp => (at3.en p hp).trans (ext_upd s3 h1 h2 (by intro ps z; cases z))⟩
      | _ => exact q3.elim
    · rename_i kvs hs
      obtain ⟨a, ws, rfl, h1, h2, h3⟩ := ref_dct s3 rx hs
      cases hk : asKey k with
      | none => rw [hk] at q3; exact q3.elim
      | some kk =>
        rw [hk] at q3
        simp only [optR] at q3
        split at q3
        · rename_i hz
          have e := asKey_rel rk hk
          subst e
          have hs' := set_dct s3 h1 h2 (putK_rel (k := kk) rd h3)
          refine .inr ⟨a, _, rfl, DPut.k h2 (by rw [← h3.length, SL_eq]; exact hz), ?_⟩
          exact q3 ρ3 σ _ (ext_upd s3 h1 h2 (by intro ps z; cases z)) ⟨hs', at3.loc.mono s3 (ext_upd s3 h1 h2 (by intro ps z; cases z)), fun p hp => (at3.en p hp).trans (ext_upd s3 h1 h2 (by intro ps z; cases z))⟩
        · exact q3.elim
    · exact q3.elim
  · exact q3.elim
end
end Pm

set_option Elab.async false
set_option linter.all false
set_option maxRecDepth 100000
set_option maxHeartbeats 2000000
/-! Ev18: loops, raise. -/
namespace Pm
open PySem PySem.Spec PyProof.Rows L2
set_option autoImplicit false

theorem turn_end {K : Kit} {Bx : XW} {B : L2.St → XW} {ρ : Rho} {H : Hp} {r : Res Flow} {k : Loc → Store → Res Flow} {D : Ends} (hB : ∀ σ, B σ = Bx) (h : EndS K Bx ρ H (r.bind fun f st => f.turn (fun l => k l st) st) D) :
    EndS K Bx ρ H r { D with nx := fun σ H => tS K B k D σ H, ct := fun σ H => tS K B k D σ H, bk := D.nx } := by
  cases r with
  | ok f st' =>
    cases f with
    | nx l => exact fun ρ' σ' H' y at1 => ⟨ρ', l, st', at1, by rw [hB]; exact EndS.mono (show EndS K Bx ρ H (k l st') D from h) y⟩
    | ct l => exact fun ρ' σ' H' y at1 => ⟨ρ', l, st', at1, by rw [hB]; exact EndS.mono (show EndS K Bx ρ H (k l st') D from h) y⟩
    | rt d => exact h
    | bk l => exact h
  | exc c fs st' => exact h
  | bad => exact h
theorem forL_cons (t : T) (body : Loc → Store → Res Flow) (x : D) (xs : List D) (l : Loc) (st : Store) :
    forL t body (x :: xs) l st = optR (setT t x l) fun l' => (body l' st).bind fun f st => f.turn (fun l => forL t body xs l st) st := rfl
theorem whlL_succ (tst : Loc → Store → Res Bool) (body : Loc → Store → Res Flow) (n : Nat) (l : Loc) (st : Store) :
    whlL tst body (n + 1) l st = (tst l st).bind fun b st => ifB b ((body l st).bind fun f st => f.turn (fun l => whlL tst body n l st) st) (.ok (.nx l) st) := rfl

section
variable {X : Cx} {κ : Kx} {B : L2.St → XW} {c : Expr} {mc : Loc → Store → Res Bool} {mI : Loc → Store → Res (List D)} {mb : Loc → Store → Res Flow} {pos : Pos} {body : List Stmt}
theorem sp_for {t : T} {tg iter : Expr} (hB : ∀ σ σ', B σ = B σ') (hp : PassesOwn (model X.prog X.w) X.A X.env X.xe) (hc : X.calm = true) (hi : PI X tg iter (eI X κ B mI)) (hg : PG X tg (gT (Cx.kit X κ) t)) (hb : PSs X body (eS X κ B mb)) (hs : noSet iter = true) :
    PS X (.For tg iter body [] pos) (eS X κ B fun l st => (mI l st).bind fun xs st => forL t mb xs l st) :=
  PS.imp (ps_for hp hc hi hg hb (noSet_it hs _)) fun D σ0 H ⟨ρ, l, st, at0, q⟩ => ⟨ρ, l, st, at0, EndS.bind q fun xs st1 ρ1 J H1 x1 s1 f1 q1 => by
    refine ⟨fun i m σ H' => m = xs.length - i ∧ i ≤ xs.length ∧ ∃ ρ' l' st', Ext κ.h ρ1 H1 ρ' H' ∧ At (Cx.kit X κ) ρ' H' l' σ st' ∧ EndS (Cx.kit X κ) (B σ0) ρ' H' (forL t mb (xs.drop i) l' st') D,
      ⟨xs.length, by simp, Nat.zero_le _, ρ1, l, st1, Ext.refl _ _, at0.go x1 s1, by simpa using q1⟩, ?_⟩
    rintro i m σ H' ⟨rfl, hi, ρ', l', st', x, at1, e⟩
    have f := f1 κ ρ' st' H' (Later.of_ext s1 x) at1.sim i
    by_cases hlt : i < xs.length
    · rw [List.drop_eq_getElem_cons hlt, forL_cons] at e
      refine .inr ⟨(f.1 _ (List.getElem?_eq_getElem hlt)).1, fun σ' H'' => tS (Cx.kit X κ) B (fun l st => forL t mb (xs.drop (i + 1)) l st) D σ' H'' ∧ ∃ ρ'' l'' st'', Ext κ.h ρ1 H1 ρ'' H'' ∧ At (Cx.kit X κ) ρ'' H'' l'' σ' st'' ∧ EndS (Cx.kit X κ) (B σ0) ρ'' H'' (forL t mb (xs.drop (i + 1)) l'' st'') D, fun σ' H'' w => ?_, fun x0 H2 hy => ?_⟩
      · obtain ⟨_, ρ'', l'', st'', x', at', e'⟩ := w
        exact ⟨xs.length - (i + 1), by omega, rfl, by omega, ρ'', l'', st'', x', at', e'⟩
      · obtain ⟨x2, s2, r2⟩ := (f.1 _ (List.getElem?_eq_getElem hlt)).2 x0 H2 hy
        cases hset : setT t xs[i] l' with
        | none => rw [hset] at e; exact e.elim
        | some l2 =>
          rw [hset] at e
          have e2 : EndS (Cx.kit X κ) (B σ0) ρ' H2 ((mb l2 st').bind fun f st => f.turn (fun l => forL t mb (xs.drop (i + 1)) l st) st) D := EndS.mono e x2
          refine ⟨ρ', l', st', xs[i], l2, s2, (at1.loc.mono at1.sim x2).ex _, r2, hset, fun σ' rl _ _ => ⟨ρ', l2, st', ⟨s2, rl, fun p hp => (at1.en p hp).trans x2⟩, ?_⟩⟩
          have xx := x.trans x2
          have e3 : EndS (Cx.kit X κ) (B σ') ρ' H2 ((mb l2 st').bind fun f st => f.turn (fun l => forL t mb (xs.drop (i + 1)) l st) st) D := by rw [hB σ' σ0]; exact e2
          cases hr : mb l2 st' with
          | bad => rw [hr] at e3; exact e3
          | exc c fs st2 => rw [hr] at e3; exact e3
          | ok f st2 =>
            rw [hr] at e3
            have go : ∀ l3, EndS (Cx.kit X κ) (B σ') ρ' H2 (forL t mb (xs.drop (i + 1)) l3 st2) D → ∀ ρ'' σ'' H'', Ext κ.h ρ' H2 ρ'' H'' → At (Cx.kit X κ) ρ'' H'' l3 σ'' st2 →
                (tS (Cx.kit X κ) B (fun l st => forL t mb (xs.drop (i + 1)) l st) D σ'' H'' ∧ ∃ ρ'' l'' st'', Ext κ.h ρ1 H1 ρ'' H'' ∧ At (Cx.kit X κ) ρ'' H'' l'' σ'' st'' ∧ EndS (Cx.kit X κ) (B σ0) ρ'' H'' (forL t mb (xs.drop (i + 1)) l'' st'') D) := fun l3 z ρ'' σ'' H'' y a => by
              have z' := EndS.mono z y
              exact ⟨⟨ρ'', l3, st2, a, by rw [hB σ'' σ']; exact z'⟩, ρ'', l3, st2, xx.trans y, a, by rw [hB σ0 σ']; exact z'⟩
            cases f with
            | nx l3 => exact go l3 e3
            | ct l3 => exact go l3 e3
            | rt d => exact e3
            | bk l3 => exact e3
    · have ee : i = xs.length := by omega
      subst ee
      rw [List.drop_length] at e
      exact .inl ⟨f.2 (List.getElem?_eq_none (Nat.le_refl _)), e ρ' σ H' (Ext.refl _ _) at1⟩⟩
theorem sp_whl {n : Nat} (hB : ∀ σ σ', B σ = B σ') (hp : PassesOwn (model X.prog X.w) X.A X.env X.xe) (hc : PT X c (eT X κ B mc)) (hb : PSs X body (eS X κ B mb)) :
    PS X (.While c body [] pos) (eS X κ B fun l st => whlL mc mb n l st) :=
  PS.imp (ps_while hp hc hb) fun D σ0 H ⟨ρ, l, st, at0, q⟩ => by
    refine ⟨fun m σ H' => ∃ ρ' l' st', At (Cx.kit X κ) ρ' H' l' σ st' ∧ EndS (Cx.kit X κ) (B σ0) ρ' H' (whlL mc mb m l' st') D, ⟨n, ρ, l, st, at0, q⟩, ?_⟩
    rintro m σ H' ⟨ρ', l', st', at1, e⟩
    cases m with
    | zero => exact e.elim
    | succ m =>
      rw [whlL_succ] at e
      refine ⟨ρ', l', st', at1, ?_⟩
      rw [hB σ σ0]
      refine EndS.bind e fun b st2 ρ2 b' H2 x2 s2 r2 e2 => ?_
      cases r2
      have at2 := at1.go x2 s2
      cases b with
      | false =>
        rw [if_neg (by decide)]
        exact e2 ρ2 σ H2 (Ext.refl _ _) at2
      | true =>
        rw [if_pos rfl]
        refine ⟨fun σ' H'' => ∃ ρ' l' st', At (Cx.kit X κ) ρ' H'' l' σ' st' ∧ EndS (Cx.kit X κ) (B σ0) ρ' H'' (whlL mc mb m l' st') D, fun σ' H'' w => ⟨m, Nat.lt_succ_self _, w⟩, ρ2, l', st2, at2, ?_⟩
        have e3 : EndS (Cx.kit X κ) (B σ) ρ2 H2 ((mb l' st2).bind fun f st => f.turn (fun l => whlL mc mb m l st) st) D := by rw [hB σ σ0]; exact e2
        cases hr : mb l' st2 with
        | bad => rw [hr] at e3; exact e3
        | exc c fs st3 => rw [hr] at e3; exact e3
        | ok f st3 =>
          rw [hr] at e3
          have go : ∀ l3, EndS (Cx.kit X κ) (B σ) ρ2 H2 (whlL mc mb m l3 st3) D → ∀ ρ'' σ'' H'', Ext κ.h ρ2 H2 ρ'' H'' → At (Cx.kit X κ) ρ'' H'' l3 σ'' st3 →
              ∃ ρ' l' st', At (Cx.kit X κ) ρ' H'' l' σ'' st' ∧ EndS (Cx.kit X κ) (B σ0) ρ' H'' (whlL mc mb m l' st') D := fun l3 z ρ'' σ'' H'' y a =>
            ⟨ρ'', l3, st3, a, by rw [hB σ0 σ]; exact EndS.mono z y⟩
          cases f with
          | nx l3 => exact go l3 e3
          | ct l3 => exact go l3 e3
          | rt d => exact e3
          | bk l3 => exact e3
/-! ### raise C() -/
theorem pmk_own0 {C : Addr} {bmB : List Value} {Bs newId initId : String} {x : Str} {p : Pos} (F : ExcBaseFacts Bs newId initId bmB) (q : PySem.W.excIn X.K C bmB newId = true) (gC : X.mg x = some (.ref C))
    (kC : PySem.W.keepIn X.K (.ref C) = true) (r : Raises X (.ref C)) (hg : Gl X x) (hdb : (x == ("__debug__" : Str)) = false) : PMk X (.Call (.Name x p) [] [] pos) (fun _ H Q => Q (.ref C) none H) := by
  intro pins s σ H Q I h
  refine wpAny_Call_Name_kw (ld_glob I hg gC ?_ hdb)
  refine PySem.W.callWith_K0 I.kIn kC ?_
  show wpAny _ _ (call (.ref C) []) _ _ _
  obtain ⟨hp1, g1, d1, tk1, os1⟩ := s
  obtain ⟨bm, N, nm, qn, bs, hdct, sn, sub, ab, col, dd, k0, k1, k2, k3, k5, mN, hC, hN, hni, T⟩ := exc_obj I.kIn q
  refine wpAny_call_exc_subT F T hC hN hni (fun h' e hm => ?_) (Nat.zero_le _)
  exact mk_of I hm r h (I.hok.gone hm.new)
theorem sp_rse {C : Nat} {bmB : List Value} {Bs newId initId : String} {x : Str} {p p2 : Pos} {W : WX} (F : ExcBaseFacts Bs newId initId bmB) (q : PySem.W.excIn X.K (κ.cl C) bmB newId = true) (gC : X.mg x = some (.ref (κ.cl C)))
    (kC : PySem.W.keepIn X.K (.ref (κ.cl C)) = true) (r : Raises X (.ref (κ.cl C))) (hg : Gl X x) (hdb : (x == ("__debug__" : Str)) = false) (hc : X.calm = true) (tk : Takes X W) (hW : ∀ σ c d H, B σ c d H → W (.ref (κ.cl c)) d σ H) :
    PS X (.Raise (some (.Call (.Name x p) [] [] p2)) none pos) (eS X κ B fun _ st => .exc C [] st) :=
  PS.imp (ps_raise hc tk (pmk_own0 F q gC kC r hg hdb)) fun D σ H ⟨ρ, l, st, at0, q⟩ => hW σ C none H (q ρ H none (Ext.refl _ _) at0.sim ⟨rfl, rfl⟩)
end
end Pm

set_option Elab.async false
set_option linter.all false
set_option maxRecDepth 100000
set_option maxHeartbeats 2000000
/-! Ev19: another frame; try. -/
namespace Pm
open PySem PySem.Spec PyProof.Rows L2
set_option autoImplicit false

/-! ### the frame's other facts are nothing to the data -/
section
variable {κ κ' : Kx} {F : PySem.W.Frag} {ρ : Rho} {H : Hp} {st : Store}
mutual
theorem RelD.kit (hh : κ.h = κ'.h) : ∀ {d : D} {v : V}, RelD ⟨κ, F⟩ ρ H d v → RelD ⟨κ', F⟩ ρ H d v
  | _, _, .non => .non
  | _, _, .bl b => .bl b
  | _, _, .int i => .int i
  | _, _, .str y => .str y
  | _, _, .tup h r => .tup h (RelDs.kit hh r)
  | _, _, .lst h n r => .lst h n (RelDs.kit hh r)
  | _, _, .dct h n r => .dct h n (RelKs.kit hh r)
  | _, _, .scr h => .scr h
  | _, _, @RelD.ref _ _ _ n a h => .ref (show ρ[κ'.h + n]? = _ by rw [← hh]; exact h)
  | _, _, @RelD.dead _ _ _ n v h => .dead (show ρ[κ'.h + n]? = _ by rw [← hh]; exact h)
theorem RelDs.kit (hh : κ.h = κ'.h) : ∀ {ds : List D} {vs : List V}, RelDs ⟨κ, F⟩ ρ H ds vs → RelDs ⟨κ', F⟩ ρ H ds vs
  | _, _, .nil => .nil
  | _, _, .cons h r => .cons (RelD.kit hh h) (RelDs.kit hh r)
theorem RelKs.kit (hh : κ.h = κ'.h) : ∀ {ds : List (DKey × D)} {vs : List (Key × V)}, RelKs ⟨κ, F⟩ ρ H ds vs → RelKs ⟨κ', F⟩ ρ H ds vs
  | _, _, .nil => .nil
  | _, _, .cons h r => .cons (RelD.kit hh h) (RelKs.kit hh r)
end
theorem RelOb.kit (hh : κ.h = κ'.h) {ob : Ob} {a : Addr} (r : RelOb ⟨κ, F⟩ ρ H ob a) : RelOb ⟨κ', F⟩ ρ H ob a := by
  cases ob with
  | lst ds => obtain ⟨vs, h1, h2⟩ := r; exact ⟨vs, h1, h2.kit hh⟩
  | dct ds => obtain ⟨vs, h1, h2⟩ := r; exact ⟨vs, h1, h2.kit hh⟩
  | dead => exact r
  | ins _ _ => exact r
theorem Sim.kit (hh : κ.h = κ'.h) (hT : κ'.T = κ.T) (s : Sim ⟨κ, F⟩ ρ st H) (hc : ∀ p ∈ κ'.cd, H p.1 = some p.2 ∧ ∃ φ, p.2 = HO.ext φ) : Sim ⟨κ', F⟩ ρ st H where
  len := by have := s.len; rw [this]; show κ.h + _ = κ'.h + _; rw [hh]
  inj := s.inj
  ob := fun n o e => by
    rcases s.ob n o e with ⟨q, e1⟩ | ⟨a, e1, r⟩
    · exact .inl ⟨q, show ρ[κ'.h + n]? = _ by rw [← hh]; exact e1⟩
    · exact .inr ⟨a, (show ρ[κ'.h + n]? = _ by rw [← hh]; exact e1), r.kit hh⟩
  hd := fun n a hn e => s.hd n a (show n < κ.h by rw [hh]; exact hn) e
  tab := by show LamX.Tabs κ'.T H; rw [hT]; exact s.tab
  cd := hc
end

section
variable {X : Cx} {κ : Kx} {c i : Nat} {x n : Str} {body suite : List Stmt} {b₀ : Stmt} {np pos pos' : Pos} {mb : Loc → Store → Res Flow} {mh : Nat → Loc → Store → Res Flow} {Wout : WX} {P : Par}
abbrev Kx.put (κ : Kx) (i : Nat) (a : Addr) : Kx := { κ with fx := (i, a) :: κ.fx }
theorem clear_rel {K : Kit} {ρ : Rho} {H : Hp} {l : Loc} {σ : L2.St} {i : Nat} {a : Addr} {κ : Kx} {F : PySem.W.Frag} (hf : i ∉ κ.fx.map (·.1)) (r : RelL ⟨κ.put i a, F⟩ ρ H l σ) : RelL ⟨κ, F⟩ ρ H (l.set i none) (σ.set i none) := by
  refine ⟨by rw [List.length_set, List.length_set]; exact r.1, fun j d e => ?_, fun p hp => ?_⟩
  · by_cases hij : i = j
    · subst hij
      rw [List.getElem?_set] at e
      simp at e
    · rw [List.getElem?_set_ne hij] at e
      obtain ⟨v, h1, h2⟩ := r.2.1 j d e
      exact ⟨v, by rw [List.getElem?_set_ne hij]; exact h1, h2.kit (κ := κ.put i a) (κ' := κ) rfl⟩
  · have hpi : i ≠ p.1 := fun z => hf (by rw [z]; exact List.mem_map_of_mem hp)
    rw [List.getElem?_set_ne hpi]
    exact r.2.2 p (List.mem_cons_of_mem _ hp)
theorem put_rel {ρ : Rho} {H : Hp} {l : Loc} {σ : L2.St} {i : Nat} {a : Addr} {κ : Kx} {F : PySem.W.Frag} (hi : i < σ.length) (hf : i ∉ κ.fx.map (·.1)) (r : RelL ⟨κ, F⟩ ρ H l σ) : RelL ⟨κ.put i a, F⟩ ρ H (l.set i none) (σ.set i (some (.ref a))) := by
  refine ⟨by rw [List.length_set, List.length_set]; exact r.1, fun j d e => ?_, fun p hp => ?_⟩
  · by_cases hij : i = j
    · subst hij
      rw [List.getElem?_set] at e
      simp at e
    · rw [List.getElem?_set_ne hij] at e
      obtain ⟨v, h1, h2⟩ := r.2.1 j d e
      exact ⟨v, by rw [List.getElem?_set_ne hij]; exact h1, h2.kit (κ := κ) (κ' := κ.put i a) rfl⟩
  · rcases List.mem_cons.mp hp with e | e
    · subst e
      exact List.getElem?_set_self hi
    · have hpi : i ≠ p.1 := fun z => hf (by rw [z]; exact List.mem_map_of_mem e)
      rw [List.getElem?_set_ne hpi]
      exact r.2.2 p e
theorem sp_try (hs : X.stack = X.env :: X.outer) (hf : X.env.frame = some X.env.locals) (hN : X.N.Nodup) (hi : X.N[i]? = some n) (hln : X.env.kindOf n = some .local) (hc : Names X x (.ref (κ.cl c))) (tk : Takes X Wout)
    (hfx : i ∉ κ.fx.map (·.1)) (hex : ∀ k, k < P.ncl → PySem.W.exmOne X.K (.ref (κ.cl k)) (.ref (κ.cl c)) = some ((P.anc k).contains c))
    (hb : ∀ (W : WX) (pn : List (Addr × Obj)) (xe : Value → Shared → Prop), Takes (X.tr pn xe) W → PassesOwn (model X.prog X.w) X.A X.env xe → PSs (X.tr pn xe) body (eS X κ (BXs κ (WE W)) mb))
    (hsu : ∀ (a : Addr) (oe : Obj) (k : Nat) (pn : List (Addr × Obj)), k < P.ncl → Zc (.ref (κ.cl k)) none oe → (∃ vs, oe.data = .fields vs) → PSs (X.suite a ((a, oe) :: pn)) (b₀ :: suite) (eS X (κ.put i a) B0 (mh k))) :
    PS X (.Try body [.ExceptHandler (some (.Name x np)) (some n) (b₀ :: suite) pos'] [] [] pos)
      (eS X κ (BXs κ (WE Wout)) fun l st => (mb l st).tried (P.catches c) fun k st => ((mh k (l.set i none) st).calm).bind fun f st => f.out i st) := by
  have hrule := ps_try_as (pos := pos) (pos' := pos') (np := np) (tb := fun W => eS X κ (BXs κ (WE W)) mb) (ts := fun a cls d D σ H => ∃ k, k < P.ncl ∧ cls = .ref (κ.cl k) ∧ d = none ∧ eS X (κ.put i a) B0 (mh k) D σ H) hs hf hN hi hln hc tk hb (suite := suite) (b₀ := b₀) fun a oe cls d pn hz hv => ⟨fun pins s σ H D I ⟨k, hk, e1, e2, h⟩ => by
    subst e1 e2
    exact (hsu a oe k pn hk hz hv).run pins s σ H D I h⟩
  refine ⟨fun pins s σ H D I ⟨ρ, l, st, at0, q⟩ => hrule.run pins s σ H D I ⟨ρ, l, st, at0, ?_⟩⟩
  · dsimp only at q
    have hil : i < σ.length := by rw [I.len]; exact (List.getElem?_eq_some_iff.mp hi).1
    cases hr : mb l st with
    | bad => rw [hr] at q; exact q
    | ok f st1 => rw [hr] at q; cases f <;> exact q
    | exc k fs st1 =>
      rw [hr] at q
      intro ρ' H' dx x1 s1 hx
      obtain ⟨hfs, hdx⟩ := hx
      subst hdx
      simp only [Res.tried] at q
      cases hca : P.catches c k with
      | none => rw [hca] at q; exact q.elim
      | some b =>
        rw [hca] at q
        unfold Par.catches at hca
        split at hca
        · rename_i hk
          cases hca
          refine ⟨_, hex k hk, fun hbt a hn => ⟨k, hk, rfl, rfl, ρ', l.set i none, st1, ⟨s1.kit (κ := κ) (κ' := κ.put i a) rfl rfl s1.cd, put_rel hil hfx (at0.go x1 s1).loc, (at0.go x1 s1).en⟩, ?_⟩, fun hbf => ?_⟩
          · rw [hbt] at q
            have q' := EndS.mono (show EndS (Cx.kit X κ) (BXs κ (WE Wout) σ) ρ H (((mh k (l.set i none) st1).calm).bind fun f st => f.out i st) D from q) x1
            cases hm : mh k (l.set i none) st1 with
            | bad => rw [hm] at q'; exact q'
            | exc k2 fs2 st2 => rw [hm] at q'; exact q'.elim
            | ok f st2 =>
              rw [hm] at q'
              cases f with
              | nx l2 => exact fun ρ2 σ2 H2 x2 a2 => q' ρ2 _ H2 x2 ⟨a2.sim.kit (κ := κ.put i a) (κ' := κ) rfl rfl a2.sim.cd, clear_rel (K := Cx.kit X κ) hfx a2.loc, a2.en⟩
              | rt d => exact fun ρ2 v H2 x2 s2 r2 => q' ρ2 v H2 x2 (s2.kit (κ := κ.put i a) (κ' := κ) rfl rfl s2.cd) (r2.kit (κ := κ.put i a) (κ' := κ) rfl)
              | bk l2 => exact q'.elim
              | ct l2 => exact q'.elim
          · rw [hbf] at q
            exact q ρ' H' none x1 s1 ⟨hfs, rfl⟩
        · cases hca
end
end Pm

set_option Elab.async false
set_option linter.all false
set_option maxRecDepth 100000
set_option maxHeartbeats 2000000
/-! Ev20: a lambda handed to a def; the def calls it. -/
namespace Pm
open PySem PySem.Spec PyProof.Rows L2 LamX
set_option autoImplicit false

/-! ### the call of what was handed -/
section
variable {X : Cx} {s s1 : Shared} {σ : L2.St} {H HZ : Hp} {pins : List (Addr × Obj)}
/-- x(), in the def that got the lambda; what goes out may tell of the def's slots -/
theorem act_at {CXg : CXT} {Ex1 : XK} {Ng : List Str} {qg : Str} {sg : Scope} {g f c' : Addr} {cdg pm ctv : Value} {params : Arguments} {body : Expr} {scope : Scope} {k i : Nat} {a : Str} {pn : List (Addr × Obj)} {xe : Value → Shared → Prop} {W : WX} {t : XK → TE} {p1 pb2 : Pos}
    (I : L2.Inv X pins σ H s) (L : LamS X.env.scope scope) (hf : s.heap.get? f = some (PySem.W.kla_obj "<lambda>" (X.env.qual ++ "<lambda>") params body scope (cloFrom X.env.cells scope.names []) pm c' ctv)) (hfn : H f = none) (hfr : f ∉ frs X.stack)
    (hbnd : bindArgs (PySem.W.kla_fn "<lambda>" (X.env.qual ++ "<lambda>") params body scope (cloFrom X.env.cells scope.names []) pm (.ref c') ctv) ⟨[], []⟩ = pure [])
    (tk : Takes ((cxOf CXg X.prog X.w X.K X.mg X.base Ng qg sg g cdg X.A X.stack s H Ex1).tr pn xe) W) (hr : Room (k + 1) (X.A.deeper (envOfC qg sg s.heap.objs.size g cdg)))
    (hbod : ∀ (A : Around) (outer : List Env) (s : Shared) (H : Hp) (E : XK), Room k (A.deeper (lamEnv X scope s.heap.objs.size f c')) → PE (lamCx X A outer s H E scope f c') body (t E))
    (hN : Ng[i]? = some a) (hv : Vis sg a) (hd : (a == ("__debug__" : Str)) = false) (hcd : (a == ("__classdict__" : Str)) = false) :
    PE ((cxOf CXg X.prog X.w X.K X.mg X.base Ng qg sg g cdg X.A X.stack s H Ex1).tr pn xe) (.Call (.Name a p1) [] [] pb2)
      (fun σZ HZ Q => σZ[i]? = some (some (.ref f)) ∧ HZ c' = some (CodeO c' (X.env.qual ++ "<lambda>")) ∧ t (WE W σZ) σ HZ Q) := by
  refine ⟨fun pinsZ sZ σZ HZ Q IZ h => ?_⟩
  obtain ⟨hs, hc, ht⟩ := h
  refine wpAny_Call_Name_kw (thn ((pe_var (pos := p1) (i := i) hN hv hd hcd).run pinsZ sZ σZ HZ (fun v H1 => v = .ref f ∧ H1 = HZ) IZ ⟨.ref f, hs, rfl, rfl⟩) fun u s1 ⟨v, H1, I1, r1, ev, eH⟩ => ?_)
  subst ev
  rw [eH] at I1
  obtain rfl : u = Value.ref f := r1
  have ofd : s1.heap.get? f = some (PySem.W.kla_obj "<lambda>" (X.env.qual ++ "<lambda>") params body scope (cloFrom X.env.cells scope.names []) pm c' ctv) := I1.base.keep f _ hf hfn hfr (fun z => nomatch (show f ∈ ([] : List Addr) from z))
  refine PySem.W.callWith_F0 ⟨_, _, _, _, ofd⟩ ?_
  obtain ⟨⟨oc, vs, t0, hoc, hdc, hvc⟩, _, _⟩ := I1.hok c' _ hc
  have hx : PassesAt (L2.CX X.prog X.w) ((cxOf CXg X.prog X.w X.K X.mg X.base Ng qg sg g cdg X.A X.stack s H Ex1).tr pn xe) σZ (WE W σZ) := passAt tk σZ
  have rcd : codeAny (model X.prog X.w) (X.A.deeper (envOfC qg sg s.heap.objs.size g cdg)) (.call (.ref f) ⟨[], []⟩) (CR (L2.CX X.prog X.w) (envOfC qg sg s.heap.objs.size g cdg :: X.stack) X.prog X.w HZ s1 Q (WE W σZ)) s1 := by
    refine PySem.W.kla_callFunE hr.depth ofd rfl L.co L.gen rfl ⟨c', oc, vs, t0, rfl, hoc, hdc, hvc⟩ ?_
    rw [hbnd]
    refine wpAny_pure (wpAny_newFunctionEnv (fun y hy => (L.own y hy).2) (fun y hy => absurd hy (by simp)) (fun hp1 hns hsb1 => ⟨I1.nolimit.fresh _ hsb1, ?_⟩) L.kind)
    change codeAny _ _ (.expr body (lamEnv X scope s1.heap.objs.size f c')) _ _
    have kps : ∀ b o, s1.heap.get? b = some o → hp1.get? b = some o := fun b o e => hsb1.extBut b o (Nat.ne_of_lt (Heap.lt_size e)) (Heap.get?_push_of_some _ e)
    have J : L2.Inv (lamCx X (X.A.deeper (envOfC qg sg s.heap.objs.size g cdg)) (envOfC qg sg s.heap.objs.size g cdg :: X.stack) s1 HZ (WE W σZ) scope f c') [] σ HZ { s1 with heap := hp1, toks := s1.toks + ([] : List (Str × Value)).length } :=
      lam_start2 I L I1.env0 hr.hd I1.base hns kps
    refine PySem.W.kla_codeExpr (wpAny_mono ((hbod _ _ s1 HZ (WE W σZ) (hr.deeper _)).run [] _ _ HZ Q J ht) (fun v s' hq => ?_) fun e s' hq => hq)
    obtain ⟨w', H', J', rv, q⟩ := hq
    exact ⟨w', H', J'.os, J'.bare, J'.base, J'.hok, rv, q⟩
  refine wpAny_call (codeAny_mono rcd fun r s' hq => ?_)
  · cases r with
    | error e => exact hx pinsZ HZ s1 e s' I1 hq
    | ok fl =>
      cases fl with
      | ret u => exact I1.after hq
      | next => exact False.elim hq
      | brk => exact False.elim hq
      | cont => exact False.elim hq
end

/-! ### x(lambda: body) -/
abbrev cxG (X : Cx) (Ng : List Str) (x : Str) (sg : Scope) (g : Addr) (cdg : Value) (s : Shared) (H : Hp) : Cx := cxOf C8.CX0 X.prog X.w X.K X.mg X.base Ng x sg g cdg X.A X.stack s H C8.E0
def Gives (kk : Nat) (X : Cx) (Ng : List Str) (x : Str) (sg : Scope) (g : Addr) (cdg : Value) (bg : List Stmt) (a q : Str) (TT : (XK → Hp → VK → Prop) → Hp → VK → Prop) : Prop :=
  ∀ (f c' : Addr) (s : Shared) (H : Hp) (Q : VK) (t : XK → Hp → VK → Prop),
    (∀ (W : WX) (pn : List (Addr × Obj)) (xe : Value → Shared → Prop) (p1 pb2 : Pos), Takes ((cxG X Ng x sg g cdg s H).tr pn xe) W →
      PE ((cxG X Ng x sg g cdg s H).tr pn xe) (.Call (.Name a p1) [] [] pb2) (fun σZ HZ Q => σZ[0]? = some (some (.ref f)) ∧ HZ c' = some (CodeO c' q) ∧ t (WE W σZ) HZ Q)) →
    H c' = some (CodeO c' q) → Room kk (X.A.deeper (envOfC x sg s.heap.objs.size g cdg)) → TT t H Q → ∃ u, PSs (cxG X Ng x sg g cdg s H).nox bg u ∧ u { nx := fun _ H' => Q .non H', rt := Q } (L2.start Ng [.ref f]) H
section
variable {X : Cx}
theorem lam_call {T : List (Addr × Str)} {TT : (XK → Hp → VK → Prop) → Hp → VK → Prop} {x a : Str} {g c P : Addr} {k : Nat} {pg : Arguments} {bg : List Stmt} {sg : Scope} {dV kV doc pm cdv ct oc : Value} {an od : Option Addr} {ols : Array (Option Value)} {Ng : List Str}
    {params : Arguments} {body : Expr} {scope : Scope} {t : XK → TE} {p lps ps0 : Pos} (hg : Gl X x) (hm : X.mg x = some (.ref g)) (hkp : PySem.W.keepIn X.K (.ref g) = true)
    (lkk : X.K.lookup g = some ⟨oc, od, .func (PySem.W.fnOf x x pg bg sg dV kV doc pm an cdv ct), ols⟩) (hcx : PySem.W.codeIn X.K cdv x = true) (hb : L2.Binds X.K (PySem.W.fnOf x x pg bg sg dV kV doc pm an cdv ct) [a] []) (Sg : FnScope Ng [a] sg) (hNg : Ng[0]? = some a) (hva : Vis sg a)
    (hG : Gives (k + 1) X Ng x sg g cdv bg a (X.env.qual ++ "<lambda>") TT)
    (tbb : TabB X.base X.mg c P) (hcode : X.env.code = .ref c) (hmt : (P, X.env.qual ++ "<lambda>") ∈ T) (hu : ∀ p ∈ T, p.1 = P → p.2 = X.env.qual ++ "<lambda>") (hr : Room (k + 2) X.A) (L : LamS X.env.scope scope) (hdef : defaultsOf params X.env = ([], []))
    (hbnd : ∀ (q : Str) (cl : List (Str × Addr)) (pm cv ctv : Value), bindArgs (PySem.W.kla_fn "<lambda>" q params body scope cl pm cv ctv) ⟨[], []⟩ = pure [])
    (hbod : ∀ (A : Around) (outer : List Env) (s : Shared) (H : Hp) (E : XK) (f c' : Addr), Room k (A.deeper (lamEnv X scope s.heap.objs.size f c')) → PE (lamCx X A outer s H E scope f c') body (t E))
    (hdb : (x == ("__debug__" : Str)) = false) (hd : (a == ("__debug__" : Str)) = false) (hcd : (a == ("__classdict__" : Str)) = false) :
    PE X (.Call (.Name x p) [.Lambda params body scope lps] [] ps0) (tLam T TT t) := by
  refine ⟨fun pins s σ H Q I ⟨hT, h⟩ => ?_⟩
  refine wpAny_Call_Name_kw (ld_glob I hg hm ?_ hdb)
  refine PySem.W.callWith_K (h₀ := X.base) I.ok.mod.kin hkp ?_ (by rfl) (by rfl)
  show wpAny _ _ (spliced ((false, eval (.Lambda params body scope lps) X.env) :: backTo ps0 (starEach [] X.env))) _ _ s
  refine Calls.spliced_cons (lam_make2 I tbb hcode hmt hu hT hdef (L.has I.ok) fun f c' pm' ctv H1 s' I1 eN T1 hf hfn hfr hco => ?_)
  refine Calls.spliced_nil ⟨I1.kIn, ?_⟩
  have rcd : codeAny (model X.prog X.w) X.A (.call (.ref g) ⟨[.ref f], []⟩) (CR C8.CX0 X.stack X.prog X.w H1 s' Q C8.E0) s' := by
    refine run_ofS (N := Ng) (ps := [a]) (us := [.ref f]) (vs := [.ref f]) lkk hcx Sg hr I1.env0 (hb s' [.ref f] I1.kIn rfl) (.cons rfl .nil) rfl fun hr' => ?_
    obtain ⟨t', ht', hq'⟩ := hG f c' s' H1 Q (fun E H' Q' => t E σ H' Q') (fun W pn xe p1 pb2 tk => act_at (i := 0) I1 L hf hfn hfr (hbnd _ _ _ _ _) tk hr' (fun A outer s H E hr2 => hbod A outer s H E f c' hr2) hNg hva hd hcd) hco hr' (h H1 eN T1)
    exact ⟨t', ht'.nox, hq'⟩
  refine wpAny_call (codeAny_mono rcd fun r s2 hq => ?_)
  cases r with
  | error e => exact (show False from hq).elim
  | ok fl =>
    cases fl with
    | ret u => exact I1.after hq
    | next => exact False.elim hq
    | brk => exact False.elim hq
    | cont => exact False.elim hq

variable {κ : Kx} {B : L2.St → XW}
/-- what the def is handed, as the evaluator tells it -/
def TTD (κ : Kx) (K : PySem.W.Frag) (mc : M → Store → Res D) : (XK → Hp → VK → Prop) → Hp → VK → Prop := fun tl H Q => ∃ ρ st th, Sim ⟨κ, K⟩ ρ st H ∧
  (∀ ρ2 st2 H2 E Q2, Ext κ.h ρ H ρ2 H2 → Sim ⟨κ, K⟩ ρ2 st2 H2 → EndG ⟨κ, K⟩ (BX κ E) (RE ⟨κ, K⟩ false) ρ2 H2 (th st2) Q2 → tl E H2 Q2) ∧
  EndG ⟨κ, K⟩ (fun _ _ _ => False) (RE ⟨κ, K⟩ false) ρ H (mc th st) Q
theorem ext_tab {K : Kit} {ρ : Rho} {st : Store} {H H1 : Hp} (s : Sim K ρ st H) (e : ExtN H H1) : Ext K.h ρ H ρ H1 where
  len := Nat.le_refl _
  old := fun _ _ => .inl rfl
  new := fun n a hn e => (by rw [List.getElem?_eq_none hn] at e; exact nomatch e)
  keep := fun a o h _ c => e a o h c
  dom := fun a f o h => by
    cases o with
    | tbl ps => exact ⟨ps, rfl⟩
    | _ => exact (f.no (e a _ h nofun) nofun).elim
  hid := fun n a hn h => ⟨h, fun o ho => by
    obtain ⟨u, h1, h2⟩ := s.hd n a hn h
    rw [h1] at ho
    cases ho
    exact e a _ h1 fun ps z => by rw [z] at h2; cases h2⟩
theorem sim_tab {K : Kit} {ρ : Rho} {st : Store} {H H1 : Hp} (s : Sim K ρ st H) (e : ExtN H H1) (t : Tabs K.T H1) : Sim K ρ st H1 where
  len := s.len
  inj := s.inj
  ob := fun n o h => by
    have x := ext_tab s e
    rcases s.ob n o h with q | ⟨a, e1, r⟩
    · exact .inl q
    · refine .inr ⟨a, e1, ?_⟩
      cases o with
      | lst ds => obtain ⟨vs, h1, h2⟩ := r; exact ⟨vs, e a _ h1 nofun, RelDs.mono s x h2⟩
      | dct ds => obtain ⟨vs, h1, h2⟩ := r; exact ⟨vs, e a _ h1 nofun, RelKs.mono s x h2⟩
      | dead => exact r
      | ins _ _ => exact r
  hd := fun n a hn h => by
    obtain ⟨u, h1, h2⟩ := s.hd n a hn h
    exact ⟨u, e a _ h1 (fun ps z => by rw [z] at h2; cases h2), h2⟩
  cd := fun p hp => by
    obtain ⟨h1, φ, h2⟩ := s.cd p hp
    exact ⟨e _ _ h1 (fun ps z => by rw [h2] at z; cases z), φ, h2⟩
  tab := t
/-- the end of a run where nothing goes out -/
theorem EndG.calm {α β : Type} {K : Kit} {B B' : XW} {R : Rho → Store → Hp → Hp → α → β → Prop} {ρ : Rho} {H : Hp} {r : Res α} {Q : β → Hp → Prop} (h : EndG K B R ρ H r.calm Q) : EndG K B' R ρ H r.calm Q := by
  cases r with
  | ok a st => exact h
  | exc c fs st => exact h.elim
  | bad => exact h
/-- the reading of x(lambda: ..) -/
theorem thk_read {T : List (Addr × Str)} {mc : M → Store → Res D} {mb : Loc → Store → Res D} (hT : κ.T = T) {fb : Bool} :
    ∀ σ H Q, eE X κ B false (fun l st => (mc (mb l) st).calm) σ H Q → tLam T (TTD κ X.K fun th st => (mc th st).calm) (fun E => tE ⟨κ, X.K⟩ (fun _ => BX κ E) fb mb) σ H Q := by
  subst hT
  intro σ H Q ⟨ρ, l, st, at0, q⟩
  refine ⟨at0.sim.tab, fun H1 e t => ⟨ρ, st, mb l, sim_tab at0.sim e t, fun ρ2 st2 H2 E Q2 x s2 q2 => ?_, EndG.calm (EndG.mono RE.back q (ext_tab at0.sim e))⟩⟩
  have x1 : Ext κ.h ρ H ρ2 H2 := (ext_tab at0.sim e).trans x
  exact ⟨ρ2, l, st2, at0.go x1 s2, EndG.weak q2⟩
/-- the call of what was handed, in the def -/
theorem frc_read {t : XK → Hp → VK → Prop} {th : M} {W : WX} {f c' : Addr} {q : Str} {ρ0 : Rho} {H0 : Hp} {κ0 : Kx} {F : PySem.W.Frag} (h0 : (0, f) ∈ κ.fx) (hc : (c', CodeO c' q) ∈ κ.cd) (hh : κ0.h = κ.h) (hT : κ0.T = κ.T) (hcl : κ0.cl = κ.cl) (hcd0 : κ0.cd = []) (hen : (ρ0, H0) ∈ κ.en)
    (h : ∀ ρ2 st2 H2 E Q2, Ext κ.h ρ0 H0 ρ2 H2 → Sim ⟨κ0, F⟩ ρ2 st2 H2 → EndG ⟨κ0, F⟩ (BX κ0 E) (RE ⟨κ0, F⟩ false) ρ2 H2 (th st2) Q2 → t E H2 Q2) :
    ∀ (σ : L2.St) (H : Hp) (Q : VK), (∃ ρ l st, At ⟨κ, F⟩ ρ H l σ st ∧ EndG ⟨κ, F⟩ (BX κ (WE W σ)) (RE ⟨κ, F⟩ false) ρ H (th st) Q) → σ[0]? = some (some (.ref f)) ∧ H c' = some (CodeO c' q) ∧ t (WE W σ) H Q := by
  intro σ H Q ⟨ρ, l, st, at0, e⟩
  have x : Ext κ.h ρ0 H0 ρ H := at0.en _ hen
  have hcd : ∀ {ρ' : Rho} {H' : Hp}, Ext κ.h ρ H ρ' H' → ∀ p ∈ κ.cd, H' p.1 = some p.2 ∧ ∃ φ, p.2 = HO.ext φ := fun {ρ' H'} y p hp => by
    obtain ⟨h1, φ, h2⟩ := at0.sim.cd p hp
    exact ⟨y.keep _ _ h1 (at0.sim.nolive h1 (by rw [h2]; rfl)) (by rw [h2]; intro ps z; cases z), φ, h2⟩
  have s0 : Sim ⟨κ0, F⟩ ρ st H := at0.sim.kit (κ := κ) (κ' := κ0) hh.symm hT (by rw [hcd0]; exact fun p hp => nomatch hp)
  refine ⟨at0.loc.2.2 _ h0, (at0.sim.cd _ hc).1, h ρ st H _ Q x s0 ?_⟩
  have hB : BX κ0 (WE W σ) = BX κ (WE W σ) := by unfold BX; rw [hcl]
  rw [hB]
  cases hr : th st with
  | bad => rw [hr] at e; exact e
  | ok d st' =>
    rw [hr] at e
    exact fun ρ' v H' y s r => e ρ' v H' (by rw [← hh]; exact y) (s.kit (κ := κ0) (κ' := κ) hh hT.symm (hcd (by rw [← hh]; exact y))) ⟨r.1.kit (κ := κ0) (κ' := κ) hh, fun z => nomatch z⟩
  | exc c fs st' =>
    rw [hr] at e
    exact fun ρ' H' dx y s z => e ρ' H' dx (by rw [← hh]; exact y) (s.kit (κ := κ0) (κ' := κ) hh hT.symm (hcd (by rw [← hh]; exact y))) z
end
end Pm

set_option Elab.async false
set_option linter.all false
set_option maxRecDepth 100000
set_option maxHeartbeats 2000000
/-! Ev21: into the store, out of it. -/
namespace Pm
open PySem PySem.Spec PyProof.Rows L2
set_option autoImplicit false

section
variable {K : Kit} {ρ : Rho} {st : Store} {H : Hp} {a : Addr} {o : HO} {ob : Ob}
theorem ext_box (h0 : H a = none) : Ext K.h ρ H (ρ ++ [some a]) (upd H a o) where
  len := by simp
  old := fun n hn => .inl (List.getElem?_append_left hn)
  new := fun n b hn e => by
    rw [List.getElem?_append_right hn] at e
    cases hm : n - ρ.length with
    | zero => rw [hm] at e; simp at e; subst e; exact Free.of h0
    | succ m => rw [hm] at e; simp at e
  keep := fun b u e _ _ => by rw [upd_ne (ne_of_none e h0)]; exact e
  dom := fun b f => by
    by_cases h : b = a
    · subst h; exact Free.of h0
    · exact fun u q => f u (by rw [upd_ne h]; exact q)
  hid := fun n b _ e => ⟨by rw [List.getElem?_append_left (List.getElem?_eq_some_iff.mp e).1]; exact e, fun u z => by rw [upd_ne (ne_of_none z h0)]; exact z⟩
theorem sim_box (s : Sim K ρ st H) (h0 : H a = none) (hob : RelOb K (ρ ++ [some a]) (upd H a o) ob a) : Sim K (ρ ++ [some a]) (st ++ [ob]) (upd H a o) where
  len := by rw [List.length_append, List.length_append, s.len]; simp; omega
  inj := fun n m b h1 h2 => by
    have key : ∀ n, (ρ ++ [some a])[n]? = some (some b) → (n < ρ.length ∧ ρ[n]? = some (some b)) ∨ (n = ρ.length ∧ b = a) := fun n h => by
      by_cases hn : n < ρ.length
      · rw [List.getElem?_append_left hn] at h; exact .inl ⟨hn, h⟩
      · rw [List.getElem?_append_right (Nat.le_of_not_lt hn)] at h
        cases hm : n - ρ.length with
        | zero => rw [hm] at h; simp at h; exact .inr ⟨by omega, h.symm⟩
        | succ m => rw [hm] at h; simp at h
    rcases key n h1 with ⟨_, e1⟩ | ⟨e1, z1⟩
    · rcases key m h2 with ⟨_, e2⟩ | ⟨e2, z2⟩
      · exact s.inj n m b e1 e2
      · subst z2; exact (new_free s h0 (mem_rho.mpr ⟨n, e1⟩)).elim
    · rcases key m h2 with ⟨_, e2⟩ | ⟨e2, z2⟩
      · subst z1; exact (new_free s h0 (mem_rho.mpr ⟨m, e2⟩)).elim
      · omega
  ob := fun n u e => by
    have x : Ext K.h ρ H (ρ ++ [some a]) (upd H a o) := ext_box h0
    by_cases hn : n < st.length
    · rw [List.getElem?_append_left hn] at e
      have hl : K.h + n < ρ.length := by rw [s.len]; omega
      rcases s.ob n u e with ⟨q, e1⟩ | ⟨b, e1, r⟩
      · exact .inl ⟨q, by rw [List.getElem?_append_left hl]; exact e1⟩
      · refine .inr ⟨b, by rw [List.getElem?_append_left hl]; exact e1, ?_⟩
        cases u with
        | lst ds => obtain ⟨vs, h1, h2⟩ := r; exact ⟨vs, by rw [upd_ne (ne_of_none h1 h0)]; exact h1, RelDs.mono s x h2⟩
        | dct ds => obtain ⟨vs, h1, h2⟩ := r; exact ⟨vs, by rw [upd_ne (ne_of_none h1 h0)]; exact h1, RelKs.mono s x h2⟩
        | dead => exact r
        | ins _ _ => exact r
    · rw [List.getElem?_append_right (Nat.le_of_not_lt hn)] at e
      cases hm : n - st.length with
      | zero =>
        rw [hm] at e
        simp at e
        subst e
        refine .inr ⟨a, ?_, hob⟩
        have : K.h + n = ρ.length := by rw [s.len]; omega
        rw [this, List.getElem?_append_right (Nat.le_refl _)]
        simp
      | succ m => rw [hm] at e; simp at e
  hd := fun n b hn e => by
    have hl : n < ρ.length := by rw [s.len]; omega
    rw [List.getElem?_append_left hl] at e
    obtain ⟨u, h1, h2⟩ := s.hd n b hn e
    exact ⟨u, by rw [upd_ne (ne_of_none h1 h0)]; exact h1, h2⟩
  tab := s.tab.ext fun b u e => by rw [upd_ne (ne_of_none e h0)]; exact e
  cd := fun q hq => let ⟨h1, h2⟩ := s.cd q hq; ⟨by rw [upd_ne (ne_of_none h1 h0)]; exact h1, h2⟩
theorem ext_more {ρ' : Rho} {H' : Hp} (x : Ext K.h ρ H ρ' H') (hf : Free H a) : Ext K.h ρ H (ρ' ++ [some a]) H' where
  len := Nat.le_trans x.len (by simp)
  old := fun n hn => by rw [List.getElem?_append_left (Nat.lt_of_lt_of_le hn x.len)]; exact x.old n hn
  new := fun n b hn e => by
    by_cases hl : n < ρ'.length
    · rw [List.getElem?_append_left hl] at e; exact x.new n b hn e
    · rw [List.getElem?_append_right (Nat.le_of_not_lt hl)] at e
      cases hm : n - ρ'.length with
      | zero => rw [hm] at e; simp at e; subst e; exact hf
      | succ m => rw [hm] at e; simp at e
  keep := x.keep
  dom := x.dom
  hid := fun n b hn e => by
    obtain ⟨h1, h2⟩ := x.hid n b hn e
    exact ⟨by rw [List.getElem?_append_left (List.getElem?_eq_some_iff.mp h1).1]; exact h1, h2⟩
theorem at_box (s : Sim K ρ st H) : (ρ ++ [some a])[K.h + st.length]? = some (some a) := by
  rw [← s.len, List.getElem?_append_right (Nat.le_refl _)]
  simp
end
section
variable {X : Cx} {κ : Kx} {B : L2.St → XW} {e : Expr} {m : Loc → Store → Res D} {i : Nat}
theorem se_box (h : PE X e (eE X κ B true m)) : PE X e (eE X κ B false fun l st => (m l st).bind fun x st => boxD x st) :=
  PE.imp h fun σ H Q ⟨ρ, l, st, at0, q⟩ => ⟨ρ, l, st, at0, by
    dsimp only at q
    cases hr : m l st with
    | bad => rw [hr] at q; exact q
    | exc c fs st1 => rw [hr] at q; exact q
    | ok d st1 =>
      rw [hr] at q
      intro ρ' v H' x s r
      cases d with
      | lst xs =>
        obtain ⟨a, H0, rfl, hf, h0, s0, ⟨ds, vs, e1, rfl, rs⟩ | ⟨ds, vs, e1, _⟩⟩ := r.2 rfl rfl
        · cases e1
          exact q (ρ' ++ [some a]) (.ref a) _ (ext_more x hf) (sim_box s0 h0 ⟨vs, upd_same, rs.mono s0 (ext_box h0)⟩) ⟨.ref (at_box s0), fun z => nomatch z⟩
        · cases e1
      | dct xs =>
        obtain ⟨a, H0, rfl, hf, h0, s0, ⟨ds, vs, e1, _⟩ | ⟨ds, vs, e1, rfl, rs⟩⟩ := r.2 rfl rfl
        · cases e1
        · cases e1
          exact q (ρ' ++ [some a]) (.ref a) _ (ext_more x hf) (sim_box s0 h0 ⟨vs, upd_same, rs.mono s0 (ext_box h0)⟩) ⟨.ref (at_box s0), fun z => nomatch z⟩
      | _ => exact q.elim⟩
end

/-! ### out of the store -/
section
variable {K : Kit} {ρ : Rho} {st : Store} {H : Hp} {a : Addr} {n : Nat}
theorem ext_frz (hn : ρ[K.h + n]? = some (some a)) : Ext K.h ρ H (ρ.set (K.h + n) none) H where
  len := by simp
  old := fun m _ => by
    by_cases h : K.h + n = m
    · subst h; exact .inr (List.getElem?_set_self (List.getElem?_eq_some_iff.mp hn).1)
    · exact .inl (List.getElem?_set_ne h)
  new := fun m b hm e => by rw [List.getElem?_eq_none (by simpa using hm)] at e; exact nomatch e
  keep := fun _ _ e _ _ => e
  dom := fun _ e => e
  hid := fun m b hm e => ⟨by rw [List.getElem?_set_ne (by omega)]; exact e, fun _ z => z⟩
theorem sim_frz (s : Sim K ρ st H) (hn : ρ[K.h + n]? = some (some a)) : Sim K (ρ.set (K.h + n) none) (st.set n .dead) H where
  len := by rw [List.length_set, List.length_set]; exact s.len
  inj := fun i j b h1 h2 => by
    have key : ∀ i, (ρ.set (K.h + n) none)[i]? = some (some b) → ρ[i]? = some (some b) := fun i h => by
      by_cases hi : K.h + n = i
      · subst hi; rw [List.getElem?_set_self (List.getElem?_eq_some_iff.mp hn).1] at h; cases h
      · rw [List.getElem?_set_ne hi] at h; exact h
    exact s.inj i j b (key i h1) (key j h2)
  ob := fun m u e => by
    have x : Ext K.h ρ H (ρ.set (K.h + n) none) H := ext_frz hn
    by_cases hm : n = m
    · subst hm
      have hl : n < st.length := by have := (List.getElem?_eq_some_iff.mp hn).1; rw [s.len] at this; omega
      rw [List.getElem?_set_self hl] at e
      cases e
      exact .inl ⟨rfl, List.getElem?_set_self (List.getElem?_eq_some_iff.mp hn).1⟩
    · rw [List.getElem?_set_ne hm] at e
      rcases s.ob m u e with ⟨q, e1⟩ | ⟨b, e1, r⟩
      · exact .inl ⟨q, by rw [List.getElem?_set_ne (by omega)]; exact e1⟩
      · refine .inr ⟨b, by rw [List.getElem?_set_ne (by omega)]; exact e1, ?_⟩
        cases u with
        | lst ds => obtain ⟨vs, h1, h2⟩ := r; exact ⟨vs, h1, RelDs.mono s x h2⟩
        | dct ds => obtain ⟨vs, h1, h2⟩ := r; exact ⟨vs, h1, RelKs.mono s x h2⟩
        | dead => exact r
        | ins _ _ => exact r
  hd := fun m b hm e => s.hd m b hm (by rw [List.getElem?_set_ne (by omega)] at e; exact e)
  tab := s.tab
  cd := s.cd
theorem frz_out (s : Sim K ρ st H) (hn : ρ[K.h + n]? = some (some a)) : some a ∉ ρ.set (K.h + n) none := fun hm => by
  obtain ⟨i, e⟩ := mem_rho.mp hm
  by_cases hi : K.h + n = i
  · subst hi; rw [List.getElem?_set_self (List.getElem?_eq_some_iff.mp hn).1] at e; cases e
  · rw [List.getElem?_set_ne hi] at e
    exact hi (s.inj _ _ a hn e)
end
section
variable {X : Cx} {κ : Kx} {B : L2.St → XW} {e : Expr} {i : Nat}
theorem se_frz (h : PE X e (tVar i)) : PE X e (eE X κ B false fun l st => frzD (l[i]?) st) :=
  PE.imp h fun σ H Q ⟨ρ, l, st, at0, q⟩ => by
    dsimp only at q
    unfold frzD at q
    split at q
    · rename_i n hl
      obtain ⟨v, e1, r⟩ := at0.loc.2.1 i _ hl
      refine ⟨v, e1, ?_⟩
      split at q
      · rename_i xs hs
        obtain ⟨a, vs, rfl, h1, h2, h3⟩ := ref_lst at0.sim r hs
        exact q _ _ H (ext_frz h1) (sim_frz at0.sim h1) ⟨.lst h2 (frz_out at0.sim h1) (h3.mono at0.sim (ext_frz h1)), fun z => nomatch z⟩
      · rename_i xs hs
        obtain ⟨a, vs, rfl, h1, h2, h3⟩ := ref_dct at0.sim r hs
        exact q _ _ H (ext_frz h1) (sim_frz at0.sim h1) ⟨.dct h2 (frz_out at0.sim h1) (h3.mono at0.sim (ext_frz h1)), fun z => nomatch z⟩
      · exact q.elim
    · exact q.elim
end
end Pm

set_option Elab.async false
set_option linter.all false
set_option maxRecDepth 100000
set_option maxHeartbeats 2000000
/-! Ev22: dict displays. -/
namespace Pm
open PySem PySem.Spec PyProof.Rows L2
set_option autoImplicit false

def RPs (K : Kit) (ks : List DKey) : Rho → Store → Hp → Hp → List D → List (V × V) → Prop := fun ρ' _ _ H' ds ps => ks.length = ds.length ∧ ∃ vs, RelDs K ρ' H' ds vs ∧ ps = (ks.zip vs).map fun p => (kV (keyK p.1), p.2)
theorem RPs.back {K : Kit} {ks : List DKey} : Back (RPs K ks) := fun _ _ _ _ _ _ _ _ h => h
structure SD (X : Cx) (κ : Kx) (B : L2.St → XW) (pos : Pos) (keys : List (Option Expr)) (values : List Expr) (ks : List DKey) (ms : Loc → Store → Res (List D)) : Prop where
  ex : ∃ trs, PPs X pos keys values trs ∧ ∀ σ H Q, (∃ ρ l st, At (Cx.kit X κ) ρ H l σ st ∧ EndG (Cx.kit X κ) (B σ) (RPs (Cx.kit X κ) ks) ρ H (ms l st) Q) → tPairs trs σ H Q
  len : keys.length = values.length ∧ keys.length = ks.length ∧ keys.all (·.isSome) = true
section
variable {X : Cx} {κ : Kx} {B : L2.St → XW} {k v : Expr} {fv : Bool} {m : Loc → Store → Res D} {ms : Loc → Store → Res (List D)} {pos : Pos} {keys : List (Option Expr)} {values : List Expr} {kk : DKey} {ks : List DKey}
theorem sd_nil : SD X κ B pos [] [] [] (fun _ st => .ok [] st) := ⟨⟨[], pps_nil, fun σ H Q ⟨ρ, l, st, at0, q⟩ => q ρ [] H (Ext.refl _ _) at0.sim ⟨rfl, [], .nil, rfl⟩⟩, rfl, rfl, rfl⟩
theorem sd_cons (hk : PE X k (tC (kV (keyK kk)))) (hv : PE X v (eE X κ B fv m)) (hr : SD X κ B pos keys values ks ms) : SD X κ B pos (some k :: keys) (v :: values) (kk :: ks) (fun l st => (m l st).bind fun d st => (ms l st).bind fun ds st => .ok (d :: ds) st) := by
  obtain ⟨⟨trs, h1, h2⟩, h3, h4, h5⟩ := hr
  refine ⟨⟨_, pps_cons hk hv h1, fun σ H Q ⟨ρ, l, st, at0, q⟩ => ?_⟩, by simp [h3], by simp [h4], by simp [h5]⟩
  refine ⟨ρ, l, st, at0, EndG.bind RPs.back q fun d st1 ρ1 y H1 x1 s1 r1 q1 => h2 σ H1 _ ⟨ρ1, l, st1, at0.go x1 s1, EndG.bind RPs.back q1 fun ds st2 ρ2 ps H2 x2 s2 r2 q2 => ?_⟩⟩
  obtain ⟨hl, vs, rs, rfl⟩ := r2
  exact q2 ρ2 _ H2 (Ext.refl _ _) s2 ⟨by simp [hl], y :: vs, .cons (r1.1.mono s1 x2) rs, rfl⟩
theorem RelL.hide {K : Kit} {ρ : Rho} {H : Hp} {p : Addr} {o : HO} {l : Loc} {σ : L2.St} (hp : H p = none) (r : RelL K ρ H l σ) : RelL K.up (some p :: ρ) (upd H p o) l σ :=
  ⟨r.1, fun i d e => let ⟨v, h1, h2⟩ := r.2.1 i d e; ⟨v, h1, h2.hide hp⟩, r.2.2⟩
theorem merge_rel {K : Kit} {ρ : Rho} {H : Hp} : ∀ {ks : List DKey} {ds : List D} {vs : List V} {a : List (DKey × D)} {b : List (Key × V)}, RelKs K ρ H a b → RelDs K ρ H ds vs →
    RelKs K ρ H ((ks.zip ds).foldl (fun a p => Pm.putK p.1 p.2 a) a) (((ks.zip vs).map fun p => (keyK p.1, p.2)).foldl (fun acc kv => L2.putK acc kv.1 kv.2) b)
  | [], _, _, _, _, h, _ => by simpa using h
  | k :: ks, _, _, _, _, h, .nil => by simpa using h
  | k :: ks, _, _, _, _, h, .cons r1 r2 => merge_rel (ks := ks) (putK_rel r1 h) r2
theorem se_dic (h0 : keys ≠ []) (h15 : keys.length ≤ 15) (h : SD X κ.up B pos keys values ks ms) :
    PE X (.Dict keys values pos) (eE X κ B false fun l st => (ms l st).bind fun ds st => if ks.length = ds.length ∧ ds.length ≤ 15 then .ok (.dct (mergeD ks ds)) st else .bad) := by
  obtain ⟨⟨trs, h1, h2⟩, h3, h4, h5⟩ := h
  refine PE.imp (pe_disp h1 h5 h3 h0 h15) fun σ H Q ⟨ρ, l, st, at0, q⟩ => fun p hp => h2 σ _ _ ⟨some p :: ρ, l, st, ⟨sim_hide at0.sim hp rfl, at0.loc.hide hp, fun _ z => nomatch z⟩, ?_⟩
  have q : EndG (Cx.kit X κ) (B σ) (RE (Cx.kit X κ) false) ρ H ((ms l st).bind fun ds st => if ks.length = ds.length ∧ ds.length ≤ 15 then .ok (.dct (mergeD ks ds)) st else .bad) Q := q
  cases hr : ms l st with
  | bad => rw [hr] at q; exact q
  | exc c fs st1 =>
    rw [hr] at q
    intro ρ2 H2 dx x s z
    obtain ⟨ρ2', rfl⟩ := up_cons (K := Cx.kit X κ) x
    exact q ρ2' H2 dx ((ext_new hp).trans (ext_out (K := Cx.kit X κ) x)) (sim_show (K := Cx.kit X κ) s) z
  | ok ds st1 =>
    rw [hr] at q
    simp only [Res.bind] at q
    intro ρ2 ps H2 x s z
    obtain ⟨ρ2', rfl⟩ := up_cons (K := Cx.kit X κ) x
    obtain ⟨hl, vs, rs, rfl⟩ := z
    have hlen := rs.length
    have hds : ds.length ≤ 15 := by rw [← hl, ← h4]; exact h15
    rw [if_pos ⟨hl, hds⟩] at q
    have hp2 : H2 p = some (.dK []) := (x.hid 0 p (Nat.succ_pos _) rfl).2 _ upd_same
    refine ⟨hp2, (ks.zip vs).map fun p => (keyK p.1, p.2), by simp, by rw [List.length_map, List.length_zip]; omega, ?_⟩
    have s2 : Sim (Cx.kit X κ).up (some p :: ρ2') st1 (upd H2 p (.dK (mergeK [] ((ks.zip vs).map fun p => (keyK p.1, p.2))))) := sim_hid (n := 0) s (Nat.succ_pos _) rfl hp2 rfl nofun rfl
    have xo : Ext κ.h ρ H ρ2' H2 := (ext_new hp).trans (ext_out (K := Cx.kit X κ) x)
    have x3 : Ext κ.h ρ H ρ2' (upd H2 p (.dK (mergeK [] ((ks.zip vs).map fun p => (keyK p.1, p.2))))) := {
      len := xo.len
      old := xo.old
      new := xo.new
      keep := fun a u e hn hcl => by rw [upd_ne (ne_of_none e hp)]; exact xo.keep a u e hn hcl
      dom := fun a e => by
        by_cases ha : a = p
        · rw [ha]; exact Free.of hp
        · exact xo.dom a fun o q => e o (by rw [upd_ne ha]; exact q)
      hid := fun n a hn e => ⟨(xo.hid n a hn e).1, fun u z => by rw [upd_ne (ne_of_none z hp)]; exact (xo.hid n a hn e).2 u z⟩ }
    have hnp : some p ∉ ρ2' := fun hm => by
      obtain ⟨n, e⟩ := mem_rho.mp hm
      have := s.inj 0 (n + 1) p rfl (by simpa using e)
      omega
    refine q ρ2' (.ref p) _ x3 (sim_show (K := Cx.kit X κ) s2) ⟨.dct upd_same hnp ?_, fun z => nomatch z⟩
    have rs2 : RelDs (Cx.kit X κ) ρ2' (upd H2 p (.dK (mergeK [] ((ks.zip vs).map fun p => (keyK p.1, p.2))))) ds vs := RelDs.show (K := Cx.kit X κ) ((RelDs.hidw (n := 0) s rfl hp2 rfl (by intro ps z; cases z)).1 rs)
    exact merge_rel .nil rs2
theorem se_dic0 : PE X (.Dict [] [] pos) (eE X κ B true fun l st => (Res.ok [] st).bind fun ds st => if ([] : List DKey).length = ds.length ∧ ds.length ≤ 15 then .ok (.dct (mergeD [] ds)) st else .bad) :=
  PE.imp pe_dnewK fun σ H Q ⟨ρ, l, st, at0, q⟩ => fun p hp =>
    (show EndG (Cx.kit X κ) (B σ) (RE (Cx.kit X κ) true) ρ H (Res.ok (.dct []) st) Q from q) ρ (.ref p) _ (ext_new hp) (sim_new at0.sim hp) ⟨.dct upd_same (new_free at0.sim hp) .nil, fun _ _ => Fresh.dct at0.sim hp .nil⟩
end
end Pm

set_option Elab.async false
set_option linter.all false
set_option maxRecDepth 100000
set_option maxHeartbeats 2000000
/-! Ev23: calls. -/
namespace Pm
open PySem PySem.Spec PyProof.Rows L2
set_option autoImplicit false

/-- the frame of a def at its entry -/
abbrev Kx.base (κ : Kx) (h : Nat) : Kx := { T := κ.T, fx := [], cd := [], en := [], cl := κ.cl, h := h }
/-- what a def promises: what the evaluator tells -/
def spD (κ : Kx) (K : PySem.W.Frag) (ps : List Str) (m : List D → Store → Res D) : Sp := fun vs H Q E => vs.length = ps.length ∧ ∃ h ρ ds st, Sim ⟨κ.base h, K⟩ ρ st H ∧ RelDs ⟨κ.base h, K⟩ ρ H ds vs ∧ EndG ⟨κ.base h, K⟩ (BX κ E) (RE ⟨κ.base h, K⟩ false) ρ H (m ds st) Q
theorem Sim.cds {K : Kit} {ρ ρ' : Rho} {st : Store} {H H' : Hp} (s : Sim K ρ st H) (x : Ext K.h ρ H ρ' H') : ∀ p ∈ K.cd, H' p.1 = some p.2 ∧ ∃ φ, p.2 = HO.ext φ := fun p hp => by
  obtain ⟨h1, φ, h2⟩ := s.cd p hp
  exact ⟨x.keep _ _ h1 (s.nolive h1 (by rw [h2]; rfl)) (by rw [h2]; intro ps z; cases z), φ, h2⟩
theorem EndG.base {κ : Kx} {F : PySem.W.Frag} {B : XW} {ρ : Rho} {H : Hp} {st0 : Store} {r : Res D} {Q : VK} (s : Sim ⟨κ, F⟩ ρ st0 H) (q : EndG ⟨κ, F⟩ B (RE ⟨κ, F⟩ false) ρ H r Q) :
    EndG ⟨κ.base κ.h, F⟩ B (RE ⟨κ.base κ.h, F⟩ false) ρ H r Q := by
  cases r with
  | bad => exact q
  | ok d st' => exact fun ρ' v H' x s' r => q ρ' v H' x (s'.kit (κ := κ.base κ.h) (κ' := κ) rfl rfl (s.cds x)) ⟨r.1.kit (κ := κ.base κ.h) (κ' := κ) rfl, fun z => nomatch z⟩
  | exc c fs st' => exact fun ρ' H' dx x s' z => q ρ' H' dx x (s'.kit (κ := κ.base κ.h) (κ' := κ) rfl rfl (s.cds x)) z
section
variable {X : Cx} {κ : Kx} {E : L2.St → XK} {e : Expr} {es : List Expr} {ms : Loc → Store → Res (List D)} {pos p : Pos} {k : Nat} {f : Addr} {fd : FuncData} {ps : List Str} {x : Str} {m : List D → Store → Res D} {CX : CXT}
theorem se_call (F : FnOk X.prog X.w X.K X.mg X.base CX k f fd ps (spD κ X.K ps m)) (hr : Room k X.A) (hg : Gl X x) (hm : X.mg x = some (.ref f)) (hk : PySem.W.keepIn X.K (.ref f) = true) (hb : Binds X.K fd ps []) (hx : ∀ σ, PassesAt CX X σ (E σ))
    (ha : PA X (e :: es) (eA X κ (BXs κ E) ms)) (hlen : ∀ l st ds st', ms l st = .ok ds st' → ds.length = ps.length) (hdb : (x == ("__debug__" : Str)) = false) (ns : (e :: es).all notStar = true) :
    PE X (.Call (.Name x p) (e :: es) [] pos) (eE X κ (BXs κ E) false fun l st => (ms l st).bind fun ds st => m ds st) := by
  have ns' : notStar e = true ∧ es.all notStar = true := by simpa using ns
  refine PE.imp (pe_callS F hr hg hm hk hb hx ha hdb (star_cons ns'.1 _ _) (back_plain _ _ ns'.2)) fun σ H Q ⟨ρ, l, st, at0, q⟩ => ⟨ρ, l, st, at0, ?_⟩
  have hq : EndG (Cx.kit X κ) (BXs κ E σ) (RE (Cx.kit X κ) false) ρ H ((ms l st).bind fun ds st => m ds st) Q := q
  cases hms : ms l st with
  | bad => rw [hms] at hq; exact hq
  | exc c fs st1 => rw [hms] at hq; exact hq
  | ok ds st1 =>
    rw [hms] at hq
    intro ρ1 vs H1 x1 s1 r1
    have q1 := EndG.mono RE.back (show EndG (Cx.kit X κ) (BXs κ E σ) (RE (Cx.kit X κ) false) ρ H (m ds st1) Q from hq) x1
    have r2 : RelDs ⟨κ.base κ.h, X.K⟩ ρ1 H1 ds vs := RelDs.kit (κ := κ) (κ' := κ.base κ.h) rfl r1
    exact ⟨by rw [← r2.length]; exact hlen l st ds st1 hms, κ.h, ρ1, ds, st1, s1.kit (κ := κ) (κ' := κ.base κ.h) rfl rfl (fun p hp => nomatch hp), r2, EndG.base (κ := κ) s1 q1⟩
end
end Pm

set_option Elab.async false
set_option linter.all false
set_option maxRecDepth 100000
set_option maxHeartbeats 4000000
/-! Ev24: the checker: the small language against the text. -/
namespace Pm
open PySem PySem.Spec PyProof.Rows L2 LamX
set_option autoImplicit false

structure Gd where
  fn : List (Str × Nat)
  cn : List Str
  cl : List Str
  lm : List (Nat × Str)
structure Md where
  cm : Bool
  lm : Bool
  fxs : List Nat
  th : Option Str
  xs : Option Nat
  blk : Bool

def nmOk (x : Str) : Bool := !(x == ("__debug__" : Str)) && !(x == ("__classdict__" : Str))
def visB (sc : Scope) (x : Str) : Bool := match sc.names.lookup x with
  | some .local => true
  | some .cell => true
  | some .free => true
  | _ => false
def varOk (N : List Str) (sc : Scope) (i : Nat) (x : Str) : Bool := decide (N[i]? = some x) && visB sc x && nmOk x
def stoOk (N : List Str) (sc : Scope) (md : Md) (i : Nat) (x : Str) : Bool := decide (N[i]? = some x) && (match sc.names.lookup x with
  | some .local => true
  | some .cell => !md.blk
  | _ => false) && !md.fxs.contains i
def glOk (sc : Scope) (x : Str) : Bool := decide (sc.names.lookup x = some .globalImplicit)
def biOk : Bi → Bool
  | .sorted => false | .repr => false | .dict => false | .min => false
  | _ => true
def tgE (G : Gd) (sc : Scope) : Tg → Expr → Bool
  | .own c, .Name x _ => glOk sc x && decide (G.cl[c]? = some x) && nmOk x
  | .own _, _ => false
  | t, .Name x _ => glOk sc x && decide (x = Str.ofString ((tgN t).getD ""))
  | _, _ => false
def tgEs (G : Gd) (sc : Scope) : List Tg → List Expr → Bool
  | [], [] => true
  | t :: ts, x :: xs => tgE G sc t x && tgEs G sc ts xs
  | _, _ => false
def keyE : DKey → Option Expr → Bool
  | .i n, some (.Constant (.int m) _ _) => decide (n = m)
  | .s x, some (.Constant (.str s) _ _) => decide (s = strS x)
  | _, _ => false
def isEx : Tg → Bool
  | .own _ => true
  | .verr => true
  | _ => false
def lamOk (sc : Scope) (n : Str) (params : Arguments) (scope : Scope) : Bool := glOk sc n && nmOk n && lamSB sc scope && (match params with
  | ⟨[], [], none, [], [], none, []⟩ => true
  | _ => false)
/-- names and slots of a target -/
def tgtOk (N : List Str) (sc : Scope) (md : Md) : T → Expr → Bool
  | .nm i, .Name x _ => stoOk N sc md i x
  | .tp is, .Tuple xs _ _ => (is.length == xs.length) && (is.zip xs).all fun p => match p.2 with
    | .Name x _ => stoOk N sc md p.1 x
    | _ => false
  | _, _ => false
def ownOf (t : T) (tg : Expr) : List (Str × Nat) := match t, tg with
  | .nm i, .Name x _ => [(x, i)]
  | .tp is, .Tuple xs _ _ => (is.zip xs).filterMap fun p => match p.2 with
    | .Name x _ => some (x, p.1)
    | _ => none
  | _, _ => []
/-- a list by value that is new -/
def frE : E → Bool
  | .lst _ => true
  | .bin _ _ _ => true
  | .slc _ _ _ => true
  | .bi b _ => decide (b = .list)
  | .mt m _ _ => decide (m = .split)
  | .dic ks _ => ks.isEmpty
  | _ => false
/-- what is laid new, in such a form -/
def Es.len : Es → Nat
  | .nil => 0
  | .cons _ es => es.len + 1
abbrev lamMd (md : Md) : Md := { md with th := none, xs := none, lm := false, blk := true }
abbrev blkMd (md : Md) : Md := { md with th := none, xs := none, lm := false, blk := true }

/-! ### what an expression is -/
def asNon : Expr → Bool
  | .Constant .none _ _ => true
  | _ => false
def asBl : Expr → Option Bool
  | .Constant (.bool b) _ _ => some b
  | _ => none
def asI : Expr → Option Int
  | .Constant (.int i) _ _ => some i
  | _ => none
def asS : Expr → Option Str
  | .Constant (.str i) _ _ => some i
  | _ => none
def asNm : Expr → Option Str
  | .Name x _ => some x
  | _ => none
def asTup : Expr → Option (List Expr)
  | .Tuple xs _ _ => some xs
  | _ => none
def asLst : Expr → Option (List Expr)
  | .List xs _ => some xs
  | _ => none
def asBin : Expr → Option (Expr × Operator × Expr)
  | .BinOp x o y _ => some (x, o, y)
  | _ => none
def asNeg : Expr → Option Expr
  | .UnaryOp .USub x _ => some x
  | _ => none
def asNot : Expr → Option Expr
  | .UnaryOp .Not x _ => some x
  | _ => none
def asCmp : Expr → Option (Expr × CmpOp × Expr)
  | .Compare x [o] [y] _ => some (x, o, y)
  | _ => none
def asChn : Expr → Option (Expr × CmpOp × Expr × CmpOp × Expr)
  | .Compare x [o, p] [y, z] _ => some (x, o, y, p, z)
  | _ => none
def asIs : Expr → Option Expr
  | .Compare x [.Is] [.Constant .none _ _] _ => some x
  | _ => none
def asIsN : Expr → Option Expr
  | .Compare x [.IsNot] [.Constant .none _ _] _ => some x
  | _ => none
def tailB (op : BoolOp) (y : Expr) (r : List Expr) (pos : Pos) : Expr := match r with
  | [] => y
  | z :: r => .BoolOp op (y :: z :: r) pos
def asAnd : Expr → Option (Expr × Expr)
  | .BoolOp .And (x :: y :: r) pos => some (x, tailB .And y r pos)
  | _ => none
def asOr : Expr → Option (Expr × Expr)
  | .BoolOp .Or (x :: y :: r) pos => some (x, tailB .Or y r pos)
  | _ => none
def asIte : Expr → Option (Expr × Expr × Expr)
  | .IfExp t x y _ => some (t, x, y)
  | _ => none
def asIx : Expr → Option (Expr × Expr)
  | .Subscript x y _ => some (x, y)
  | _ => none
def asSlc : Expr → Option (Expr × Option Expr × Option Expr)
  | .Subscript x (.Slice l h none _) _ => some (x, l, h)
  | _ => none
def asCall : Expr → Option (Str × List Expr)
  | .Call (.Name f _) xs [] _ => some (f, xs)
  | _ => none
def asLam : Expr → Option (Arguments × Expr × Scope)
  | .Lambda params b scope _ => some (params, b, scope)
  | _ => none
def asMt : Expr → Option (Expr × Str × List Expr)
  | .Call (.Attribute ob nm ap) ys [] cp => if (ap.endLine == cp.line) = true then some (ob, nm, ys) else none
  | _ => none
def asLc : Expr → Option (Expr × Expr × Expr × List Expr × Scope)
  | .ListComp x [⟨tg, iter, ifs, ia⟩] scope _ => if ia = 0 then some (x, tg, iter, ifs, scope) else none
  | _ => none
def asDic : Expr → Option (List (Option Expr) × List Expr)
  | .Dict ks vs _ => some (ks, vs)
  | _ => none

def tgAll' (G : Gd) (ts : List Tg) (T : Expr) (sc : Scope) : Bool := match ts with
  | [t] => tgE G sc t T
  | ts => decide (2 ≤ ts.length) && decide (ts.length ≤ 100) && (match T with
    | .Tuple Ts _ _ => tgEs G sc ts Ts
    | _ => false)
section
variable (G : Gd) (N : List Str)
mutual
def chkE (md : Md) (e : E) (sc : Scope) (x : Expr) : Bool := match e with
  | .non => asNon x
  | .bl b => decide (asBl x = some b)
  | .int i => decide (asI x = some i)
  | .str s => decide (asS x = some (strS s))
  | .v i => match asNm x with
    | some n => varOk N sc i n
    | none => false
  | .frz i => match asNm x with
    | some n => varOk N sc i n
    | none => false
  | .g i => match asNm x with
    | some n => glOk sc n && decide (G.cn[i]? = some n) && nmOk n
    | none => false
  | .tup es => match asTup x with
    | some xs => chkEs md es sc xs
    | none => false
  | .lst es => match asLst x with
    | some xs => chkEs md es sc xs
    | none => false
  | .bin op a b => match asBin x with
    | some (y, o, z) => decide (o = opA op) && chkE md a sc y && chkE md b sc z
    | none => false
  | .neg a => match asNeg x with
    | some y => chkE md a sc y
    | none => false
  | .cmp op a b => match asCmp x with
    | some (y, o, z) => decide (o = cmA op) && noSet z && chkE md a sc y && chkE md b sc z
    | none => false
  | .chn o1 o2 a b c => match asChn x with
    | some (y, p1, z, p2, w) => decide (p1 = cmA o1) && decide (p2 = cmA o2) && noSet w && chkE md a sc y && chkE md b sc z && chkE md c sc w
    | none => false
  | .isn a => match asIs x with
    | some y => chkE md a sc y
    | none => false
  | .nisn a => match asIsN x with
    | some y => chkE md a sc y
    | none => false
  | .and a b => match asAnd x with
    | some (y, z) => chkE md a sc y && chkE md b sc z
    | none => false
  | .or a b => match asOr x with
    | some (y, z) => chkE md a sc y && chkE md b sc z
    | none => false
  | .not a => match asNot x with
    | some y => chkE md a sc y
    | none => false
  | .ite c a b => match asIte x with
    | some (t, y, z) => chkT md c sc t && chkE md a sc y && chkE md b sc z
    | none => false
  | .ix a b => match asIx x with
    | some (y, z) => plainIx z && chkE md a sc y && chkE md b sc z
    | none => false
  | .slc a lo hi => match asSlc x with
    | some (y, l, h) => chkE md a sc y && chkO md lo sc l && chkO md hi sc h
    | none => false
  | .rev _ => false
  | .isi a ts => match asCall x with
    | some (f, [y, T]) => decide (f = "isinstance") && glOk sc f && notStar y && notStar T && ts.all (tgOk G.cl.length) && chkE md a sc y && tgAll' G ts T sc
    | _ => false
  | .isx t => match asCall x with
    | some (f, [y, T]) => decide (f = "isinstance") && glOk sc f && isEx t && tgOk G.cl.length t && notStar T && tgE G sc t T && (match asNm y, md.xs with
      | some n, some i => varOk N sc i n
      | _, _ => false)
    | _ => false
  | .call f es => match asCall x with
    | some (n, y :: ys) => md.cm && glOk sc n && decide (G.fn[f]? = some (n, es.len)) && nmOk n && (y :: ys).all notStar && chkEs md es sc (y :: ys)
    | _ => false
  | .thk f body => match asCall x with
    | some (n, [y]) => match asLam y with
      | some (params, b, scope) => md.lm && decide ((f, n) ∈ G.lm) && lamOk sc n params scope && chkE (lamMd md) body scope b
      | none => false
    | _ => false
  | .frc => match asCall x with
    | some (n, []) => decide (md.th = some n)
    | _ => false
  | .bi b es => match asCall x with
    | some (n, y :: ys) => decide (n = biN b) && biOk b && glOk sc n && (!biHot b || md.cm) && (y :: ys).all notStar && chkEs md es sc (y :: ys)
    | _ => false
  | .mt m o es => match asMt x with
    | some (ob, nm, ys) => decide (nm = mtN m) && mtHas m && baseOk ob && chkE md o sc ob && ys.all notStar && decide (ys.length < 30) && chkEs md es sc ys
    | none => false
  | .lc elt t it c => match asLc x with
    | some (y, tg, iter, ifs, scope) => md.cm && noSet iter && blkC N sc scope (ownOf t tg) && tgtOk N (relS scope sc) (blkMd md) t tg && chkI md it sc tg iter && chkC (blkMd md) c (relS scope sc) ifs && chkE (blkMd md) elt (relS scope sc) y
      && decide ((ownOf t tg).map (·.2) = slotsT t)
    | none => false
  | .fmt _ => false
  | .dic ks es => match asDic x with
    | some (keys, values) => decide (keys.length ≤ 15) && chkD (blkMd md) es ks sc keys values
    | none => false
  | .box a => frE a && chkE md a sc x
termination_by structural e
def chkT (md : Md) (e : E) (sc : Scope) (x : Expr) : Bool := match e with
  | .and a b => match asAnd x with
    | some (y, z) => chkT md a sc y && chkT md b sc z
    | none => false
  | .or a b => match asOr x with
    | some (y, z) => chkT md a sc y && chkT md b sc z
    | none => false
  | .not a => match asNot x with
    | some y => chkT md a sc y
    | none => false
  | .cmp op a b => match asCmp x with
    | some (y, o, z) => decide (o = cmA op) && noSet z && chkE md a sc y && chkE md b sc z
    | none => false
  | .chn o1 o2 a b c => match asChn x with
    | some (y, p1, z, p2, w) => decide (p1 = cmA o1) && decide (p2 = cmA o2) && noSet w && chkE md a sc y && chkE md b sc z && chkE md c sc w
    | none => false
  | .isn a => match asIs x with
    | some y => chkE md a sc y
    | none => false
  | .nisn a => match asIsN x with
    | some y => chkE md a sc y
    | none => false
  | .v i => match asNm x with
    | some n => varOk N sc i n
    | none => false
  | .bl b => decide (asBl x = some b)
  | .ix a b => match asIx x with
    | some (y, z) => plainIx z && chkE md a sc y && chkE md b sc z
    | none => false
  | .isi a ts => match asCall x with
    | some (f, [y, T]) => decide (f = "isinstance") && glOk sc f && notStar y && notStar T && ts.all (tgOk G.cl.length) && chkE md a sc y && tgAll' G ts T sc
    | _ => false
  | .call f es => match asCall x with
    | some (n, y :: ys) => md.cm && glOk sc n && decide (G.fn[f]? = some (n, es.len)) && nmOk n && (y :: ys).all notStar && chkEs md es sc (y :: ys)
    | _ => false
  | .bi b es => match asCall x with
    | some (n, y :: ys) => decide (n = biN b) && biOk b && glOk sc n && (!biHot b || md.cm) && (y :: ys).all notStar && chkEs md es sc (y :: ys)
    | _ => false
  | _ => false
termination_by structural e
def chkO (md : Md) (e : Oe) (sc : Scope) (x : Option Expr) : Bool := match e with
  | .no => x.isNone
  | .yes e => match x with
    | some y => chkE md e sc y
    | none => false
termination_by structural e
def chkC (md : Md) (e : Oe) (sc : Scope) (x : List Expr) : Bool := match e with
  | .no => x.isEmpty
  | .yes e => match x with
    | [y] => chkT md e sc y
    | _ => false
termination_by structural e
def chkEs (md : Md) (e : Es) (sc : Scope) (x : List Expr) : Bool := match e with
  | .nil => x.isEmpty
  | .cons e es => match x with
    | y :: ys => notStar y && chkE md e sc y && chkEs md es sc ys
    | [] => false
termination_by structural e
def chkI (md : Md) (e : It) (sc : Scope) (tg x : Expr) : Bool := match e with
  | .seq a => chkE md a sc x
  | .rng a => match asCall x with
    | some (f, [y]) => decide (f = "range") && glOk sc f && notStar y && chkE md a sc y
    | _ => false
  | .rng2 a b => match asCall x with
    | some (f, [y, z]) => decide (f = "range") && glOk sc f && notStar y && notStar z && chkE md a sc y && chkE md b sc z
    | _ => false
  | .zip a b => match asCall x with
    | some (f, [y, z]) => (asTup tg).isSome && decide (f = "zip") && glOk sc f && notStar y && notStar z && chkE md a sc y && chkE md b sc z
    | _ => false
  | .enm a => match asCall x with
    | some (f, [y]) => (asTup tg).isSome && decide (f = "enumerate") && glOk sc f && notStar y && chkE md a sc y
    | _ => false
  | .itm _ => false
termination_by structural e
def chkD (md : Md) (e : Es) (ks : List DKey) (sc : Scope) (keys : List (Option Expr)) (values : List Expr) : Bool := match e with
  | .nil => ks.isEmpty && keys.isEmpty && values.isEmpty
  | .cons e es => match ks, keys, values with
    | k :: ks, y :: ys, x :: xs => keyE k y && chkE md e sc x && chkD md es ks sc ys xs
    | _, _, _ => false
termination_by structural e
end
end

def biNames : List Str := ["isinstance", "range", "zip", "enumerate", "len", "tuple", "list", "dict", "int", "str", "abs", "ord", "all", "any", "repr", "sorted", "max", "min", "sum", "bool", "ValueError"]
/-- what a context must be -/
structure Fit (P : Par) (G : Gd) (F : FnSem) (th : M) (xc : Option Nat) (N : List Str) (md : Md) (κ : Kx) (E : L2.St → XK) (sc : Scope) (lv : Nat) (X : Cx) : Prop where
  hN : X.N = N
  nd : N.Nodup
  hsc : X.env.scope = sc
  kind : sc.kind = .function
  fnc : md.blk = false → ∀ x, sc.names.lookup x = some .cell → X.fn x = true
  calm : md.cm = true → X.calm = true
  un : X.A.units + 64 < cLine
  bi : ∀ x, x ∈ biNames → X.mg x = none
  fx : κ.fx.map (·.1) = md.fxs
  fn : md.cm = true → ∀ i x n, G.fn[i]? = some (x, n) → ∃ f fd ps, X.mg x = some (.ref f) ∧ PySem.W.keepIn X.K (.ref f) = true ∧ Binds X.K fd ps [] ∧ ps.length = n ∧
    FnOk X.prog X.w X.K X.mg X.base (L2.CX X.prog X.w) lv f fd ps (spD κ X.K ps fun ds st => F i ds (fun _ => .bad) st)
  room : md.cm = true → Room lv X.A
  cn : ∀ i x, G.cn[i]? = some x → ∃ u v, X.mg x = some u ∧ RelV v u ∧ ∀ (K : Kit), K.K = X.K → ∀ ρ H, RelD K ρ H (P.consts i) v
  cl : ∀ i x, G.cl[i]? = some x → X.mg x = some (.ref (κ.cl i))
  glo : Glo κ X.K P.anc G.cl.length
  px : ∀ σ, PassesAt (L2.CX X.prog X.w) X σ (E σ)
  th : ∀ x, md.th = some x → ∀ p p2, PE X (.Call (.Name x p) [] [] p2) (eE X κ (BXs κ E) false fun _ st => th st)
  xs : ∀ i, md.xs = some i → ∃ a c, (i, a) ∈ κ.fx ∧ xc = some c ∧ c < G.cl.length ∧ CallR X (.builtin "isinstance") (rIsE X.K (κ.cl c) a)
  lam : md.lm = true → ∀ i x, (i, x) ∈ G.lm → ∀ (params : Arguments) (body : Expr) (scope : Scope) (lpos p pos : Pos) (fb : Bool) (mb : Loc → Store → Res D), lamOk sc x params scope = true →
    (∀ (A : Around) (outer : List Env) (s : Shared) (H : Hp) (E' : XK) (f c' : Addr), Room lv (A.deeper (lamEnv X scope s.heap.objs.size f c')) → PE (lamCx X A outer s H E' scope f c') body (tE ⟨κ, X.K⟩ (fun _ => BX κ E') fb mb)) →
    PE X (.Call (.Name x p) [.Lambda params body scope lpos] [] pos) (eE X κ (BXs κ E) false fun l st => (F i [] (mb l) st).calm)
end Pm

set_option Elab.async false
set_option linter.all false
set_option maxRecDepth 100000
set_option maxHeartbeats 8000000
/-! Ev25: what is checked is sound: expressions. -/
namespace Pm
open PySem PySem.Spec PyProof.Rows L2 LamX
set_option autoImplicit false

theorem and2 {a b : Bool} (h : (a && b) = true) : a = true ∧ b = true := Bool.and_eq_true_iff.mp h
theorem nmOk_d {x : Str} (h : nmOk x = true) : (x == ("__debug__" : Str)) = false ∧ (x == ("__classdict__" : Str)) = false := by
  unfold nmOk at h
  simpa using h
theorem visB_ok {sc : Scope} {x : Str} (h : visB sc x = true) : Vis sc x := by
  unfold visB at h
  split at h
  · exact .inl (by assumption)
  · exact .inr (.inl (by assumption))
  · exact .inr (.inr (by assumption))
  · cases h
section
variable {X : Cx} {κ : Kx} {B : L2.St → XW}
theorem pe_weak {e : Expr} {fr : Bool} {m : Loc → Store → Res D} (h : PE X e (eE X κ B fr m)) : PE X e (eE X κ B false m) :=
  PE.imp h fun σ H Q ⟨ρ, l, st, at0, q⟩ => ⟨ρ, l, st, at0, EndG.weak q⟩
theorem se_g {e : Expr} {v : V} {d : D} (h : PE X e (tC v)) (hr : ∀ ρ H, RelD (Cx.kit X κ) ρ H d v) : PE X e (eE X κ B false fun _ st => .ok d st) :=
  PE.imp h fun σ H Q ⟨ρ, l, st, a, q⟩ => q ρ v H (Ext.refl _ _) a.sim ⟨hr ρ H, fun t => nomatch t⟩
theorem var_pe {N : List Str} {sc : Scope} {i : Nat} {x : Str} {p : Pos} (hN : X.N = N) (hsc : X.env.scope = sc) (h : varOk N sc i x = true) : PE X (.Name x p) (tVar i) := by
  unfold varOk at h
  obtain ⟨h1, h3⟩ := and2 h
  obtain ⟨h1, h2⟩ := and2 h1
  exact pe_var (by rw [hN]; exact of_decide_eq_true h1) (by rw [hsc]; exact visB_ok h2) (nmOk_d h3).1 (nmOk_d h3).2
end
theorem gl_ok {X : Cx} {sc : Scope} {x : Str} (hsc : X.env.scope = sc) (h : glOk sc x = true) : Gl X x := by
  subst hsc
  exact of_decide_eq_true (p := X.env.scope.names.lookup x = some .globalImplicit) h
section
variable {P : Par} {G : Gd} {F : FnSem} {th : M} {xc : Option Nat} {N : List Str} {md : Md} {κ : Kx} {E : L2.St → XK} {sc : Scope} {lv : Nat} {X : Cx}
theorem tg_pe (f : Fit P G F th xc N md κ E sc lv X) {t : Tg} {x : Expr} (h : tgE G sc t x = true) : PE X x (tC (tgV κ t)) ∧ notStar x = true := by
  cases x with
  | Name x p =>
    refine ⟨?_, rfl⟩
    cases t with
    | own c =>
      simp only [tgE, Bool.and_eq_true] at h
      exact pe_glob (gl_ok f.hsc h.1.1) (f.cl c x (of_decide_eq_true h.1.2)) rfl (nmOk_d h.2).1
    | int => simp only [tgE, Bool.and_eq_true, decide_eq_true_eq] at h; obtain ⟨h1, rfl⟩ := h; exact pe_bltn (gl_ok f.hsc h1) (f.bi _ (by decide)) rfl rfl (by decide) (by decide)
    | bool => simp only [tgE, Bool.and_eq_true, decide_eq_true_eq] at h; obtain ⟨h1, rfl⟩ := h; exact pe_bltn (gl_ok f.hsc h1) (f.bi _ (by decide)) rfl rfl (by decide) (by decide)
    | str => simp only [tgE, Bool.and_eq_true, decide_eq_true_eq] at h; obtain ⟨h1, rfl⟩ := h; exact pe_bltn (gl_ok f.hsc h1) (f.bi _ (by decide)) rfl rfl (by decide) (by decide)
    | tuple => simp only [tgE, Bool.and_eq_true, decide_eq_true_eq] at h; obtain ⟨h1, rfl⟩ := h; exact pe_bltn (gl_ok f.hsc h1) (f.bi _ (by decide)) rfl rfl (by decide) (by decide)
    | list => simp only [tgE, Bool.and_eq_true, decide_eq_true_eq] at h; obtain ⟨h1, rfl⟩ := h; exact pe_bltn (gl_ok f.hsc h1) (f.bi _ (by decide)) rfl rfl (by decide) (by decide)
    | dict => simp only [tgE, Bool.and_eq_true, decide_eq_true_eq] at h; obtain ⟨h1, rfl⟩ := h; exact pe_bltn (gl_ok f.hsc h1) (f.bi _ (by decide)) rfl rfl (by decide) (by decide)
    | verr => simp only [tgE, Bool.and_eq_true, decide_eq_true_eq] at h; obtain ⟨h1, rfl⟩ := h; exact pe_bltn (gl_ok f.hsc h1) (f.bi _ (by decide)) rfl rfl (by decide) (by decide)
  | _ => cases t <;> cases h
theorem tgs_pe (f : Fit P G F th xc N md κ E sc lv X) : ∀ {ts : List Tg} {xs : List Expr}, tgEs G sc ts xs = true → PA X xs (tTgs κ ts)
  | [], [], _ => pa_tgs_nil
  | t :: ts, x :: xs, h => by
    simp only [tgEs, Bool.and_eq_true] at h
    exact pa_tgs_cons (tg_pe f h.1).2 (tg_pe f h.1).1 (tgs_pe f h.2)
  | [], _ :: _, h => by cases h
  | _ :: _, [], h => by cases h
theorem sto_ok (f : Fit P G F th xc N md κ E sc lv X) {i : Nat} {x : Str} (h : stoOk N sc md i x = true) : Stores X i x ∧ i ∉ κ.fx.map (·.1) := by
  unfold stoOk at h
  obtain ⟨h1, h3⟩ := and2 h
  obtain ⟨h1, h2⟩ := and2 h1
  have hf : i ∉ κ.fx.map (·.1) := by rw [f.fx]; simpa using h3
  refine ⟨⟨by rw [f.hN]; exact of_decide_eq_true h1, ?_, ?_⟩, hf⟩
  · rw [f.hsc]
    split at h2
    · exact .inl (by assumption)
    · exact .inr (by assumption)
    · cases h2
  · rw [f.hsc]
    split at h2
    · exact .inr (by assumption)
    · exact .inl (f.fnc (by simpa using h2) x (by assumption))
    · cases h2
theorem pair_sto (f : Fit P G F th xc N md κ E sc lv X) : ∀ {is : List Nat} {xs : List Expr}, is.length = xs.length → ((is.zip xs).all fun p => match p.2 with
    | .Name x _ => stoOk N sc md p.1 x
    | _ => false) = true → Paired (fun e i => ∃ x p, e = Expr.Name x p ∧ Stores X i x) xs is ∧ ∀ i ∈ is, i ∉ κ.fx.map (·.1)
  | [], [], _, _ => ⟨.nil, fun _ h => nomatch h⟩
  | i :: is, x :: xs, hl, h => by
    simp only [List.zip_cons_cons, List.all_cons, Bool.and_eq_true] at h
    obtain ⟨h1, h2⟩ := h
    obtain ⟨r1, r2⟩ := pair_sto f (by simpa using hl) h2
    cases x with
    | Name n p =>
      obtain ⟨s1, s2⟩ := sto_ok f h1
      exact ⟨.cons ⟨n, p, rfl, s1⟩ r1, fun j hj => (List.mem_cons.mp hj).elim (fun e => by rw [e]; exact s2) (r2 j)⟩
    | _ => cases h1
  | [], _ :: _, hl, _ => by cases hl
  | _ :: _, [], hl, _ => by cases hl
theorem tgt_pg (f : Fit P G F th xc N md κ E sc lv X) (hc : md.cm = true) {t : T} {tg : Expr} (h : tgtOk N sc md t tg = true) : PG X tg (gT (Cx.kit X κ) t) := by
  cases t with
  | nm i =>
    cases tg with
    | Name x p => obtain ⟨h1, h2⟩ := sto_ok f (show stoOk N sc md i x = true from h); exact sg_nm (by rw [f.hN]; exact f.nd) h2 h1
    | _ => cases h
  | tp is =>
    cases tg with
    | Tuple xs k p =>
      simp only [tgtOk, Bool.and_eq_true, beq_iff_eq] at h
      obtain ⟨h1, h2⟩ := pair_sto f h.1 h.2
      exact sg_tp (f.calm hc) (by rw [f.hN]; exact f.nd) h2 h1
    | _ => cases h
theorem key_pe {k : DKey} {x : Option Expr} (h : keyE k x = true) : ∃ y, x = some y ∧ PE X y (tC (kV (keyK k))) := by
  cases x with
  | none => cases k <;> cases h
  | some y =>
    refine ⟨y, rfl, ?_⟩
    cases y with
    | Constant c j p =>
      cases c with
      | int m =>
        cases k with
        | i n => have e := of_decide_eq_true h; subst e; exact pe_int
        | s x => cases h
      | str s =>
        cases k with
        | i n => cases h
        | s x => have e := of_decide_eq_true h; subst e; exact pe_str
      | _ => cases k <;> cases h
    | _ => cases k <;> cases h
/-- a block's context -/
theorem fit_blk (f : Fit P G F th xc N md κ E sc lv X) {scope : Scope} {own : List (Str × Nat)} (ok : BlkOk N sc scope own) (s : Shared) (H : Hp) (C : Addr) (cl : List (Str × Addr)) (fp : List Addr) :
    Fit P G F th xc N (blkMd md) κ.up (fun _ _ _ _ => False) (relS scope sc) lv (X.blk s H scope (compEnvC scope cl C X.env) fp) where
  hN := f.hN
  nd := f.nd
  hsc := by rw [← f.hsc]; rfl
  kind := ok.kind
  fnc := fun h => nomatch h
  calm := f.calm
  un := f.un
  bi := f.bi
  fx := f.fx
  fn := f.fn
  room := f.room
  cn := f.cn
  cl := f.cl
  glo := ⟨f.glo.ownT, f.glo.ownE, f.glo.verr⟩
  px := fun σ => passAt takes0 σ
  th := fun _ h => nomatch h
  xs := fun _ h => nomatch h
  lam := fun h => nomatch h
end
theorem BXs_false {κ : Kx} : (BXs κ fun _ _ _ _ => False) = B0 := rfl
section
variable {P : Par} {F : FnSem} {th : M} {xc : Option Nat}
theorem evEs_len : ∀ (es : Es) (l : Loc) (st : Store) (ds : List D) (st' : Store), evEs P F th xc es l st = .ok ds st' → ds.length = es.len
  | .nil, l, st, ds, st', h => by
    rw [evEs] at h
    cases h; rfl
  | .cons e es, l, st, ds, st', h => by
    rw [evEs] at h
    cases he : evE P F th xc e l st with
    | bad => rw [he] at h; cases h
    | exc c fs s => rw [he] at h; cases h
    | ok d st1 =>
      rw [he] at h
      simp only [Res.bind] at h
      cases hs : evEs P F th xc es l st1 with
      | bad => rw [hs] at h; cases h
      | exc c fs s => rw [hs] at h; cases h
      | ok ds2 st2 =>
        rw [hs] at h
        simp only [Res.ok.injEq] at h
        obtain ⟨rfl, rfl⟩ := h
        rw [List.length_cons, evEs_len es l st1 ds2 _ hs]; rfl
end
end Pm

set_option Elab.async false
set_option linter.all false
set_option maxRecDepth 100000
set_option maxHeartbeats 8000000
/-! Ev26: what is checked is sound: expressions, by recursion. -/
namespace Pm
open PySem PySem.Spec PyProof.Rows L2 LamX
set_option autoImplicit false

section
variable {X : Cx} {κ : Kx} {B : L2.St → XW}
theorem pe_eq {e : Expr} {fr : Bool} {m m' : Loc → Store → Res D} (h : PE X e (eE X κ B fr m)) (k : ∀ l st, m' l st = m l st) : PE X e (eE X κ B fr m') := by
  have : m' = m := by funext l st; exact k l st
  rw [this]; exact h
theorem pt_eq {e : Expr} {m m' : Loc → Store → Res Bool} (h : PT X e (eT X κ B m)) (k : ∀ l st, m' l st = m l st) : PT X e (eT X κ B m') := by
  have : m' = m := by funext l st; exact k l st
  rw [this]; exact h
theorem pa_eq {e : List Expr} {m m' : Loc → Store → Res (List D)} (h : PA X e (eA X κ B m)) (k : ∀ l st, m' l st = m l st) : PA X e (eA X κ B m') := by
  have : m' = m := by funext l st; exact k l st
  rw [this]; exact h
theorem po_eq {e : Option Expr} {m m' : Loc → Store → Res (Option Int)} (h : PO X e (eO X κ B m)) (k : ∀ l st, m' l st = m l st) : PO X e (eO X κ B m') := by
  have : m' = m := by funext l st; exact k l st
  rw [this]; exact h
theorem pi_eq {tg e : Expr} {m m' : Loc → Store → Res (List D)} (h : PI X tg e (eI X κ B m)) (k : ∀ l st, m' l st = m l st) : PI X tg e (eI X κ B m') := by
  have : m' = m := by funext l st; exact k l st
  rw [this]; exact h
theorem pts_eq {e : List Expr} {m m' : Loc → Store → Res Bool} (h : PTs X e (eT X κ B m)) (k : ∀ l st, m' l st = m l st) : PTs X e (eT X κ B m') := by
  have : m' = m := by funext l st; exact k l st
  rw [this]; exact h
theorem sd_eq {pos : Pos} {keys : List (Option Expr)} {values : List Expr} {ks : List DKey} {m m' : Loc → Store → Res (List D)} (h : SD X κ B pos keys values ks m) (k : ∀ l st, m' l st = m l st) : SD X κ B pos keys values ks m' := by
  have : m' = m := by funext l st; exact k l st
  rw [this]; exact h
theorem pw_of {op : BoolOp} {vs : List Expr} {p : Pos} {t : TT} (h : PT X (.BoolOp op vs p) t) : PW X (.BoolOp op vs p) t := ⟨fun wh pins s σ H Q I q => h.run pins s σ H Q I q⟩
theorem pts_yes : PTs X [] (eT X κ B fun _ st => .ok true st) := ⟨fun pins s σ H Q I ⟨ρ, l, st, at0, q⟩ => pts_nil.run pins s σ H Q I (q ρ true H (Ext.refl _ _) at0.sim rfl)⟩
theorem noStar_es : ∀ {ys : List Expr}, ys.all notStar = true → ys.all notStar = true := fun h => h
end

/-! ### the forms, read back -/
theorem asNon_ok {x : Expr} (h : asNon x = true) : ∃ k p, x = .Constant .none k p := by
  unfold asNon at h; split at h
  · exact ⟨_, _, rfl⟩
  · cases h
theorem asBl_ok {x : Expr} {b : Bool} (h : asBl x = some b) : ∃ k p, x = .Constant (.bool b) k p := by
  unfold asBl at h; split at h
  · cases h; exact ⟨_, _, rfl⟩
  · cases h
theorem asI_ok {x : Expr} {b : Int} (h : asI x = some b) : ∃ k p, x = .Constant (.int b) k p := by
  unfold asI at h; split at h
  · cases h; exact ⟨_, _, rfl⟩
  · cases h
theorem asS_ok {x : Expr} {b : Str} (h : asS x = some b) : ∃ k p, x = .Constant (.str b) k p := by
  unfold asS at h; split at h
  · cases h; exact ⟨_, _, rfl⟩
  · cases h
theorem asNm_ok {x : Expr} {b : Str} (h : asNm x = some b) : ∃ p, x = .Name b p := by
  unfold asNm at h; split at h
  · cases h; exact ⟨_, rfl⟩
  · cases h
theorem asTup_ok {x : Expr} {b : List Expr} (h : asTup x = some b) : ∃ k p, x = .Tuple b k p := by
  unfold asTup at h; split at h
  · cases h; exact ⟨_, _, rfl⟩
  · cases h
theorem asLst_ok {x : Expr} {b : List Expr} (h : asLst x = some b) : ∃ p, x = .List b p := by
  unfold asLst at h; split at h
  · cases h; exact ⟨_, rfl⟩
  · cases h
theorem asBin_ok {x y z : Expr} {o : Operator} (h : asBin x = some (y, o, z)) : ∃ p, x = .BinOp y o z p := by
  unfold asBin at h; split at h
  · cases h; exact ⟨_, rfl⟩
  · cases h
theorem asNeg_ok {x y : Expr} (h : asNeg x = some y) : ∃ p, x = .UnaryOp .USub y p := by
  unfold asNeg at h; split at h
  · cases h; exact ⟨_, rfl⟩
  · cases h
theorem asNot_ok {x y : Expr} (h : asNot x = some y) : ∃ p, x = .UnaryOp .Not y p := by
  unfold asNot at h; split at h
  · cases h; exact ⟨_, rfl⟩
  · cases h
theorem asCmp_ok {x y z : Expr} {o : CmpOp} (h : asCmp x = some (y, o, z)) : ∃ p, x = .Compare y [o] [z] p := by
  unfold asCmp at h; split at h
  · cases h; exact ⟨_, rfl⟩
  · cases h
theorem asChn_ok {x y z w : Expr} {o q : CmpOp} (h : asChn x = some (y, o, z, q, w)) : ∃ p, x = .Compare y [o, q] [z, w] p := by
  unfold asChn at h; split at h
  · cases h; exact ⟨_, rfl⟩
  · cases h
theorem asIs_ok {x y : Expr} (h : asIs x = some y) : ∃ k p q, x = .Compare y [.Is] [.Constant .none k p] q := by
  unfold asIs at h; split at h
  · cases h; exact ⟨_, _, _, rfl⟩
  · cases h
theorem asIsN_ok {x y : Expr} (h : asIsN x = some y) : ∃ k p q, x = .Compare y [.IsNot] [.Constant .none k p] q := by
  unfold asIsN at h; split at h
  · cases h; exact ⟨_, _, _, rfl⟩
  · cases h
theorem asAnd_ok {x y t : Expr} (h : asAnd x = some (y, t)) : ∃ z r p, x = .BoolOp .And (y :: z :: r) p ∧ t = tailB .And z r p := by
  unfold asAnd at h; split at h
  · cases h; exact ⟨_, _, _, rfl, rfl⟩
  · cases h
theorem asOr_ok {x y t : Expr} (h : asOr x = some (y, t)) : ∃ z r p, x = .BoolOp .Or (y :: z :: r) p ∧ t = tailB .Or z r p := by
  unfold asOr at h; split at h
  · cases h; exact ⟨_, _, _, rfl, rfl⟩
  · cases h
theorem asIte_ok {x t y z : Expr} (h : asIte x = some (t, y, z)) : ∃ p, x = .IfExp t y z p := by
  unfold asIte at h; split at h
  · cases h; exact ⟨_, rfl⟩
  · cases h
theorem asIx_ok {x y z : Expr} (h : asIx x = some (y, z)) : ∃ p, x = .Subscript y z p := by
  unfold asIx at h; split at h
  · cases h; exact ⟨_, rfl⟩
  · cases h
theorem asSlc_ok {x y : Expr} {l u : Option Expr} (h : asSlc x = some (y, l, u)) : ∃ p q, x = .Subscript y (.Slice l u none p) q := by
  unfold asSlc at h; split at h
  · cases h; exact ⟨_, _, rfl⟩
  · cases h
theorem asCall_ok {x : Expr} {f : Str} {xs : List Expr} (h : asCall x = some (f, xs)) : ∃ p q, x = .Call (.Name f p) xs [] q := by
  unfold asCall at h; split at h
  · cases h; exact ⟨_, _, rfl⟩
  · cases h
theorem asLam_ok {x : Expr} {a : Arguments} {b : Expr} {c : Scope} (h : asLam x = some (a, b, c)) : ∃ p, x = .Lambda a b c p := by
  unfold asLam at h; split at h
  · cases h; exact ⟨_, rfl⟩
  · cases h
theorem asMt_ok {x ob : Expr} {nm : Str} {ys : List Expr} (h : asMt x = some (ob, nm, ys)) : ∃ ap cp, x = .Call (.Attribute ob nm ap) ys [] cp ∧ (ap.endLine == cp.line) = true := by
  unfold asMt at h; split at h
  · split at h
    · cases h; exact ⟨_, _, rfl, by assumption⟩
    · cases h
  · cases h
theorem asLc_ok {x y tg iter : Expr} {ifs : List Expr} {sc : Scope} (h : asLc x = some (y, tg, iter, ifs, sc)) : ∃ p, x = .ListComp y [⟨tg, iter, ifs, 0⟩] sc p := by
  unfold asLc at h; split at h
  · split at h
    · rename_i e; cases h; subst e; exact ⟨_, rfl⟩
    · cases h
  · cases h
theorem asDic_ok {x : Expr} {ks : List (Option Expr)} {vs : List Expr} (h : asDic x = some (ks, vs)) : ∃ p, x = .Dict ks vs p := by
  unfold asDic at h; split at h
  · cases h; exact ⟨_, rfl⟩
  · cases h
theorem tail_pe {op : BoolOp} {X : Cx} {y : Expr} {r : List Expr} {pos : Pos} {t : TE} (h : PE X (tailB op y r pos) t) : PE X (.BoolOp op (y :: r) pos) t := by
  cases r with
  | nil => exact pe_one h
  | cons z r => exact h
theorem tail_and {X : Cx} {y : Expr} {r : List Expr} {pos : Pos} {t : TT} (h : PT X (tailB .And y r pos) t) : PW X (.BoolOp .And (y :: r) pos) t := by
  cases r with
  | nil => exact pw_and1 h
  | cons z r => exact pw_of h
theorem tail_or {X : Cx} {y : Expr} {r : List Expr} {pos : Pos} {t : TT} (h : PT X (tailB .Or y r pos) t) : PW X (.BoolOp .Or (y :: r) pos) t := by
  cases r with
  | nil => exact pw_or1 h
  | cons z r => exact pw_of h

section
variable {P : Par} {G : Gd} {F : FnSem} {th : M} {N : List Str}
theorem isi_pe {xc : Option Nat} {md : Md} {κ : Kx} {E : L2.St → XK} {sc : Scope} {lv : Nat} {X : Cx} {ts : List Tg} {x T : Expr} {p pos : Pos} {fa fr : Bool} {ma : Loc → Store → Res D} (f : Fit P G F th xc N md κ E sc lv X)
    (hg : Gl X "isinstance") (ns : notStar x = true) (nT : notStar T = true) (ht : ts.all (tgOk G.cl.length) = true) (ha : PE X x (eE X κ (BXs κ E) fa ma))
    (h : tgAll' G ts T sc = true) :
    PE X (.Call (.Name "isinstance" p) [x, T] [] pos) (eE X κ (BXs κ E) fr fun l st => (ma l st).bind fun x st => optR (liveT st x) fun x => .ok (.bl (ts.any (isD st P.anc x))) st) := by
  match ts, ht, h with
  | [t], ht, h => exact se_isi1 f.glo (by simpa using ht) hg (f.bi _ (by decide)) ns nT ha (tg_pe f h).1
  | [], ht, h => exact absurd h (by simp [tgAll'])
  | t1 :: t2 :: r, ht, h =>
    obtain ⟨h1, h3⟩ := and2 h
    obtain ⟨h1, h2⟩ := and2 h1
    cases T with
    | Tuple Ts k p => exact se_isiT f.glo ht (of_decide_eq_true h1) (of_decide_eq_true h2) hg (f.bi _ (by decide)) ns ha (tgs_pe f h3)
    | _ => cases h3
theorem own_tgt : ∀ {t : T} {tg : Expr}, (ownOf t tg).map (·.2) = slotsT t → (∀ i ∈ (ownOf t tg).map (·.2), i ∈ slotsT t) ∧ ∀ i ∈ slotsT t, i ∈ (ownOf t tg).map (·.2) := fun h => by
  rw [h]; exact ⟨fun _ h => h, fun _ h => h⟩
/-- a lambda's context -/
theorem fit_lam {xc : Option Nat} {md : Md} {κ : Kx} {E : L2.St → XK} {sc : Scope} {lv : Nat} {X : Cx} (f : Fit P G F th xc N md κ E sc lv X) {scope : Scope} (L : LamS sc scope) (A : Around) (outer : List Env) (s : Shared) (H : Hp) (E' : XK) (f0 c' : Addr)
    (hr : Room lv (A.deeper (lamEnv X scope s.heap.objs.size f0 c'))) : Fit P G F th xc N (lamMd md) κ (fun _ => E') scope lv (lamCx X A outer s H E' scope f0 c') where
  hN := f.hN
  nd := f.nd
  hsc := rfl
  kind := L.kind
  fnc := fun h => nomatch h
  calm := fun _ => rfl
  un := by have := hr.un; show (A.deeper _).units + 64 < cLine; omega
  bi := f.bi
  fx := f.fx
  fn := f.fn
  room := fun _ => hr
  cn := f.cn
  cl := f.cl
  glo := f.glo
  px := fun σ => passAt (W := fun cls d _ H => E' cls d H) (takes_of rfl rfl rfl rfl) σ
  th := fun _ h => nomatch h
  xs := fun _ h => nomatch h
  lam := fun h => nomatch h
/-- beside a new dict -/
theorem fit_up {xc : Option Nat} {md : Md} {κ : Kx} {E : L2.St → XK} {sc : Scope} {lv : Nat} {X : Cx} (f : Fit P G F th xc N md κ E sc lv X) : Fit P G F th xc N (blkMd md) κ.up E sc lv X where
  hN := f.hN
  nd := f.nd
  hsc := f.hsc
  kind := f.kind
  fnc := fun h => nomatch h
  calm := f.calm
  un := f.un
  bi := f.bi
  fx := f.fx
  fn := f.fn
  room := f.room
  cn := f.cn
  cl := f.cl
  glo := ⟨f.glo.ownT, f.glo.ownE, f.glo.verr⟩
  px := f.px
  th := fun _ h => nomatch h
  xs := fun _ h => nomatch h
  lam := fun h => nomatch h
end
end Pm

set_option Elab.async false
set_option linter.all false
set_option maxRecDepth 100000
set_option maxHeartbeats 16000000
/-! Ev27: what is checked is sound: expressions, the recursion. -/
namespace Pm
open PySem PySem.Spec PyProof.Rows L2 LamX
set_option autoImplicit false

section
variable {P : Par} {G : Gd} {F : FnSem} {th : M} {N : List Str}
mutual
theorem sndE : ∀ (e : E) {md : Md} {sc : Scope} {x : Expr} {xc : Option Nat} {κ : Kx} {E : L2.St → XK} {lv : Nat} {X : Cx}, chkE G N md e sc x = true → Fit P G F th xc N md κ E sc lv X → PE X x (eE X κ (BXs κ E) (frE e) (evE P F th xc e))
  | .non, md, sc, x, xc, κ, E, lv, X, h, f => by
    simp only [chkE] at h
    obtain ⟨k, p, rfl⟩ := asNon_ok h
    exact pe_eq (se_const pe_non (fun _ _ _ => .non) rfl) fun l st => by rw [evE]
  | .bl b, md, sc, x, xc, κ, E, lv, X, h, f => by
    simp only [chkE] at h
    obtain ⟨k, p, rfl⟩ := asBl_ok (of_decide_eq_true h)
    exact pe_eq (se_const pe_bl (fun _ _ _ => .bl _) rfl) fun l st => by rw [evE]
  | .int i, md, sc, x, xc, κ, E, lv, X, h, f => by
    simp only [chkE] at h
    obtain ⟨k, p, rfl⟩ := asI_ok (of_decide_eq_true h)
    exact pe_eq (se_const pe_int (fun _ _ _ => .int _) rfl) fun l st => by rw [evE]
  | .str s, md, sc, x, xc, κ, E, lv, X, h, f => by
    simp only [chkE] at h
    obtain ⟨k, p, rfl⟩ := asS_ok (of_decide_eq_true h)
    exact pe_eq (se_const pe_str (fun _ _ _ => .str _) rfl) fun l st => by rw [evE]
  | .v i, md, sc, x, xc, κ, E, lv, X, h, f => by
    simp only [chkE] at h
    split at h
    · rename_i hx
      obtain ⟨p, rfl⟩ := asNm_ok hx
      exact pe_eq (se_var (var_pe f.hN f.hsc h)) fun l st => by rw [evE]
    · cases h
  | .frz i, md, sc, x, xc, κ, E, lv, X, h, f => by
    simp only [chkE] at h
    split at h
    · rename_i hx
      obtain ⟨p, rfl⟩ := asNm_ok hx
      exact pe_eq (se_frz (var_pe f.hN f.hsc h)) fun l st => by rw [evE]
    · cases h
  | .g i, md, sc, x, xc, κ, E, lv, X, h, f => by
    simp only [chkE] at h
    split at h
    · rename_i hx
      obtain ⟨p, rfl⟩ := asNm_ok hx
      obtain ⟨h1, h3⟩ := and2 h
      obtain ⟨h1, h2⟩ := and2 h1
      obtain ⟨u, v, e1, e2, e3⟩ := f.cn i _ (of_decide_eq_true h2)
      exact pe_eq (se_g (pe_glob (gl_ok f.hsc h1) e1 e2 (nmOk_d h3).1) (e3 _ rfl)) fun l st => by rw [evE]
    · cases h
  | .tup es, md, sc, x, xc, κ, E, lv, X, h, f => by
    simp only [chkE] at h
    split at h
    · rename_i hx
      obtain ⟨k, p, rfl⟩ := asTup_ok hx
      exact pe_eq (se_tup (sndEs es h f)) fun l st => by rw [evE]
    · cases h
  | .lst es, md, sc, x, xc, κ, E, lv, X, h, f => by
    simp only [chkE] at h
    split at h
    · rename_i hx
      obtain ⟨p, rfl⟩ := asLst_ok hx
      exact pe_eq (se_lst (sndEs es h f)) fun l st => by rw [evE]
    · cases h
  | .bin op a b, md, sc, x, xc, κ, E, lv, X, h, f => by
    simp only [chkE] at h
    split at h
    · rename_i hx
      obtain ⟨p, rfl⟩ := asBin_ok hx
      obtain ⟨h1, h3⟩ := and2 h
      obtain ⟨h1, h2⟩ := and2 h1
      have e := of_decide_eq_true h1
      subst e
      exact pe_eq (se_bin op (sndE a h2 f) (sndE b h3 f)) fun l st => by rw [evE]
    · cases h
  | .neg a, md, sc, x, xc, κ, E, lv, X, h, f => by
    simp only [chkE] at h
    split at h
    · rename_i hx
      obtain ⟨p, rfl⟩ := asNeg_ok hx
      exact pe_eq (se_neg (sndE a h f)) fun l st => by rw [evE]
    · cases h
  | .cmp op a b, md, sc, x, xc, κ, E, lv, X, h, f => by
    simp only [chkE] at h
    split at h
    · rename_i hx
      obtain ⟨p, rfl⟩ := asCmp_ok hx
      obtain ⟨h1, h4⟩ := and2 h
      obtain ⟨h1, h3⟩ := and2 h1
      obtain ⟨h1, h2⟩ := and2 h1
      have e := of_decide_eq_true h1
      subst e
      exact pe_eq (se_cmp f.un op (noSet_in h2 _) (sndE a h3 f) (sndE b h4 f)) fun l st => by rw [evE]
    · cases h
  | .chn o1 o2 a b c, md, sc, x, xc, κ, E, lv, X, h, f => by
    simp only [chkE] at h
    split at h
    · rename_i hx
      obtain ⟨p, rfl⟩ := asChn_ok hx
      obtain ⟨h1, h6⟩ := and2 h
      obtain ⟨h1, h5⟩ := and2 h1
      obtain ⟨h1, h4⟩ := and2 h1
      obtain ⟨h1, h3⟩ := and2 h1
      obtain ⟨h1, h2⟩ := and2 h1
      have e := of_decide_eq_true h1
      have e' := of_decide_eq_true h2
      subst e e'
      exact pe_eq (se_chn f.un o1 o2 (noSet_in h3 _) (sndE a h4 f) (sndE b h5 f) (sndE c h6 f)) fun l st => by rw [evE]
    · cases h
  | .isn a, md, sc, x, xc, κ, E, lv, X, h, f => by
    simp only [chkE] at h
    split at h
    · rename_i hx
      obtain ⟨k, p, q, rfl⟩ := asIs_ok hx
      exact pe_eq (se_isn (sndE a h f)) fun l st => by rw [evE]
    · cases h
  | .nisn a, md, sc, x, xc, κ, E, lv, X, h, f => by
    simp only [chkE] at h
    split at h
    · rename_i hx
      obtain ⟨k, p, q, rfl⟩ := asIsN_ok hx
      exact pe_eq (se_nisn (sndE a h f)) fun l st => by rw [evE]
    · cases h
  | .and a b, md, sc, x, xc, κ, E, lv, X, h, f => by
    simp only [chkE] at h
    split at h
    · rename_i hx
      obtain ⟨z, r, p, rfl, rfl⟩ := asAnd_ok hx
      obtain ⟨h1, h2⟩ := and2 h
      exact pe_eq (se_and (sndE a h1 f) (tail_pe (pe_weak (sndE b h2 f)))) fun l st => by rw [evE]
    · cases h
  | .or a b, md, sc, x, xc, κ, E, lv, X, h, f => by
    simp only [chkE] at h
    split at h
    · rename_i hx
      obtain ⟨z, r, p, rfl, rfl⟩ := asOr_ok hx
      obtain ⟨h1, h2⟩ := and2 h
      exact pe_eq (se_or (sndE a h1 f) (tail_pe (pe_weak (sndE b h2 f)))) fun l st => by rw [evE]
    · cases h
  | .not a, md, sc, x, xc, κ, E, lv, X, h, f => by
    simp only [chkE] at h
    split at h
    · rename_i hx
      obtain ⟨p, rfl⟩ := asNot_ok hx
      exact pe_eq (se_not (sndE a h f)) fun l st => by rw [evE]
    · cases h
  | .ite c a b, md, sc, x, xc, κ, E, lv, X, h, f => by
    simp only [chkE] at h
    split at h
    · rename_i hx
      obtain ⟨p, rfl⟩ := asIte_ok hx
      obtain ⟨h1, h3⟩ := and2 h
      obtain ⟨h1, h2⟩ := and2 h1
      exact pe_weak (pe_eq (se_ite (sndT c h1 f) (sndE a h2 f) (sndE b h3 f)) fun l st => by rw [evE])
    · cases h
  | .ix a b, md, sc, x, xc, κ, E, lv, X, h, f => by
    simp only [chkE] at h
    split at h
    · rename_i hx
      obtain ⟨p, rfl⟩ := asIx_ok hx
      obtain ⟨h1, h3⟩ := and2 h
      obtain ⟨h1, h2⟩ := and2 h1
      exact pe_eq (se_ix f.un (plainIx_ok h1) (sndE a h2 f) (sndE b h3 f)) fun l st => by rw [evE]
    · cases h
  | .slc a lo hi, md, sc, x, xc, κ, E, lv, X, h, f => by
    simp only [chkE] at h
    split at h
    · rename_i hx
      obtain ⟨p, q, rfl⟩ := asSlc_ok hx
      obtain ⟨h1, h3⟩ := and2 h
      obtain ⟨h1, h2⟩ := and2 h1
      exact pe_eq (se_slc (sndE a h1 f) (sndO lo h2 f) (sndO hi h3 f)) fun l st => by rw [evE]
    · cases h
  | .rev a, md, sc, x, xc, κ, E, lv, X, h, f => by
    simp only [chkE] at h
    cases h
  | .isi a ts, md, sc, x, xc, κ, E, lv, X, h, f => by
    simp only [chkE] at h
    split at h
    · rename_i hx
      obtain ⟨p, q, rfl⟩ := asCall_ok hx
      obtain ⟨h1, h7⟩ := and2 h
      obtain ⟨h1, h6⟩ := and2 h1
      obtain ⟨h1, h5⟩ := and2 h1
      obtain ⟨h1, h4⟩ := and2 h1
      obtain ⟨h1, h3⟩ := and2 h1
      obtain ⟨h1, h2⟩ := and2 h1
      have e := of_decide_eq_true h1
      subst e
      exact pe_eq (isi_pe f (gl_ok f.hsc h2) h3 h4 h5 (sndE a h6 f) h7) fun l st => by rw [evE]
    · cases h
  | .isx t, md, sc, x, xc, κ, E, lv, X, h, f => by
    simp only [chkE] at h
    split at h
    · rename_i hx
      obtain ⟨p, q, rfl⟩ := asCall_ok hx
      obtain ⟨h1, h7⟩ := and2 h
      obtain ⟨h1, h6⟩ := and2 h1
      obtain ⟨h1, h5⟩ := and2 h1
      obtain ⟨h1, h4⟩ := and2 h1
      obtain ⟨h1, h3⟩ := and2 h1
      obtain ⟨h1, h2⟩ := and2 h1
      have e := of_decide_eq_true h1
      subst e
      split at h7
      · rename_i n i hn hi
        obtain ⟨pn, rfl⟩ := asNm_ok hn
        obtain ⟨ae, c, e1, e2, e3, e4⟩ := f.xs i hi
        subst e2
        refine pe_eq (se_isx (anc := P.anc) (t := t) f.glo e3 ?_ (gl_ok f.hsc h2) (f.bi _ (by decide)) e4 (var_pe f.hN f.hsc h7) e1 h5 (tg_pe f h6).1) fun l st => by rw [evE]; rfl
        cases t with
        | own k => exact h4
        | verr => rfl
        | _ => cases h3
      · cases h7
    · cases h
  | .call g es, md, sc, x, xc, κ, E, lv, X, h, f => by
    simp only [chkE] at h
    split at h
    · rename_i hx
      obtain ⟨p, q, rfl⟩ := asCall_ok hx
      obtain ⟨h1, h6⟩ := and2 h
      obtain ⟨h1, h5⟩ := and2 h1
      obtain ⟨h1, h4⟩ := and2 h1
      obtain ⟨h1, h3⟩ := and2 h1
      obtain ⟨h1, h2⟩ := and2 h1
      obtain ⟨a, fd, ps, e1, e2, e3, e4, e5⟩ := f.fn h1 g _ _ (of_decide_eq_true h3)
      exact pe_eq (se_call e5 (f.room h1) (gl_ok f.hsc h2) e1 e2 e3 f.px (sndEs es h6 f) (fun l st ds st' z => by rw [e4]; exact evEs_len es l st ds st' z) (nmOk_d h4).1 h5) fun l st => by rw [evE]
    · cases h
  | .thk g body, md, sc, x, xc, κ, E, lv, X, h, f => by
    simp only [chkE] at h
    split at h
    · rename_i hx
      obtain ⟨p, q, rfl⟩ := asCall_ok hx
      split at h
      · rename_i hy
        obtain ⟨lp, rfl⟩ := asLam_ok hy
        obtain ⟨h1, h4⟩ := and2 h
        obtain ⟨h1, h3⟩ := and2 h1
        obtain ⟨h1, h2⟩ := and2 h1
        refine pe_eq (f.lam h1 g _ (of_decide_eq_true h2) _ _ _ _ _ _ (frE body) (evE P F th xc body) h3 fun A outer s H E' f0 c' hr => ?_) fun l st => by rw [evE]
        have L := lamS_by (and2 (and2 h3).1).2
        exact sndE body h4 (fit_lam f L A outer s H E' f0 c' hr)
      · cases h
    · cases h
  | .frc, md, sc, x, xc, κ, E, lv, X, h, f => by
    simp only [chkE] at h
    split at h
    · rename_i hx
      obtain ⟨p, q, rfl⟩ := asCall_ok hx
      exact pe_eq (f.th _ (of_decide_eq_true h) _ _) fun l st => by rw [evE]
    · cases h
  | .bi b es, md, sc, x, xc, κ, E, lv, X, h, f => by
    simp only [chkE] at h
    split at h
    · rename_i hx
      obtain ⟨p, q, rfl⟩ := asCall_ok hx
      obtain ⟨h1, h6⟩ := and2 h
      obtain ⟨h1, h5⟩ := and2 h1
      obtain ⟨h1, h4⟩ := and2 h1
      obtain ⟨h1, h3⟩ := and2 h1
      obtain ⟨h1, h2⟩ := and2 h1
      have e := of_decide_eq_true h1
      subst e
      exact pe_eq (se_bi b (by cases b <;> first | (cases h2; done) | decide) (fun hh => f.calm (by rw [hh] at h4; simpa using h4)) (gl_ok f.hsc h3) (f.bi _ (by cases b <;> decide)) h5 (sndEs es h6 f)) fun l st => by rw [evE]
    · cases h
  | .mt m o es, md, sc, x, xc, κ, E, lv, X, h, f => by
    simp only [chkE] at h
    split at h
    · rename_i ob nm ys hx
      obtain ⟨ap, cp, rfl, hl⟩ := asMt_ok hx
      obtain ⟨h1, h7⟩ := and2 h
      obtain ⟨h1, h6⟩ := and2 h1
      obtain ⟨h1, h5⟩ := and2 h1
      obtain ⟨h1, h4⟩ := and2 h1
      obtain ⟨h1, h3⟩ := and2 h1
      obtain ⟨h1, h2⟩ := and2 h1
      have e := of_decide_eq_true h1
      subst e
      cases ys with
      | nil =>
        cases es with
        | nil => exact pe_eq (se_mt0 f.un m h2 (fun z => by subst z; rfl) h3 hl (sndE o h4 f)) fun l st => by rw [evE]; congr 1; funext x st; rw [evEs]
        | cons _ _ => simp only [chkEs] at h7; cases h7
      | cons y ys => exact pe_eq (se_mt f.un m h2 (fun z => by subst z; rfl) h3 hl h5 (of_decide_eq_true h6) (sndE o h4 f) (sndEs es h7 f)) fun l st => by rw [evE]
    · cases h
  | .lc elt t it c, md, sc, x, xc, κ, E, lv, X, h, f => by
    simp only [chkE] at h
    split at h
    · rename_i hx
      obtain ⟨p, rfl⟩ := asLc_ok hx
      obtain ⟨h1, h8⟩ := and2 h
      obtain ⟨h1, h7⟩ := and2 h1
      obtain ⟨h1, h6⟩ := and2 h1
      obtain ⟨h1, h5⟩ := and2 h1
      obtain ⟨h1, h4⟩ := and2 h1
      obtain ⟨h1, h3⟩ := and2 h1
      obtain ⟨h1, h2⟩ := and2 h1
      have ok : BlkOk N sc _ _ := blkOk_by h3
      obtain ⟨o1, o2⟩ := own_tgt (of_decide_eq_true h8)
      refine pe_eq (se_lc (fe := frE elt) (f.calm h1) (by rw [f.hN]; exact f.nd) (sndI it h5 f) (by rw [f.hN, f.hsc]; exact ok) o1 o2 (fun s H C cl fp => ?_) (fun s H C cl fp => ?_) (fun s H C cl fp => ?_) h2) fun l st => by rw [evE]
      · exact tgt_pg (fit_blk f ok s H C cl fp) h1 h4
      · exact sndC c h6 (fit_blk f ok s H C cl fp)
      · exact sndE elt h7 (fit_blk f ok s H C cl fp)
    · cases h
  | .fmt es, md, sc, x, xc, κ, E, lv, X, h, f => by
    simp only [chkE] at h
    cases h
  | .dic ks es, md, sc, x, xc, κ, E, lv, X, h, f => by
    simp only [chkE] at h
    split at h
    · rename_i keys values hx
      obtain ⟨p, rfl⟩ := asDic_ok hx
      obtain ⟨h1, h2⟩ := and2 h
      have hd := sndD (pos := p) es h2 (fit_up f)
      cases keys with
      | nil =>
        have hv := hd.len.1
        have hk := hd.len.2.1
        cases values with
        | cons _ _ => cases hv
        | nil =>
          cases ks with
          | cons _ _ => cases hk
          | nil =>
            cases es with
            | nil => exact pe_eq se_dic0 fun l st => by rw [evE]; simp only [evEs]
            | cons _ _ => simp only [chkD] at h2; cases h2
      | cons y ys =>
        have hk := hd.len.2.1
        cases ks with
        | nil => cases hk
        | cons k ks => exact pe_eq (se_dic (by simp) (of_decide_eq_true h1) hd) fun l st => by rw [evE]
    · cases h
  | .box a, md, sc, x, xc, κ, E, lv, X, h, f => by
    simp only [chkE] at h
    obtain ⟨h1, h2⟩ := and2 h
    have ha := sndE a h2 f
    rw [h1] at ha
    exact pe_eq (se_box ha) fun l st => by rw [evE]
theorem sndT : ∀ (e : E) {md : Md} {sc : Scope} {x : Expr} {xc : Option Nat} {κ : Kx} {E : L2.St → XK} {lv : Nat} {X : Cx}, chkT G N md e sc x = true → Fit P G F th xc N md κ E sc lv X → PT X x (eT X κ (BXs κ E) (evT P F th xc e))
  | .and a b, md, sc, x, xc, κ, E, lv, X, h, f => by
    simp only [chkT] at h
    split at h
    · rename_i hx
      obtain ⟨z, r, p, rfl, rfl⟩ := asAnd_ok hx
      obtain ⟨h1, h2⟩ := and2 h
      exact pt_eq (PW.pt (sw_and (sndT a h1 f) (tail_and (sndT b h2 f)))) fun l st => by rw [evT]
    · cases h
  | .or a b, md, sc, x, xc, κ, E, lv, X, h, f => by
    simp only [chkT] at h
    split at h
    · rename_i hx
      obtain ⟨z, r, p, rfl, rfl⟩ := asOr_ok hx
      obtain ⟨h1, h2⟩ := and2 h
      exact pt_eq (PW.pt (sw_or (sndT a h1 f) (tail_or (sndT b h2 f)))) fun l st => by rw [evT]
    · cases h
  | .not a, md, sc, x, xc, κ, E, lv, X, h, f => by
    simp only [chkT] at h
    split at h
    · rename_i hx
      obtain ⟨p, rfl⟩ := asNot_ok hx
      exact pt_eq (st_not (sndT a h f)) fun l st => by rw [evT]
    · cases h
  | .cmp op a b, md, sc, x, xc, κ, E, lv, X, h, f => by
    simp only [chkT] at h
    split at h
    · rename_i hx
      obtain ⟨p, rfl⟩ := asCmp_ok hx
      obtain ⟨h1, h4⟩ := and2 h
      obtain ⟨h1, h3⟩ := and2 h1
      obtain ⟨h1, h2⟩ := and2 h1
      have e := of_decide_eq_true h1
      subst e
      exact pt_eq (st_cmp f.un op (noSet_in h2 _) (sndE a h3 f) (sndE b h4 f)) fun l st => by simp only [evT, evE]
    · cases h
  | .chn o1 o2 a b c, md, sc, x, xc, κ, E, lv, X, h, f => by
    simp only [chkT] at h
    split at h
    · rename_i hx
      obtain ⟨p, rfl⟩ := asChn_ok hx
      obtain ⟨h1, h6⟩ := and2 h
      obtain ⟨h1, h5⟩ := and2 h1
      obtain ⟨h1, h4⟩ := and2 h1
      obtain ⟨h1, h3⟩ := and2 h1
      obtain ⟨h1, h2⟩ := and2 h1
      have e := of_decide_eq_true h1
      have e' := of_decide_eq_true h2
      subst e e'
      exact pt_eq (st_chn f.un o1 o2 (noSet_in h3 _) (sndE a h4 f) (sndE b h5 f) (sndE c h6 f)) fun l st => by simp only [evT, evE]
    · cases h
  | .isn a, md, sc, x, xc, κ, E, lv, X, h, f => by
    simp only [chkT] at h
    split at h
    · rename_i hx
      obtain ⟨k, p, q, rfl⟩ := asIs_ok hx
      exact pt_eq (st_isn (sndE a h f)) fun l st => by simp only [evT, evE]
    · cases h
  | .nisn a, md, sc, x, xc, κ, E, lv, X, h, f => by
    simp only [chkT] at h
    split at h
    · rename_i hx
      obtain ⟨k, p, q, rfl⟩ := asIsN_ok hx
      exact pt_eq (st_nisn (sndE a h f)) fun l st => by simp only [evT, evE]
    · cases h
  | .v i, md, sc, x, xc, κ, E, lv, X, h, f => by
    simp only [chkT] at h
    split at h
    · rename_i hx
      obtain ⟨p, rfl⟩ := asNm_ok hx
      exact pt_eq (st_truth (se_var (var_pe f.hN f.hsc h)) (truePlain_ok rfl _)) fun l st => by simp only [evT, evE]
    · cases h
  | .bl b, md, sc, x, xc, κ, E, lv, X, h, f => by
    simp only [chkT] at h
    obtain ⟨k, p, rfl⟩ := asBl_ok (of_decide_eq_true h)
    exact pt_eq (st_truth (se_const (fr := true) pe_bl (fun _ _ _ => .bl _) rfl) (truePlain_ok rfl _)) fun l st => by simp only [evT, evE]
  | .ix a b, md, sc, x, xc, κ, E, lv, X, h, f => by
    simp only [chkT] at h
    split at h
    · rename_i hx
      obtain ⟨p, rfl⟩ := asIx_ok hx
      obtain ⟨h1, h3⟩ := and2 h
      obtain ⟨h1, h2⟩ := and2 h1
      exact pt_eq (st_truth (se_ix f.un (plainIx_ok h1) (sndE a h2 f) (sndE b h3 f)) (truePlain_ok rfl _)) fun l st => by simp only [evT, evE]
    · cases h
  | .isi a ts, md, sc, x, xc, κ, E, lv, X, h, f => by
    simp only [chkT] at h
    split at h
    · rename_i hx
      obtain ⟨p, q, rfl⟩ := asCall_ok hx
      obtain ⟨h1, h7⟩ := and2 h
      obtain ⟨h1, h6⟩ := and2 h1
      obtain ⟨h1, h5⟩ := and2 h1
      obtain ⟨h1, h4⟩ := and2 h1
      obtain ⟨h1, h3⟩ := and2 h1
      obtain ⟨h1, h2⟩ := and2 h1
      have e := of_decide_eq_true h1
      subst e
      exact pt_eq (st_truth (isi_pe (fr := true) f (gl_ok f.hsc h2) h3 h4 h5 (sndE a h6 f) h7) (truePlain_ok rfl _)) fun l st => by simp only [evT, evE]
    · cases h
  | .call g es, md, sc, x, xc, κ, E, lv, X, h, f => by
    simp only [chkT] at h
    split at h
    · rename_i hx
      obtain ⟨p, q, rfl⟩ := asCall_ok hx
      obtain ⟨h1, h6⟩ := and2 h
      obtain ⟨h1, h5⟩ := and2 h1
      obtain ⟨h1, h4⟩ := and2 h1
      obtain ⟨h1, h3⟩ := and2 h1
      obtain ⟨h1, h2⟩ := and2 h1
      obtain ⟨a, fd, ps, e1, e2, e3, e4, e5⟩ := f.fn h1 g _ _ (of_decide_eq_true h3)
      exact pt_eq (st_truth (se_call e5 (f.room h1) (gl_ok f.hsc h2) e1 e2 e3 f.px (sndEs es h6 f) (fun l st ds st' z => by rw [e4]; exact evEs_len es l st ds st' z) (nmOk_d h4).1 h5) (truePlain_ok rfl _)) fun l st => by simp only [evT, evE]
    · cases h
  | .bi b es, md, sc, x, xc, κ, E, lv, X, h, f => by
    simp only [chkT] at h
    split at h
    · rename_i hx
      obtain ⟨p, q, rfl⟩ := asCall_ok hx
      obtain ⟨h1, h6⟩ := and2 h
      obtain ⟨h1, h5⟩ := and2 h1
      obtain ⟨h1, h4⟩ := and2 h1
      obtain ⟨h1, h3⟩ := and2 h1
      obtain ⟨h1, h2⟩ := and2 h1
      have e := of_decide_eq_true h1
      subst e
      exact pt_eq (st_truth (se_bi (fr := false) (P := P) b (by cases b <;> first | (cases h2; done) | decide) (fun hh => f.calm (by rw [hh] at h4; simpa using h4)) (gl_ok f.hsc h3) (f.bi _ (by cases b <;> decide)) h5 (sndEs es h6 f)) (truePlain_ok rfl _)) fun l st => by simp only [evT, evE]
    · cases h
  | .non, md, sc, x, xc, κ, E, lv, X, h, f => by
    simp only [chkT] at h
    cases h
  | .int _, md, sc, x, xc, κ, E, lv, X, h, f => by
    simp only [chkT] at h
    cases h
  | .str _, md, sc, x, xc, κ, E, lv, X, h, f => by
    simp only [chkT] at h
    cases h
  | .g _, md, sc, x, xc, κ, E, lv, X, h, f => by
    simp only [chkT] at h
    cases h
  | .tup _, md, sc, x, xc, κ, E, lv, X, h, f => by
    simp only [chkT] at h
    cases h
  | .lst _, md, sc, x, xc, κ, E, lv, X, h, f => by
    simp only [chkT] at h
    cases h
  | .bin _ _ _, md, sc, x, xc, κ, E, lv, X, h, f => by
    simp only [chkT] at h
    cases h
  | .neg _, md, sc, x, xc, κ, E, lv, X, h, f => by
    simp only [chkT] at h
    cases h
  | .ite _ _ _, md, sc, x, xc, κ, E, lv, X, h, f => by
    simp only [chkT] at h
    cases h
  | .slc _ _ _, md, sc, x, xc, κ, E, lv, X, h, f => by
    simp only [chkT] at h
    cases h
  | .rev _, md, sc, x, xc, κ, E, lv, X, h, f => by
    simp only [chkT] at h
    cases h
  | .thk _ _, md, sc, x, xc, κ, E, lv, X, h, f => by
    simp only [chkT] at h
    cases h
  | .frc, md, sc, x, xc, κ, E, lv, X, h, f => by
    simp only [chkT] at h
    cases h
  | .isx _, md, sc, x, xc, κ, E, lv, X, h, f => by
    simp only [chkT] at h
    cases h
  | .mt _ _ _, md, sc, x, xc, κ, E, lv, X, h, f => by
    simp only [chkT] at h
    cases h
  | .lc _ _ _ _, md, sc, x, xc, κ, E, lv, X, h, f => by
    simp only [chkT] at h
    cases h
  | .fmt _, md, sc, x, xc, κ, E, lv, X, h, f => by
    simp only [chkT] at h
    cases h
  | .dic _ _, md, sc, x, xc, κ, E, lv, X, h, f => by
    simp only [chkT] at h
    cases h
  | .box _, md, sc, x, xc, κ, E, lv, X, h, f => by
    simp only [chkT] at h
    cases h
  | .frz _, md, sc, x, xc, κ, E, lv, X, h, f => by
    simp only [chkT] at h
    cases h
theorem sndO : ∀ (e : Oe) {md : Md} {sc : Scope} {x : Option Expr} {xc : Option Nat} {κ : Kx} {E : L2.St → XK} {lv : Nat} {X : Cx}, chkO G N md e sc x = true → Fit P G F th xc N md κ E sc lv X → PO X x (eO X κ (BXs κ E) (evO P F th xc e))
  | .no, md, sc, x, xc, κ, E, lv, X, h, f => by
    cases x with
    | none => exact po_eq so_no fun l st => by rw [evO]
    | some x => cases h
  | .yes e, md, sc, x, xc, κ, E, lv, X, h, f => by
    cases x with
    | none => cases h
    | some x => simp only [chkO] at h; exact po_eq (so_yes (sndE e h f)) fun l st => by rw [evO]
theorem sndC : ∀ (e : Oe) {md : Md} {sc : Scope} {x : List Expr} {xc : Option Nat} {κ : Kx} {E : L2.St → XK} {lv : Nat} {X : Cx}, chkC G N md e sc x = true → Fit P G F th xc N md κ E sc lv X → PTs X x (eT X κ (BXs κ E) (evC P F th xc e))
  | .no, md, sc, x, xc, κ, E, lv, X, h, f => by
    cases x with
    | nil => exact pts_eq pts_yes fun l st => by rw [evC]
    | cons _ _ => cases h
  | .yes e, md, sc, x, xc, κ, E, lv, X, h, f => by
    simp only [chkC] at h
    split at h
    · exact pts_eq (pts_one (sndT e h f)) fun l st => by rw [evC]
    · cases h
theorem sndEs : ∀ (e : Es) {md : Md} {sc : Scope} {x : List Expr} {xc : Option Nat} {κ : Kx} {E : L2.St → XK} {lv : Nat} {X : Cx}, chkEs G N md e sc x = true → Fit P G F th xc N md κ E sc lv X → PA X x (eA X κ (BXs κ E) (evEs P F th xc e))
  | .nil, md, sc, x, xc, κ, E, lv, X, h, f => by
    cases x with
    | nil => exact pa_eq sa_nil fun l st => by rw [evEs]
    | cons _ _ => cases h
  | .cons e es, md, sc, x, xc, κ, E, lv, X, h, f => by
    cases x with
    | nil => cases h
    | cons y ys =>
      simp only [chkEs] at h
      obtain ⟨h1, h3⟩ := and2 h
      obtain ⟨h1, h2⟩ := and2 h1
      exact pa_eq (sa_cons (sndE e h2 f) (sndEs es h3 f) (star_cons h1 _ _)) fun l st => by rw [evEs]
theorem sndI : ∀ (e : It) {md : Md} {sc : Scope} {tg x : Expr} {xc : Option Nat} {κ : Kx} {E : L2.St → XK} {lv : Nat} {X : Cx}, chkI G N md e sc tg x = true → Fit P G F th xc N md κ E sc lv X → PI X tg x (eI X κ (BXs κ E) (evI P F th xc e))
  | .seq a, md, sc, tg, x, xc, κ, E, lv, X, h, f => by
    simp only [chkI] at h
    exact pi_eq (si_seq (sndE a h f)) fun l st => by rw [evI]
  | .rng a, md, sc, tg, x, xc, κ, E, lv, X, h, f => by
    simp only [chkI] at h
    split at h
    · rename_i hx
      obtain ⟨p, q, rfl⟩ := asCall_ok hx
      obtain ⟨h1, h4⟩ := and2 h
      obtain ⟨h1, h3⟩ := and2 h1
      obtain ⟨h1, h2⟩ := and2 h1
      have e := of_decide_eq_true h1
      subst e
      exact pi_eq (si_rng (gl_ok f.hsc h2) (f.bi _ (by decide)) h3 (sndE a h4 f)) fun l st => by rw [evI]
    · cases h
  | .rng2 a b, md, sc, tg, x, xc, κ, E, lv, X, h, f => by
    simp only [chkI] at h
    split at h
    · rename_i hx
      obtain ⟨p, q, rfl⟩ := asCall_ok hx
      obtain ⟨h1, h6⟩ := and2 h
      obtain ⟨h1, h5⟩ := and2 h1
      obtain ⟨h1, h4⟩ := and2 h1
      obtain ⟨h1, h3⟩ := and2 h1
      obtain ⟨h1, h2⟩ := and2 h1
      have e := of_decide_eq_true h1
      subst e
      exact pi_eq (si_rng2 (gl_ok f.hsc h2) (f.bi _ (by decide)) h3 h4 (sndE a h5 f) (sndE b h6 f)) fun l st => by rw [evI]
    · cases h
  | .zip a b, md, sc, tg, x, xc, κ, E, lv, X, h, f => by
    simp only [chkI] at h
    split at h
    · rename_i hx
      obtain ⟨p, q, rfl⟩ := asCall_ok hx
      obtain ⟨h1, h7⟩ := and2 h
      obtain ⟨h1, h6⟩ := and2 h1
      obtain ⟨h1, h5⟩ := and2 h1
      obtain ⟨h1, h4⟩ := and2 h1
      obtain ⟨h1, h3⟩ := and2 h1
      obtain ⟨h1, h2⟩ := and2 h1
      obtain ⟨xs, ht⟩ := Option.isSome_iff_exists.mp h1
      obtain ⟨kk, tp, rfl⟩ := asTup_ok ht
      have e := of_decide_eq_true h2
      subst e
      exact pi_eq (si_zip (gl_ok f.hsc h3) (f.bi _ (by decide)) h4 h5 (sndE a h6 f) (sndE b h7 f)) fun l st => by rw [evI]
    · cases h
  | .enm a, md, sc, tg, x, xc, κ, E, lv, X, h, f => by
    simp only [chkI] at h
    split at h
    · rename_i hx
      obtain ⟨p, q, rfl⟩ := asCall_ok hx
      obtain ⟨h1, h5⟩ := and2 h
      obtain ⟨h1, h4⟩ := and2 h1
      obtain ⟨h1, h3⟩ := and2 h1
      obtain ⟨h1, h2⟩ := and2 h1
      obtain ⟨xs, ht⟩ := Option.isSome_iff_exists.mp h1
      obtain ⟨kk, tp, rfl⟩ := asTup_ok ht
      have e := of_decide_eq_true h2
      subst e
      exact pi_eq (si_enm (gl_ok f.hsc h3) (f.bi _ (by decide)) h4 (sndE a h5 f)) fun l st => by rw [evI]
    · cases h
  | .itm a, md, sc, tg, x, xc, κ, E, lv, X, h, f => by
    simp only [chkI] at h
    cases h
theorem sndD : ∀ (e : Es) {md : Md} {ks : List DKey} {sc : Scope} {keys : List (Option Expr)} {values : List Expr} {xc : Option Nat} {κ : Kx} {E : L2.St → XK} {lv : Nat} {X : Cx} {pos : Pos}, chkD G N md e ks sc keys values = true → Fit P G F th xc N md κ E sc lv X → SD X κ (BXs κ E) pos keys values ks (evEs P F th xc e)
  | .nil, md, ks, sc, keys, values, xc, κ, E, lv, X, pos, h, f => by
    simp only [chkD, Bool.and_eq_true, List.isEmpty_iff] at h
    obtain ⟨⟨rfl, rfl⟩, rfl⟩ := h
    exact sd_eq sd_nil fun l st => by rw [evEs]
  | .cons e es, md, ks, sc, keys, values, xc, κ, E, lv, X, pos, h, f => by
    simp only [chkD] at h
    split at h
    · obtain ⟨h1, h3⟩ := and2 h
      obtain ⟨h1, h2⟩ := and2 h1
      obtain ⟨y, rfl, hy⟩ := key_pe (X := X) h1
      exact sd_eq (sd_cons hy (sndE e h2 f) (sndD es h3 f)) fun l st => by rw [evEs]
    · cases h
end
end
end Pm

set_option Elab.async false
set_option linter.all false
set_option maxRecDepth 100000
set_option maxHeartbeats 16000000
/-! Ev28: what is checked is sound: statements. -/
namespace Pm
open PySem PySem.Spec PyProof.Rows L2 LamX
set_option autoImplicit false

def nmsOf : List Expr → Option (List Str)
  | [] => some []
  | .Name x _ :: r => (nmsOf r).map (x :: ·)
  | _ => none
/-- where a value is stored under a name: the comprehension within, or no comprehension -/
def setOk (sc : Scope) (y : Str) (py : Pos) (v : Expr) : Bool := match v with
  | .ListComp _ _ scope p => !swLc sc scope y py p
  | v => notComp v
def lcIn (sc : Scope) (y : Str) (py : Pos) (v : Expr) : Bool := match v with
  | .ListComp _ _ scope p => swLc sc scope y py p && decide (sc.names.lookup y = some .local)
  | _ => false
def simp1 : S → Bool
  | .ret _ => true
  | .ex _ => true
  | .asg (.nm _) (.lc _ _ _ _) => false
  | .asg _ _ => true
  | _ => false
abbrev suiMd (md : Md) (i : Nat) : Md := { md with cm := false, lm := false, th := none, xs := some i, fxs := i :: md.fxs }
abbrev tryMd (md : Md) : Md := { md with lm := false }
def noSwap (sc : Scope) (tg v : Expr) : Bool := match tg, v with
  | .Tuple ts _ _, .Tuple vs _ _ => match swp sc ts vs with
    | .no => true
    | _ => false
  | .List _ _, .Tuple _ _ _ => false
  | _, _ => true
def swYes (sc : Scope) (ts vs : List Expr) (ns : List Str) : Bool := match swp sc ts vs with
  | .yes ms => decide (ms = ns)
  | _ => false
section
variable (G : Gd) (N : List Str)
mutual
def chkS (md : Md) (s : S) (sc : Scope) (x : Stmt) : Bool := match s with
  | .pass => match x with
    | .Pass _ => true
    | _ => false
  | .asg t e => match t with
    | .nm i => match x with
      | .Assign [.Name y py] v _ => stoOk N sc md i y && (match e with
        | .lc elt t it c => if lcIn sc y py v = true then chkE G N md (.lc elt t it c) sc v else setOk sc y py v && chkE G N md (.lc elt t it c) sc v
        | e => setOk sc y py v && chkE G N md e sc v)
      | _ => false
    | .tp is => match x with
      | .Assign [.Tuple ts k p] v _ => md.cm && tgtOk N sc md (.tp is) (.Tuple ts k p) && notComp v && noSwap sc (.Tuple ts k p) v && chkE G N md e sc v
      | _ => false
  | .par is es => match x with
    | .Assign [.Tuple [.Name a pa, .Name b pb] _ _] (.Tuple [u, v] _ _) _ => md.cm && swYes sc [.Name a pa, .Name b pb] [u, v] [a, b] && (match is with
      | [i, j] => stoOk N sc md i a && stoOk N sc md j b && decide (i ≠ j) && decide (sc.names.lookup a = some .local) && decide (sc.names.lookup b = some .local) && chkEs G N md es sc [u, v]
      | _ => false)
    | .Assign [.Tuple [.Name a pa, .Name b pb, .Name c pc] _ _] (.Tuple [u, v, w] _ _) _ => md.cm && swYes sc [.Name a pa, .Name b pb, .Name c pc] [u, v, w] [a, b, c] && (match is with
      | [i, j, k] => stoOk N sc md i a && stoOk N sc md j b && stoOk N sc md k c && decide (i ≠ j) && decide (i ≠ k) && decide (j ≠ k) && decide (sc.names.lookup a = some .local) && decide (sc.names.lookup b = some .local) && decide (sc.names.lookup c = some .local) && chkEs G N md es sc [u, v, w]
      | _ => false)
    | _ => false
  | .aug i op e => match x with
    | .AugAssign (.Name y _) o v _ => stoOk N sc md i y && decide (o = opA op) && chkE G N md e sc v
    | _ => false
  | .sub o i e => match x with
    | .Assign [.Subscript a b _] v _ => notComp v && plainIx b && chkE G N md o sc a && chkE G N md i sc b && chkE G N md e sc v
    | _ => false
  | .ex e => match x with
    | .Expr v _ => notComp v && chkE G N md e sc v
    | _ => false
  | .ret e => match x with
    | .Return (some v) _ => chkE G N md e sc v
    | _ => false
  | .retn => match x with
    | .Return none _ => true
    | _ => false
  | .iff c a b => match x with
    | .If t p q _ => chkT G N md c sc t && chkSs md a sc p && chkSs md b sc q
    | _ => false
  | .for t it b => match x with
    | .For tg iter p [] _ => md.cm && noSet iter && chkI G N md it sc tg iter && tgtOk N sc md t tg && chkSs md b sc p
    | _ => false
  | .whl c b => match x with
    | .While t p [] _ => chkT G N md c sc t && chkSs md b sc p
    | _ => false
  | .rse c es => match x with
    | .Raise (some (.Call (.Name n _) [] [] _)) none _ => md.cm && decide (c < G.cl.length) && glOk sc n && decide (G.cl[c]? = some n) && nmOk n && (match es with
      | .nil => true
      | _ => false)
    | _ => false
  | .try (.cons s .nil) c i h => match x with
    | .Try [s0] [.ExceptHandler (some (.Name n _)) (some y) (h0 :: hs) _] [] [] _ => simp1 s && chkS (tryMd md) s sc s0 && md.cm && !md.blk && glOk sc n && nmOk n && decide (c < G.cl.length) && decide (G.cl[c]? = some n) && decide (N[i]? = some y) && decide (sc.names.lookup y = some .local) && !md.fxs.contains i && md.xs.isNone && chkSs (suiMd md i) h sc (h0 :: hs)
    | _ => false
  | .try _ _ _ _ => false
termination_by structural s
def chkSs (md : Md) (s : Ss) (sc : Scope) (x : List Stmt) : Bool := match s with
  | .nil => x.isEmpty
  | .cons s ss => match x with
    | y :: ys => chkS md s sc y && chkSs md ss sc ys
    | [] => false
termination_by structural s
end
end

/-- what is known of the own classes of errors -/
structure ExF (P : Par) (G : Gd) (κ : Kx) (K : PySem.W.Frag) : Prop where
  mkE : ∀ c, c < G.cl.length → ∃ (bmB : List Value) (Bs newId initId : String), ExcBaseFacts Bs newId initId bmB ∧ PySem.W.excIn K (κ.cl c) bmB newId = true ∧ PySem.W.keepIn K (.ref (κ.cl c)) = true ∧
    PySem.W.subIn K (.ref (κ.cl c)) (.type "BaseException") = some true ∧ PySem.W.typeIn K (.ref (κ.cl c)) = some (.type "type")
  exE : ∀ c, c < G.cl.length → ∀ k, k < P.ncl → PySem.W.exmOne K (.ref (κ.cl k)) (.ref (κ.cl c)) = some ((P.anc k).contains c)
  isE : ∀ c, c < P.ncl → ExcC K (κ.cl c)
  len : P.ncl = G.cl.length
/-- what a context of statements must be -/
structure FitS (P : Par) (G : Gd) (F : FnSem) (tm : M) (xc : Option Nat) (N : List Str) (md : Md) (κ : Kx) (W : WX) (sc : Scope) (lv : Nat) (X : Cx) : Prop extends Fit P G F tm xc N md κ (WE W) sc lv X where
  tk : Takes X W
  ef : ExF P G κ X.K
  stk : md.cm = true → X.stack = X.env :: X.outer ∧ X.env.frame = some X.env.locals
  po : PassesOwn (model X.prog X.w) X.A X.env X.xe
  thT : ∀ (W' : WX) (pn : List (Addr × Obj)) (xe : Value → Shared → Prop) (x : Str), Takes (X.tr pn xe) W' → md.th = some x → ∀ p p2, PE (X.tr pn xe) (.Call (.Name x p) [] [] p2) (eE (X.tr pn xe) κ (BXs κ (WE W')) false fun _ st => tm st)

theorem swLc_no {elt : Expr} {gs : List Comprehension} {scope : Scope} {pos py : Pos} {y : Str} {l : Nat} {env : Env} (hk : env.scope.kind = .function) (h : swLc env.scope scope y py pos = false) : swapsWith (.ListComp elt gs scope pos) (some (.Name y py)) l env = pure false := by
  have hb : env.blockKind = .function := by unfold Env.blockKind; rw [hk]; rfl
  unfold swapsWith
  have e : (env.blockKind == ScopeKind.function && env.kindOf y == some .local && py.line == pos.line && !(scope.names.any fun (n, k) => n == y && (k == .local || k == .cell))) = false := by
    rw [hb]
    unfold swLc at h
    have h1 : (env.kindOf y == some NameKind.local) = decide (env.scope.names.lookup y = some .local) := by
      show (env.scope.names.lookup y == some NameKind.local) = _
      by_cases q : env.scope.names.lookup y = some .local
      · rw [q]; rfl
      · rw [decide_eq_false q]; exact beq_eq_false_iff_ne.mpr q
    rw [h1]
    simpa using h
  simp only [Expr.pos]
  exact congrArg pure e
theorem setOk_sw {env : Env} (hk : env.scope.kind = .function) {y : Str} {py : Pos} {v : Expr} (h : setOk env.scope y py v = true) (l : Nat) : swapsWith v (some (.Name y py)) l env = pure false := by
  unfold setOk at h
  split at h
  · exact swLc_no hk (by simpa using h)
  · exact notComp_sw h _ _ _
theorem noSwap_ok {env : Env} (hk : env.scope.kind = .function) {tg v : Expr} (h : noSwap env.scope tg v = true) : swappedStores [tg] v env = pure none := by
  unfold noSwap at h
  split at h
  · split at h
    · exact swp_no hk (by assumption)
    · cases h
  · cases h
  · rename_i h1 h2
    apply swp_other
    split
    · exact (h1 _ _ _ _ _ _ rfl rfl).elim
    · exact (h2 _ _ _ _ _ rfl rfl).elim
    · rfl
theorem swYes_ok {sc : Scope} {ts vs : List Expr} {ns : List Str} (h : swYes sc ts vs ns = true) : swp sc ts vs = .yes ns := by
  unfold swYes at h
  split at h
  · rename_i ms e
    rw [e, of_decide_eq_true h]
  · cases h
theorem tgt_one {X : Cx} {N : List Str} {sc : Scope} {md : Md} {is : List Nat} {ts : List Expr} {k : Nat} {p : Pos} : (assignEach [.Tuple ts k p] X.env).map (·.2) = [assign (.Tuple ts k p) X.env] := rfl
section
variable {X : Cx} {κ : Kx} {B : L2.St → XW}
theorem ps_eq {e : Stmt} {m m' : Loc → Store → Res Flow} (h : PS X e (eS X κ B m)) (k : ∀ l st, m' l st = m l st) : PS X e (eS X κ B m') := by
  have : m' = m := by funext l st; exact k l st
  rw [this]; exact h
theorem pss_eq {e : List Stmt} {m m' : Loc → Store → Res Flow} (h : PSs X e (eS X κ B m)) (k : ∀ l st, m' l st = m l st) : PSs X e (eS X κ B m') := by
  have : m' = m := by funext l st; exact k l st
  rw [this]; exact h
theorem go_nx (r : Res Flow) : (r.bind fun f st => f.go (fun l => .ok (.nx l) st) st) = r := by
  cases r with
  | ok f st => cases f <;> rfl
  | exc c fs st => rfl
  | bad => rfl
theorem tseq_next {D : Ends} : ({ D with nx := tNext D } : Ends) = D := rfl
end
section
variable {P : Par} {G : Gd} {F : FnSem} {th : M} {xc : Option Nat} {N : List Str} {md : Md} {κ : Kx} {W : WX} {sc : Scope} {lv : Nat} {X : Cx}
theorem fit_tr (f : FitS P G F th xc N md κ W sc lv X) (hx : md.xs = none) {W' : WX} {pn : List (Addr × Obj)} {xe : Value → Shared → Prop} (tk : Takes (X.tr pn xe) W') (po : PassesOwn (model X.prog X.w) X.A X.env xe) : FitS P G F th xc N (tryMd md) κ W' sc lv (X.tr pn xe) where
  hN := f.hN
  nd := f.nd
  hsc := f.hsc
  kind := f.kind
  fnc := f.fnc
  calm := f.calm
  un := f.un
  bi := f.bi
  fx := f.fx
  fn := f.fn
  room := f.room
  cn := f.cn
  cl := f.cl
  glo := f.glo
  px := fun σ => passAt tk σ
  th := fun x h p p2 => f.thT W' pn xe x tk h p p2
  xs := fun i h => by rw [show (tryMd md).xs = none from hx] at h; cases h
  lam := fun h => nomatch h
  tk := tk
  ef := f.ef
  stk := f.stk
  po := po
  thT := fun W2 pn2 xe2 x tk2 h p p2 => f.thT W2 pn2 xe2 x tk2 h p p2
theorem fit_sui (f : FitS P G F th xc N md κ W sc lv X) {i : Nat} {a : Addr} {oe : Obj} {k : Nat} {pn : List (Addr × Obj)} (hk : k < P.ncl) (hz : Zc (.ref (κ.cl k)) none oe) (hv : ∃ vs, oe.data = .fields vs) :
    FitS P G F th (some k) N (suiMd md i) (κ.put i a) (fun _ _ _ _ => False) sc lv (X.suite a ((a, oe) :: pn)) where
  hN := f.hN
  nd := f.nd
  hsc := f.hsc
  kind := f.kind
  fnc := f.fnc
  calm := fun h => nomatch h
  un := f.un
  bi := f.bi
  fx := by show i :: κ.fx.map (·.1) = i :: md.fxs; rw [f.fx]
  fn := fun h => nomatch h
  room := fun h => nomatch h
  cn := f.cn
  cl := f.cl
  glo := ⟨f.glo.ownT, f.glo.ownE, f.glo.verr⟩
  px := fun σ => passAt takes0 σ
  th := fun _ h => nomatch h
  xs := fun j hj => by
    cases hj
    exact ⟨a, k, List.mem_cons_self .., rfl, by rw [← f.ef.len]; exact hk, call_isE (f.ef.isE k hk) hz hv⟩
  lam := fun h => nomatch h
  tk := takes0
  ef := ⟨f.ef.mkE, f.ef.exE, f.ef.isE, f.ef.len⟩
  stk := fun h => nomatch h
  po := PassesOwn.never
  thT := fun _ _ _ _ _ h => nomatch h
end
end Pm

set_option Elab.async false
set_option linter.all false
set_option maxRecDepth 100000
set_option maxHeartbeats 16000000
/-! Ev29: what is checked is sound: statements, the recursion. -/
namespace Pm
open PySem PySem.Spec PyProof.Rows L2 LamX
set_option autoImplicit false

section
variable {P : Par} {G : Gd} {F : FnSem} {th : M} {N : List Str}
/-- y = e -/
theorem set_ps {xc : Option Nat} {md : Md} {κ : Kx} {W : WX} {sc : Scope} {lv : Nat} {X : Cx} {e : E} {i : Nat} {y : Str} {py pos : Pos} {v : Expr} (f : FitS P G F th xc N md κ W sc lv X) (h1 : stoOk N sc md i y = true) (h2 : setOk sc y py v = true) (h3 : chkE G N md e sc v = true) :
    PS X (.Assign [.Name y py] v pos) (eS X κ (BXs κ (WE W)) (evS P F th (.asg (.nm i) e) xc)) := by
  obtain ⟨s1, s2⟩ := sto_ok f.toFit h1
  exact ps_eq (sp_set s2 (by rw [f.hN]; exact f.nd) s1 (sndE e h3 f.toFit) (setOk_sw (by rw [f.hsc]; exact f.kind) (by rw [f.hsc]; exact h2) _)) fun l st => by rw [evS]
/-- y = [..], stored within -/
theorem setLc_ps {xc : Option Nat} {md : Md} {κ : Kx} {W : WX} {sc : Scope} {lv : Nat} {X : Cx} {elt : E} {t : T} {it : It} {c : Oe} {i : Nat} {y : Str} {py pos : Pos} {v : Expr} (f : FitS P G F th xc N md κ W sc lv X) (h1 : stoOk N sc md i y = true) (h2 : lcIn sc y py v = true) (h3 : chkE G N md (.lc elt t it c) sc v = true) :
    PS X (.Assign [.Name y py] v pos) (eS X κ (BXs κ (WE W)) (evS P F th (.asg (.nm i) (.lc elt t it c)) xc)) := by
  obtain ⟨s1, s2⟩ := sto_ok f.toFit h1
  simp only [chkE] at h3
  split at h3
  · rename_i z tg iter ifs scope hx
    obtain ⟨p, rfl⟩ := asLc_ok hx
    obtain ⟨h3, g8⟩ := and2 h3
    obtain ⟨h3, g7⟩ := and2 h3
    obtain ⟨h3, g6⟩ := and2 h3
    obtain ⟨h3, g5⟩ := and2 h3
    obtain ⟨h3, g4⟩ := and2 h3
    obtain ⟨h3, g3⟩ := and2 h3
    obtain ⟨h3, g2⟩ := and2 h3
    have ok : BlkOk N sc _ _ := blkOk_by g3
    obtain ⟨o1, o2⟩ := own_tgt (of_decide_eq_true g8)
    obtain ⟨k1, k2⟩ := and2 h2
    have hsw := swLc_ok (elt := z) (gs := [⟨tg, iter, ifs, 0⟩]) (pos := p) (l := pos.line) (env := X.env) (by rw [f.hsc]; exact f.kind) (by rw [f.hsc]; exact k1)
    have hr := sp_setLc (spos := pos) (py := py) (fe := frE elt) (f.calm h3) (by rw [f.hN]; exact f.nd) s1.1 (by rw [f.hsc]; exact of_decide_eq_true k2) hsw (sndI it g5 f.toFit) (by rw [f.hN, f.hsc]; exact ok) o1 o2
      (fun s H C cl fp => tgt_pg (fit_blk f.toFit ok s H C cl fp) h3 g4) (fun s H C cl fp => sndC c g6 (fit_blk f.toFit ok s H C cl fp)) (fun s H C cl fp => sndE elt g7 (fit_blk f.toFit ok s H C cl fp)) g2
    exact ps_eq (sp_lc s2 hr) fun l st => by rw [evS, evE]
  · cases h3
mutual
theorem sndS : ∀ (s : S) {md : Md} {sc : Scope} {x : Stmt} {xc : Option Nat} {κ : Kx} {W : WX} {lv : Nat} {X : Cx}, chkS G N md s sc x = true → FitS P G F th xc N md κ W sc lv X → (simp1 s = false → ∀ σ σ', BXs κ (WE W) σ = BXs κ (WE W) σ') → PS X x (eS X κ (BXs κ (WE W)) (evS P F th s xc))
  | .pass, md, sc, x, xc, κ, W, lv, X, h, f, hB => by
    simp only [chkS] at h
    split at h
    · exact ps_eq sp_pass fun l st => by rw [evS]
    · cases h
  | .asg (.nm i) e, md, sc, x, xc, κ, W, lv, X, h, f, hB => by
    simp only [chkS] at h
    split at h
    · obtain ⟨h1, h2⟩ := and2 h
      split at h2
      · split at h2
        · rename_i elt t it c hlc
          exact setLc_ps f h1 (by assumption) h2
        · obtain ⟨h3, h4⟩ := and2 h2
          exact set_ps f h1 h3 h4
      · obtain ⟨h3, h4⟩ := and2 h2
        exact set_ps f h1 h3 h4
    · cases h
  | .asg (.tp is) e, md, sc, x, xc, κ, W, lv, X, h, f, hB => by
    simp only [chkS] at h
    split at h
    · obtain ⟨h1, h5⟩ := and2 h
      obtain ⟨h1, h4⟩ := and2 h1
      obtain ⟨h1, h3⟩ := and2 h1
      obtain ⟨h1, h2⟩ := and2 h1
      exact ps_eq (sp_asg (tgt_pg f.toFit h1 h2) (sndE e h5 f.toFit) (notComp_sole h3 _ _ _) (noSwap_ok (by rw [f.hsc]; exact f.kind) (by rw [f.hsc]; exact h4)) rfl) fun l st => by rw [evS]
    · cases h
  | .par is es, md, sc, x, xc, κ, W, lv, X, h, f, hB => by
    simp only [chkS] at h
    split at h
    · obtain ⟨h1, h3⟩ := and2 h
      obtain ⟨h1, h2⟩ := and2 h1
      split at h3
      · obtain ⟨h3, h9⟩ := and2 h3
        obtain ⟨h3, h8⟩ := and2 h3
        obtain ⟨h3, h7⟩ := and2 h3
        obtain ⟨h3, h6⟩ := and2 h3
        obtain ⟨h3, h4⟩ := and2 h3
        obtain ⟨s1, s2⟩ := sto_ok f.toFit h3
        obtain ⟨t1, t2⟩ := sto_ok f.toFit h4
        exact ps_eq (sp_par2 (by intro n hn; simp only [List.mem_cons, List.not_mem_nil, or_false] at hn; rcases hn with e | e <;> rw [e] <;> assumption) (f.calm h1) (by rw [f.hN]; exact f.nd) s1.1 t1.1 (of_decide_eq_true h6) (by rw [f.hsc]; exact of_decide_eq_true h7) (by rw [f.hsc]; exact of_decide_eq_true h8) (sndEs es h9 f.toFit) (by rw [f.hsc]; exact f.kind) (by rw [f.hsc]; exact swYes_ok h2)) fun l st => by rw [evS]
      · cases h3
    · obtain ⟨h1, h3⟩ := and2 h
      obtain ⟨h1, h2⟩ := and2 h1
      split at h3
      · obtain ⟨h3, g9⟩ := and2 h3
        obtain ⟨h3, g8⟩ := and2 h3
        obtain ⟨h3, g7⟩ := and2 h3
        obtain ⟨h3, g6⟩ := and2 h3
        obtain ⟨h3, g5⟩ := and2 h3
        obtain ⟨h3, g4⟩ := and2 h3
        obtain ⟨h3, g3⟩ := and2 h3
        obtain ⟨h3, g2⟩ := and2 h3
        obtain ⟨h3, g1⟩ := and2 h3
        obtain ⟨s1, s2⟩ := sto_ok f.toFit h3
        obtain ⟨t1, t2⟩ := sto_ok f.toFit g1
        obtain ⟨u1, u2⟩ := sto_ok f.toFit g2
        exact ps_eq (sp_par3 (by intro n hn; simp only [List.mem_cons, List.not_mem_nil, or_false] at hn; rcases hn with e | e | e <;> rw [e] <;> assumption) (f.calm h1) (by rw [f.hN]; exact f.nd) s1.1 t1.1 u1.1 (of_decide_eq_true g3) (of_decide_eq_true g4) (of_decide_eq_true g5) (by rw [f.hsc]; exact of_decide_eq_true g6) (by rw [f.hsc]; exact of_decide_eq_true g7) (by rw [f.hsc]; exact of_decide_eq_true g8) (sndEs es g9 f.toFit) (by rw [f.hsc]; exact f.kind) (by rw [f.hsc]; exact swYes_ok h2)) fun l st => by rw [evS]
      · cases h3
    · cases h
  | .aug i op e, md, sc, x, xc, κ, W, lv, X, h, f, hB => by
    simp only [chkS] at h
    split at h
    · obtain ⟨h1, h3⟩ := and2 h
      obtain ⟨h1, h2⟩ := and2 h1
      obtain ⟨s1, s2⟩ := sto_ok f.toFit h1
      have e := of_decide_eq_true h2
      subst e
      exact ps_eq (sp_aug op s2 (by rw [f.hN]; exact f.nd) s1 (sndE _ h3 f.toFit)) fun l st => by rw [evS]
    · cases h
  | .sub o i e, md, sc, x, xc, κ, W, lv, X, h, f, hB => by
    simp only [chkS] at h
    split at h
    · obtain ⟨h1, h5⟩ := and2 h
      obtain ⟨h1, h4⟩ := and2 h1
      obtain ⟨h1, h3⟩ := and2 h1
      obtain ⟨h1, h2⟩ := and2 h1
      exact ps_eq (sp_sub (by have := f.un; omega) h1 h2 (sndE o h3 f.toFit) (sndE i h4 f.toFit) (sndE e h5 f.toFit)) fun l st => by rw [evS]
    · cases h
  | .ex e, md, sc, x, xc, κ, W, lv, X, h, f, hB => by
    simp only [chkS] at h
    split at h
    · obtain ⟨h1, h2⟩ := and2 h
      exact ps_eq (sp_ex h1 (sndE e h2 f.toFit)) fun l st => by rw [evS]
    · cases h
  | .ret e, md, sc, x, xc, κ, W, lv, X, h, f, hB => by
    simp only [chkS] at h
    split at h
    · exact ps_eq (sp_ret (sndE e h f.toFit)) fun l st => by rw [evS]
    · cases h
  | .retn, md, sc, x, xc, κ, W, lv, X, h, f, hB => by
    simp only [chkS] at h
    split at h
    · exact ps_eq sp_retn fun l st => by rw [evS]
    · cases h
  | .iff c a b, md, sc, x, xc, κ, W, lv, X, h, f, hB => by
    simp only [chkS] at h
    split at h
    · obtain ⟨h1, h3⟩ := and2 h
      obtain ⟨h1, h2⟩ := and2 h1
      exact ps_eq (sp_iff (sndT c h1 f.toFit) (sndSs a h2 f (hB rfl)) (sndSs b h3 f (hB rfl))) fun l st => by rw [evS]
    · cases h
  | .for t it b, md, sc, x, xc, κ, W, lv, X, h, f, hB => by
    simp only [chkS] at h
    split at h
    · obtain ⟨h1, h5⟩ := and2 h
      obtain ⟨h1, h4⟩ := and2 h1
      obtain ⟨h1, h3⟩ := and2 h1
      obtain ⟨h1, h2⟩ := and2 h1
      exact ps_eq (sp_for (hB rfl) f.po (f.calm h1) (sndI it h3 f.toFit) (tgt_pg f.toFit h1 h4) (sndSs b h5 f (hB rfl)) h2) fun l st => by rw [evS]
    · cases h
  | .whl c b, md, sc, x, xc, κ, W, lv, X, h, f, hB => by
    simp only [chkS] at h
    split at h
    · obtain ⟨h1, h2⟩ := and2 h
      exact ps_eq (sp_whl (n := P.fuel) (hB rfl) f.po (sndT c h1 f.toFit) (sndSs b h2 f (hB rfl))) fun l st => by rw [evS]
    · cases h
  | .rse c es, md, sc, x, xc, κ, W, lv, X, h, f, hB => by
    simp only [chkS] at h
    split at h
    · obtain ⟨h1, h6⟩ := and2 h
      obtain ⟨h1, h5⟩ := and2 h1
      obtain ⟨h1, h4⟩ := and2 h1
      obtain ⟨h1, h3⟩ := and2 h1
      obtain ⟨h1, h2⟩ := and2 h1
      obtain ⟨bmB, Bs, n1, n2, k1, k2, k3, k4, k5⟩ := f.ef.mkE c (of_decide_eq_true h2)
      split at h6
      · exact ps_eq (sp_rse (κ := κ) (C := c) (W := W) k1 k2 (f.cl c _ (of_decide_eq_true h4)) k3 (raises_own k4 k5) (gl_ok f.hsc h3) (nmOk_d h5).1 (f.calm h1) f.tk (fun σ c d H z => z)) fun l st => by rw [evS, evEs]; rfl
      · cases h6
    · cases h
  | .try (.cons s .nil) c i hd, md, sc, x, xc, κ, W, lv, X, h, f, hB => by
    simp only [chkS] at h
    split at h
    · obtain ⟨h1, g10⟩ := and2 h
      obtain ⟨h1, g9⟩ := and2 h1
      obtain ⟨h1, g8⟩ := and2 h1
      obtain ⟨h1, g7⟩ := and2 h1
      obtain ⟨h1, g6⟩ := and2 h1
      obtain ⟨h1, g5⟩ := and2 h1
      obtain ⟨h1, g4⟩ := and2 h1
      obtain ⟨h1, g3⟩ := and2 h1
      obtain ⟨h1, g2⟩ := and2 h1
      obtain ⟨h1, g1⟩ := and2 h1
      obtain ⟨h1, g0⟩ := and2 h1
      · obtain ⟨q1, q2⟩ := and2 h1
        have hxs : md.xs = none := by simpa using g9
        have hstk := f.stk g0
        have hfx : i ∉ κ.fx.map (·.1) := by rw [f.fx]; simpa using g8
        refine ps_eq (sp_try (P := P) hstk.1 hstk.2 (by rw [f.hN]; exact f.nd) (by rw [f.hN]; exact of_decide_eq_true g6) (by show X.env.scope.names.lookup _ = _; rw [f.hsc]; exact of_decide_eq_true g7)
          ⟨gl_ok f.hsc g2, (nmOk_d g3).1, .inl (f.cl c _ (of_decide_eq_true g5))⟩ f.tk hfx (f.ef.exE c (of_decide_eq_true g4))
          (mb := evSs P F th (.cons s .nil) xc) (mh := fun k => evSs P F th hd (some k)) (fun W' pn xe tk po => ?_) (fun a oe k pn hk hz hv => ?_)) fun l st => by rw [evS]
        · have hs := sndS s q2 (fit_tr f hxs tk po) (fun z => by rw [q1] at z; cases z)
          have hp := pss_one hs
          refine pss_eq (PSs.imp hp fun D σ H q => q) fun l st => ?_
          rw [evSs]
          have e : (fun (l : Loc) (st : Store) => evSs P F th .nil xc l st) = fun l st => .ok (.nx l) st := by funext l st; rw [evSs]
          rw [show (fun f st => Flow.go f (fun l => evSs P F th .nil xc l st) st) = (fun f st => Flow.go f (fun l => .ok (.nx l) st) st) from by simp only [evSs]]
          exact go_nx _
        · exact sndSs hd g10 (fit_sui f hk hz hv) (fun _ _ => rfl)
    · cases h
  | .try .nil c i hd, md, sc, x, xc, κ, W, lv, X, h, f, hB => by
    simp only [chkS] at h
    cases h
  | .try (.cons s (.cons s2 ss)) c i hd, md, sc, x, xc, κ, W, lv, X, h, f, hB => by
    simp only [chkS] at h
    cases h
theorem sndSs : ∀ (s : Ss) {md : Md} {sc : Scope} {x : List Stmt} {xc : Option Nat} {κ : Kx} {W : WX} {lv : Nat} {X : Cx}, chkSs G N md s sc x = true → FitS P G F th xc N md κ W sc lv X → (∀ σ σ', BXs κ (WE W) σ = BXs κ (WE W) σ') → PSs X x (eS X κ (BXs κ (WE W)) (evSs P F th s xc))
  | .nil, md, sc, x, xc, κ, W, lv, X, h, f, hB => by
    cases x with
    | nil => exact pss_eq ss_nil fun l st => by rw [evSs]
    | cons _ _ => simp only [chkSs] at h; cases h
  | .cons s ss, md, sc, x, xc, κ, W, lv, X, h, f, hB => by
    cases x with
    | nil => simp only [chkSs] at h; cases h
    | cons y ys =>
      simp only [chkSs] at h
      obtain ⟨h1, h2⟩ := and2 h
      exact pss_eq (ss_cons hB (sndS s h1 f (fun _ => hB)) (sndSs ss h2 f hB)) fun l st => by rw [evSs]
end
end
end Pm

set_option Elab.async false
set_option linter.all false
set_option maxRecDepth 100000
set_option maxHeartbeats 16000000
/-! Ev30: the defs, by level. -/
namespace Pm
open PySem PySem.Spec PyProof.Rows L2 LamX
set_option autoImplicit false

/-- a def of the text -/
structure Fd where
  x : Str
  ps : List Str
  N : List Str
  params : Arguments
  body : List Stmt
  scope : Scope
  lm : Bool
abbrev md0 (lm : Bool) : Md := { cm := true, lm := lm, fxs := [], th := none, xs := none, blk := false }
def chkFd (P : Par) (G : Gd) (i : Nat) (d : Fd) : Bool := match P.funs i with
  | some fn => decide (fn.nps = d.ps.length) && decide (fn.nsl = d.N.length) && chkSs G d.N (md0 d.lm) fn.body d.scope d.body
  | none => false

/-- what is known of the module -/
structure Mf (P : Par) (G : Gd) (κ : Kx) (K : PySem.W.Frag) (mg : Str → Option Value) : Prop where
  bi : ∀ x, x ∈ biNames → mg x = none
  cn : ∀ i x, G.cn[i]? = some x → ∃ u v, mg x = some u ∧ RelV v u ∧ ∀ (K' : Kit), K'.K = K → ∀ ρ H, RelD K' ρ H (P.consts i) v
  cl : ∀ i x, G.cl[i]? = some x → mg x = some (.ref (κ.cl i))
  glo : Glo κ K P.anc G.cl.length
  ef : ExF P G κ K
/-- a def's place -/
def At1 (K : PySem.W.Frag) (mg : Str → Option Value) (d : Fd) : Prop := ∃ f fd, mg d.x = some (.ref f) ∧ FunD K d.x d.x d.params d.body d.scope [] [] f fd ∧ Binds K fd d.ps []

section
variable {P : Par} {G : Gd} {κ : Kx} {prog : Program} {w : World} {K : PySem.W.Frag} {mg : Str → Option Value} {base : Heap} {ds : List Fd}
/-- the locals at a def's entry -/
theorem start_rel {h : Nat} {ρ : Rho} {H : Hp} {N : List Str} {dd : List D} {vs : List V} {nsl : Nat} (hn : nsl = N.length) (hl : vs.length ≤ N.length) (r : RelDs ⟨κ.base h, K⟩ ρ H dd vs) :
    RelL ⟨κ.base h, K⟩ ρ H (dd.map some ++ List.replicate (nsl - dd.length) none) (L2.start N vs) := by
  have e := r.length
  refine ⟨by unfold L2.start; simp; omega, fun i d hd => ?_, fun p hp => nomatch hp⟩
  have hi : i < dd.length := by
    by_cases hi : i < dd.length
    · exact hi
    · rw [List.getElem?_append_right (by simpa using hi)] at hd
      rw [List.getElem?_replicate] at hd
      split at hd
      · cases hd
      · cases hd
  rw [List.getElem?_append_left (by simpa using hi), List.getElem?_map] at hd
  obtain ⟨d', h1, h2⟩ := Option.map_eq_some_iff.mp hd
  cases h2
  obtain ⟨v, h3, h4⟩ := r.get h1
  refine ⟨v, ?_, h4⟩
  unfold L2.start
  rw [List.getElem?_append_left (by rw [List.length_map, ← e]; exact hi), List.getElem?_map, h3]; rfl
theorem ends_end {K : Kit} {B : XW} {ρ : Rho} {H : Hp} {r : Res Flow} {Q : VK} (q : EndG K B (RE K false) ρ H (r.bind fun f st => f.ends st) Q) : EndS K B ρ H r { nx := fun _ H' => Q .non H', rt := Q } := by
  cases r with
  | bad => exact q
  | exc c fs st => exact q
  | ok f st =>
    cases f with
    | nx l => exact fun ρ' σ' H' x a => q ρ' .non H' x a.sim ⟨.non, fun z => nomatch z⟩
    | rt d => exact fun ρ' v H' x s r => q ρ' v H' x s ⟨r, fun z => nomatch z⟩
    | bk l => exact q.elim
    | ct l => exact q.elim
/-- a def's frame -/
theorem fit_fn (M0 : Mf P G κ K mg) {lv h : Nat} {d : Fd} {f : Addr} {cdv : Value} {A : Around} {outer : List Env} {s : Shared} {H : Hp} {E : XK} (S : FnScope d.N d.ps d.scope)
    (hfn : ∀ i x n, G.fn[i]? = some (x, n) → ∃ f fd ps, mg x = some (.ref f) ∧ PySem.W.keepIn K (.ref f) = true ∧ Binds K fd ps [] ∧ ps.length = n ∧ FnOk prog w K mg base (L2.CX prog w) (3 * lv) f fd ps (spD κ K ps fun ds st => evF P lv i ds (fun _ => .bad) st))
    (hr : Room (3 * lv + 2) (A.deeper (envOfC d.x d.scope s.heap.objs.size f cdv))) {th : M}
    (hlam : d.lm = true → ∀ i x, (i, x) ∈ G.lm → ∀ (params : Arguments) (body : Expr) (scope : Scope) (lpos p pos : Pos) (fb : Bool) (mb : Loc → Store → Res D), lamOk d.scope x params scope = true →
      (∀ (A' : Around) (outer' : List Env) (s' : Shared) (H' : Hp) (E' : XK) (f' c' : Addr), Room (3 * lv) (A'.deeper (lamEnv (cxOf (L2.CX prog w) prog w K mg base d.N d.x d.scope f cdv A outer s H E) scope s'.heap.objs.size f' c')) →
        PE (lamCx (cxOf (L2.CX prog w) prog w K mg base d.N d.x d.scope f cdv A outer s H E) A' outer' s' H' E' scope f' c') body (tE ⟨κ.base h, K⟩ (fun _ => BX (κ.base h) E') fb mb)) →
      PE (cxOf (L2.CX prog w) prog w K mg base d.N d.x d.scope f cdv A outer s H E) (.Call (.Name x p) [.Lambda params body scope lpos] [] pos) (eE (cxOf (L2.CX prog w) prog w K mg base d.N d.x d.scope f cdv A outer s H E) (κ.base h) (BXs (κ.base h) (WE fun cls d _ H' => E cls d H')) false fun l st => (evF P lv i [] (mb l) st).calm)) :
    FitS P G (evF P lv) th none d.N (md0 d.lm) (κ.base h) (fun cls d _ H' => E cls d H') d.scope (3 * lv) (cxOf (L2.CX prog w) prog w K mg base d.N d.x d.scope f cdv A outer s H E) where
  hN := rfl
  nd := S.nd
  hsc := rfl
  kind := S.kind
  fnc := fun _ _ _ => rfl
  calm := fun _ => rfl
  un := by have := hr.un; show (A.deeper _).units + 64 < cLine; omega
  bi := M0.bi
  fx := rfl
  fn := fun _ => hfn
  room := fun _ => hr.mono (by omega)
  cn := M0.cn
  cl := M0.cl
  glo := ⟨M0.glo.ownT, M0.glo.ownE, M0.glo.verr⟩
  px := fun σ => passAt (W := fun cls d _ H' => E cls d H') (takes_of rfl rfl rfl rfl) σ
  th := fun _ h => nomatch h
  xs := fun _ h => nomatch h
  lam := hlam
  tk := takes_of rfl rfl rfl rfl
  ef := ⟨M0.ef.mkE, M0.ef.exE, M0.ef.isE, M0.ef.len⟩
  stk := fun _ => ⟨rfl, rfl⟩
  po := passes_of rfl
  thT := fun _ _ _ _ _ h => nomatch h
/-- all defs keep what the evaluator tells, at every level -/
theorem fn_all (M0 : Mf P G κ K mg) (hP : ∀ (i : Nat) (d : Fd), ds[i]? = some d → FnScope d.N d.ps d.scope ∧ d.ps.length ≤ d.N.length) (hA : ∀ (i : Nat) (d : Fd), ds[i]? = some d → At1 K mg d)
    (hG : ∀ (i : Nat) (x : Str) (n : Nat), G.fn[i]? = some (x, n) → ∃ d : Fd, ds[i]? = some d ∧ d.x = x ∧ d.ps.length = n)
    (hlam : ∀ (lv : Nat), (∀ m, m ≤ lv → ∀ i x n, G.fn[i]? = some (x, n) → ∃ f fd ps, mg x = some (.ref f) ∧ PySem.W.keepIn K (.ref f) = true ∧ Binds K fd ps [] ∧ ps.length = n ∧ FnOk prog w K mg base (L2.CX prog w) (3 * m) f fd ps (spD κ K ps fun ds st => evF P m i ds (fun _ => .bad) st)) →
      ∀ (j h : Nat) (d : Fd), ds[j]? = some d → d.lm = true → ∀ (f : Addr) (cdv : Value) (A : Around) (outer : List Env) (s : Shared) (H : Hp) (E : XK), Room (3 * lv + 2) (A.deeper (envOfC d.x d.scope s.heap.objs.size f cdv)) → PySem.W.codeIn K cdv d.x = true → mg d.x = some (.ref f) → (∃ (oc : Value) (od : Option Addr) (fd : FuncData) (osl : Array (Option Value)), K.lookup f = some ⟨oc, od, .func fd, osl⟩ ∧ fd.code = cdv) →
      ∀ i x, (i, x) ∈ G.lm → ∀ (params : Arguments) (body : Expr) (scope : Scope) (lpos p pos : Pos) (fb : Bool) (mb : Loc → Store → Res D), lamOk d.scope x params scope = true →
      (∀ (A' : Around) (outer' : List Env) (s' : Shared) (H' : Hp) (E' : XK) (f' c' : Addr), Room (3 * lv) (A'.deeper (lamEnv (cxOf (L2.CX prog w) prog w K mg base d.N d.x d.scope f cdv A outer s H E) scope s'.heap.objs.size f' c')) →
        PE (lamCx (cxOf (L2.CX prog w) prog w K mg base d.N d.x d.scope f cdv A outer s H E) A' outer' s' H' E' scope f' c') body (tE ⟨κ.base h, K⟩ (fun _ => BX (κ.base h) E') fb mb)) →
      PE (cxOf (L2.CX prog w) prog w K mg base d.N d.x d.scope f cdv A outer s H E) (.Call (.Name x p) [.Lambda params body scope lpos] [] pos) (eE (cxOf (L2.CX prog w) prog w K mg base d.N d.x d.scope f cdv A outer s H E) (κ.base h) (BXs (κ.base h) (WE fun cls d _ H' => E cls d H')) false fun l st => (evF P lv i [] (mb l) st).calm))
    (hsp : ∀ (lv : Nat), (∀ m, m ≤ lv → ∀ i x n, G.fn[i]? = some (x, n) → ∃ f fd ps, mg x = some (.ref f) ∧ PySem.W.keepIn K (.ref f) = true ∧ Binds K fd ps [] ∧ ps.length = n ∧ FnOk prog w K mg base (L2.CX prog w) (3 * m) f fd ps (spD κ K ps fun ds st => evF P m i ds (fun _ => .bad) st)) →
      ∀ (i : Nat) (d : Fd), ds[i]? = some d → chkFd P G i d = false → ∀ (f : Addr) (fd : FuncData), mg d.x = some (.ref f) → FunD K d.x d.x d.params d.body d.scope [] [] f fd → FnOk prog w K mg base (L2.CX prog w) (3 * (lv + 1)) f fd d.ps (spD κ K d.ps fun ds st => evF P (lv + 1) i ds (fun _ => .bad) st)) :
    ∀ (lv : Nat) (i : Nat) (x : Str) (n : Nat), G.fn[i]? = some (x, n) → ∃ f fd ps, mg x = some (.ref f) ∧ PySem.W.keepIn K (.ref f) = true ∧ Binds K fd ps [] ∧ ps.length = n ∧
      FnOk prog w K mg base (L2.CX prog w) (3 * lv) f fd ps (spD κ K ps fun ds st => evF P lv i ds (fun _ => .bad) st)
  | 0, i, x, n, hi => by
    obtain ⟨d, h1, rfl, h3⟩ := hG i x n hi
    obtain ⟨f, fd, g1, g2, g3⟩ := hA i d h1
    refine ⟨f, fd, d.ps, g1, g2.kp, g3, h3, ⟨fun vs H Q E q => q.1, fun A outer s H args us vs Q E hr he hb hv hs => ?_⟩⟩
    obtain ⟨_, h, ρ, dd, st, _, _, q⟩ := hs
    exact q.elim
  | lv + 1, i, x, n, hi => by
    have ihs : ∀ m, m ≤ lv → _ := fun m hm => fn_all M0 hP hA hG hlam hsp m
    have ih := ihs lv (Nat.le_refl _)
    obtain ⟨d, h1, rfl, h3⟩ := hG i x n hi
    obtain ⟨f, fd, g1, g2, g3⟩ := hA i d h1
    obtain ⟨c2, c3⟩ := hP i d h1
    cases c1 : chkFd P G i d with
    | false => exact ⟨f, fd, d.ps, g1, g2.kp, g3, h3, hsp lv ihs i d h1 c1 f fd g1 g2⟩
    | true =>
    unfold chkFd at c1
    split at c1
    · rename_i fn hfn
      obtain ⟨k1, k3⟩ := and2 c1
      obtain ⟨k1, k2⟩ := and2 k1
      refine ⟨f, fd, d.ps, g1, g2.kp, g3, h3, ?_⟩
      obtain ⟨oc, od, dV, kV, doc, pm, an, cdv, ct, osl, rfl, lk, hcd, _, _⟩ := g2.ex
      refine fn_of lk hcd c2 (fun vs H Q E q => q.1) fun A outer s H vs Q E hr hsp => ?_
      obtain ⟨hl, h, ρ, dd, st, s0, rr, q⟩ := hsp
      have F := fit_fn (th := fun _ => .bad) (h := h) M0 (f := f) (cdv := cdv) (A := A) (outer := outer) (s := s) (H := H) (E := E) c2 ih hr (fun hlm => hlam lv ihs i h d h1 hlm f cdv A outer s H E hr hcd g1 ⟨_, _, _, _, lk, rfl⟩)
      refine ⟨_, sndSs fn.body k3 F (fun _ _ => rfl), ?_⟩
      have q' : EndG ⟨κ.base h, K⟩ (BX κ E) (RE ⟨κ.base h, K⟩ false) ρ H (optR (P.funs i) fun fn => if dd.length = fn.nps then (evSs P (evF P lv) (fun _ => .bad) fn.body none (dd.map some ++ List.replicate (fn.nsl - fn.nps) none) st).bind fun r st => r.ends st else .bad) Q := q
      rw [hfn] at q'
      simp only [optR] at q'
      have e1 := of_decide_eq_true k1
      have e2 := of_decide_eq_true k2
      have hdl : dd.length = fn.nps := by rw [rr.length, hl, e1]
      rw [if_pos hdl] at q'
      refine ⟨ρ, dd.map some ++ List.replicate (fn.nsl - fn.nps) none, st, ⟨s0, ?_, fun p hp => nomatch hp⟩, ends_end q'⟩
      rw [← hdl]
      exact start_rel e2 (by rw [hl]; exact c3) rr
    · cases c1
termination_by lv => lv
end
end Pm

set_option Elab.async false
set_option linter.all false
set_option maxRecDepth 100000
set_option maxHeartbeats 16000000
/-! Ev31: the law's def. -/
namespace Pm
open PySem PySem.Spec PyProof.Rows L2 LamX
set_option autoImplicit false

theorem cx_false {P : Program} {w : World} {outer : List Env} {H : Hp} {s : Shared} {e : Value} {s' : Shared} (x : L2.CX P w outer H s (fun _ _ _ => False) e s') : False := by
  unfold L2.CX at x
  obtain ⟨_, _, _, _, _, _, _, _, _, _, _, _, z⟩ := x
  exact z
theorem only_scr {K : PySem.W.Frag} {H : Hp} {a : Addr} {ns : List Int} (o : Only H) (h : SqL K H a (ns.map V.int)) : SqF K H a (ns.map V.int) := by
  rcases h with (h | ⟨u, h⟩) | h
  · exfalso
    rcases o a with z | ⟨u, v, z⟩
    · rw [h] at z; cases z
    · rw [h] at z; cases z
  · exact .inl ⟨u, h⟩
  · exact .inr (.inr h)
theorem law_of {κ : Kx} {prog : Program} {w : World} {K : PySem.W.Frag} {mg : Str → Option Value} {base : Heap} {k : Nat} {f : Addr} {fd : FuncData} {ps : List Str} {m : List D → Store → Res D}
    (F : FnOk prog w K mg base (L2.CX prog w) k f fd ps (spD κ K ps m)) (hps : ps.length = 1) (hT : κ.T = []) (hm : ∀ ns : List Int, ns.length ≤ 63 → ∃ st, m [.scr ns] [] = .ok (.bl true) st) :
    FnOk prog w K mg base L2.CX0 k f fd ps (fun vs H Q _ => ∃ (a : Addr) (ns : List Int), vs = [.ref a] ∧ ns.length ≤ 63 ∧ Only H ∧ SqL K H a (ns.map V.int) ∧ ∀ H', Q (.bl true) H') := by
  refine ⟨fun vs H Q E ⟨a, ns, e, _⟩ => by rw [e, hps]; rfl, fun A outer s H args us vs Q E hr he hb hv ⟨a, ns, e, hl, ho, hS, hQ⟩ => ?_⟩
  subst e
  obtain ⟨st, hst⟩ := hm ns hl
  have sp : spD κ K ps m [.ref a] H Q (fun _ _ _ => False) := by
    refine ⟨by rw [hps]; rfl, 0, [], [.scr ns], [], ?_, .cons (.scr (only_scr ho hS)) .nil, ?_⟩
    · exact {
        len := rfl
        inj := fun n m a h => by simp at h
        ob := fun n o h => by simp at h
        hd := fun n a h => absurd h (Nat.not_lt_zero _)
        tab := by rw [show (({ κ with T := κ.T } : Kx).T) = [] from hT]; exact fun p hp => nomatch hp
        cd := fun p hp => nomatch hp }
    · rw [hst]
      exact fun ρ' v H' _ _ r => by
        obtain ⟨r, _⟩ := r
        cases r
        exact hQ H'
  refine codeAny_mono (F.run A outer s H args us [.ref a] Q (fun _ _ _ => False) hr he hb hv sp) fun r s' hq => ?_
  cases r with
  | error e => exact (cx_false hq).elim
  | ok fl => cases fl <;> exact hq
end Pm

set_option Elab.async false
set_option linter.all false
set_option maxRecDepth 100000
set_option maxHeartbeats 16000000
/-! Ev32: the def that is handed a lambda. -/
namespace Pm
open PySem PySem.Spec PyProof.Rows L2 LamX
set_option autoImplicit false

abbrev mdG (a : Str) : Md := { cm := true, lm := false, fxs := [0], th := some a, xs := none, blk := false }
def chkGd (P : Par) (G : Gd) (i : Nat) (d : Fd) (a : Str) : Bool := match P.funs i with
  | some fn => decide (fn.nps = 0) && decide (fn.nsl = d.N.length) && decide (d.ps = [a]) && chkSs G d.N (mdG a) fn.body d.scope d.body
  | none => false
/-- the frame in the def that was handed f -/
abbrev Kx.gave (κ : Kx) (h : Nat) (f c' : Addr) (q : Str) (ρ : Rho) (H : Hp) : Kx := { T := κ.T, fx := [(0, f)], cd := [(c', CodeO c' q)], en := [(ρ, H)], cl := κ.cl, h := h }
section
variable {P : Par} {G : Gd} {κ : Kx} {X : Cx}
theorem fit_gave (M0 : Mf P G κ X.K X.mg) {n kk h : Nat} {d : Fd} {a q : Str} {f c' : Addr} {g : Addr} {cdg : Value} {s : Shared} {H : Hp} {ρ : Rho} {th : M} {t : XK → Hp → VK → Prop} (S : FnScope d.N d.ps d.scope)
    (hfn : ∀ i x m, G.fn[i]? = some (x, m) → ∃ f fd ps, X.mg x = some (.ref f) ∧ PySem.W.keepIn X.K (.ref f) = true ∧ Binds X.K fd ps [] ∧ ps.length = m ∧ FnOk X.prog X.w X.K X.mg X.base (L2.CX X.prog X.w) (3 * n) f fd ps (spD κ X.K ps fun ds st => evF P n i ds (fun _ => .bad) st))
    (hr : Room kk (X.A.deeper (envOfC d.x d.scope s.heap.objs.size g cdg))) (hk : 3 * n ≤ kk)
    (act : ∀ (W : WX) (pn : List (Addr × Obj)) (xe : Value → Shared → Prop) (p1 p2 : Pos), Takes ((cxG X d.N d.x d.scope g cdg s H).tr pn xe) W →
      PE ((cxG X d.N d.x d.scope g cdg s H).tr pn xe) (.Call (.Name a p1) [] [] p2) (fun σZ HZ Q => σZ[0]? = some (some (.ref f)) ∧ HZ c' = some (CodeO c' q) ∧ t (WE W σZ) HZ Q))
    (himp : ∀ ρ2 st2 H2 E Q2, Ext h ρ H ρ2 H2 → Sim ⟨κ.base h, X.K⟩ ρ2 st2 H2 → EndG ⟨κ.base h, X.K⟩ (BX (κ.base h) E) (RE ⟨κ.base h, X.K⟩ false) ρ2 H2 (th st2) Q2 → t E H2 Q2) :
    FitS P G (evF P n) th none d.N (mdG a) (κ.gave h f c' q ρ H) (fun _ _ _ _ => False) d.scope (3 * n) (cxG X d.N d.x d.scope g cdg s H).nox := by
  have hT : ∀ (W' : WX) (pn : List (Addr × Obj)) (xe : Value → Shared → Prop), Takes ((cxG X d.N d.x d.scope g cdg s H).tr pn xe) W' → ∀ p p2, PE ((cxG X d.N d.x d.scope g cdg s H).tr pn xe) (.Call (.Name a p) [] [] p2)
      (eE ((cxG X d.N d.x d.scope g cdg s H).tr pn xe) (κ.gave h f c' q ρ H) (BXs (κ.gave h f c' q ρ H) (WE W')) false fun _ st => th st) := fun W' pn xe tk p p2 =>
    PE.imp (act W' pn xe p p2 tk) fun σ H2 Q ⟨ρ2, l, st, at0, e⟩ =>
      frc_read (κ := κ.gave h f c' q ρ H) (κ0 := κ.base h) (F := X.K) (ρ0 := ρ) (H0 := H) (f := f) (c' := c') (q := q) (t := t) (th := th) (W := W') (List.mem_cons_self ..) (List.mem_cons_self ..) rfl rfl rfl rfl (List.mem_cons_self ..) himp σ H2 Q ⟨ρ2, l, st, at0, e⟩
  exact {
    hN := rfl
    nd := S.nd
    hsc := rfl
    kind := S.kind
    fnc := fun _ _ _ => rfl
    calm := fun _ => rfl
    un := by have := hr.un; show (X.A.deeper _).units + 64 < cLine; omega
    bi := M0.bi
    fx := rfl
    fn := fun _ => hfn
    room := fun _ => hr.mono hk
    cn := M0.cn
    cl := M0.cl
    glo := ⟨M0.glo.ownT, M0.glo.ownE, M0.glo.verr⟩
    px := fun σ => passAt takes0 σ
    th := fun x hx p p2 => by
      cases hx
      exact hT (fun _ _ _ _ => False) _ _ takes0 p p2
    xs := fun _ h => nomatch h
    lam := fun h => nomatch h
    tk := takes0
    ef := ⟨M0.ef.mkE, M0.ef.exE, M0.ef.isE, M0.ef.len⟩
    stk := fun _ => ⟨rfl, rfl⟩
    po := PassesOwn.never
    thT := fun W' pn xe x tk hx p p2 => by
      cases hx
      exact hT W' pn xe tk p p2 }
/-- the promise of such a def -/
theorem gives_of (M0 : Mf P G κ X.K X.mg) {lv kk h i : Nat} {d : Fd} {a q : Str} {g : Addr} {cdg : Value} (S : FnScope d.N d.ps d.scope) (hc : chkGd P G i d a = true) (h0 : 1 ≤ d.N.length)
    (hfn : ∀ m, m ≤ lv → ∀ i x n, G.fn[i]? = some (x, n) → ∃ f fd ps, X.mg x = some (.ref f) ∧ PySem.W.keepIn X.K (.ref f) = true ∧ Binds X.K fd ps [] ∧ ps.length = n ∧ FnOk X.prog X.w X.K X.mg X.base (L2.CX X.prog X.w) (3 * m) f fd ps (spD κ X.K ps fun ds st => evF P m i ds (fun _ => .bad) st))
    (hk : 3 * lv ≤ kk) : Gives kk X d.N d.x d.scope g cdg d.body a q (TTD (κ.base h) X.K fun th st => (evF P lv i [] th st).calm) := by
  intro f c' s H Q t act hco hr ⟨ρ, st, th, s0, himp, hq⟩
  cases lv with
  | zero => exact hq.elim
  | succ n =>
    unfold chkGd at hc
    split at hc
    · rename_i fn hfn'
      obtain ⟨k1, k4⟩ := and2 hc
      obtain ⟨k1, k3⟩ := and2 k1
      obtain ⟨k1, k2⟩ := and2 k1
      have e1 := of_decide_eq_true k1
      have e2 := of_decide_eq_true k2
      have F := fit_gave (P := P) (n := n) (kk := kk) (h := h) (f := f) (c' := c') (q := q) (g := g) (cdg := cdg) (s := s) (H := H) (ρ := ρ) (th := th) (t := t) (a := a) M0 S (hfn n (Nat.le_succ n)) hr (by omega) act himp
      refine ⟨_, sndSs fn.body k4 F (fun _ _ => rfl), ρ, List.replicate fn.nsl none, st, ⟨?_, ⟨?_, ?_, ?_⟩, ?_⟩, ?_⟩
      · exact s0.kit (κ := κ.base h) (κ' := κ.gave h f c' q ρ H) rfl rfl (fun p hp => by
          rcases List.mem_cons.mp hp with e | e
          · subst e; exact ⟨hco, _, rfl⟩
          · cases e)
      · unfold L2.start; simp; omega
      · intro j dd hd
        rw [List.getElem?_replicate] at hd
        split at hd <;> cases hd
      · intro p hp
        rcases List.mem_cons.mp hp with e | e
        · subst e; rfl
        · cases e
      · intro p hp
        rcases List.mem_cons.mp hp with e | e
        · subst e; exact Ext.refl _ _
        · cases e
      · have hq' : EndG ⟨κ.base h, X.K⟩ (fun _ _ _ => False) (RE ⟨κ.base h, X.K⟩ false) ρ H ((optR (P.funs i) fun fn => if ([] : List D).length = fn.nps then (evSs P (evF P n) th fn.body none (([] : List D).map some ++ List.replicate (fn.nsl - fn.nps) none) st).bind fun r st => r.ends st else .bad).calm) Q := hq
        rw [hfn'] at hq'
        simp only [optR] at hq'
        rw [if_pos (show ([] : List D).length = fn.nps from e1.symm), e1] at hq'
        simp only [List.map_nil, List.nil_append, Nat.sub_zero] at hq'
        cases hres : evSs P (evF P n) th fn.body none (List.replicate fn.nsl none) st with
        | bad => rw [hres] at hq'; exact hq'
        | exc c fs st1 => rw [hres] at hq'; exact hq'.elim
        | ok fl st1 =>
          rw [hres] at hq'
          cases fl with
          | nx l => exact fun ρ' σ' H' x at1 => hq' ρ' .non H' x (at1.sim.kit (κ := κ.gave h f c' q ρ H) (κ' := κ.base h) rfl rfl (fun p hp => nomatch hp)) ⟨.non, fun z => nomatch z⟩
          | rt dd => exact fun ρ' v H' x s' r => hq' ρ' v H' x (s'.kit (κ := κ.gave h f c' q ρ H) (κ' := κ.base h) rfl rfl (fun p hp => nomatch hp)) ⟨r.kit (κ := κ.gave h f c' q ρ H) (κ' := κ.base h) rfl, fun z => nomatch z⟩
          | bk l => exact hq'.elim
          | ct l => exact hq'.elim
    · cases hc
end
end Pm

set_option Elab.async false
set_option linter.all false
set_option maxRecDepth 100000
set_option maxHeartbeats 16000000
/-! Ev33: the law's def, with tables of code objects. -/
namespace Pm
open PySem PySem.Spec PyProof.Rows L2 LamX
set_option autoImplicit false

/-- only the lists may differ -/
theorem ok_lock {P : Program} {w : World} {H H' : Hp} {h : Heap} (m : ∀ b o, H b = some o → (∀ ys, o ≠ .lst ys) → H' b = some o) : ∀ (a : Addr) (o : HO), ObjOk P w H h a o → ObjOk P w H' h a o
  | _, .lst _, x => x
  | _, .tup _, x => x
  | _, .dK _, x => x
  | a, .dT kvs, x => by
    obtain ⟨h1, h2, xs, hp, r⟩ := x
    refine ⟨h1, h2, xs, ?_, r⟩
    clear r h1
    induction hp with
    | nil => exact .nil
    | cons hq _ ih => exact .cons ⟨hq.1, m _ _ hq.2.1 nofun, hq.2.2⟩ ih
  | _, .set _ _, x => x
  | _, .ins _ _ _, x => ⟨m _ _ x.1 nofun, x.2⟩
  | _, .own _, x => x
  | _, .xd _, x => x
  | _, .rng _ _, x => x
  | a, .frz _ u, x => ⟨x.1, ok_lock m a u x.2⟩
  | _, .tbl _, x => x
  | _, .met _ _, x => x
  | _, .ext _, x => x
theorem lock_env {P : Program} {w : World} {K : PySem.W.Frag} {mg : Str → Option Value} {base : Heap} {A : Around} {outer : List Env} {s : Shared} {H : Hp} {a : Addr} {xs : List V} (e : Env0 P w K mg base A outer s H) (ha : H a = some (.lst xs)) :
    ∃ o, Env0 P w K mg base A outer s (L2.upd H a (.frz o (.lst xs))) := by
  obtain ⟨hl, its, n, hv, hg⟩ := e.hok a _ ha
  have hm : ∀ b o, H b = some o → (∀ ys, o ≠ .lst ys) → L2.upd H a (.frz { cls := .type "list", data := .seq its.toArray n } (.lst xs)) b = some o := fun b o hb hn => by
    rw [L2.upd_ne (fun z => by rw [z, ha] at hb; cases hb; exact hn _ rfl)]; exact hb
  have hz : ∀ b, H b = none → L2.upd H a (.frz { cls := .type "list", data := .seq its.toArray n } (.lst xs)) b = none := fun b hb => by
    rw [L2.upd_ne (fun z => by rw [z, ha] at hb; cases hb)]; exact hb
  refine ⟨_, e.frames, e.mod, fun b o hb => ⟨(e.bs b o hb).1, hz b (e.bs b o hb).2⟩, e.bsz, e.funs, fun b hb => hz b (e.frf b hb), fun b o hb => ?_, e.bare⟩
  by_cases z : b = a
  · rw [z, L2.upd_same] at hb
    cases hb
    rw [z]
    exact ⟨hg, hl, its, n, hv, hg⟩
  · rw [L2.upd_ne z] at hb
    exact ok_lock hm b o (e.hok b o hb)
theorem lock_un {fs ex : List Addr} {H H' : Hp} {h h' : Heap} {a : Addr} {o : Obj} {xs : List V} (ha : H a = some (.lst xs)) (u : Un fs ex (L2.upd H a (.frz o (.lst xs))) H' h h') : Un fs ex H H' h h' := by
  have hz : ∀ b, H b = none → L2.upd H a (.frz o (.lst xs)) b = none := fun b hb => by
    rw [L2.upd_ne (fun z => by rw [z, ha] at hb; cases hb)]; exact hb
  have hm : ∀ b u, H b = some u → (∀ ys, u ≠ .lst ys) → L2.upd H a (.frz o (.lst xs)) b = some u := fun b u hb hn => by
    rw [L2.upd_ne (fun z => by rw [z, ha] at hb; cases hb; exact hn _ rfl)]; exact hb
  exact ⟨fun b o e n => u.keep b o e (hz b n), fun b o e n => u.slot b o e (hz b n), fun b o e n => u.free b o e (hz b n), u.there, fun b ys e => u.tups b ys (hm b _ e nofun), fun b o v e => u.frzs b o v (hm b _ e nofun), fun b ps e => u.tbls b ps (hm b _ e nofun)⟩
/-- what the law promises -/
def spLaw (κ : Kx) (K : PySem.W.Frag) : Sp := fun vs H Q _ => ∃ (a : Addr) (ns : List Int), vs = [.ref a] ∧ ns.length ≤ 63 ∧ (∀ z ∈ ns, Builtin.Int.intBits z ≤ 1048576) ∧ (∀ p ∈ κ.T, H p.1 = some (.tbl #[])) ∧ SqL K H a (ns.map V.int) ∧ ∀ H', Q (.bl true) H'
theorem law_ofT {κ : Kx} {prog : Program} {w : World} {K : PySem.W.Frag} {mg : Str → Option Value} {base : Heap} {k : Nat} {f : Addr} {fd : FuncData} {ps : List Str} {m : List D → Store → Res D}
    (F : FnOk prog w K mg base (L2.CX prog w) k f fd ps (spD κ K ps m)) (hps : ps.length = 1)
    (hm : ∀ ns : List Int, ns.length ≤ 63 → (∀ z ∈ ns, Builtin.Int.intBits z ≤ 1048576) → ∃ st, m [.scr ns] [] = .ok (.bl true) st) : FnOk prog w K mg base L2.CX0 k f fd ps (spLaw κ K) := by
  refine ⟨fun vs H Q E ⟨a, ns, e, _⟩ => by rw [e, hps]; rfl, fun A outer s H args us vs Q E hr he hb hv ⟨a, ns, e, hl, hb2, hT, hS, hQ⟩ => ?_⟩
  subst e
  obtain ⟨st, hst⟩ := hm ns hl hb2
  have sp : ∀ H1 : Hp, (∀ p ∈ κ.T, H1 p.1 = some (.tbl #[])) → SqF K H1 a (ns.map V.int) → spD κ K ps m [.ref a] H1 Q (fun _ _ _ => False) := fun H1 hT1 hS1 => by
    refine ⟨by rw [hps]; rfl, 0, [], [.scr ns], [], ?_, .cons (.scr hS1) .nil, ?_⟩
    · exact {
        len := rfl
        inj := fun n m a h => by simp at h
        ob := fun n o h => by simp at h
        hd := fun n a h => absurd h (Nat.not_lt_zero _)
        tab := fun p hp => TabS.nil (hT1 p hp)
        cd := fun p hp => nomatch hp }
    · rw [hst]
      exact fun ρ' v H' _ _ r => by
        obtain ⟨r, _⟩ := r
        cases r
        exact hQ H'
  have go : SqF K H a (ns.map V.int) → codeAny (model prog w) A (.call (.ref f) args) (CR L2.CX0 outer prog w H s Q E) s := fun hF =>
    codeAny_mono (F.run A outer s H args us [.ref a] Q (fun _ _ _ => False) hr he hb hv (sp H hT hF)) fun r s' hq => by
      cases r with
      | error e => exact (cx_false hq).elim
      | ok fl => cases fl <;> exact hq
  rcases hS with (ha | ⟨o, ha⟩) | hk
  · obtain ⟨o, e1⟩ := lock_env he ha
    refine codeAny_mono (F.run A outer s _ args us [.ref a] Q (fun _ _ _ => False) hr e1 hb hv (sp _ (fun p hp => ?_) (.inl ⟨o, L2.upd_same⟩))) fun r s' hq => ?_
    · rw [L2.upd_ne (fun z => by have := hT p hp; rw [z, ha] at this; cases this)]; exact hT p hp
    · cases r with
      | error e => exact (cx_false hq).elim
      | ok fl =>
        cases fl with
        | ret u =>
          obtain ⟨v, H', os, bare, un, hok', rv, q⟩ := hq
          exact ⟨v, H', os, bare, lock_un ha un, hok', rv, q⟩
        | _ => exact hq
  · exact go (.inl ⟨o, ha⟩)
  · exact go (.inr (.inr hk))
end Pm

set_option Elab.async false
set_option linter.all false
set_option maxRecDepth 100000
set_option maxHeartbeats 16000000
/-! Ev34: a def that makes lambdas. -/
namespace Pm
open PySem PySem.Spec PyProof.Rows L2 LamX
set_option autoImplicit false

/-- the code object's qualified name of a lambda in a def -/
abbrev lamQ (x : Str) : Str := (envOfC x { kind := .function, names := [], isGenerator := false, isCoroutine := false } 0 0 .none).qual ++ "<lambda>"
theorem code_ref {K : PySem.W.Frag} {cd : Value} {q : Str} (h : PySem.W.codeIn K cd q = true) : ∃ c, cd = .ref c := by
  unfold PySem.W.codeIn at h
  split at h
  · exact ⟨_, rfl⟩
  · cases h
section
variable {P : Par} {G : Gd} {κ : Kx} {prog : Program} {w : World} {K : PySem.W.Frag} {mg : Str → Option Value} {base : Heap} {ds : List Fd}
/-- where a def of lambdas stands -/
structure Lt (P : Par) (G : Gd) (K : PySem.W.Frag) (mg : Str → Option Value) (i : Nat) (x : Str) (dg : Fd) (a : Str) : Prop where
  nm : dg.x = x
  ps : dg.ps = [a]
  ck : chkGd P G i dg a = true
  sc : FnScope dg.N dg.ps dg.scope
  at0 : dg.N[0]? = some a
  vis : Vis dg.scope a
  ok : nmOk a = true
  at1 : At1 K mg dg
theorem lam_of (M0 : Mf P G κ K mg) (hL : ∀ i x, (i, x) ∈ G.lm → ∃ dg a, Lt P G K mg i x dg a)
    (hT : ∀ d, d ∈ ds → d.lm = true → ∀ (f : Addr) (oc : Value) (od : Option Addr) (fd : FuncData) (osl : Array (Option Value)) (c : Addr), mg d.x = some (.ref f) → K.lookup f = some ⟨oc, od, .func fd, osl⟩ → fd.code = .ref c →
      ∃ Pt, TabB base mg c Pt ∧ (Pt, lamQ d.x) ∈ κ.T ∧ ∀ p ∈ κ.T, p.1 = Pt → p.2 = lamQ d.x)
    (lv : Nat) (hfn : ∀ m, m ≤ lv → ∀ i x n, G.fn[i]? = some (x, n) → ∃ f fd ps, mg x = some (.ref f) ∧ PySem.W.keepIn K (.ref f) = true ∧ Binds K fd ps [] ∧ ps.length = n ∧ FnOk prog w K mg base (L2.CX prog w) (3 * m) f fd ps (spD κ K ps fun ds st => evF P m i ds (fun _ => .bad) st))
    (j h : Nat) (d : Fd) (hd : ds[j]? = some d) (hlm : d.lm = true) (f : Addr) (cdv : Value) (A : Around) (outer : List Env) (s : Shared) (H : Hp) (E : XK) (hr : Room (3 * lv + 2) (A.deeper (envOfC d.x d.scope s.heap.objs.size f cdv))) (hcd : PySem.W.codeIn K cdv d.x = true) (hmg : mg d.x = some (.ref f))
    (hlk : ∃ (oc : Value) (od : Option Addr) (fd : FuncData) (osl : Array (Option Value)), K.lookup f = some ⟨oc, od, .func fd, osl⟩ ∧ fd.code = cdv)
    (i : Nat) (x : Str) (hi : (i, x) ∈ G.lm) (params : Arguments) (body : Expr) (scope : Scope) (lpos p pos : Pos) (fb : Bool) (mb : Loc → Store → Res D) (ok : lamOk d.scope x params scope = true)
    (hb : ∀ (A' : Around) (outer' : List Env) (s' : Shared) (H' : Hp) (E' : XK) (f' c' : Addr), Room (3 * lv) (A'.deeper (lamEnv (cxOf (L2.CX prog w) prog w K mg base d.N d.x d.scope f cdv A outer s H E) scope s'.heap.objs.size f' c')) →
        PE (lamCx (cxOf (L2.CX prog w) prog w K mg base d.N d.x d.scope f cdv A outer s H E) A' outer' s' H' E' scope f' c') body (tE ⟨κ.base h, K⟩ (fun _ => BX (κ.base h) E') fb mb)) :
    PE (cxOf (L2.CX prog w) prog w K mg base d.N d.x d.scope f cdv A outer s H E) (.Call (.Name x p) [.Lambda params body scope lpos] [] pos) (eE (cxOf (L2.CX prog w) prog w K mg base d.N d.x d.scope f cdv A outer s H E) (κ.base h) (BXs (κ.base h) (WE fun cls d _ H' => E cls d H')) false fun l st => (evF P lv i [] (mb l) st).calm) := by
  obtain ⟨dg, a, L⟩ := hL i x hi
  obtain ⟨g, fg, g1, g2, g3⟩ := L.at1
  obtain ⟨oc, od, fd, osl, lk, rfl⟩ := hlk
  obtain ⟨c, hc⟩ := code_ref hcd
  obtain ⟨Pt, t1, t2, t3⟩ := hT d (List.mem_of_getElem? hd) hlm f oc od fd osl c hmg lk hc
  obtain ⟨oc2, od2, dV, kV, doc, pm, an, cdg, ct, osl2, rfl, lk2, hcd2, _, _⟩ := g2.ex
  unfold lamOk at ok
  obtain ⟨o1, o4⟩ := and2 ok
  obtain ⟨o1, o3⟩ := and2 o1
  obtain ⟨o1, o2⟩ := and2 o1
  have e := L.nm
  subst e
  have hp : params = ⟨[], [], none, [], [], none, []⟩ := by
    split at o4
    · rfl
    · cases o4
  subst hp
  have n1 := nmOk_d o2
  have n2 := nmOk_d L.ok
  rw [L.ps] at g3
  have hS := L.sc
  rw [L.ps] at hS
  have hG := gives_of (P := P) (lv := lv) (kk := 3 * lv + 1) (h := h) (q := lamQ d.x) (g := g) (cdg := cdg) (X := cxOf (L2.CX prog w) prog w K mg base d.N d.x d.scope f fd.code A outer s H E) M0 L.sc L.ck (by have := L.at0; cases hN : dg.N with | nil => rw [hN] at this; cases this | cons _ _ => simp) hfn (by omega)
  exact PE.imp (lam_call (T := κ.T) (k := 3 * lv) (t := fun E' => tE ⟨κ.base h, K⟩ (fun _ => BX (κ.base h) E') fb mb) (show d.scope.names.lookup dg.x = some .globalImplicit from of_decide_eq_true o1) g1 g2.kp lk2 hcd2 g3 hS L.at0 L.vis hG t1 hc t2 t3 hr (lamS_by o3) rfl (fun _ _ _ _ _ => rfl) hb n1.1 n2.1 n2.2)
    (thk_read (κ := κ.base h) (mc := fun th st => evF P lv i [] th st) rfl)
end
end Pm

set_option Elab.async false
set_option linter.all false
set_option maxRecDepth 100000
set_option maxHeartbeats 16000000
/-! Ev35: the head: what the evaluator wants of the module, looked at in the head's part of the heap. -/
namespace Pm
open PySem PySem.Spec PyProof.Rows L2 LamX
set_option autoImplicit false

def clA (G : Gd) (K : PySem.W.Frag) (i : Nat) : Addr := He.ga K (G.cl.getD i Str.empty)
def consB (P : Par) (K : PySem.W.Frag) (i : Nat) (x : Str) : Bool := match PySem.W.nsIn K mainGlobals x, P.consts i with
  | some (some (.int j _)), .int n => decide (j = n)
  | some (some (.str y _)), .str s => decide (y = strS s)
  | _, _ => false
def excCB (K : PySem.W.Frag) (D : Addr) : Bool :=
  He.eqO (PySem.W.findIn K (.ref D) "__getattribute__") (some (some (.builtin "BaseException.__getattribute__"))) && He.eqO (PySem.W.findIn K (.ref D) "__getattr__") (some none) &&
  decide (PySem.W.subIn K (.ref D) (.type "BaseException") = some true) && PySem.W.hasDictIn K D && He.eqO (PySem.W.findIn K (.ref D) "__class__") (some (some (.builtin "object.__class__"))) &&
  He.eqO (PySem.W.specialIn K (.builtin "object.__class__") "__get__") (some (some (.builtin "getset_descriptor.__get__"))) && decide (PySem.W.takesIn K (.builtin "object.__class__") = some true) && decide (PySem.W.mroIn K D (.type "object") = some true)
theorem excCB_ok {K : PySem.W.Frag} {D : Addr} (h : excCB K D = true) : ExcC K D := by
  unfold excCB at h
  simp only [Bool.and_eq_true] at h
  obtain ⟨⟨⟨⟨⟨⟨⟨h1, h2⟩, h3⟩, h4⟩, h5⟩, h6⟩, h7⟩, h8⟩ := h
  exact ⟨He.eqO_ok h1, He.eqO_ok h2, of_decide_eq_true h3, h4, He.eqO_ok h5, He.eqO_ok h6, of_decide_eq_true h7, of_decide_eq_true h8⟩
/-- of one own class -/
def clsB (P : Par) (G : Gd) (K : PySem.W.Frag) (c : Nat) : Bool :=
  (tyNs.all fun n => decide (PySem.W.kitOne K (.type n) (.ref (clA G K c)) = some false)) &&
  ((List.range G.cl.length).all fun k => decide (PySem.W.kitOne K (.ref (clA G K c)) (.ref (clA G K k)) = some ((P.anc c).contains k)) && decide (PySem.W.exmOne K (.ref (clA G K k)) (.ref (clA G K c)) = some ((P.anc k).contains c))) &&
  decide (PySem.W.kitOne K (.ref (clA G K c)) (.type "ValueError") = some true) && (He.Fa.exc (G.cl.getD c Str.empty)).ok K && excCB K (clA G K c)
def exB (P : Par) (G : Gd) (tf : List He.Defn) (K : PySem.W.Frag) : Bool :=
  ((List.range G.cl.length).all fun c => clsB P G K c) && ((List.range G.cn.length).all fun i => consB P K i (G.cn.getD i Str.empty)) && decide ((tf.map fun p => (He.cT K p).2).Nodup)
/-- what is asked by names -/
def faOf (G : Gd) (xs : List Str) : List He.Fa := biNames.map .free ++ G.cl.map .glo ++ xs.map .glo
def dfOf (d : Fd) : He.DefD := ⟨(d.x, none), d.x, d.x, d.params, d.body, d.scope, [], []⟩
abbrev tfOf (ds : List Fd) : List He.Defn := (ds.filter fun d => d.lm).map fun d => (d.x, none)
/-- the frame of the law -/
def kxOf (G : Gd) (K : PySem.W.Frag) (ds : List Fd) : Kx := { T := (ds.filter fun d => d.lm).map fun d => ((He.cT K (d.x, none)).2, lamQ d.x), fx := [], cd := [], en := [], cl := clA G K, h := 0 }

section
variable {P : Par} {G : Gd} {w : World} {K : PySem.W.Frag} {mg : Str → Option Value} {h : Heap} {ds : List Fd} {ts : List He.Tab} {tf : List He.Defn} {xs : List Str} {fn : List He.DefD}
theorem getD_of {α : Type} {l : List α} {i : Nat} {x d : α} (h : l[i]? = some x) : l.getD i d = x := by
  rw [List.getD_eq_getElem?_getD, h]; rfl
theorem lt_of_get {α : Type} {l : List α} {i : Nat} {x : α} (h : l[i]? = some x) : i < l.length := by
  by_cases hi : i < l.length
  · exact hi
  · rw [List.getElem?_eq_none (by omega)] at h; cases h
theorem mf_of (X : K.In h) (Gn : h.Ns mainGlobals mg) (c : He.SaysX (faOf G xs) fn ts tf (exB P G tf) w h K) (hn : P.ncl = G.cl.length) (ds : List Fd) : Mf P G (kxOf G K ds) K mg := by
  have c1 := c.t.d
  have ex := c.more
  unfold exB at ex
  simp only [Bool.and_eq_true] at ex
  obtain ⟨⟨x1, x2⟩, x3⟩ := ex
  have cls : ∀ c, c < G.cl.length → clsB P G K c = true := fun c hc => List.all_eq_true.mp x1 c (List.mem_range.mpr hc)
  have cls' : ∀ c, c < G.cl.length → _ := fun c hc => by
    have q := cls c hc
    unfold clsB at q
    simp only [Bool.and_eq_true] at q
    exact q
  exact {
    bi := fun x hx => He.free_ok X Gn (c1.facts (by unfold faOf; exact List.mem_append_left _ (List.mem_append_left _ (List.mem_map.mpr ⟨x, hx, rfl⟩))))
    cn := fun i x hi => by
      have q := List.all_eq_true.mp x2 i (List.mem_range.mpr (lt_of_get hi))
      rw [getD_of hi] at q
      unfold consB at q
      split at q
      · rename_i j t n e1 e2
        have e3 := of_decide_eq_true q
        subst e3
        exact ⟨_, .int j, PySem.W.mg_of X Gn e1, ⟨_, rfl⟩, fun K' _ ρ H => by rw [e2]; exact .int j⟩
      · rename_i y t s e1 e2
        have e3 := of_decide_eq_true q
        subst e3
        exact ⟨_, .str (strS s), PySem.W.mg_of X Gn e1, ⟨_, rfl⟩, fun K' _ ρ H => by rw [e2]; exact .str s⟩
      · cases q
    cl := fun i x hi => by
      have e : clA G K i = He.ga K x := by unfold clA; rw [getD_of hi]
      show mg x = some (.ref (clA G K i))
      rw [e]
      exact He.glo_ok X Gn (c1.facts (by unfold faOf; exact List.mem_append_left _ (List.mem_append_right _ (List.mem_map.mpr ⟨x, List.mem_of_getElem? hi, rfl⟩))))
    glo := {
      ownT := fun c hc n hn => of_decide_eq_true (List.all_eq_true.mp (cls' c hc).1.1.1.1 n hn)
      ownE := fun c hc k hk => of_decide_eq_true (Bool.and_eq_true_iff.mp (List.all_eq_true.mp (cls' c hc).1.1.1.2 k (List.mem_range.mpr hk))).1
      verr := fun c hc => of_decide_eq_true (cls' c hc).1.1.2 }
    ef := {
      mkE := fun c hc => by
        obtain ⟨q1, q2, q3, q4⟩ := He.exc_ok (cls' c hc).1.2
        exact ⟨He.veBase, "ValueError", "ValueError.__new__", "ValueError.__init__", PySem.F.excBase_ValueError, q1, q2, q3, q4⟩
      exE := fun c hc k hk => of_decide_eq_true (Bool.and_eq_true_iff.mp (List.all_eq_true.mp (cls' c hc).1.1.1.2 k (List.mem_range.mpr (hn ▸ hk)))).2
      isE := fun c hc => excCB_ok (cls' c (hn ▸ hc)).2
      len := hn } }
/-- what each def's text must be -/
structure TxOk (d : Fd) : Prop where
  sc : FnScope d.N d.ps d.scope
  le : d.ps.length ≤ d.N.length
  bd : ∀ (kV doc pm : Value) (an : Option Addr) (cdv ct : Value) (us : List Value), us.length = d.ps.length → bindArgs (PySem.W.fnOf d.x d.x d.params d.body d.scope .none kV doc pm an cdv ct) ⟨us, []⟩ = pure (d.ps.zip us)
theorem at_of (X : K.In h) (Gn : h.Ns mainGlobals mg) {ex : PySem.W.Frag → Bool} (c : He.SaysX (faOf G xs) fn ts tf ex w h K) {d : Fd} (hx : d.x ∈ xs) (hd : dfOf d ∈ fn) (t : TxOk d) : At1 K mg d := by
  have c1 := c.t.d
  obtain ⟨fd, F⟩ := c1.defs hd
  have e := He.glo_ok X Gn (c1.facts (f := .glo d.x) (by unfold faOf; exact List.mem_append_right _ (List.mem_map.mpr ⟨_, hx, rfl⟩)))
  exact ⟨_, fd, e, F, F.bindsN t.bd⟩
theorem tab_of (X : K.In h) (Gn : h.Ns mainGlobals mg) {ds : List Fd} (c : He.SaysX (faOf G xs) fn ts (tfOf ds) (exB P G (tfOf ds)) w h K) (hx : ∀ d, d ∈ ds → d.x ∈ xs) {base : Heap} (hB : ∀ p ∈ (tfOf ds).map (He.cT K), TabB base mg p.1 p.2) :
    ∀ d, d ∈ ds → d.lm = true → ∀ (f : Addr) (oc : Value) (od : Option Addr) (fd : FuncData) (osl : Array (Option Value)) (c : Addr), mg d.x = some (.ref f) → K.lookup f = some ⟨oc, od, .func fd, osl⟩ → fd.code = .ref c →
      ∃ Pt, TabB base mg c Pt ∧ (Pt, lamQ d.x) ∈ (kxOf G K ds).T ∧ ∀ p ∈ (kxOf G K ds).T, p.1 = Pt → p.2 = lamQ d.x := by
  intro d hd hlm f oc od fd osl cc hmg hlk hcode
  have ex := c.more
  unfold exB at ex
  simp only [Bool.and_eq_true] at ex
  have nd := of_decide_eq_true ex.2
  have hf : d ∈ ds.filter fun d => d.lm := List.mem_filter.mpr ⟨hd, hlm⟩
  have e := He.glo_ok X Gn (c.t.d.facts (f := .glo d.x) (by unfold faOf; exact List.mem_append_right _ (List.mem_map.mpr ⟨_, hx d hd, rfl⟩)))
  have e2 : f = He.ga K d.x := by
    have := hmg.symm.trans e
    cases this; rfl
  have e3 : (He.cT K (d.x, none)).1 = cc := He.codeOf_eq (p := (d.x, none)) (show K.lookup (He.fAd K (d.x, none)) = _ by rw [show He.fAd K (d.x, none) = f from e2.symm]; exact hlk) hcode
  refine ⟨(He.cT K (d.x, none)).2, ?_, List.mem_map.mpr ⟨d, hf, rfl⟩, ?_⟩
  · have := hB (He.cT K (d.x, none)) (List.mem_map.mpr ⟨(d.x, none), List.mem_map.mpr ⟨d, hf, rfl⟩, rfl⟩)
    rw [e3] at this
    exact this
  · intro p hp hpe
    obtain ⟨d2, hd2, rfl⟩ := List.mem_map.mp hp
    have nd2 : (((ds.filter fun d => d.lm).map fun d => (He.cT K (d.x, none)).2)).Nodup := by
      have q := nd
      rw [List.map_map] at q
      exact q
    have inj : ∀ (l : List Fd) (g : Fd → Addr), (l.map g).Nodup → ∀ a ∈ l, ∀ b ∈ l, g a = g b → a = b := by
      intro l g
      induction l with
      | nil => intro _ a ha; cases ha
      | cons y ys ih =>
        intro hnd a ha b hb hab
        rw [List.map_cons, List.nodup_cons] at hnd
        rcases List.mem_cons.mp ha with ea | ea <;> rcases List.mem_cons.mp hb with eb | eb
        · rw [ea, eb]
        · exact absurd (List.mem_map.mpr ⟨b, eb, by rw [← hab, ea]⟩) hnd.1
        · exact absurd (List.mem_map.mpr ⟨a, ea, by rw [hab, eb]⟩) hnd.1
        · exact ih hnd.2 a ea b eb hab
    have := inj _ _ nd2 d2 hd2 d hf hpe
    rw [this]
end
end Pm

set_option Elab.async false
set_option linter.all false
set_option maxRecDepth 100000
set_option maxHeartbeats 16000000
/-! Ev36: from the head's facts and the plain law to the law's promise. -/
namespace Pm
open PySem PySem.Spec PyProof.Rows L2 LamX
set_option autoImplicit false

section
variable {P : Par} {G : Gd} {κ : Kx} {prog : Program} {w : World} {K : PySem.W.Frag} {mg : Str → Option Value} {base : Heap} {ds : List Fd}
abbrev FnAll (P : Par) (G : Gd) (κ : Kx) (prog : Program) (w : World) (K : PySem.W.Frag) (mg : Str → Option Value) (base : Heap) (m : Nat) : Prop :=
  ∀ (i : Nat) (x : Str) (n : Nat), G.fn[i]? = some (x, n) → ∃ f fd ps, mg x = some (.ref f) ∧ PySem.W.keepIn K (.ref f) = true ∧ Binds K fd ps [] ∧ ps.length = n ∧ FnOk prog w K mg base (L2.CX prog w) (3 * m) f fd ps (spD κ K ps fun ds st => evF P m i ds (fun _ => .bad) st)
/-- one def, at its own place, a level higher -/
theorem fn_step (M0 : Mf P G κ K mg) {lv i : Nat} {d : Fd} {f : Addr} {fd : FuncData} (t : TxOk d) (hlm : d.lm = false) (c1 : chkFd P G i d = true) (ih : FnAll P G κ prog w K mg base lv) (g2 : FunD K d.x d.x d.params d.body d.scope [] [] f fd) :
    FnOk prog w K mg base (L2.CX prog w) (3 * (lv + 1)) f fd d.ps (spD κ K d.ps fun ds st => evF P (lv + 1) i ds (fun _ => .bad) st) := by
  obtain ⟨c2, c3, _⟩ := t
  unfold chkFd at c1
  split at c1
  · rename_i fn hfn
    obtain ⟨k1, k3⟩ := and2 c1
    obtain ⟨k1, k2⟩ := and2 k1
    obtain ⟨oc, od, dV, kV, doc, pm, an, cdv, ct, osl, rfl, lk, hcd, _, _⟩ := g2.ex
    refine fn_of lk hcd c2 (fun vs H Q E q => q.1) fun A outer s H vs Q E hr hsp => ?_
    obtain ⟨hl, h, ρ, dd, st, s0, rr, q⟩ := hsp
    have F := fit_fn (th := fun _ => .bad) (h := h) M0 (f := f) (cdv := cdv) (A := A) (outer := outer) (s := s) (H := H) (E := E) c2 ih hr (fun hlm2 => by rw [hlm] at hlm2; cases hlm2)
    refine ⟨_, sndSs fn.body k3 F (fun _ _ => rfl), ?_⟩
    have q' : EndG ⟨κ.base h, K⟩ (BX κ E) (RE ⟨κ.base h, K⟩ false) ρ H (optR (P.funs i) fun fn => if dd.length = fn.nps then (evSs P (evF P lv) (fun _ => .bad) fn.body none (dd.map some ++ List.replicate (fn.nsl - fn.nps) none) st).bind fun r st => r.ends st else .bad) Q := q
    rw [hfn] at q'
    simp only [optR] at q'
    have e1 := of_decide_eq_true k1
    have e2 := of_decide_eq_true k2
    have hdl : dd.length = fn.nps := by rw [rr.length, hl, e1]
    rw [if_pos hdl] at q'
    refine ⟨ρ, dd.map some ++ List.replicate (fn.nsl - fn.nps) none, st, ⟨s0, ?_, fun p hp => nomatch hp⟩, ends_end q'⟩
    rw [← hdl]
    exact start_rel e2 (by rw [hl]; exact c3) rr
  · cases c1
end

/-- what a lambda taker's text must be -/
structure LtOk (P : Par) (G : Gd) (i : Nat) (x : Str) (dg : Fd) (a : Str) : Prop where
  nm : dg.x = x
  ps : dg.ps = [a]
  ck : chkGd P G i dg a = true
  tx : TxOk dg
  at0 : dg.N[0]? = some a
  vis : Vis dg.scope a
  ok : nmOk a = true
/-- a law's text: plain data -/
structure LawTx (P : Par) (G : Gd) (ds dl : List Fd) (i0 : Nat) (d0 : Fd) : Prop where
  ncl : P.ncl = G.cl.length
  tx : ∀ d, d ∈ ds → TxOk d
  fn : ∀ (i : Nat) (x : Str) (n : Nat), G.fn[i]? = some (x, n) → ∃ d : Fd, ds[i]? = some d ∧ d.x = x ∧ d.ps.length = n
  lt : ∀ i x, (i, x) ∈ G.lm → ∃ dg a, dg ∈ dl ∧ LtOk P G i x dg a
  law : ds[i0]? = some d0
  lx : d0.x = "law"
  lp : d0.ps = [("script" : Str)]
  lck : chkFd P G i0 d0 = true
  llm : d0.lm = false

def fnB (G : Gd) (ds : List Fd) : Bool := (List.range G.fn.length).all fun i => match G.fn[i]?, ds[i]? with
  | some (x, n), some d => decide (d.x = x) && decide (d.ps.length = n)
  | _, _ => false
theorem fn_ofB {G : Gd} {ds : List Fd} (h : fnB G ds = true) : ∀ (i : Nat) (x : Str) (n : Nat), G.fn[i]? = some (x, n) → ∃ d : Fd, ds[i]? = some d ∧ d.x = x ∧ d.ps.length = n := by
  intro i x n hi
  have q := List.all_eq_true.mp h i (List.mem_range.mpr (lt_of_get hi))
  rw [hi] at q
  cases hd : ds[i]? with
  | none => rw [hd] at q; cases q
  | some d =>
    rw [hd] at q
    obtain ⟨q1, q2⟩ := Bool.and_eq_true_iff.mp q
    exact ⟨d, rfl, of_decide_eq_true q1, of_decide_eq_true q2⟩
theorem law_at {P : Par} {G : Gd} {ds dl : List Fd} {i0 : Nat} {d0 : Fd} (T : LawTx P G ds dl i0 d0) {l : PySem.W.OpenLaw} {w : World} {K : PySem.W.Frag} {mg : Str → Option Value} {h : Heap} {fa : Addr} {ts : List He.Tab} {lv : Nat}
    (X : K.In h) (Gn : h.Ns mainGlobals mg) (hmg : mg "law" = some (.ref fa)) (c : He.SaysX (faOf G ((ds ++ dl).map (·.x))) ((ds ++ dl).map dfOf) ts (tfOf ds) (exB P G (tfOf ds)) w h K)
    (hsp : ∀ (base : Heap) (lv : Nat), (∀ m, m ≤ lv → FnAll P G (kxOf G K ds) l.prog w K mg base m) → Mf P G (kxOf G K ds) K mg →
      ∀ (i : Nat) (d : Fd), ds[i]? = some d → chkFd P G i d = false → ∀ (f : Addr) (fd : FuncData), mg d.x = some (.ref f) → FunD K d.x d.x d.params d.body d.scope [] [] f fd → FnOk l.prog w K mg base (L2.CX l.prog w) (3 * (lv + 1)) f fd d.ps (spD (kxOf G K ds) K d.ps fun ds st => evF P (lv + 1) i ds (fun _ => .bad) st))
    (hm : ∀ ns : List Int, ns.length ≤ 63 → (∀ z ∈ ns, Builtin.Int.intBits z ≤ 1048576) → ∃ st, evF P (lv + 1) i0 [.scr ns] (fun _ => .bad) [] = .ok (.bl true) st) :
    LawAtS l w K L2.CX0 (3 * (lv + 1)) 63 "script" mg fa h := by
  have M0 : Mf P G (kxOf G K ds) K mg := mf_of X Gn c T.ncl ds
  have inX : ∀ d, d ∈ ds ++ dl → d.x ∈ (ds ++ dl).map (·.x) := fun d hd => List.mem_map.mpr ⟨d, hd, rfl⟩
  have inF : ∀ d, d ∈ ds ++ dl → dfOf d ∈ (ds ++ dl).map dfOf := fun d hd => List.mem_map.mpr ⟨d, hd, rfl⟩
  have hA : ∀ (i : Nat) (d : Fd), ds[i]? = some d → At1 K mg d := fun i d hi =>
    at_of X Gn c (inX d (List.mem_append_left _ (List.mem_of_getElem? hi))) (inF d (List.mem_append_left _ (List.mem_of_getElem? hi))) (T.tx d (List.mem_of_getElem? hi))
  have hL : ∀ i x, (i, x) ∈ G.lm → ∃ dg a, Lt P G K mg i x dg a := fun i x hi => by
    obtain ⟨dg, a, h1, L⟩ := T.lt i x hi
    exact ⟨dg, a, L.nm, L.ps, L.ck, L.tx.sc, L.at0, L.vis, L.ok, at_of X Gn c (inX dg (List.mem_append_right _ h1)) (inF dg (List.mem_append_right _ h1)) L.tx⟩
  have m0 : d0 ∈ ds := List.mem_of_getElem? T.law
  obtain ⟨f, fd, g1, g2, g3⟩ := hA i0 d0 T.law
  have ef : f = fa := by
    rw [T.lx, hmg] at g1
    cases g1; rfl
  subst ef
  have e2 : ∀ p ∈ (tfOf ds).map (He.cT K), ∃ q ∈ tfOf ds, He.cT K q = p := fun p hp => by
    obtain ⟨q, h1, h2⟩ := List.mem_map.mp hp
    exact ⟨q, h1, h2⟩
  refine ⟨fd, (tfOf ds).map (He.cT K), spLaw (kxOf G K ds) K, fun p hp => ?_, fun p hp => ?_, fun p hp => ?_, fun s u => ?_, fun H a ns hl hb hH hS => ?_, fun base KB GB hB => ?_⟩
  · obtain ⟨q, h1, rfl⟩ := e2 p hp
    exact c.empty q h1
  · obtain ⟨q, h1, rfl⟩ := e2 p hp
    exact c.out q h1
  · obtain ⟨q, h1, rfl⟩ := e2 p hp
    exact PySem.W.codeHd_of_K X (c.hd q h1)
  · have q := g2.bindsA (ps := d0.ps) (T.tx d0 m0).bd s [u] (by rw [T.lp]; rfl)
    rw [T.lp] at q
    exact q
  · refine ⟨a, ns, rfl, hl, hb, fun p hp => ?_, hS, fun H' => rfl⟩
    obtain ⟨d, hd, rfl⟩ := List.mem_map.mp hp
    exact hH (He.cT K (d.x, none)) (List.mem_map.mpr ⟨(d.x, none), List.mem_map.mpr ⟨d, hd, rfl⟩, rfl⟩)
  · have all : ∀ m, FnAll P G (kxOf G K ds) l.prog w K mg base m := fun m =>
      fn_all M0 (fun i d hi => ⟨(T.tx d (List.mem_of_getElem? hi)).sc, (T.tx d (List.mem_of_getElem? hi)).le⟩) hA T.fn
        (fun lv hfn j h d hd hlm f cdv A outer s H E hr hcd hmg hlk i x hi params body scope lpos p pos fb mb ok hb =>
          lam_of (ds := ds) M0 hL (tab_of X Gn c (fun d hd => inX d (List.mem_append_left _ hd)) hB) lv hfn j h d hd hlm f cdv A outer s H E hr hcd hmg hlk i x hi params body scope lpos p pos fb mb ok hb)
        (fun lv ih i d hi hck f fd hmg hF => hsp base lv ih M0 i d hi hck f fd hmg hF) m
    have F := fn_step (base := base) M0 (T.tx d0 m0) T.llm T.lck (all lv) g2
    rw [T.lp] at F
    exact law_ofT F rfl hm
end Pm

set_option Elab.async false
set_option linter.all false
set_option maxRecDepth 100000
set_option maxHeartbeats 16000000
/-! Ev37: where a token is out: replace. -/
namespace Pm
open PySem PySem.Spec PyProof.Rows L2 LamX
set_option autoImplicit false

theorem PET.imp {X : Cx} {e : Expr} {t t' : TE} (h : PET X e t) (w : ∀ σ H Q, t' σ H Q → t σ H Q) : PET X e t' := fun pins s σ H Q z I q => h pins s σ H Q z I (w σ H Q q)
theorem PST.imp {X : Cx} {e : Stmt} {t t' : TS} (h : PST X e t) (w : ∀ D σ H, t' D σ H → t D σ H) : PST X e t' := fun pins s σ H D z I q => h pins s σ H D z I (w D σ H q)
theorem PSsT.imp {X : Cx} {e : List Stmt} {t t' : TS} (h : PSsT X e t) (w : ∀ D σ H, t' D σ H → t D σ H) : PSsT X e t' := fun pins s σ H D z I q => h pins s σ H D z I (w D σ H q)
section
variable {X : Cx} {κ : Kx} {B : L2.St → XW} {a b o : Expr} {fa fb fr fo : Bool} {ma mb mo : Loc → Store → Res D} {pos : Pos}
theorem two_ofT {r : R2} {f : Store → D → D → Option D}
    (hr : ∀ ρ H st d1 d2 v1 v2 d Q, Sim (Cx.kit X κ) ρ st H → RelD (Cx.kit X κ) ρ H d1 v1 → RelD (Cx.kit X κ) ρ H d2 v2 → f st d1 d2 = some d → Out (Cx.kit X κ) fr ρ H st d Q → r v1 v2 H Q) :
    ∀ σ H Q, tE (Cx.kit X κ) B fr (fun l st => (ma l st).bind fun x st => (mb l st).bind fun y st => .ofOpt (f st x y) st) σ H Q → tOp r (tE (Cx.kit X κ) B fa ma) (tE (Cx.kit X κ) B fb mb) σ H Q :=
  fun σ H Q ⟨ρ, l, st, at0, q⟩ => ⟨ρ, l, st, at0, EndG.bind RE.back q fun d1 st1 ρ1 v1 H1 x1 s1 r1 q1 =>
    ⟨ρ1, l, st1, at0.go x1 s1, EndG.bind RE.back q1 fun d2 st2 ρ2 v2 H2 x2 s2 r2 q2 => by
      obtain ⟨d, e, k⟩ := EndG.opt q2
      exact hr ρ2 H2 st2 d1 d2 v1 v2 d Q s2 (r1.1.mono s1 x2) r2.1 e k⟩⟩
theorem xe_bin (o : Op) (ha : PET X a (eE X κ B fa ma)) (hb : PET X b (eE X κ B fb mb)) :
    PET X (.BinOp a (opA o) b pos) (eE X κ B fr fun l st => (ma l st).bind fun x st => (mb l st).bind fun y st => .ofOpt (binD st o x y) st) :=
  PET.imp (CwR.pet_op (op_bin o) ha hb) (two_ofT fun ρ H st d1 d2 v1 v2 d Q s r1 r2 e k => bin_rel s r1 r2 e k)
theorem xe_repl {c : Nat} {t : List Nat} {j k : Nat} {c0 c1 apos : Pos} {P : Par} (hyz : (strS [c] == strS t) = false) (hbase : attributeBase o "replace" X.env (eval o X.env) = eval o X.env) (hline : (apos.endLine == pos.line) = true) (ho : PET X o (eE X κ B fo mo)) :
    PET X (.Call (.Attribute o "replace" apos) [.Constant (.str (strS [c])) j c0, .Constant (.str (strS t)) k c1] [] pos) (eE X κ B fr fun l st => (mo l st).bind fun x st => ifB (mtOk .replace st x) (Res.ofPair (mtD P .replace x [.str [c], .str t] st)) .bad) :=
  PET.imp (CwR.pet_replT ho hyz rfl hbase hline) fun σ H Q ⟨ρ, l, st, at0, q⟩ => ⟨ρ, l, st, at0, EndG.bind RE.back q fun d st1 ρ1 v H1 x1 s1 r1 q1 => by
    cases d with
    | str x =>
      have q2 : EndG (Cx.kit X κ) (B σ) (RE (Cx.kit X κ) fr) ρ1 H1 (Res.ofPair (if x.length + (x.length + 1) * t.length ≤ SL then some (.str (replC c t x), st1) else none)) Q := q1
      by_cases hz : x.length + (x.length + 1) * t.length ≤ SL
      · rw [if_pos hz] at q2
        obtain ⟨r1, _⟩ := r1
        cases r1
        refine ⟨strS x, rfl, by rw [strS_length, strS_length]; exact hz, ?_⟩
        rw [replace_eqS]
        exact q2 ρ1 _ H1 (Ext.refl _ _) s1 ⟨.str _, fun _ t => nomatch t⟩
      · rw [if_neg hz] at q2
        exact q2.elim
    | _ => exact q1.elim⟩
theorem xp_ret {e : Expr} {fe : Bool} {me : Loc → Store → Res D} (he : PET X e (eE X κ B fe me)) : PST X (.Return (some e) pos) (eS X κ B fun l st => (me l st).bind fun d st => .ok (.rt d) st) :=
  PST.imp (CwR.pst_ret he) fun D σ H ⟨ρ, l, st, at0, q⟩ => ⟨ρ, l, st, at0, EndS.bind q fun d st1 ρ1 v H1 x1 s1 r1 q1 => q1 ρ1 v H1 (Ext.refl _ _) s1 r1.1⟩
theorem xp_iff {c : Expr} {p q : List Stmt} {mc : Loc → Store → Res Bool} {mp mq : Loc → Store → Res Flow} (hc : PT X c (eT X κ B mc)) (ha : PSsT X p (eS X κ B mp)) (hb : PSsT X q (eS X κ B mq)) : PST X (.If c p q pos) (eS X κ B fun l st => (mc l st).bind fun k st => ifB k (mp l st) (mq l st)) :=
  PST.imp (CwR.pst_if hc ha hb) fun D σ H ⟨ρ, l, st, at0, q⟩ => ⟨ρ, l, st, at0, EndS.bind q fun k st1 ρ1 k' H1 x1 s1 r1 q1 => by
    cases r1
    cases k with
    | true => exact ⟨ρ1, l, st1, at0.go x1 s1, q1⟩
    | false => exact ⟨ρ1, l, st1, at0.go x1 s1, q1⟩⟩
theorem xs_cons {s : Stmt} {ss : List Stmt} {mp mq : Loc → Store → Res Flow} (hB : ∀ σ σ', B σ = B σ') (h1 : PST X s (eS X κ B mp)) (h2 : PSsT X ss (eS X κ B mq)) : PSsT X (s :: ss) (eS X κ B fun l st => (mp l st).bind fun f st => f.go (fun l => mq l st) st) :=
  PSsT.imp (psst_cons h1 h2) fun D σ H ⟨ρ, l, st, at0, q⟩ => ⟨ρ, l, st, at0, go_end (fun σ' => hB σ' σ) q⟩
end
def asRp : Expr → Option (Expr × Str × Str)
  | .Call (.Attribute o nm ap) [.Constant (.str y) _ _, .Constant (.str z) _ _] [] cp => if nm = "replace" ∧ (ap.endLine == cp.line) = true then some (o, y, z) else none
  | _ => none
theorem asRp_ok {x o : Expr} {y z : Str} (h : asRp x = some (o, y, z)) : ∃ ap j c0 k c1 cp, x = .Call (.Attribute o "replace" ap) [.Constant (.str y) j c0, .Constant (.str z) k c1] [] cp ∧ (ap.endLine == cp.line) = true := by
  unfold asRp at h
  split at h
  · split at h
    · rename_i hh
      obtain ⟨rfl, h2⟩ := hh
      cases h
      exact ⟨_, _, _, _, _, _, rfl, h2⟩
    · cases h
  · cases h
section
variable (G : Gd) (N : List Str)
def chkX (md : Md) (e : E) (sc : Scope) (x : Expr) : Bool := chkE G N md e sc x || (match e with
  | .bin op a b => match asBin x with
    | some (y, o, z) => decide (o = opA op) && chkX md a sc y && chkX md b sc z
    | none => false
  | .mt m o es => match m, es with
    | .replace, .cons (.str [c]) (.cons (.str t) .nil) => match asRp x with
      | some (ob, y, z) => decide (y = strS [c]) && decide (z = strS t) && !(strS [c] == strS t) && baseOk ob && chkX md o sc ob
      | none => false
    | _, _ => false
  | _ => false)
termination_by structural e
mutual
def chkXS (md : Md) (s : S) (sc : Scope) (x : Stmt) : Bool := chkS G N md s sc x || (match s with
  | .ret e => match x with
    | .Return (some v) _ => chkX G N md e sc v
    | _ => false
  | .iff c a b => match x with
    | .If t p q _ => chkT G N md c sc t && chkXSs md a sc p && chkXSs md b sc q
    | _ => false
  | _ => false)
termination_by structural s
def chkXSs (md : Md) (s : Ss) (sc : Scope) (x : List Stmt) : Bool := match s with
  | .nil => x.isEmpty
  | .cons s ss => match x with
    | y :: ys => chkXS md s sc y && chkXSs md ss sc ys
    | [] => false
termination_by structural s
end
end
section
variable {P : Par} {G : Gd} {F : FnSem} {th : M} {N : List Str}
theorem pet_eq {X : Cx} {κ : Kx} {B : L2.St → XW} {e : Expr} {fr : Bool} {m m' : Loc → Store → Res D} (h : PET X e (eE X κ B fr m)) (k : ∀ l st, m' l st = m l st) : PET X e (eE X κ B fr m') := by
  have : m' = m := by funext l st; exact k l st
  rw [this]; exact h
theorem pst_eq {X : Cx} {κ : Kx} {B : L2.St → XW} {e : Stmt} {m m' : Loc → Store → Res Flow} (h : PST X e (eS X κ B m)) (k : ∀ l st, m' l st = m l st) : PST X e (eS X κ B m') := by
  have : m' = m := by funext l st; exact k l st
  rw [this]; exact h
theorem psst_eq {X : Cx} {κ : Kx} {B : L2.St → XW} {e : List Stmt} {m m' : Loc → Store → Res Flow} (h : PSsT X e (eS X κ B m)) (k : ∀ l st, m' l st = m l st) : PSsT X e (eS X κ B m') := by
  have : m' = m := by funext l st; exact k l st
  rw [this]; exact h
theorem sndX : ∀ (e : E) {md : Md} {sc : Scope} {x : Expr} {xc : Option Nat} {κ : Kx} {E : L2.St → XK} {lv : Nat} {X : Cx}, chkX G N md e sc x = true → Fit P G F th xc N md κ E sc lv X → PET X x (eE X κ (BXs κ E) false (evE P F th xc e))
  | .bin op a b, md, sc, x, xc, κ, E, lv, X, h, f => by
    unfold chkX at h
    rcases Bool.or_eq_true_iff.mp h with h | h
    · exact CwR.PET.of (PE.imp (sndE _ h f) fun σ H Q ⟨ρ, l, st, a, q⟩ => ⟨ρ, l, st, a, q.weak⟩)
    · simp only at h
      split at h
      · rename_i y o z hx
        obtain ⟨h1, h3⟩ := and2 h
        obtain ⟨h1, h2⟩ := and2 h1
        obtain ⟨p, rfl⟩ := asBin_ok hx
        have e := of_decide_eq_true h1
        subst e
        exact pet_eq (xe_bin op (sndX a h2 f) (sndX b h3 f)) fun l st => by rw [evE]
      · cases h
  | .mt m o es, md, sc, x, xc, κ, E, lv, X, h, f => by
    unfold chkX at h
    rcases Bool.or_eq_true_iff.mp h with h | h
    · exact CwR.PET.of (PE.imp (sndE _ h f) fun σ H Q ⟨ρ, l, st, a, q⟩ => ⟨ρ, l, st, a, q.weak⟩)
    · simp only at h
      split at h
      · rename_i c t
        split at h
        · rename_i ob y z hx
          obtain ⟨h1, h5⟩ := and2 h
          obtain ⟨h1, h4⟩ := and2 h1
          obtain ⟨h1, h3⟩ := and2 h1
          obtain ⟨h1, h2⟩ := and2 h1
          have e1 := of_decide_eq_true h1
          have e2 := of_decide_eq_true h2
          subst e1 e2
          obtain ⟨ap, j, c0, k, c1, cp, rfl, hl⟩ := asRp_ok hx
          exact pet_eq (xe_repl (P := P) (by simpa using h3) (base_eq h4 _ _ _) hl (sndX o h5 f)) fun l st => by
            rw [evE]; congr 1; funext x st; simp only [evEs, evE, Res.bind]
        · cases h
      · cases h
  | .non, md, sc, x, xc, κ, E, lv, X, h, f => by
    unfold chkX at h
    rcases Bool.or_eq_true_iff.mp h with h | h
    · exact CwR.PET.of (PE.imp (sndE _ h f) fun σ H Q ⟨ρ, l, st, a, q⟩ => ⟨ρ, l, st, a, q.weak⟩)
    · cases h
  | .bl _, md, sc, x, xc, κ, E, lv, X, h, f => by
    unfold chkX at h
    rcases Bool.or_eq_true_iff.mp h with h | h
    · exact CwR.PET.of (PE.imp (sndE _ h f) fun σ H Q ⟨ρ, l, st, a, q⟩ => ⟨ρ, l, st, a, q.weak⟩)
    · cases h
  | .int _, md, sc, x, xc, κ, E, lv, X, h, f => by
    unfold chkX at h
    rcases Bool.or_eq_true_iff.mp h with h | h
    · exact CwR.PET.of (PE.imp (sndE _ h f) fun σ H Q ⟨ρ, l, st, a, q⟩ => ⟨ρ, l, st, a, q.weak⟩)
    · cases h
  | .str _, md, sc, x, xc, κ, E, lv, X, h, f => by
    unfold chkX at h
    rcases Bool.or_eq_true_iff.mp h with h | h
    · exact CwR.PET.of (PE.imp (sndE _ h f) fun σ H Q ⟨ρ, l, st, a, q⟩ => ⟨ρ, l, st, a, q.weak⟩)
    · cases h
  | .v _, md, sc, x, xc, κ, E, lv, X, h, f => by
    unfold chkX at h
    rcases Bool.or_eq_true_iff.mp h with h | h
    · exact CwR.PET.of (PE.imp (sndE _ h f) fun σ H Q ⟨ρ, l, st, a, q⟩ => ⟨ρ, l, st, a, q.weak⟩)
    · cases h
  | .g _, md, sc, x, xc, κ, E, lv, X, h, f => by
    unfold chkX at h
    rcases Bool.or_eq_true_iff.mp h with h | h
    · exact CwR.PET.of (PE.imp (sndE _ h f) fun σ H Q ⟨ρ, l, st, a, q⟩ => ⟨ρ, l, st, a, q.weak⟩)
    · cases h
  | .tup _, md, sc, x, xc, κ, E, lv, X, h, f => by
    unfold chkX at h
    rcases Bool.or_eq_true_iff.mp h with h | h
    · exact CwR.PET.of (PE.imp (sndE _ h f) fun σ H Q ⟨ρ, l, st, a, q⟩ => ⟨ρ, l, st, a, q.weak⟩)
    · cases h
  | .lst _, md, sc, x, xc, κ, E, lv, X, h, f => by
    unfold chkX at h
    rcases Bool.or_eq_true_iff.mp h with h | h
    · exact CwR.PET.of (PE.imp (sndE _ h f) fun σ H Q ⟨ρ, l, st, a, q⟩ => ⟨ρ, l, st, a, q.weak⟩)
    · cases h
  | .neg _, md, sc, x, xc, κ, E, lv, X, h, f => by
    unfold chkX at h
    rcases Bool.or_eq_true_iff.mp h with h | h
    · exact CwR.PET.of (PE.imp (sndE _ h f) fun σ H Q ⟨ρ, l, st, a, q⟩ => ⟨ρ, l, st, a, q.weak⟩)
    · cases h
  | .cmp _ _ _, md, sc, x, xc, κ, E, lv, X, h, f => by
    unfold chkX at h
    rcases Bool.or_eq_true_iff.mp h with h | h
    · exact CwR.PET.of (PE.imp (sndE _ h f) fun σ H Q ⟨ρ, l, st, a, q⟩ => ⟨ρ, l, st, a, q.weak⟩)
    · cases h
  | .chn _ _ _ _ _, md, sc, x, xc, κ, E, lv, X, h, f => by
    unfold chkX at h
    rcases Bool.or_eq_true_iff.mp h with h | h
    · exact CwR.PET.of (PE.imp (sndE _ h f) fun σ H Q ⟨ρ, l, st, a, q⟩ => ⟨ρ, l, st, a, q.weak⟩)
    · cases h
  | .isn _, md, sc, x, xc, κ, E, lv, X, h, f => by
    unfold chkX at h
    rcases Bool.or_eq_true_iff.mp h with h | h
    · exact CwR.PET.of (PE.imp (sndE _ h f) fun σ H Q ⟨ρ, l, st, a, q⟩ => ⟨ρ, l, st, a, q.weak⟩)
    · cases h
  | .nisn _, md, sc, x, xc, κ, E, lv, X, h, f => by
    unfold chkX at h
    rcases Bool.or_eq_true_iff.mp h with h | h
    · exact CwR.PET.of (PE.imp (sndE _ h f) fun σ H Q ⟨ρ, l, st, a, q⟩ => ⟨ρ, l, st, a, q.weak⟩)
    · cases h
  | .and _ _, md, sc, x, xc, κ, E, lv, X, h, f => by
    unfold chkX at h
    rcases Bool.or_eq_true_iff.mp h with h | h
    · exact CwR.PET.of (PE.imp (sndE _ h f) fun σ H Q ⟨ρ, l, st, a, q⟩ => ⟨ρ, l, st, a, q.weak⟩)
    · cases h
  | .or _ _, md, sc, x, xc, κ, E, lv, X, h, f => by
    unfold chkX at h
    rcases Bool.or_eq_true_iff.mp h with h | h
    · exact CwR.PET.of (PE.imp (sndE _ h f) fun σ H Q ⟨ρ, l, st, a, q⟩ => ⟨ρ, l, st, a, q.weak⟩)
    · cases h
  | .not _, md, sc, x, xc, κ, E, lv, X, h, f => by
    unfold chkX at h
    rcases Bool.or_eq_true_iff.mp h with h | h
    · exact CwR.PET.of (PE.imp (sndE _ h f) fun σ H Q ⟨ρ, l, st, a, q⟩ => ⟨ρ, l, st, a, q.weak⟩)
    · cases h
  | .ite _ _ _, md, sc, x, xc, κ, E, lv, X, h, f => by
    unfold chkX at h
    rcases Bool.or_eq_true_iff.mp h with h | h
    · exact CwR.PET.of (PE.imp (sndE _ h f) fun σ H Q ⟨ρ, l, st, a, q⟩ => ⟨ρ, l, st, a, q.weak⟩)
    · cases h
  | .ix _ _, md, sc, x, xc, κ, E, lv, X, h, f => by
    unfold chkX at h
    rcases Bool.or_eq_true_iff.mp h with h | h
    · exact CwR.PET.of (PE.imp (sndE _ h f) fun σ H Q ⟨ρ, l, st, a, q⟩ => ⟨ρ, l, st, a, q.weak⟩)
    · cases h
  | .slc _ _ _, md, sc, x, xc, κ, E, lv, X, h, f => by
    unfold chkX at h
    rcases Bool.or_eq_true_iff.mp h with h | h
    · exact CwR.PET.of (PE.imp (sndE _ h f) fun σ H Q ⟨ρ, l, st, a, q⟩ => ⟨ρ, l, st, a, q.weak⟩)
    · cases h
  | .rev _, md, sc, x, xc, κ, E, lv, X, h, f => by
    unfold chkX at h
    rcases Bool.or_eq_true_iff.mp h with h | h
    · exact CwR.PET.of (PE.imp (sndE _ h f) fun σ H Q ⟨ρ, l, st, a, q⟩ => ⟨ρ, l, st, a, q.weak⟩)
    · cases h
  | .isi _ _, md, sc, x, xc, κ, E, lv, X, h, f => by
    unfold chkX at h
    rcases Bool.or_eq_true_iff.mp h with h | h
    · exact CwR.PET.of (PE.imp (sndE _ h f) fun σ H Q ⟨ρ, l, st, a, q⟩ => ⟨ρ, l, st, a, q.weak⟩)
    · cases h
  | .call _ _, md, sc, x, xc, κ, E, lv, X, h, f => by
    unfold chkX at h
    rcases Bool.or_eq_true_iff.mp h with h | h
    · exact CwR.PET.of (PE.imp (sndE _ h f) fun σ H Q ⟨ρ, l, st, a, q⟩ => ⟨ρ, l, st, a, q.weak⟩)
    · cases h
  | .thk _ _, md, sc, x, xc, κ, E, lv, X, h, f => by
    unfold chkX at h
    rcases Bool.or_eq_true_iff.mp h with h | h
    · exact CwR.PET.of (PE.imp (sndE _ h f) fun σ H Q ⟨ρ, l, st, a, q⟩ => ⟨ρ, l, st, a, q.weak⟩)
    · cases h
  | .frc, md, sc, x, xc, κ, E, lv, X, h, f => by
    unfold chkX at h
    rcases Bool.or_eq_true_iff.mp h with h | h
    · exact CwR.PET.of (PE.imp (sndE _ h f) fun σ H Q ⟨ρ, l, st, a, q⟩ => ⟨ρ, l, st, a, q.weak⟩)
    · cases h
  | .isx _, md, sc, x, xc, κ, E, lv, X, h, f => by
    unfold chkX at h
    rcases Bool.or_eq_true_iff.mp h with h | h
    · exact CwR.PET.of (PE.imp (sndE _ h f) fun σ H Q ⟨ρ, l, st, a, q⟩ => ⟨ρ, l, st, a, q.weak⟩)
    · cases h
  | .bi _ _, md, sc, x, xc, κ, E, lv, X, h, f => by
    unfold chkX at h
    rcases Bool.or_eq_true_iff.mp h with h | h
    · exact CwR.PET.of (PE.imp (sndE _ h f) fun σ H Q ⟨ρ, l, st, a, q⟩ => ⟨ρ, l, st, a, q.weak⟩)
    · cases h
  | .lc _ _ _ _, md, sc, x, xc, κ, E, lv, X, h, f => by
    unfold chkX at h
    rcases Bool.or_eq_true_iff.mp h with h | h
    · exact CwR.PET.of (PE.imp (sndE _ h f) fun σ H Q ⟨ρ, l, st, a, q⟩ => ⟨ρ, l, st, a, q.weak⟩)
    · cases h
  | .fmt _, md, sc, x, xc, κ, E, lv, X, h, f => by
    unfold chkX at h
    rcases Bool.or_eq_true_iff.mp h with h | h
    · exact CwR.PET.of (PE.imp (sndE _ h f) fun σ H Q ⟨ρ, l, st, a, q⟩ => ⟨ρ, l, st, a, q.weak⟩)
    · cases h
  | .dic _ _, md, sc, x, xc, κ, E, lv, X, h, f => by
    unfold chkX at h
    rcases Bool.or_eq_true_iff.mp h with h | h
    · exact CwR.PET.of (PE.imp (sndE _ h f) fun σ H Q ⟨ρ, l, st, a, q⟩ => ⟨ρ, l, st, a, q.weak⟩)
    · cases h
  | .box _, md, sc, x, xc, κ, E, lv, X, h, f => by
    unfold chkX at h
    rcases Bool.or_eq_true_iff.mp h with h | h
    · exact CwR.PET.of (PE.imp (sndE _ h f) fun σ H Q ⟨ρ, l, st, a, q⟩ => ⟨ρ, l, st, a, q.weak⟩)
    · cases h
  | .frz _, md, sc, x, xc, κ, E, lv, X, h, f => by
    unfold chkX at h
    rcases Bool.or_eq_true_iff.mp h with h | h
    · exact CwR.PET.of (PE.imp (sndE _ h f) fun σ H Q ⟨ρ, l, st, a, q⟩ => ⟨ρ, l, st, a, q.weak⟩)
    · cases h
mutual
theorem sndXS : ∀ (s : S) {md : Md} {sc : Scope} {x : Stmt} {xc : Option Nat} {κ : Kx} {W : WX} {lv : Nat} {X : Cx}, chkXS G N md s sc x = true → FitS P G F th xc N md κ W sc lv X → (∀ σ σ', BXs κ (WE W) σ = BXs κ (WE W) σ') → PST X x (eS X κ (BXs κ (WE W)) (evS P F th s xc))
  | .ret e, md, sc, x, xc, κ, W, lv, X, h, f, hB => by
    unfold chkXS at h
    rcases Bool.or_eq_true_iff.mp h with h | h
    · exact PST.of (sndS _ h f (fun _ => hB))
    · simp only at h
      split at h
      · exact pst_eq (xp_ret (sndX e h f.toFit)) fun l st => by rw [evS]
      · cases h
  | .iff c a b, md, sc, x, xc, κ, W, lv, X, h, f, hB => by
    unfold chkXS at h
    rcases Bool.or_eq_true_iff.mp h with h | h
    · exact PST.of (sndS _ h f (fun _ => hB))
    · simp only at h
      split at h
      · obtain ⟨h1, h3⟩ := and2 h
        obtain ⟨h1, h2⟩ := and2 h1
        exact pst_eq (xp_iff (sndT c h1 f.toFit) (sndXSs a h2 f hB) (sndXSs b h3 f hB)) fun l st => by rw [evS]
      · cases h
  | .pass, md, sc, x, xc, κ, W, lv, X, h, f, hB => by
    unfold chkXS at h
    exact PST.of (sndS _ (by simpa using h) f (fun _ => hB))
  | .asg _ _, md, sc, x, xc, κ, W, lv, X, h, f, hB => by
    unfold chkXS at h
    exact PST.of (sndS _ (by simpa using h) f (fun _ => hB))
  | .par _ _, md, sc, x, xc, κ, W, lv, X, h, f, hB => by
    unfold chkXS at h
    exact PST.of (sndS _ (by simpa using h) f (fun _ => hB))
  | .aug _ _ _, md, sc, x, xc, κ, W, lv, X, h, f, hB => by
    unfold chkXS at h
    exact PST.of (sndS _ (by simpa using h) f (fun _ => hB))
  | .sub _ _ _, md, sc, x, xc, κ, W, lv, X, h, f, hB => by
    unfold chkXS at h
    exact PST.of (sndS _ (by simpa using h) f (fun _ => hB))
  | .ex _, md, sc, x, xc, κ, W, lv, X, h, f, hB => by
    unfold chkXS at h
    exact PST.of (sndS _ (by simpa using h) f (fun _ => hB))
  | .retn, md, sc, x, xc, κ, W, lv, X, h, f, hB => by
    unfold chkXS at h
    exact PST.of (sndS _ (by simpa using h) f (fun _ => hB))
  | .for _ _ _, md, sc, x, xc, κ, W, lv, X, h, f, hB => by
    unfold chkXS at h
    exact PST.of (sndS _ (by simpa using h) f (fun _ => hB))
  | .whl _ _, md, sc, x, xc, κ, W, lv, X, h, f, hB => by
    unfold chkXS at h
    exact PST.of (sndS _ (by simpa using h) f (fun _ => hB))
  | .rse _ _, md, sc, x, xc, κ, W, lv, X, h, f, hB => by
    unfold chkXS at h
    exact PST.of (sndS _ (by simpa using h) f (fun _ => hB))
  | .try _ _ _ _, md, sc, x, xc, κ, W, lv, X, h, f, hB => by
    unfold chkXS at h
    exact PST.of (sndS _ (by simpa using h) f (fun _ => hB))
theorem sndXSs : ∀ (s : Ss) {md : Md} {sc : Scope} {x : List Stmt} {xc : Option Nat} {κ : Kx} {W : WX} {lv : Nat} {X : Cx}, chkXSs G N md s sc x = true → FitS P G F th xc N md κ W sc lv X → (∀ σ σ', BXs κ (WE W) σ = BXs κ (WE W) σ') → PSsT X x (eS X κ (BXs κ (WE W)) (evSs P F th s xc))
  | .nil, md, sc, x, xc, κ, W, lv, X, h, f, hB => by
    unfold chkXSs at h
    cases x with
    | nil => exact psst_eq (PSsT.of ss_nil) fun l st => by rw [evSs]
    | cons _ _ => cases h
  | .cons s ss, md, sc, x, xc, κ, W, lv, X, h, f, hB => by
    unfold chkXSs at h
    cases x with
    | nil => cases h
    | cons y ys =>
      obtain ⟨h1, h2⟩ := and2 h
      exact psst_eq (xs_cons hB (sndXS s h1 f hB) (sndXSs ss h2 f hB)) fun l st => by rw [evSs]
end
end
def chkFx (P : Par) (G : Gd) (i : Nat) (d : Fd) : Bool := !d.lm && (d.scope.names.all fun y => decide (y.2 ≠ .cell)) && decide (1 ≤ d.ps.length) && (match P.funs i with
  | some fn => decide (fn.nps = d.ps.length) && decide (fn.nsl = d.N.length) && chkXSs G d.N (md0 d.lm) fn.body d.scope d.body
  | none => false)
section
variable {P : Par} {G : Gd} {κ : Kx} {prog : Program} {w : World} {K : PySem.W.Frag} {mg : Str → Option Value} {base : Heap}
/-- a def with replace, a level higher -/
theorem fn_stepX (M0 : Mf P G κ K mg) {lv i : Nat} {d : Fd} {f : Addr} {fd : FuncData} (t : TxOk d) (c1 : chkFx P G i d = true) (ih : FnAll P G κ prog w K mg base lv) (g2 : FunD K d.x d.x d.params d.body d.scope [] [] f fd) :
    FnOk prog w K mg base (L2.CX prog w) (3 * (lv + 1)) f fd d.ps (spD κ K d.ps fun ds st => evF P (lv + 1) i ds (fun _ => .bad) st) := by
  obtain ⟨c2, c3, _⟩ := t
  unfold chkFx at c1
  obtain ⟨c1, c6⟩ := and2 c1
  obtain ⟨c1, c5⟩ := and2 c1
  obtain ⟨c1, c4⟩ := and2 c1
  have hlm : d.lm = false := by simpa using c1
  split at c6
  · rename_i fn hfn
    obtain ⟨k1, k3⟩ := and2 c6
    obtain ⟨k1, k2⟩ := and2 k1
    obtain ⟨oc, od, dV, kV, doc, pm, an, cdv, ct, osl, rfl, lk, hcd, _, _⟩ := g2.ex
    refine fn_ofT (k := 3 * lv + 2) lk hcd c2 (fun y hy => of_decide_eq_true (List.all_eq_true.mp c4 y hy)) (of_decide_eq_true c5) (fun vs H Q E q => q.1) fun A outer s H vs Q E hr hsp => ?_
    obtain ⟨hl, h, ρ, dd, st, s0, rr, q⟩ := hsp
    have F := fit_fn (th := fun _ => .bad) (h := h) M0 (f := f) (cdv := cdv) (A := A) (outer := outer) (s := s) (H := H) (E := E) c2 ih hr (fun hlm2 => by rw [hlm] at hlm2; cases hlm2)
    refine ⟨_, sndXSs fn.body k3 F (fun _ _ => rfl), ?_⟩
    have q' : EndG ⟨κ.base h, K⟩ (BX κ E) (RE ⟨κ.base h, K⟩ false) ρ H (optR (P.funs i) fun fn => if dd.length = fn.nps then (evSs P (evF P lv) (fun _ => .bad) fn.body none (dd.map some ++ List.replicate (fn.nsl - fn.nps) none) st).bind fun r st => r.ends st else .bad) Q := q
    rw [hfn] at q'
    simp only [optR] at q'
    have e1 := of_decide_eq_true k1
    have e2 := of_decide_eq_true k2
    have hdl : dd.length = fn.nps := by rw [rr.length, hl, e1]
    rw [if_pos hdl] at q'
    refine ⟨ρ, dd.map some ++ List.replicate (fn.nsl - fn.nps) none, st, ⟨s0, ?_, fun p hp => nomatch hp⟩, ends_end q'⟩
    rw [← hdl]
    exact start_rel e2 (by rw [hl]; exact c3) rr
  · cases c6
end
theorem law_atX {P : Par} {G : Gd} {ds dl : List Fd} {i0 : Nat} {d0 : Fd} (T : LawTx P G ds dl i0 d0) (hx : ∀ (i : Nat) (d : Fd), ds[i]? = some d → chkFd P G i d = false → chkFx P G i d = true) {l : PySem.W.OpenLaw} {w : World} {K : PySem.W.Frag} {mg : Str → Option Value} {h : Heap} {fa : Addr} {ts : List He.Tab} {lv : Nat}
    (X : K.In h) (Gn : h.Ns mainGlobals mg) (hmg : mg "law" = some (.ref fa)) (c : He.SaysX (faOf G ((ds ++ dl).map (·.x))) ((ds ++ dl).map dfOf) ts (tfOf ds) (exB P G (tfOf ds)) w h K)
    (hm : ∀ ns : List Int, ns.length ≤ 63 → (∀ z ∈ ns, Builtin.Int.intBits z ≤ 1048576) → ∃ st, evF P (lv + 1) i0 [.scr ns] (fun _ => .bad) [] = .ok (.bl true) st) :
    LawAtS l w K L2.CX0 (3 * (lv + 1)) 63 "script" mg fa h :=
  law_at T X Gn hmg c (fun base lv all M0 i d hi hc f fd _ hF => fn_stepX M0 (T.tx d (List.mem_of_getElem? hi)) (hx i d hi hc) (all lv (Nat.le_refl _)) hF) hm
end Pm

set_option Elab.async false
set_option linter.all false
/-! printed by pr.py: the defs of a law in the small language -/
namespace Pk27
open Pm
set_option autoImplicit false
/-- is_integer: thing -/
def b0 : Ss := (.cons (.ret (.and (.isi (.v 0) [.int]) (.not (.isi (.v 0) [.bool])))) .nil)
def f0 : Fn := ⟨1, 1, b0⟩
/-- is_within: thing least most -/
def b1 : Ss := (.cons (.ret (.and (.call 0 (.cons (.v 0) .nil)) (.chn .le .le (.v 1) (.v 0) (.v 2)))) .nil)
def f1 : Fn := ⟨3, 3, b1⟩
/-- is_sized: thing least most -/
def b2 : Ss := (.cons (.ret (.and (.isi (.v 0) [.tuple]) (.chn .le .le (.v 1) (.bi .len (.cons (.v 0) .nil)) (.v 2)))) .nil)
def f2 : Fn := ⟨3, 3, b2⟩
/-- is_word: thing sign -/
def b3 : Ss := (.cons (.ret (.and (.isi (.v 0) [.str]) (.and (.cmp .le (.bi .len (.cons (.v 0) .nil)) (.g 0)) (.bi .all (.cons (.lc (.chn .le .le (.str [32]) (.v 1) (.str [126])) (.nm 1) (.seq (.v 0)) .no) .nil))))) .nil)
def f3 : Fn := ⟨1, 2, b3⟩
/-- is_cell: thing -/
def b4 : Ss := (.cons (.ret (.or (.call 0 (.cons (.v 0) .nil)) (.call 3 (.cons (.v 0) .nil)))) .nil)
def f4 : Fn := ⟨1, 1, b4⟩
/-- is_row_of_cells: thing item -/
def b5 : Ss := (.cons (.ret (.and (.call 2 (.cons (.v 0) (.cons (.int 1) (.cons (.g 2) .nil)))) (.bi .all (.cons (.lc (.call 4 (.cons (.v 1) .nil)) (.nm 1) (.seq (.v 0)) .no) .nil)))) .nil)
def f5 : Fn := ⟨1, 2, b5⟩
/-- is_name: thing sign -/
def b6 : Ss := (.cons (.iff (.or (.not (.isi (.v 0) [.str])) (.not (.chn .le .le (.int 1) (.bi .len (.cons (.v 0) .nil)) (.g 1)))) (.cons (.ret (.bl false)) .nil) .nil) (.cons (.ret (.bi .all (.cons (.lc (.chn .le .le (.str [97]) (.v 1) (.str [122])) (.nm 1) (.seq (.v 0)) .no) .nil))) .nil))
def f6 : Fn := ⟨1, 2, b6⟩
/-- check_prime: p -/
def b7 : Ss := (.cons (.iff (.not (.call 1 (.cons (.v 0) (.cons (.g 3) (.cons (.g 4) .nil))))) (.cons (.rse 1 .nil) .nil) .nil) .nil)
def f7 : Fn := ⟨1, 1, b7⟩
/-- raw_mix: p text found sign number -/
def b8_1 : Ss := (.cons (.asg (.nm 4) (.ite (.cmp .eq (.v 3) (.str [10])) (.int 0) (.bin .sub (.bi .ord (.cons (.v 3) .nil)) (.int 31)))) (.cons (.asg (.nm 2) (.bin .mod (.bin .add (.bin .add (.bin .add (.bin .mul (.v 2) (.v 2)) (.bin .mul (.bin .mul (.int 3) (.v 2)) (.v 4))) (.v 4)) (.int 5)) (.v 0))) .nil))
def b8 : Ss := (.cons (.asg (.nm 2) (.int 1)) (.cons (.for (.nm 3) (.seq (.v 1)) b8_1) (.cons (.ret (.v 2)) .nil)))
def f8 : Fn := ⟨2, 5, b8⟩
/-- mix: p text -/
def b9 : Ss := (.cons (.ex (.call 7 (.cons (.v 0) .nil))) (.cons (.iff (.not (.call 10 (.cons (.v 1) .nil))) (.cons (.rse 3 .nil) .nil) .nil) (.cons (.ret (.call 8 (.cons (.v 0) (.cons (.v 1) .nil)))) .nil)))
def f9 : Fn := ⟨2, 2, b9⟩
/-- is_text: thing sign -/
def b10 : Ss := (.cons (.ret (.and (.isi (.v 0) [.str]) (.bi .all (.cons (.lc (.or (.chn .le .le (.str [32]) (.v 1) (.str [126])) (.cmp .eq (.v 1) (.str [10]))) (.nm 1) (.seq (.v 0)) .no) .nil)))) .nil)
def f10 : Fn := ⟨1, 2, b10⟩
/-- is_fact: thing -/
def b11 : Ss := (.cons (.iff (.or (.not (.call 2 (.cons (.v 0) (.cons (.int 2) (.cons (.int 2) .nil))))) (.not (.call 6 (.cons (.ix (.v 0) (.int 0)) .nil)))) (.cons (.ret (.bl false)) .nil) .nil) (.cons (.iff (.cmp .eq (.ix (.v 0) (.int 0)) (.g 5)) (.cons (.ret (.and (.call 2 (.cons (.ix (.v 0) (.int 1)) (.cons (.int 2) (.cons (.int 2) .nil)))) (.and (.call 6 (.cons (.ix (.ix (.v 0) (.int 1)) (.int 0)) .nil)) (.call 10 (.cons (.ix (.ix (.v 0) (.int 1)) (.int 1)) .nil))))) .nil) .nil) (.cons (.ret (.call 5 (.cons (.ix (.v 0) (.int 1)) .nil))) .nil)))
def f11 : Fn := ⟨1, 1, b11⟩
/-- worth_text: worth sign -/
def b12 : Ss := (.cons (.iff (.call 0 (.cons (.v 0) .nil)) (.cons (.ret (.bi .str (.cons (.v 0) .nil))) .nil) .nil) (.cons (.ret (.bin .add (.bin .add (.str [39]) (.mt .join (.str []) (.cons (.lc (.ite (.cmp .isin (.v 1) (.str [39, 126])) (.bin .add (.str [126]) (.v 1)) (.v 1)) (.nm 1) (.seq (.v 0)) .no) .nil))) (.str [39]))) .nil))
def f12 : Fn := ⟨1, 2, b12⟩
/-- raw_fact_text: fact worth -/
def b13 : Ss := (.cons (.ret (.bin .add (.bin .add (.bin .add (.ix (.v 0) (.int 0)) (.str [40])) (.mt .join (.str [44]) (.cons (.lc (.call 12 (.cons (.v 1) .nil)) (.nm 1) (.seq (.ix (.v 0) (.int 1))) .no) .nil))) (.str [41]))) .nil)
def f13 : Fn := ⟨1, 2, b13⟩
/-- check_fact: fact -/
def b14 : Ss := (.cons (.iff (.not (.call 11 (.cons (.v 0) .nil))) (.cons (.rse 2 .nil) .nil) .nil) .nil)
def f14 : Fn := ⟨1, 1, b14⟩
/-- fact_text: fact -/
def b15 : Ss := (.cons (.ex (.call 14 (.cons (.v 0) .nil))) (.cons (.ret (.call 13 (.cons (.v 0) .nil))) .nil))
def f15 : Fn := ⟨1, 1, b15⟩
/-- raw_number_of: p fact -/
def b16 : Ss := (.cons (.ret (.call 8 (.cons (.v 0) (.cons (.call 13 (.cons (.v 1) .nil)) .nil)))) .nil)
def f16 : Fn := ⟨2, 2, b16⟩
/-- number_of: p fact -/
def b17 : Ss := (.cons (.ex (.call 7 (.cons (.v 0) .nil))) (.cons (.ex (.call 14 (.cons (.v 1) .nil))) (.cons (.ret (.call 16 (.cons (.v 0) (.cons (.v 1) .nil)))) .nil)))
def f17 : Fn := ⟨2, 2, b17⟩
/-- _law_hand: script cells cell -/
def b18 : Ss := (.cons (.asg (.nm 1) (.lc (.bi .abs (.cons (.bi .int (.cons (.v 2) .nil)) .nil)) (.nm 2) (.seq (.slc (.v 0) .no (.yes (.int 63)))) .no)) (.cons (.ret (.box (.lst (.cons (.v 1) (.cons (.int 0) (.cons (.int 0) (.cons (.bin .add (.int 97) (.bin .mul (.int 5) (.bi .len (.cons (.v 1) .nil)))) (.cons (.int 0) .nil)))))))) .nil))
def f18 : Fn := ⟨1, 3, b18⟩
/-- _law_draw: hand many number cell figure -/
def b19 : Ss := (.cons (.iff (.and (.cmp .eq (.ix (.v 0) (.int 2)) (.int 0)) (.cmp .lt (.ix (.v 0) (.int 1)) (.bi .len (.cons (.ix (.v 0) (.int 0)) .nil)))) (.cons (.asg (.nm 3) (.ix (.ix (.v 0) (.int 0)) (.ix (.v 0) (.int 1)))) (.cons (.sub (.v 0) (.int 1) (.bin .add (.ix (.v 0) (.int 1)) (.int 1))) (.cons (.sub (.v 0) (.int 3) (.bin .mod (.bi .int (.cons (.bin .add (.bin .add (.bin .mul (.ix (.v 0) (.int 3)) (.int 48271)) (.v 3)) (.int 31)) .nil)) (.int 2147483647))) (.cons (.iff (.cmp .ge (.v 3) (.bin .pow (.int 10) (.int 18))) (.cons (.sub (.v 0) (.int 2) (.v 3)) .nil) .nil) .nil)))) .nil) (.cons (.iff (.cmp .gt (.ix (.v 0) (.int 2)) (.int 0)) (.cons (.asg (.nm 4) (.bin .mod (.bi .int (.cons (.ix (.v 0) (.int 2)) .nil)) (.v 1))) (.cons (.sub (.v 0) (.int 2) (.bin .fdiv (.ix (.v 0) (.int 2)) (.v 1))) (.cons (.ret (.v 4)) .nil))) .nil) (.cons (.sub (.v 0) (.int 4) (.bin .add (.ix (.v 0) (.int 4)) (.int 1))) (.cons (.asg (.nm 2) (.bin .mod (.bi .int (.cons (.bin .mul (.bi .int (.cons (.bin .add (.ix (.v 0) (.int 3)) (.bin .mul (.int 6151) (.ix (.v 0) (.int 4)))) .nil)) (.int 40692)) .nil)) (.int 2147483399))) (.cons (.asg (.nm 2) (.bin .mod (.bi .int (.cons (.bin .mul (.v 2) (.bin .add (.bin .fdiv (.v 2) (.int 1223)) (.int 52027))) .nil)) (.int 2147483629))) (.cons (.asg (.nm 2) (.bin .mod (.bi .int (.cons (.bin .mul (.v 2) (.bin .add (.bin .fdiv (.v 2) (.int 2671)) (.int 69621))) .nil)) (.int 2147483647))) (.cons (.ret (.bin .mod (.bi .int (.cons (.bin .fdiv (.v 2) (.int 32)) .nil)) (.v 1))) .nil)))))))
def f19 : Fn := ⟨2, 5, b19⟩
/-- _law_some: hand things -/
def b20 : Ss := (.cons (.ret (.ix (.v 1) (.call 19 (.cons (.v 0) (.cons (.bi .len (.cons (.v 1) .nil)) .nil))))) .nil)
def f20 : Fn := ⟨2, 2, b20⟩
/-- _law_mix: p text found sign number -/
def b21_1 : Ss := (.cons (.asg (.nm 4) (.ite (.cmp .eq (.v 3) (.str [10])) (.int 0) (.bin .sub (.bi .ord (.cons (.v 3) .nil)) (.int 31)))) (.cons (.asg (.nm 2) (.bin .mod (.bi .int (.cons (.bin .add (.bin .add (.bin .add (.bin .mul (.v 2) (.v 2)) (.bin .mul (.bin .mul (.int 3) (.v 2)) (.v 4))) (.v 4)) (.int 5)) .nil)) (.v 0))) .nil))
def b21 : Ss := (.cons (.asg (.nm 2) (.int 1)) (.cons (.for (.nm 3) (.seq (.v 1)) b21_1) (.cons (.ret (.v 2)) .nil)))
def f21 : Fn := ⟨2, 5, b21⟩
/-- _law_worth_text: worth -/
def b22 : Ss := (.cons (.iff (.isi (.v 0) [.str]) (.cons (.ret (.bin .add (.bin .add (.str [39]) (.mt .replace (.mt .replace (.v 0) (.cons (.str [126]) (.cons (.str [126, 126]) .nil))) (.cons (.str [39]) (.cons (.str [126, 39]) .nil)))) (.str [39]))) .nil) .nil) (.cons (.ret (.bi .str (.cons (.v 0) .nil))) .nil))
def f22 : Fn := ⟨1, 1, b22⟩
/-- _law_fact_text: fact worth -/
def b23 : Ss := (.cons (.ret (.bin .add (.bin .add (.bin .add (.ix (.v 0) (.int 0)) (.str [40])) (.mt .join (.str [44]) (.cons (.lc (.call 22 (.cons (.v 1) .nil)) (.nm 1) (.seq (.ix (.v 0) (.int 1))) .no) .nil))) (.str [41]))) .nil)
def f23 : Fn := ⟨1, 2, b23⟩
/-- _law_number: p fact -/
def b24 : Ss := (.cons (.ret (.call 21 (.cons (.v 0) (.cons (.call 23 (.cons (.v 1) .nil)) .nil)))) .nil)
def f24 : Fn := ⟨2, 2, b24⟩
/-- _law_deep: hand found turn -/
def b25_1 : Ss := (.cons (.asg (.nm 1) (.ix (.lst (.cons (.tup (.cons (.v 1) .nil)) (.cons (.lst (.cons (.v 1) .nil)) (.cons (.dic [.i 0] (.cons (.v 1) .nil)) .nil)))) (.call 19 (.cons (.v 0) (.cons (.int 3) .nil))))) .nil)
def b25 : Ss := (.cons (.asg (.nm 1) (.ix (.lst (.cons .non (.cons (.str [97]) (.cons (.neg (.int 1)) (.cons (.dic [] .nil) (.cons (.bl true) .nil)))))) (.call 19 (.cons (.v 0) (.cons (.int 5) .nil))))) (.cons (.for (.nm 2) (.rng (.bin .add (.int 1) (.call 19 (.cons (.v 0) (.cons (.int 28) .nil))))) b25_1) (.cons (.ret (.v 1)) .nil)))
def f25 : Fn := ⟨1, 3, b25⟩
/-- _law_odd: hand -/
def b26 : Ss := (.cons (.ret (.call 20 (.cons (.v 0) (.cons (.lst (.cons .non (.cons (.bl true) (.cons (.bl false) (.cons (.int 0) (.cons (.neg (.int 1)) (.cons (.int 999) (.cons (.bin .shl (.int 1) (.int 63)) (.cons (.str [112]) (.cons (.str []) (.cons (.tup .nil) (.cons (.lst .nil) (.cons (.dic [] .nil) (.cons (.tup (.cons (.int 1) .nil)) (.cons (.tup (.cons (.str [97]) .nil)) (.cons (.call 25 (.cons (.v 0) .nil)) .nil)))))))))))))))) .nil)))) .nil)
def f26 : Fn := ⟨1, 1, b26⟩
/-- _law_odd_prime: hand top things -/
def b27 : Ss := (.cons (.asg (.nm 1) (.int 170141183460469231731687303715884105728)) (.cons (.asg (.nm 2) (.lst (.cons (.int 999) (.cons (.int 1000) (.cons (.bin .sub (.v 1) (.int 1)) (.cons (.v 1) (.cons (.bin .add (.v 1) (.int 1)) (.cons (.bl true) (.cons .non (.cons (.str [49, 48, 48, 57]) (.cons (.bin .sub (.int 0) (.int 1009)) (.cons (.tup (.cons (.int 1009) .nil)) (.cons (.int 1009) (.cons (.int 1013) (.cons (.int 2) (.cons (.bin .pow (.int 10) (.int 39)) .nil)))))))))))))))) (.cons (.ret (.call 20 (.cons (.v 0) (.cons (.v 2) .nil)))) .nil)))
def f27 : Fn := ⟨1, 3, b27⟩
/-- _law_is_prime: thing -/
def b28 : Ss := (.cons (.iff (.or (.not (.isi (.v 0) [.int])) (.isi (.v 0) [.bool])) (.cons (.ret (.bl false)) .nil) .nil) (.cons (.ret (.chn .le .le (.int 1000) (.v 0) (.int 170141183460469231731687303715884105728))) .nil))
def f28 : Fn := ⟨1, 1, b28⟩
/-- _law_is_text: thing sign -/
def b29 : Ss := (.cons (.ret (.and (.isi (.v 0) [.str]) (.bi .all (.cons (.lc (.or (.cmp .eq (.v 1) (.str [10])) (.chn .le .le (.str [32]) (.v 1) (.str [126]))) (.nm 1) (.seq (.v 0)) .no) .nil)))) .nil)
def f29 : Fn := ⟨1, 2, b29⟩
/-- _law_is_worth: thing sign -/
def b30 : Ss := (.cons (.iff (.isi (.v 0) [.str]) (.cons (.ret (.and (.cmp .le (.bi .len (.cons (.v 0) .nil)) (.int 20)) (.bi .all (.cons (.lc (.chn .le .le (.str [32]) (.v 1) (.str [126])) (.nm 1) (.seq (.v 0)) .no) .nil)))) .nil) .nil) (.cons (.ret (.and (.isi (.v 0) [.int]) (.not (.isi (.v 0) [.bool])))) .nil))
def f30 : Fn := ⟨1, 2, b30⟩
/-- _law_is_name: thing sign -/
def b31 : Ss := (.cons (.ret (.and (.isi (.v 0) [.str]) (.and (.chn .le .le (.int 1) (.bi .len (.cons (.v 0) .nil)) (.int 8)) (.bi .all (.cons (.lc (.chn .le .le (.str [97]) (.v 1) (.str [122])) (.nm 1) (.seq (.v 0)) .no) .nil))))) .nil)
def f31 : Fn := ⟨1, 2, b31⟩
/-- _law_is_fact: thing worth -/
def b32 : Ss := (.cons (.iff (.or (.not (.isi (.v 0) [.tuple])) (.or (.cmp .ne (.bi .len (.cons (.v 0) .nil)) (.int 2)) (.or (.not (.call 31 (.cons (.ix (.v 0) (.int 0)) .nil))) (.not (.isi (.ix (.v 0) (.int 1)) [.tuple]))))) (.cons (.ret (.bl false)) .nil) .nil) (.cons (.iff (.cmp .eq (.ix (.v 0) (.int 0)) (.str [114, 117, 108, 101])) (.cons (.ret (.and (.cmp .eq (.bi .len (.cons (.ix (.v 0) (.int 1)) .nil)) (.int 2)) (.and (.call 31 (.cons (.ix (.ix (.v 0) (.int 1)) (.int 0)) .nil)) (.call 29 (.cons (.ix (.ix (.v 0) (.int 1)) (.int 1)) .nil))))) .nil) .nil) (.cons (.ret (.and (.chn .le .le (.int 1) (.bi .len (.cons (.ix (.v 0) (.int 1)) .nil)) (.int 5)) (.bi .all (.cons (.lc (.call 30 (.cons (.v 1) .nil)) (.nm 1) (.seq (.ix (.v 0) (.int 1))) .no) .nil)))) .nil)))
def f32 : Fn := ⟨1, 2, b32⟩
/-- _law_bent_fact: hand fact things name row at thing -/
def b33 : Ss := (.cons (.asg (.tp [3, 4]) (.v 1)) (.cons (.iff (.cmp .eq (.v 3) (.str [114, 117, 108, 101])) (.cons (.ret (.call 20 (.cons (.v 0) (.cons (.lst (.cons (.bi .list (.cons (.v 1) .nil)) (.cons (.tup (.cons (.v 3) (.cons (.bi .list (.cons (.v 4) .nil)) .nil))) (.cons (.tup (.cons (.v 3) (.cons (.tup (.cons (.ix (.v 4) (.int 0)) (.cons .non .nil))) .nil))) (.cons (.tup (.cons (.v 3) (.cons (.tup .nil) .nil))) (.cons (.call 26 (.cons (.v 0) .nil)) .nil)))))) .nil)))) .nil) .nil) (.cons (.par [5, 6] (.cons (.call 19 (.cons (.v 0) (.cons (.bi .len (.cons (.v 4) .nil)) .nil))) (.cons (.call 20 (.cons (.v 0) (.cons (.lst (.cons (.bl true) (.cons .non (.cons (.bin .mul (.str [97]) (.int 21)) (.cons (.lst (.cons (.str [97]) .nil)) (.cons (.tup (.cons (.str [97]) .nil)) (.cons (.str [97, 10]) (.cons (.str [98]) (.cons (.int 5) .nil))))))))) .nil))) .nil))) (.cons (.asg (.nm 2) (.lst (.cons (.tup (.cons (.v 3) (.cons (.bin .add (.bin .add (.slc (.v 4) .no (.yes (.v 5))) (.tup (.cons (.v 6) .nil))) (.slc (.v 4) (.yes (.bin .add (.v 5) (.int 1))) .no)) .nil))) (.cons (.tup (.cons (.v 3) (.cons (.tup .nil) .nil))) (.cons (.tup (.cons (.v 3) (.cons (.bin .mul (.v 4) (.int 6)) .nil))) (.cons (.bi .list (.cons (.v 1) .nil)) (.cons (.tup (.cons (.mt .upper (.v 3) .nil) (.cons (.v 4) .nil))) .nil))))))) (.cons (.asg (.nm 2) (.bin .add (.v 2) (.lst (.cons (.tup (.cons (.bin .add (.v 3) (.str [122, 122, 122, 122, 122, 122, 122, 122, 122])) (.cons (.v 4) .nil))) (.cons (.tup (.cons (.str []) (.cons (.v 4) .nil))) (.cons (.tup (.cons (.v 3) (.cons (.bi .list (.cons (.v 4) .nil)) .nil))) (.cons (.bin .add (.v 1) (.tup (.cons (.int 1) .nil))) (.cons (.tup (.cons (.int 1) (.cons (.v 4) .nil))) (.cons (.call 26 (.cons (.v 0) .nil)) .nil))))))))) (.cons (.ret (.call 20 (.cons (.v 0) (.cons (.v 2) .nil)))) .nil))))))
def f33 : Fn := ⟨2, 7, b33⟩
/-- _law_prime: hand -/
def b34 : Ss := (.cons (.ret (.call 20 (.cons (.v 0) (.cons (.lst (.cons (.int 1009) (.cons (.int 1013) (.cons (.int 10007) (.cons (.int 1000003) (.cons (.int 2147483647) (.cons (.int 2305843009213693951) (.cons (.int 618970019642690137449562111) .nil)))))))) .nil)))) .nil)
def f34 : Fn := ⟨1, 1, b34⟩
/-- _law_worth: hand words -/
def b35 : Ss := (.cons (.asg (.nm 1) (.lst (.cons (.str []) (.cons (.str [97]) (.cons (.str [97, 98]) (.cons (.str [105, 116, 39, 115]) (.cons (.str [126]) (.cons (.str [98, 32, 99]) (.cons (.str [120, 126, 39]) (.cons (.str [57]) (.cons (.str [65]) (.cons (.bin .mul (.str [39]) (.bin .add (.int 1) (.call 19 (.cons (.v 0) (.cons (.int 20) .nil))))) .nil)))))))))))) (.cons (.iff (.cmp .eq (.call 19 (.cons (.v 0) (.cons (.int 3) .nil))) (.int 0)) (.cons (.ret (.call 20 (.cons (.v 0) (.cons (.v 1) .nil)))) .nil) .nil) (.cons (.ret (.call 20 (.cons (.v 0) (.cons (.lst (.cons (.call 19 (.cons (.v 0) (.cons (.int 9) .nil))) (.cons (.bin .sub (.call 19 (.cons (.v 0) (.cons (.int 60) .nil))) (.int 30)) (.cons (.bin .sub (.bin .pow (.int 10) (.int 20)) (.int 1)) (.cons (.bin .sub (.int 1) (.bin .pow (.int 10) (.int 20))) (.cons (.int 0) (.cons (.bin .pow (.int 10) (.int 30)) .nil))))))) .nil)))) .nil)))
def f35 : Fn := ⟨1, 2, b35⟩
/-- _law_fact: hand name many texts place -/
def b36 : Ss := (.cons (.iff (.cmp .eq (.call 19 (.cons (.v 0) (.cons (.int 9) .nil))) (.int 0)) (.cons (.asg (.nm 3) (.lst (.cons (.str [112, 40, 63, 48, 41, 32, 105, 102, 32, 113, 40, 63, 48, 41]) (.cons (.str [112, 40, 63, 48, 41, 32, 105, 102, 32, 113, 40, 63, 48, 41, 44, 32, 110, 111, 116, 32, 114, 40, 63, 48, 44, 32, 95, 41]) (.cons (.str [112, 40, 39, 105, 116, 126, 39, 115, 39, 41, 32, 105, 102, 32, 113, 40, 49, 41]) (.cons (.str []) .nil)))))) (.cons (.ret (.tup (.cons (.str [114, 117, 108, 101]) (.cons (.tup (.cons (.call 20 (.cons (.v 0) (.cons (.lst (.cons (.str [97]) (.cons (.str [98]) (.cons (.str [122, 122]) (.cons (.str [114, 117, 108, 101]) .nil))))) .nil))) (.cons (.call 20 (.cons (.v 0) (.cons (.v 3) .nil))) .nil))) .nil)))) .nil)) .nil) (.cons (.asg (.nm 1) (.call 20 (.cons (.v 0) (.cons (.lst (.cons (.str [97]) (.cons (.str [98]) (.cons (.str [98]) (.cons (.str [98, 97, 103]) (.cons (.str [113]) (.cons (.str [122, 122]) .nil))))))) .nil)))) (.cons (.asg (.nm 2) (.ix (.dic [.s [97], .s [98], .s [98, 97, 103], .s [113], .s [122, 122]] (.cons (.int 1) (.cons (.int 2) (.cons (.int 3) (.cons (.bin .add (.int 1) (.call 19 (.cons (.v 0) (.cons (.int 5) .nil)))) (.cons (.int 2) .nil)))))) (.v 1))) (.cons (.ret (.tup (.cons (.v 1) (.cons (.bi .tuple (.cons (.lc (.call 35 (.cons (.v 0) .nil)) (.nm 4) (.rng (.v 2)) .no) .nil)) .nil)))) .nil))))
def f36 : Fn := ⟨1, 5, b36⟩
/-- _law_is: told due one two -/
def b37 : Ss := (.cons (.iff (.isi (.v 1) [.tuple, .list]) (.cons (.iff (.or (.cmp .ne (.isi (.v 0) [.tuple]) (.isi (.v 1) [.tuple])) (.not (.isi (.v 0) [.tuple, .list]))) (.cons (.ret (.bl false)) .nil) .nil) (.cons (.ret (.and (.cmp .eq (.bi .len (.cons (.v 0) .nil)) (.bi .len (.cons (.v 1) .nil))) (.bi .all (.cons (.lc (.call 37 (.cons (.v 2) (.cons (.v 3) .nil))) (.tp [2, 3]) (.zip (.v 0) (.v 1)) .no) .nil)))) .nil)) .nil) (.cons (.iff (.or (.isi (.v 1) [.str]) (.isn (.v 1))) (.cons (.ret (.and (.cmp .eq (.isi (.v 0) [.str]) (.isi (.v 1) [.str])) (.cmp .eq (.v 0) (.v 1)))) .nil) .nil) (.cons (.ret (.and (.isi (.v 0) [.int]) (.and (.cmp .eq (.isi (.v 0) [.bool]) (.isi (.v 1) [.bool])) (.cmp .eq (.v 0) (.v 1))))) .nil)))
def f37 : Fn := ⟨2, 4, b37⟩
/-- _law_text: hand signs many turn -/
def b38 : Ss := (.cons (.asg (.nm 1) (.lst (.cons (.str [32]) (.cons (.str [126]) (.cons (.str [39]) (.cons (.str [97]) (.cons (.str [90]) (.cons (.str [48]) (.cons (.str [10]) (.cons (.str [95]) (.cons (.str [33]) (.cons (.str [125]) (.cons (.str [44]) (.cons (.str [40]) .nil)))))))))))))) (.cons (.asg (.nm 2) (.ite (.cmp .eq (.call 19 (.cons (.v 0) (.cons (.int 4) .nil))) (.int 0)) (.call 20 (.cons (.v 0) (.cons (.lst (.cons (.int 0) (.cons (.int 1) (.cons (.int 12) (.cons (.int 200) (.cons (.int 2000) .nil)))))) .nil))) (.call 19 (.cons (.v 0) (.cons (.int 9) .nil))))) (.cons (.ret (.mt .join (.str []) (.cons (.lc (.call 20 (.cons (.v 0) (.cons (.v 1) .nil))) (.nm 3) (.rng (.v 2)) .no) .nil))) .nil)))
def f38 : Fn := ⟨1, 4, b38⟩
/-- _law_is_due: told due -/
def b39 : Ss := (.cons (.ret (.ite (.isn (.v 1)) (.cmp .eq (.ix (.v 0) (.int 0)) (.str [108, 101, 116])) (.cmp .eq (.v 0) (.v 1)))) .nil)
def f39 : Fn := ⟨2, 2, b39⟩
/-- _law_refused_right: hand text fact first last p -/
def b40 : Ss := (.cons (.asg (.tp [5, 2]) (.tup (.cons (.call 27 (.cons (.v 0) .nil)) (.cons (.call 36 (.cons (.v 0) .nil)) .nil)))) (.cons (.asg (.nm 1) (.call 20 (.cons (.v 0) (.cons (.lst (.cons (.str []) (.cons (.str [97, 98]) (.cons (.str [97, 10, 98]) (.cons .non (.cons (.int 5) (.cons (.lst (.cons (.str [97]) .nil)) (.cons (.tup (.cons (.str [97]) .nil)) .nil)))))))) .nil)))) (.cons (.asg (.nm 2) (.ite (.cmp .eq (.call 19 (.cons (.v 0) (.cons (.int 2) .nil))) (.int 0)) (.call 33 (.cons (.v 0) (.cons (.v 2) .nil))) (.v 2))) (.cons (.asg (.nm 3) (.ite (.call 28 (.cons (.v 5) .nil)) .non (.str [112, 114, 105, 109, 101]))) (.cons (.iff (.not (.call 39 (.cons (.thk 42 (.call 9 (.cons (.v 5) (.cons (.v 1) .nil)))) (.cons (.or (.v 3) (.ite (.call 29 (.cons (.v 1) .nil)) .non (.str [116, 101, 120, 116]))) .nil)))) (.cons (.ret (.bl false)) .nil) .nil) (.cons (.asg (.nm 4) (.ite (.call 32 (.cons (.v 2) .nil)) .non (.str [102, 97, 99, 116]))) (.cons (.iff (.not (.call 39 (.cons (.thk 42 (.call 17 (.cons (.v 5) (.cons (.v 2) .nil)))) (.cons (.or (.v 3) (.v 4)) .nil)))) (.cons (.ret (.bl false)) .nil) .nil) (.cons (.ret (.call 39 (.cons (.thk 42 (.call 15 (.cons (.v 2) .nil))) (.cons (.v 4) .nil)))) .nil))))))))
def f40 : Fn := ⟨1, 6, b40⟩
/-- law: script hand turn p text fact -/
def b41_1 : Ss := (.cons (.par [3, 4, 5] (.cons (.call 34 (.cons (.v 1) .nil)) (.cons (.call 38 (.cons (.v 1) .nil)) (.cons (.call 36 (.cons (.v 1) .nil)) .nil)))) (.cons (.iff (.or (.not (.call 37 (.cons (.call 9 (.cons (.v 3) (.cons (.v 4) .nil))) (.cons (.call 21 (.cons (.v 3) (.cons (.v 4) .nil))) .nil)))) (.not (.call 37 (.cons (.call 15 (.cons (.v 5) .nil)) (.cons (.call 23 (.cons (.v 5) .nil)) .nil))))) (.cons (.ret (.bl false)) .nil) .nil) (.cons (.iff (.or (.not (.call 37 (.cons (.call 17 (.cons (.v 3) (.cons (.v 5) .nil))) (.cons (.call 24 (.cons (.v 3) (.cons (.v 5) .nil))) .nil)))) (.not (.call 40 (.cons (.v 1) .nil)))) (.cons (.ret (.bl false)) .nil) .nil) .nil)))
def b41 : Ss := (.cons (.asg (.nm 1) (.call 18 (.cons (.v 0) .nil))) (.cons (.for (.nm 2) (.rng (.int 6)) b41_1) (.cons (.ret (.bl true)) .nil)))
def f41 : Fn := ⟨1, 6, b41⟩
/-- _law_word: call error some -/
def b42 : Ss := (.cons (.try (.cons (.ret (.tup (.cons (.str [108, 101, 116]) (.cons .frc .nil)))) .nil) 0 1 (.cons (.asg (.nm 2) (.lst (.cons (.isx (.own 1)) (.cons (.isx (.own 3)) (.cons (.isx (.own 2)) .nil))))) (.cons (.ret (.ite (.cmp .eq (.mt .count (.v 2) (.cons (.bl true) .nil)) (.int 1)) (.ix (.lst (.cons (.str [112, 114, 105, 109, 101]) (.cons (.str [116, 101, 120, 116]) (.cons (.str [102, 97, 99, 116]) .nil)))) (.mt .index (.v 2) (.cons (.bl true) .nil))) (.str [111, 100, 100]))) .nil))) .nil)
def f42 : Fn := ⟨0, 3, b42⟩
end Pk27

set_option linter.all false
/-! printed by genP.py: the functions, constants, classes -/
namespace Pk27
open Pm
set_option autoImplicit false
def funs : Nat → Option Fn
  | 0 => some f0
  | 1 => some f1
  | 2 => some f2
  | 3 => some f3
  | 4 => some f4
  | 5 => some f5
  | 6 => some f6
  | 7 => some f7
  | 8 => some f8
  | 9 => some f9
  | 10 => some f10
  | 11 => some f11
  | 12 => some f12
  | 13 => some f13
  | 14 => some f14
  | 15 => some f15
  | 16 => some f16
  | 17 => some f17
  | 18 => some f18
  | 19 => some f19
  | 20 => some f20
  | 21 => some f21
  | 22 => some f22
  | 23 => some f23
  | 24 => some f24
  | 25 => some f25
  | 26 => some f26
  | 27 => some f27
  | 28 => some f28
  | 29 => some f29
  | 30 => some f30
  | 31 => some f31
  | 32 => some f32
  | 33 => some f33
  | 34 => some f34
  | 35 => some f35
  | 36 => some f36
  | 37 => some f37
  | 38 => some f38
  | 39 => some f39
  | 40 => some f40
  | 41 => some f41
  | 42 => some f42
  | _ => none
def consts : Nat → D
  | 0 => .int 20
  | 1 => .int 8
  | 2 => .int 5
  | 3 => .int 1000
  | 4 => .int 170141183460469231731687303715884105728
  | 5 => .str [114, 117, 108, 101]
  | _ => .non
def anc : Nat → List Nat
  | 0 => [0]
  | 1 => [1, 0]
  | 2 => [2, 0]
  | 3 => [3, 0]
  | _ => []
def P : Par := { funs := funs, consts := consts, anc := anc, ncl := 4, fuel := 100000, rp := fun _ => [] }
@[simp] theorem P_f0 : P.funs 0 = some f0 := rfl
@[simp] theorem P_f1 : P.funs 1 = some f1 := rfl
@[simp] theorem P_f2 : P.funs 2 = some f2 := rfl
@[simp] theorem P_f3 : P.funs 3 = some f3 := rfl
@[simp] theorem P_f4 : P.funs 4 = some f4 := rfl
@[simp] theorem P_f5 : P.funs 5 = some f5 := rfl
@[simp] theorem P_f6 : P.funs 6 = some f6 := rfl
@[simp] theorem P_f7 : P.funs 7 = some f7 := rfl
@[simp] theorem P_f8 : P.funs 8 = some f8 := rfl
@[simp] theorem P_f9 : P.funs 9 = some f9 := rfl
@[simp] theorem P_f10 : P.funs 10 = some f10 := rfl
@[simp] theorem P_f11 : P.funs 11 = some f11 := rfl
@[simp] theorem P_f12 : P.funs 12 = some f12 := rfl
@[simp] theorem P_f13 : P.funs 13 = some f13 := rfl
@[simp] theorem P_f14 : P.funs 14 = some f14 := rfl
@[simp] theorem P_f15 : P.funs 15 = some f15 := rfl
@[simp] theorem P_f16 : P.funs 16 = some f16 := rfl
@[simp] theorem P_f17 : P.funs 17 = some f17 := rfl
@[simp] theorem P_f18 : P.funs 18 = some f18 := rfl
@[simp] theorem P_f19 : P.funs 19 = some f19 := rfl
@[simp] theorem P_f20 : P.funs 20 = some f20 := rfl
@[simp] theorem P_f21 : P.funs 21 = some f21 := rfl
@[simp] theorem P_f22 : P.funs 22 = some f22 := rfl
@[simp] theorem P_f23 : P.funs 23 = some f23 := rfl
@[simp] theorem P_f24 : P.funs 24 = some f24 := rfl
@[simp] theorem P_f25 : P.funs 25 = some f25 := rfl
@[simp] theorem P_f26 : P.funs 26 = some f26 := rfl
@[simp] theorem P_f27 : P.funs 27 = some f27 := rfl
@[simp] theorem P_f28 : P.funs 28 = some f28 := rfl
@[simp] theorem P_f29 : P.funs 29 = some f29 := rfl
@[simp] theorem P_f30 : P.funs 30 = some f30 := rfl
@[simp] theorem P_f31 : P.funs 31 = some f31 := rfl
@[simp] theorem P_f32 : P.funs 32 = some f32 := rfl
@[simp] theorem P_f33 : P.funs 33 = some f33 := rfl
@[simp] theorem P_f34 : P.funs 34 = some f34 := rfl
@[simp] theorem P_f35 : P.funs 35 = some f35 := rfl
@[simp] theorem P_f36 : P.funs 36 = some f36 := rfl
@[simp] theorem P_f37 : P.funs 37 = some f37 := rfl
@[simp] theorem P_f38 : P.funs 38 = some f38 := rfl
@[simp] theorem P_f39 : P.funs 39 = some f39 := rfl
@[simp] theorem P_f40 : P.funs 40 = some f40 := rfl
@[simp] theorem P_f41 : P.funs 41 = some f41 := rfl
@[simp] theorem P_f42 : P.funs 42 = some f42 := rfl
@[simp] theorem P_c0 : P.consts 0 = .int 20 := rfl
@[simp] theorem P_c1 : P.consts 1 = .int 8 := rfl
@[simp] theorem P_c2 : P.consts 2 = .int 5 := rfl
@[simp] theorem P_c3 : P.consts 3 = .int 1000 := rfl
@[simp] theorem P_c4 : P.consts 4 = .int 170141183460469231731687303715884105728 := rfl
@[simp] theorem P_c5 : P.consts 5 = .str [114, 117, 108, 101] := rfl
@[simp] theorem P_a0 : P.anc 0 = [0] := rfl
@[simp] theorem P_a1 : P.anc 1 = [1, 0] := rfl
@[simp] theorem P_a2 : P.anc 2 = [2, 0] := rfl
@[simp] theorem P_a3 : P.anc 3 = [3, 0] := rfl
@[simp] theorem P_n : P.ncl = 4 := rfl
end Pk27

set_option linter.all false
set_option maxRecDepth 100000
set_option maxHeartbeats 4000000
/-! PlA (printed by genA.py): the evaluator's steps as simp lemmas. -/
namespace Pl
open Pm
set_option autoImplicit false
section
variable {α β : Type}
@[simp] theorem bind_ok (a : α) (st : Store) (f : α → Store → Res β) : (Res.ok a st).bind f = f a st := rfl
@[simp] theorem bind_exc (c : Nat) (fs : List D) (st : Store) (f : α → Store → Res β) : (Res.exc c fs st : Res α).bind f = .exc c fs st := rfl
@[simp] theorem calm_ok (a : α) (st : Store) : (Res.ok a st).calm = .ok a st := rfl
@[simp] theorem optR_some (a : α) (f : α → Res β) : optR (some a) f = f a := rfl
@[simp] theorem optR_none (f : α → Res β) : optR none f = .bad := rfl
@[simp] theorem ofOpt_some (a : α) (st : Store) : Res.ofOpt (some a) st = .ok a st := rfl
@[simp] theorem ofPair_some (a : α) (st : Store) : Res.ofPair (some (a, st)) = .ok a st := rfl
@[simp] theorem optB_true (t f : Res α) : optB (some true) t f = t := rfl
@[simp] theorem optB_false (t f : Res α) : optB (some false) t f = f := rfl
theorem optB_some (b : Bool) (t f : Res α) : optB (some b) t f = if b then t else f := by cases b <;> rfl
@[simp] theorem ifB_true (t f : Res α) : ifB true t f = t := rfl
@[simp] theorem ifB_false (t f : Res α) : ifB false t f = f := rfl
@[simp] theorem go_nx (l : Loc) (k : Loc → Res Flow) (st : Store) : (Flow.nx l).go k st = k l := rfl
@[simp] theorem go_rt (d : D) (k : Loc → Res Flow) (st : Store) : (Flow.rt d).go k st = .ok (.rt d) st := rfl
@[simp] theorem turn_nx (l : Loc) (k : Loc → Res Flow) (st : Store) : (Flow.nx l).turn k st = k l := rfl
@[simp] theorem turn_ct (l : Loc) (k : Loc → Res Flow) (st : Store) : (Flow.ct l).turn k st = k l := rfl
@[simp] theorem turn_rt (d : D) (k : Loc → Res Flow) (st : Store) : (Flow.rt d).turn k st = .ok (.rt d) st := rfl
@[simp] theorem turn_bk (l : Loc) (k : Loc → Res Flow) (st : Store) : (Flow.bk l).turn k st = .ok (.nx l) st := rfl
@[simp] theorem ends_nx (l : Loc) (st : Store) : (Flow.nx l).ends st = .ok .non st := rfl
@[simp] theorem ends_rt (d : D) (st : Store) : (Flow.rt d).ends st = .ok d st := rfl
@[simp] theorem out_nx (l : Loc) (i : Nat) (st : Store) : (Flow.nx l).out i st = .ok (.nx (l.set i none)) st := rfl
@[simp] theorem out_rt (d : D) (i : Nat) (st : Store) : (Flow.rt d).out i st = .ok (.rt d) st := rfl
@[simp] theorem asInt_int (i : Int) (f : Int → Res α) : asInt (.int i) f = f i := rfl
@[simp] theorem tried_ok (f : Flow) (st : Store) (p : Nat → Option Bool) (h : Nat → Store → Res Flow) : (Res.ok f st).tried p h = .ok f st := rfl
@[simp] theorem tried_exc (k : Nat) (fs : List D) (st : Store) (p : Nat → Option Bool) (h : Nat → Store → Res Flow) : (Res.exc k fs st : Res Flow).tried p h = optB (p k) (h k st) (.exc k fs st) := rfl
@[simp] theorem truth_bl (st : Store) (b : Bool) : truth st (.bl b) = some b := rfl
@[simp] theorem truth_non (st : Store) : truth st .non = some false := rfl
@[simp] theorem truth_int (st : Store) (i : Int) : truth st (.int i) = some (i != 0) := rfl
@[simp] theorem partD_int (i : Int) : partD (.int i) = some (some i) := rfl
end
section
variable (P : Par) (F : FnSem) (th : M) (xc : Option Nat) (l : Loc) (st : Store)
@[simp] theorem evE_non : evE P F th xc (.non) l st = .ok .non st := by rw [evE]
@[simp] theorem evE_bl (b : Bool) : evE P F th xc (.bl b) l st = .ok (.bl b) st := by rw [evE]
@[simp] theorem evE_int (i : Int) : evE P F th xc (.int i) l st = .ok (.int i) st := by rw [evE]
@[simp] theorem evE_str (x : List Nat) : evE P F th xc (.str x) l st = .ok (.str x) st := by rw [evE]
@[simp] theorem evE_v (i : Nat) : evE P F th xc (.v i) l st = optR (l[i]?) fun o => optR o fun d => .ok d st := by rw [evE]
@[simp] theorem evE_g (i : Nat) : evE P F th xc (.g i) l st = .ok (P.consts i) st := by rw [evE]
@[simp] theorem evE_tup (es : Es) : evE P F th xc (.tup es) l st = (evEs P F th xc es l st).bind fun ds st => sized ds (.tup ds) st := by rw [evE]
@[simp] theorem evE_lst (es : Es) : evE P F th xc (.lst es) l st = (evEs P F th xc es l st).bind fun ds st => sized ds (.lst ds) st := by rw [evE]
@[simp] theorem evE_bin (op : Op) (a : E) (b : E) : evE P F th xc (.bin op a b) l st = (evE P F th xc a l st).bind fun x st => (evE P F th xc b l st).bind fun y st => .ofOpt (binD st op x y) st := by rw [evE]
@[simp] theorem evE_neg (a : E) : evE P F th xc (.neg a) l st = (evE P F th xc a l st).bind fun x st => asInt x fun i => .ok (.int (-i)) st := by rw [evE]
@[simp] theorem evE_cmp (op : Cm) (a : E) (b : E) : evE P F th xc (.cmp op a b) l st = (evE P F th xc a l st).bind fun x st => (evE P F th xc b l st).bind fun y st => .ofOpt ((cmpD st op x y).map .bl) st := by rw [evE]
@[simp] theorem evE_chn (o1 : Cm) (o2 : Cm) (a : E) (b : E) (c : E) : evE P F th xc (.chn o1 o2 a b c) l st = (evE P F th xc a l st).bind fun x st => (evE P F th xc b l st).bind fun y st => optB (cmpD st o1 x y) ((evE P F th xc c l st).bind fun z st => .ofOpt ((cmpD st o2 y z).map .bl) st) (.ok (.bl false) st) := by rw [evE]
@[simp] theorem evE_isn (a : E) : evE P F th xc (.isn a) l st = (evE P F th xc a l st).bind fun x st => optR (live st x) fun x => .ok (.bl (isNon x)) st := by rw [evE]
@[simp] theorem evE_nisn (a : E) : evE P F th xc (.nisn a) l st = (evE P F th xc a l st).bind fun x st => optR (live st x) fun x => .ok (.bl (!isNon x)) st := by rw [evE]
@[simp] theorem evE_and (a : E) (b : E) : evE P F th xc (.and a b) l st = (evE P F th xc a l st).bind fun x st => optB (truth st x) (evE P F th xc b l st) (.ok x st) := by rw [evE]
@[simp] theorem evE_or (a : E) (b : E) : evE P F th xc (.or a b) l st = (evE P F th xc a l st).bind fun x st => optB (truth st x) (.ok x st) (evE P F th xc b l st) := by rw [evE]
@[simp] theorem evE_not (a : E) : evE P F th xc (.not a) l st = (evE P F th xc a l st).bind fun x st => .ofOpt ((truth st x).map fun b => .bl (!b)) st := by rw [evE]
@[simp] theorem evE_ite (c : E) (a : E) (b : E) : evE P F th xc (.ite c a b) l st = (evT P F th xc c l st).bind fun k st => ifB k (evE P F th xc a l st) (evE P F th xc b l st) := by rw [evE]
@[simp] theorem evE_ix (a : E) (b : E) : evE P F th xc (.ix a b) l st = (evE P F th xc a l st).bind fun x st => (evE P F th xc b l st).bind fun y st => .ofOpt (ixD st x y) st := by rw [evE]
@[simp] theorem evE_slc (a : E) (lo : Oe) (hi : Oe) : evE P F th xc (.slc a lo hi) l st = (evE P F th xc a l st).bind fun x st => (evO P F th xc lo l st).bind fun u st => (evO P F th xc hi l st).bind fun w st => .ofOpt (slcD st x u w) st := by rw [evE]
@[simp] theorem evE_rev (a : E) : evE P F th xc (.rev a) l st = (evE P F th xc a l st).bind fun x st => .ofOpt (revD x) st := by rw [evE]
@[simp] theorem evE_isi (a : E) (ts : List Tg) : evE P F th xc (.isi a ts) l st = (evE P F th xc a l st).bind fun x st => optR (liveT st x) fun x => .ok (.bl (ts.any (isD st P.anc x))) st := by rw [evE]
@[simp] theorem evE_call (f : Nat) (es : Es) : evE P F th xc (.call f es) l st = (evEs P F th xc es l st).bind fun ds st => F f ds (fun _ => .bad) st := by rw [evE]
@[simp] theorem evE_thk (f : Nat) (body : E) : evE P F th xc (.thk f body) l st = (F f [] (evE P F th xc body l) st).calm := by rw [evE]
@[simp] theorem evE_frc : evE P F th xc (.frc) l st = th st := by rw [evE]
@[simp] theorem evE_isx (t : Tg) : evE P F th xc (.isx t) l st = optR xc fun c => .ok (.bl (isE P.anc c t)) st := by rw [evE]
@[simp] theorem evE_bi (b : Bi) (es : Es) : evE P F th xc (.bi b es) l st = (evEs P F th xc es l st).bind fun ds st => .ofOpt (biD P st b ds) st := by rw [evE]
@[simp] theorem evE_mt (m : Mt) (o : E) (es : Es) : evE P F th xc (.mt m o es) l st = (evE P F th xc o l st).bind fun x st => ifB (mtOk m st x) ((evEs P F th xc es l st).bind fun ds st => .ofPair (mtD P m x ds st)) .bad := by rw [evE]
@[simp] theorem evE_lc (elt : E) (t : T) (it : It) (c : Oe) : evE P F th xc (.lc elt t it c) l st = (evI P F th xc it l st).bind fun xs st => ((compL t (fun l st => evC P F th xc c l st) (fun l st => evE P F th xc elt l st) l xs st).calm).bind fun ds st => sized ds (.lst ds) st := by rw [evE]
@[simp] theorem evE_fmt (es : Es) : evE P F th xc (.fmt es) l st = (evEs P F th xc es l st).bind fun ds st => .ofOpt ((fmtD ds).map .str) st := by rw [evE]
@[simp] theorem evE_dic (ks : List DKey) (es : Es) : evE P F th xc (.dic ks es) l st = (evEs P F th xc es l st).bind fun ds st => if ks.length = ds.length ∧ ds.length ≤ 15 then .ok (.dct (mergeD ks ds)) st else .bad := by rw [evE]
@[simp] theorem evE_box (a : E) : evE P F th xc (.box a) l st = (evE P F th xc a l st).bind fun x st => boxD x st := by rw [evE]
@[simp] theorem evE_frz (i : Nat) : evE P F th xc (.frz i) l st = frzD (l[i]?) st := by rw [evE]
@[simp] theorem evT_and (a b : E) : evT P F th xc (.and a b) l st = (evT P F th xc a l st).bind fun k st => ifB k (evT P F th xc b l st) (.ok false st) := by rw [evT]
@[simp] theorem evT_or (a b : E) : evT P F th xc (.or a b) l st = (evT P F th xc a l st).bind fun k st => ifB k (.ok true st) (evT P F th xc b l st) := by rw [evT]
@[simp] theorem evT_not (a : E) : evT P F th xc (.not a) l st = (evT P F th xc a l st).bind fun k st => .ok (!k) st := by rw [evT]
@[simp] theorem evT_non : evT P F th xc (.non) l st = (evE P F th xc (.non) l st).bind fun x st => .ofOpt (truth st x) st := by rw [evT] <;> nofun
@[simp] theorem evT_bl (b : Bool) : evT P F th xc (.bl b) l st = (evE P F th xc (.bl b) l st).bind fun x st => .ofOpt (truth st x) st := by rw [evT] <;> nofun
@[simp] theorem evT_int (i : Int) : evT P F th xc (.int i) l st = (evE P F th xc (.int i) l st).bind fun x st => .ofOpt (truth st x) st := by rw [evT] <;> nofun
@[simp] theorem evT_str (x : List Nat) : evT P F th xc (.str x) l st = (evE P F th xc (.str x) l st).bind fun x st => .ofOpt (truth st x) st := by rw [evT] <;> nofun
@[simp] theorem evT_v (i : Nat) : evT P F th xc (.v i) l st = (evE P F th xc (.v i) l st).bind fun x st => .ofOpt (truth st x) st := by rw [evT] <;> nofun
@[simp] theorem evT_g (i : Nat) : evT P F th xc (.g i) l st = (evE P F th xc (.g i) l st).bind fun x st => .ofOpt (truth st x) st := by rw [evT] <;> nofun
@[simp] theorem evT_tup (es : Es) : evT P F th xc (.tup es) l st = (evE P F th xc (.tup es) l st).bind fun x st => .ofOpt (truth st x) st := by rw [evT] <;> nofun
@[simp] theorem evT_lst (es : Es) : evT P F th xc (.lst es) l st = (evE P F th xc (.lst es) l st).bind fun x st => .ofOpt (truth st x) st := by rw [evT] <;> nofun
@[simp] theorem evT_bin (op : Op) (a : E) (b : E) : evT P F th xc (.bin op a b) l st = (evE P F th xc (.bin op a b) l st).bind fun x st => .ofOpt (truth st x) st := by rw [evT] <;> nofun
@[simp] theorem evT_neg (a : E) : evT P F th xc (.neg a) l st = (evE P F th xc (.neg a) l st).bind fun x st => .ofOpt (truth st x) st := by rw [evT] <;> nofun
@[simp] theorem evT_cmp (op : Cm) (a : E) (b : E) : evT P F th xc (.cmp op a b) l st = (evE P F th xc (.cmp op a b) l st).bind fun x st => .ofOpt (truth st x) st := by rw [evT] <;> nofun
@[simp] theorem evT_chn (o1 : Cm) (o2 : Cm) (a : E) (b : E) (c : E) : evT P F th xc (.chn o1 o2 a b c) l st = (evE P F th xc (.chn o1 o2 a b c) l st).bind fun x st => .ofOpt (truth st x) st := by rw [evT] <;> nofun
@[simp] theorem evT_isn (a : E) : evT P F th xc (.isn a) l st = (evE P F th xc (.isn a) l st).bind fun x st => .ofOpt (truth st x) st := by rw [evT] <;> nofun
@[simp] theorem evT_nisn (a : E) : evT P F th xc (.nisn a) l st = (evE P F th xc (.nisn a) l st).bind fun x st => .ofOpt (truth st x) st := by rw [evT] <;> nofun
@[simp] theorem evT_ite (c : E) (a : E) (b : E) : evT P F th xc (.ite c a b) l st = (evE P F th xc (.ite c a b) l st).bind fun x st => .ofOpt (truth st x) st := by rw [evT] <;> nofun
@[simp] theorem evT_ix (a : E) (b : E) : evT P F th xc (.ix a b) l st = (evE P F th xc (.ix a b) l st).bind fun x st => .ofOpt (truth st x) st := by rw [evT] <;> nofun
@[simp] theorem evT_slc (a : E) (lo : Oe) (hi : Oe) : evT P F th xc (.slc a lo hi) l st = (evE P F th xc (.slc a lo hi) l st).bind fun x st => .ofOpt (truth st x) st := by rw [evT] <;> nofun
@[simp] theorem evT_rev (a : E) : evT P F th xc (.rev a) l st = (evE P F th xc (.rev a) l st).bind fun x st => .ofOpt (truth st x) st := by rw [evT] <;> nofun
@[simp] theorem evT_isi (a : E) (ts : List Tg) : evT P F th xc (.isi a ts) l st = (evE P F th xc (.isi a ts) l st).bind fun x st => .ofOpt (truth st x) st := by rw [evT] <;> nofun
@[simp] theorem evT_call (f : Nat) (es : Es) : evT P F th xc (.call f es) l st = (evE P F th xc (.call f es) l st).bind fun x st => .ofOpt (truth st x) st := by rw [evT] <;> nofun
@[simp] theorem evT_thk (f : Nat) (body : E) : evT P F th xc (.thk f body) l st = (evE P F th xc (.thk f body) l st).bind fun x st => .ofOpt (truth st x) st := by rw [evT] <;> nofun
@[simp] theorem evT_frc : evT P F th xc (.frc) l st = (evE P F th xc (.frc) l st).bind fun x st => .ofOpt (truth st x) st := by rw [evT] <;> nofun
@[simp] theorem evT_isx (t : Tg) : evT P F th xc (.isx t) l st = (evE P F th xc (.isx t) l st).bind fun x st => .ofOpt (truth st x) st := by rw [evT] <;> nofun
@[simp] theorem evT_bi (b : Bi) (es : Es) : evT P F th xc (.bi b es) l st = (evE P F th xc (.bi b es) l st).bind fun x st => .ofOpt (truth st x) st := by rw [evT] <;> nofun
@[simp] theorem evT_mt (m : Mt) (o : E) (es : Es) : evT P F th xc (.mt m o es) l st = (evE P F th xc (.mt m o es) l st).bind fun x st => .ofOpt (truth st x) st := by rw [evT] <;> nofun
@[simp] theorem evT_lc (elt : E) (t : T) (it : It) (c : Oe) : evT P F th xc (.lc elt t it c) l st = (evE P F th xc (.lc elt t it c) l st).bind fun x st => .ofOpt (truth st x) st := by rw [evT] <;> nofun
@[simp] theorem evT_fmt (es : Es) : evT P F th xc (.fmt es) l st = (evE P F th xc (.fmt es) l st).bind fun x st => .ofOpt (truth st x) st := by rw [evT] <;> nofun
@[simp] theorem evT_dic (ks : List DKey) (es : Es) : evT P F th xc (.dic ks es) l st = (evE P F th xc (.dic ks es) l st).bind fun x st => .ofOpt (truth st x) st := by rw [evT] <;> nofun
@[simp] theorem evT_box (a : E) : evT P F th xc (.box a) l st = (evE P F th xc (.box a) l st).bind fun x st => .ofOpt (truth st x) st := by rw [evT] <;> nofun
@[simp] theorem evT_frz (i : Nat) : evT P F th xc (.frz i) l st = (evE P F th xc (.frz i) l st).bind fun x st => .ofOpt (truth st x) st := by rw [evT] <;> nofun
@[simp] theorem evO_no : evO P F th xc .no l st = .ok none st := by rw [evO]
@[simp] theorem evO_yes (e : E) : evO P F th xc (.yes e) l st = (evE P F th xc e l st).bind fun x st => asInt x fun i => .ok (some i) st := by rw [evO]
@[simp] theorem evC_no : evC P F th xc .no l st = .ok true st := by rw [evC]
@[simp] theorem evC_yes (e : E) : evC P F th xc (.yes e) l st = evT P F th xc e l st := by rw [evC]
@[simp] theorem evEs_nil : evEs P F th xc .nil l st = .ok [] st := by rw [evEs]
@[simp] theorem evEs_cons (e : E) (es : Es) : evEs P F th xc (.cons e es) l st = (evE P F th xc e l st).bind fun d st => (evEs P F th xc es l st).bind fun ds st => .ok (d :: ds) st := by rw [evEs]
@[simp] theorem evI_seq (a : E) : evI P F th xc (.seq a) l st = (evE P F th xc a l st).bind fun x st => .ofOpt (seqOf st x) st := by rw [evI]
@[simp] theorem evI_rng (a : E) : evI P F th xc (.rng a) l st = (evE P F th xc a l st).bind fun x st => asInt x fun j => .ofOpt (rngD 0 j) st := by rw [evI]
@[simp] theorem evI_rng2 (a b : E) : evI P F th xc (.rng2 a b) l st = (evE P F th xc a l st).bind fun x st => (evE P F th xc b l st).bind fun y st => asInt x fun i => asInt y fun j => .ofOpt (rngD i j) st := by rw [evI]
@[simp] theorem evI_zip (a b : E) : evI P F th xc (.zip a b) l st = (evE P F th xc a l st).bind fun x st => (evE P F th xc b l st).bind fun y st => .ofOpt (zipD x y) st := by rw [evI]
@[simp] theorem evI_enm (a : E) : evI P F th xc (.enm a) l st = (evE P F th xc a l st).bind fun x st => .ofOpt (enmD x) st := by rw [evI]
@[simp] theorem evI_itm (a : E) : evI P F th xc (.itm a) l st = (evE P F th xc a l st).bind fun x st => .ofOpt ((dictOf st x).map fun kvs => kvs.map fun p => .tup [keyD p.1, p.2]) st := by rw [evI]
end
section
variable (P : Par) (F : FnSem) (th : M) (xc : Option Nat) (l : Loc) (st : Store)
@[simp] theorem evS_pass : evS P F th .pass xc l st = .ok (.nx l) st := by rw [evS]
@[simp] theorem evS_asg (t : T) (e : E) : evS P F th (.asg t e) xc l st = (evE P F th xc e l st).bind fun d st => .ofOpt ((setT t d l).map .nx) st := by rw [evS]
@[simp] theorem evS_par (is : List Nat) (es : Es) : evS P F th (.par is es) xc l st = (evEs P F th xc es l st).bind fun ds st => .ofOpt ((setT (.tp is) (.tup ds) l).map .nx) st := by rw [evS]
@[simp] theorem evS_aug (i : Nat) (op : Op) (e : E) : evS P F th (.aug i op e) xc l st = optR (l[i]?) fun o => optR o fun x => (evE P F th xc e l st).bind fun y st => .ofOpt ((augD op x y).map fun d => .nx (l.set i (some d))) st := by rw [evS]
@[simp] theorem evS_sub (o i e : E) : evS P F th (.sub o i e) xc l st = (evE P F th xc e l st).bind fun d st => (evE P F th xc o l st).bind fun x st => (evE P F th xc i l st).bind fun k st => subD x k d l st := by rw [evS]
@[simp] theorem evS_ex (e : E) : evS P F th (.ex e) xc l st = (evE P F th xc e l st).bind fun _ st => .ok (.nx l) st := by rw [evS]
@[simp] theorem evS_ret (e : E) : evS P F th (.ret e) xc l st = (evE P F th xc e l st).bind fun d st => .ok (.rt d) st := by rw [evS]
@[simp] theorem evS_retn : evS P F th .retn xc l st = .ok (.rt .non) st := by rw [evS]
@[simp] theorem evS_iff (c : E) (a b : Ss) : evS P F th (.iff c a b) xc l st = (evT P F th xc c l st).bind fun k st => ifB k (evSs P F th a xc l st) (evSs P F th b xc l st) := by rw [evS]
@[simp] theorem evS_for (t : T) (it : It) (b : Ss) : evS P F th (.for t it b) xc l st = (evI P F th xc it l st).bind fun xs st => forL t (fun l st => evSs P F th b xc l st) xs l st := by rw [evS]
@[simp] theorem evS_whl (c : E) (b : Ss) : evS P F th (.whl c b) xc l st = whlL (fun l st => evT P F th xc c l st) (fun l st => evSs P F th b xc l st) P.fuel l st := by rw [evS]
@[simp] theorem evS_rse (c : Nat) (es : Es) : evS P F th (.rse c es) xc l st = (evEs P F th xc es l st).bind fun ds st => .exc c ds st := by rw [evS]
@[simp] theorem evS_try (b : Ss) (c i : Nat) (h : Ss) : evS P F th (.try b c i h) xc l st = (evSs P F th b xc l st).tried (P.catches c) fun k st => ((evSs P F th h (some k) (l.set i none) st).calm).bind fun f st => f.out i st := by rw [evS]
@[simp] theorem evSs_nil : evSs P F th .nil xc l st = .ok (.nx l) st := by rw [evSs]
@[simp] theorem evSs_cons (s : S) (ss : Ss) : evSs P F th (.cons s ss) xc l st = (evS P F th s xc l st).bind fun f st => f.go (fun l => evSs P F th ss xc l st) st := by rw [evSs]
end
end Pl

set_option linter.all false
set_option maxRecDepth 100000
set_option maxHeartbeats 4000000
/-! PlB: plain lemmas on what is walked, compared, put together. -/
namespace Pl
open Pm
set_option autoImplicit false
theorem ltS1 (c d : Nat) : ltS [c] [d] = decide (c < d) := by
  unfold ltS
  simp [List.cons_lt_cons_iff]
theorem compL_map {t : T} {tst : Loc → Store → Res Bool} {elt : Loc → Store → Res D} {l : Loc} {st : Store} (g : D → D) : ∀ (xs : List D) (h : ∀ x ∈ xs, ∃ l', setT t x l = some l' ∧ tst l' st = .ok true st ∧ elt l' st = .ok (g x) st),
    compL t tst elt l xs st = .ok (xs.map g) st
  | [], _ => rfl
  | x :: xs, h => by
    obtain ⟨l', h1, h2, h3⟩ := h x (List.mem_cons_self ..)
    have ih := compL_map g xs fun y hy => h y (List.mem_cons_of_mem _ hy)
    simp [compL, h1, h2, h3, ih]
theorem compL_mapf {t : T} {tst : Loc → Store → Res Bool} {elt : Loc → Store → Res D} {l : Loc} {st : Store} {α : Type} (f g : α → D) : ∀ (xs : List α) (h : ∀ x ∈ xs, ∃ l', setT t (f x) l = some l' ∧ tst l' st = .ok true st ∧ elt l' st = .ok (g x) st),
    compL t tst elt l (xs.map f) st = .ok (xs.map g) st
  | [], _ => rfl
  | x :: xs, h => by
    obtain ⟨l', h1, h2, h3⟩ := h x (List.mem_cons_self ..)
    have ih := compL_mapf f g xs fun y hy => h y (List.mem_cons_of_mem _ hy)
    simp [compL, h1, h2, h3, ih]
theorem seq_str (st : Store) (x : List Nat) : seqOf st (.str x) = some (x.map fun c => .str [c]) := rfl
theorem seq_tup (st : Store) (x : List D) : seqOf st (.tup x) = some x := rfl
theorem sized_ok {ds : List D} {d : D} {st : Store} (h : ds.length ≤ SL) : sized ds d st = .ok d st := by
  unfold sized; rw [if_pos h]
theorem le_ss (st : Store) (a c : Nat) : cmpD st .le (.str [a]) (.str [c]) = some (decide (a ≤ c)) := by
  simp only [cmpD, ordB, ltS1]
  congr 1; simp [Nat.not_lt, ← decide_not]
theorem eq_ss (st : Store) (a c : List Nat) : cmpD st .eq (.str a) (.str c) = some (a == c) := by
  simp [cmpD, eqD, top, D.level, D.plain, D.depth, eqv]
theorem le_ii (st : Store) (a b : Int) : cmpD st .le (.int a) (.int b) = some (decide (a ≤ b)) := rfl
theorem lt_ii (st : Store) (a b : Int) : cmpD st .lt (.int a) (.int b) = some (decide (a < b)) := rfl
theorem ge_ii (st : Store) (a b : Int) : cmpD st .ge (.int a) (.int b) = some (decide (b ≤ a)) := rfl
theorem gt_ii (st : Store) (a b : Int) : cmpD st .gt (.int a) (.int b) = some (decide (b < a)) := rfl
theorem eq_ii (st : Store) (a b : Int) : cmpD st .eq (.int a) (.int b) = some (a == b) := by
  simp [cmpD, eqD, top, D.level, D.plain, D.depth, eqv]
theorem eq_bb (st : Store) (a b : Bool) : cmpD st .eq (.bl a) (.bl b) = some (a == b) := by
  simp [cmpD, eqD, top, D.level, D.plain, D.depth, eqv]
theorem ne_ii (st : Store) (a b : Int) : cmpD st .ne (.int a) (.int b) = some (!(a == b)) := by
  simp [cmpD, eqD, top, D.level, D.plain, D.depth, eqv]
theorem ne_bb (st : Store) (a b : Bool) : cmpD st .ne (.bl a) (.bl b) = some (!(a == b)) := by
  simp [cmpD, eqD, top, D.level, D.plain, D.depth, eqv]
/-- with a test -/
theorem compL_filter {t : T} {tst : Loc → Store → Res Bool} {elt : Loc → Store → Res D} {l : Loc} {st : Store} (p : D → Bool) (g : D → D) : ∀ (xs : List D) (h : ∀ x ∈ xs, ∃ l', setT t x l = some l' ∧ tst l' st = .ok (p x) st ∧ elt l' st = .ok (g x) st),
    compL t tst elt l xs st = .ok ((xs.filter p).map g) st
  | [], _ => rfl
  | x :: xs, h => by
    obtain ⟨l', h1, h2, h3⟩ := h x (List.mem_cons_self ..)
    have ih := compL_filter p g xs fun y hy => h y (List.mem_cons_of_mem _ hy)
    cases hp : p x <;> simp [compL, h1, h2, h3, ih, hp]
/-- elements that change the store -/
theorem compL_inv {t : T} {tst : Loc → Store → Res Bool} {elt : Loc → Store → Res D} {l : Loc} {I : Store → Prop} {p : D → Prop} : ∀ (xs : List D) (st : Store) (hI : I st)
    (h : ∀ x ∈ xs, ∀ st, I st → ∃ l', setT t x l = some l' ∧ tst l' st = .ok true st ∧ ∃ d st', elt l' st = .ok d st' ∧ p d ∧ I st'),
    ∃ ds st', compL t tst elt l xs st = .ok ds st' ∧ ds.length = xs.length ∧ (∀ d ∈ ds, p d) ∧ I st'
  | [], st, hI, _ => ⟨[], st, rfl, rfl, fun d hd => (nomatch hd), hI⟩
  | x :: xs, st, hI, h => by
    obtain ⟨l', h1, h2, d, st1, h3, h4, h5⟩ := h x (List.mem_cons_self ..) st hI
    obtain ⟨ds, st2, k1, k2, k3, k4⟩ := compL_inv xs st1 h5 fun y hy => h y (List.mem_cons_of_mem _ hy)
    refine ⟨d :: ds, st2, by simp [compL, h1, h2, h3, k1], by simp [k2], fun e he => ?_, k4⟩
    rcases List.mem_cons.mp he with e1 | e1
    · rw [e1]; exact h4
    · exact k3 e e1
theorem forL_inv {t : T} {body : Loc → Store → Res Flow} {I : Loc → Store → Prop} : ∀ (xs : List D) (l : Loc) (st : Store) (hI : I l st)
    (h : ∀ x ∈ xs, ∀ l st, I l st → ∃ l', setT t x l = some l' ∧ ∃ l2 st', body l' st = .ok (.nx l2) st' ∧ I l2 st'),
    ∃ l2 st', forL t body xs l st = .ok (.nx l2) st' ∧ I l2 st'
  | [], l, st, hI, _ => ⟨l, st, rfl, hI⟩
  | x :: xs, l, st, hI, h => by
    obtain ⟨l', h1, l2, st1, h2, h3⟩ := h x (List.mem_cons_self ..) l st hI
    obtain ⟨l3, st2, k1, k2⟩ := forL_inv xs l2 st1 h3 fun y hy => h y (List.mem_cons_of_mem _ hy)
    exact ⟨l3, st2, by simp [forL, h1, h2, k1], k2⟩
theorem boolsOf_map {α : Type} (f : α → Bool) (xs : List α) : boolsOf (xs.map fun x => .bl (f x)) = some (xs.map f) := by
  induction xs with
  | nil => rfl
  | cons x xs ih => simp [boolsOf, ih]
theorem strsOf_map {α : Type} (f : α → List Nat) (xs : List α) : strsOf (xs.map fun x => .str (f x)) = some (xs.map f) := by
  induction xs with
  | nil => rfl
  | cons x xs ih => simp [strsOf, ih]
theorem intsOf_map {α : Type} (f : α → Int) (xs : List α) : intsOf (xs.map fun x => .int (f x)) = some (xs.map f) := by
  induction xs with
  | nil => rfl
  | cons x xs ih => simp [intsOf, ih]
/-- all(..) of a comprehension -/
theorem all_map (P : Par) (st : Store) {α : Type} (f : α → Bool) (xs : List α) : biD P st .all [.lst (xs.map fun x => .bl (f x))] = some (.bl (xs.all f)) := by
  simp [biD, listOf, boolsOf_map, List.all_map]
theorem any_map (P : Par) (st : Store) {α : Type} (f : α → Bool) (xs : List α) : biD P st .any [.lst (xs.map fun x => .bl (f x))] = some (.bl (xs.any f)) := by
  simp [biD, listOf, boolsOf_map, List.any_map]
theorem joinT_nil (xs : List (List Nat)) : joinT [] xs = xs.flatten := by
  induction xs with
  | nil => rfl
  | cons x xs ih =>
    cases xs with
    | nil => simp [joinT]
    | cons y r => simp [joinT, ih]
theorem place_nn {n : Nat} {i : Int} (h0 : 0 ≤ i) (h1 : i < n) : place n i = some i.toNat := by
  unfold place; rw [if_pos h0, if_pos h1]
theorem len_str {P : Par} {st : Store} {x : List Nat} (h : x.length ≤ SL) : biD P st .len [.str x] = some (.int x.length) := by simp only [biD, if_pos h]
theorem len_tup {P : Par} {st : Store} {x : List D} : biD P st .len [.tup x] = some (.int x.length) := rfl
theorem len_lst {P : Par} {st : Store} {x : List D} : biD P st .len [.lst x] = some (.int x.length) := rfl
theorem bi_int {P : Par} {st : Store} {i : Int} : biD P st .int [.int i] = some (.int i) := rfl
theorem bi_abs {P : Par} {st : Store} {i : Int} : biD P st .abs [.int i] = some (.int (if i < 0 then -i else i)) := rfl
theorem bi_ord {P : Par} {st : Store} {c : Nat} : biD P st .ord [.str [c]] = some (.int c) := rfl
theorem bi_list_tup {P : Par} {st : Store} {x : List D} : biD P st .list [.tup x] = some (.lst x) := rfl
theorem bi_tup_lst {P : Par} {st : Store} {x : List D} : biD P st .tuple [.lst x] = some (.tup x) := rfl
theorem bi_str {P : Par} {st : Store} {i : Int} (h : i.natAbs.log2 < 1920) : biD P st .str [.int i] = some (.str (intText i)) := by simp only [biD, if_pos h]
end Pl

set_option linter.all false
set_option maxRecDepth 100000
set_option maxHeartbeats 4000000
/-! Pl1: what the program's functions compute (k27). -/
namespace Pk27
open Pm Pl
set_option autoImplicit false
mutual
/-- no stored thing within, texts not too long -/
def okD : D → Bool
  | .ref _ => false
  | .scr _ => false
  | .str x => decide (x.length ≤ SL)
  | .tup xs => oks xs
  | .lst xs => oks xs
  | _ => true
def oks : List D → Bool
  | [] => true
  | x :: xs => okD x && oks xs
end
def isInt : D → Bool
  | .int _ => true
  | _ => false
def isWord : D → Bool
  | .str x => decide (x.length ≤ 20) && x.all fun c => decide (32 ≤ c) && decide (c ≤ 126)
  | _ => false
def isCell (d : D) : Bool := isInt d || isWord d
def isRow : D → Bool
  | .tup xs => decide (1 ≤ xs.length) && decide (xs.length ≤ 5) && xs.all isCell
  | _ => false
def isName : D → Bool
  | .str x => decide (1 ≤ x.length) && decide (x.length ≤ 8) && x.all fun c => decide (97 ≤ c) && decide (c ≤ 122)
  | _ => false
def okc (c : Nat) : Bool := (decide (32 ≤ c) && decide (c ≤ 126)) || c == 10
def isText : D → Bool
  | .str x => x.all okc
  | _ => false
def isRuleRow : D → Bool
  | .tup [t, x] => isName t && isText x
  | _ => false
abbrev sRule : List Nat := [114, 117, 108, 101]
def isFact : D → Bool
  | .tup [.str n, b] => isName (.str n) && (if n = sRule then isRuleRow b else isRow b)
  | _ => false
def within (d : D) (a b : Int) : Bool := match d with
  | .int i => decide (a ≤ i) && decide (i ≤ b)
  | _ => false
def sizedB (d : D) (a b : Nat) : Bool := match d with
  | .tup xs => decide (a ≤ xs.length) && decide (xs.length ≤ b)
  | _ => false
def isPrime (d : D) : Bool := within d 1000 170141183460469231731687303715884105728
def num (c : Nat) : Int := if c = 10 then 0 else (c : Int) - 31
def mixStep (p f : Int) (c : Nat) : Int := (f * f + 3 * f * num c + num c + 5) % p
def rawmix (p : Int) (x : List Nat) : Int := x.foldl (mixStep p) 1

theorem oks_mem {xs : List D} (h : oks xs = true) {x : D} (hx : x ∈ xs) : okD x = true := by
  induction xs with
  | nil => cases hx
  | cons y ys ih =>
    simp only [oks, Bool.and_eq_true] at h
    rcases List.mem_cons.mp hx with e | e
    · rw [e]; exact h.1
    · exact ih h.2 e
theorem F0 (n : Nat) (d : D) (th : M) (st : Store) (h : okD d = true) : evF P (n+1) 0 [d] th st = .ok (.bl (isInt d)) st := by
  rw [evF]
  cases d <;> simp_all [f0, b0, okD, isInt, liveT, live, isD]
theorem F1 (n : Nat) (d : D) (a b : Int) (th : M) (st : Store) (h : okD d = true) : evF P (n+2) 1 [d, .int a, .int b] th st = .ok (.bl (within d a b)) st := by
  rw [evF]
  simp [f1, b1, F0 n d _ st h]
  cases d <;> simp [isInt, within, cmpD, ordB]
  rename_i i
  by_cases h1 : a ≤ i <;> simp [h1]
theorem F2 (n : Nat) (d : D) (a b : Nat) (th : M) (st : Store) (h : okD d = true) : evF P (n+1) 2 [d, .int a, .int b] th st = .ok (.bl (sizedB d a b)) st := by
  rw [evF]
  cases d <;> simp_all [f2, b2, okD, sizedB, liveT, live, isD, biD, cmpD, ordB]
  rename_i xs
  by_cases h1 : a ≤ xs.length <;> simp [h1]
theorem F3 (n : Nat) (d : D) (th : M) (st : Store) (h : okD d = true) : evF P (n+1) 3 [d] th st = .ok (.bl (isWord d)) st := by
  rw [evF]
  cases d <;> simp_all [f3, b3, okD, isWord, liveT, live, isD, len_str, le_ii]
  rename_i x
  have e1 : ((x.length : Int) ≤ 20) ↔ x.length ≤ 20 := by omega
  by_cases h1 : x.length ≤ 20
  · simp [e1, h1, seq_str]
    rw [compL_mapf (fun c => .str [c]) (fun c => .bl (decide (32 ≤ c) && decide (c ≤ 126)))]
    · rw [calm_ok, bind_ok, sized_ok (by simpa using h), bind_ok, bind_ok, all_map]; rfl
    · intro c _
      by_cases h2 : 32 ≤ c <;> simp [setT, le_ss, h2]
  · simp [e1, h1]
theorem F4 (n : Nat) (d : D) (th : M) (st : Store) (h : okD d = true) : evF P (n+2) 4 [d] th st = .ok (.bl (isCell d)) st := by
  rw [evF]
  simp [f4, b4, F0 n d _ st h, F3 n d _ st h, isCell]
  cases isInt d <;> simp
theorem F5 (n : Nat) (d : D) (th : M) (st : Store) (h : okD d = true) : evF P (n+3) 5 [d] th st = .ok (.bl (isRow d)) st := by
  rw [evF]
  have e := F2 (n+1) d 1 5 (fun _ => Res.bad) st h
  simp [f5, b5] at *
  rw [e]
  cases d <;> simp [sizedB, isRow]
  rename_i xs
  by_cases h1 : 1 ≤ xs.length ∧ xs.length ≤ 5
  · simp [h1, seq_tup]
    rw [show xs = xs.map id from (List.map_id xs).symm, compL_mapf id (fun d => .bl (isCell d))]
    · rw [calm_ok, bind_ok, sized_ok (by simp; have : SL = 16777216 := rfl; omega), bind_ok, bind_ok, all_map, List.map_id]; rfl
    · intro c hc
      have e2 := F4 n c (fun _ => Res.bad) st (oks_mem (by simpa [okD] using h) hc)
      simp [setT, e2]
  · have : (decide (1 ≤ xs.length) && decide (xs.length ≤ 5)) = false := by simpa using h1
    simp [this]
theorem F6 (n : Nat) (d : D) (th : M) (st : Store) (h : okD d = true) : evF P (n+1) 6 [d] th st = .ok (.bl (isName d)) st := by
  rw [evF]
  cases d <;> simp_all [f6, b6, okD, isName, liveT, live, isD, len_str, le_ii]
  rename_i x
  have e1 : ((1 : Int) ≤ (x.length : Int)) ↔ 1 ≤ x.length := by omega
  have e2 : ((x.length : Int) ≤ 8) ↔ x.length ≤ 8 := by omega
  by_cases h1 : 1 ≤ x.length
  · by_cases h2 : x.length ≤ 8
    · simp [e1, e2, h1, h2, seq_str]
      rw [compL_mapf (fun c => .str [c]) (fun c => .bl (decide (97 ≤ c) && decide (c ≤ 122)))]
      · rw [calm_ok, bind_ok, sized_ok (by simpa using h), bind_ok, bind_ok, all_map]; rfl
      · intro c _
        by_cases h2 : 97 ≤ c <;> simp [setT, le_ss, h2]
    · simp [e1, e2, h1, h2]
  · simp [e1, e2, h1]
theorem F7 (n : Nat) (d : D) (th : M) (st : Store) (h : okD d = true) : evF P (n+3) 7 [d] th st = if isPrime d then .ok .non st else .exc 1 [] st := by
  rw [evF]
  simp [f7, b7, F1 n d _ _ _ st h, isPrime]
  by_cases hw : within d 1000 170141183460469231731687303715884105728 = true
  · simp [hw]
  · simp [Bool.eq_false_iff.mpr hw]
theorem F10 (n : Nat) (d : D) (th : M) (st : Store) (h : okD d = true) : evF P (n+1) 10 [d] th st = .ok (.bl (isText d)) st := by
  rw [evF]
  cases d <;> simp_all [f10, b10, okD, isText, liveT, live, isD]
  rename_i x
  simp [seq_str]
  rw [compL_mapf (fun c => .str [c]) (fun c => .bl (okc c))]
  · rw [calm_ok, bind_ok, sized_ok (by simpa using h), bind_ok, bind_ok, all_map]; rfl
  · intro c _
    by_cases h2 : 32 ≤ c <;> by_cases h3 : c ≤ 126 <;> simp [setT, le_ss, eq_ss, h2, h3, okc]
theorem eq_s (st : Store) (x y : List Nat) : cmpD st .eq (.str x) (.str y) = some (x == y) := eq_ss st x y
theorem ix_tup0 (st : Store) (x : D) (xs : List D) : ixD st (.tup (x :: xs)) (.int 0) = some x := by
  simp only [ixD]
  rw [place_nn (by decide) (by simp)]
  rfl
theorem ix_tup1 (st : Store) (x y : D) (xs : List D) : ixD st (.tup (x :: y :: xs)) (.int 1) = some y := by
  simp only [ixD]
  rw [place_nn (by decide) (by simp; omega)]
  rfl
theorem sized22 (d : D) : sizedB d 2 2 = true ↔ ∃ a b, d = .tup [a, b] := by
  constructor
  · intro h
    cases d <;> simp [sizedB] at h
    rename_i xs
    match xs, h with
    | [a, b], _ => exact ⟨a, b, rfl⟩
    | [], h => simp at h
    | [a], h => simp at h
    | _ :: _ :: _ :: _, h => simp at h
  · rintro ⟨a, b, rfl⟩; rfl
theorem isName_str {d : D} (h : isName d = true) : ∃ x, d = .str x := by
  cases d <;> simp [isName] at h
  exact ⟨_, rfl⟩
theorem isFact_not (d : D) (h : sizedB d 2 2 = false) : isFact d = false := by
  cases hf : isFact d with
  | false => rfl
  | true =>
    exfalso
    unfold isFact at hf
    split at hf
    · simp [sizedB] at h
    · cases hf
theorem isRuleRow_not (d : D) (h : sizedB d 2 2 = false) : isRuleRow d = false := by
  cases hf : isRuleRow d with
  | false => rfl
  | true =>
    exfalso
    unfold isRuleRow at hf
    split at hf
    · simp [sizedB] at h
    · cases hf
theorem F11 (n : Nat) (d : D) (th : M) (st : Store) (h : okD d = true) : evF P (n+4) 11 [d] th st = .ok (.bl (isFact d)) st := by
  rw [evF]
  have e1 := F2 (n+2) d 2 2 (fun _ => Res.bad) st h
  simp only [Int.cast_ofNat_Int] at e1
  cases hs : sizedB d 2 2 with
  | false =>
    simp [f11, b11, e1, hs, isFact_not d hs]
  | true =>
    obtain ⟨a, b, rfl⟩ := (sized22 d).mp hs
    have ha : okD a = true := by simp [okD, oks] at h; exact h.1
    have hb : okD b = true := by simp [okD, oks] at h; exact h.2
    have e2 := F6 (n+2) a (fun _ => Res.bad) st ha
    cases hn : isName a with
    | false =>
      have : isFact (.tup [a, b]) = false := by
        cases hf : isFact (.tup [a, b]) with
        | false => rfl
        | true =>
          exfalso
          unfold isFact at hf
          split at hf
          · rename_i heq; cases heq; simp [hn] at hf
          · cases hf
      simp [f11, b11, e1, hs, e2, hn, ix_tup0, this]
    | true =>
      obtain ⟨x, rfl⟩ := isName_str hn
      have e3 := F5 n b (fun _ => Res.bad) st hb
      have e4 := F2 (n+2) b 2 2 (fun _ => Res.bad) st hb
      simp only [Int.cast_ofNat_Int] at e4
      by_cases hx : x = sRule
      · subst hx
        cases hs2 : sizedB b 2 2 with
        | false => simp [f11, b11, e1, hs, e2, hn, ix_tup0, ix_tup1, eq_ss, e4, hs2, isFact, isRuleRow_not b hs2]
        | true =>
          obtain ⟨t, u, rfl⟩ := (sized22 b).mp hs2
          have ht : okD t = true := by simp [okD, oks] at hb; exact hb.1
          have hu : okD u = true := by simp [okD, oks] at hb; exact hb.2
          have e5 := F6 (n+2) t (fun _ => Res.bad) st ht
          have e6 := F10 (n+2) u (fun _ => Res.bad) st hu
          cases hn2 : isName t <;> simp [f11, b11, e1, hs, e2, hn, ix_tup0, ix_tup1, eq_ss, e4, hs2, e5, hn2, e6, isFact, isRuleRow]
      · have hx2 : (x == [114, 117, 108, 101]) = false := by simpa using hx
        simp [f11, b11, e1, hs, e2, hn, ix_tup0, ix_tup1, eq_ss, hx, hx2, e3, isFact]
end Pk27

set_option linter.all false
set_option maxRecDepth 100000
set_option maxHeartbeats 4000000
/-! Pl2: mixing (k27). -/
namespace Pk27
open Pm Pl
set_option autoImplicit false
theorem mul3 {f : Int} : mulOk 3 f = true := by
  unfold mulOk; simp
theorem mulB {a b : Int} (h0 : 0 ≤ a) (h1 : a ≤ 170141183460469231731687303715884105728) (h2 : 0 ≤ b) (h3 : b ≤ 170141183460469231731687303715884105728 * 3) : mulOk a b = true := by
  have ha : a.natAbs < big := by unfold big; omega
  have hb : b.natAbs < big := by unfold big; omega
  unfold mulOk; simp [ha, hb]
theorem mulR {a b : Int} (h2 : -(2 ^ 64) < b) (h3 : b < 2 ^ 64) : mulOk a b = true := by
  unfold mulOk; simp only [Bool.or_eq_true, Bool.and_eq_true, decide_eq_true_eq]; omega
theorem mulL {a b : Int} (h2 : -(2 ^ 64) < a) (h3 : a < 2 ^ 64) : mulOk a b = true := by
  unfold mulOk; simp only [Bool.or_eq_true, Bool.and_eq_true, decide_eq_true_eq]; omega
theorem num_lo (c : Nat) : -(2 ^ 64) < num c := by unfold num; split <;> omega
theorem num_hi {c : Nat} (h : okc c = true) : num c < 2 ^ 64 := by
  unfold num okc at *
  split
  · omega
  · simp at h; omega
theorem mul_d (st : Store) {i j : Int} (h : mulOk i j = true) : binD st .mul (.int i) (.int j) = some (.int (i * j)) := by
  simp [binD, mulD, h]
theorem add_d (st : Store) (i j : Int) : binD st .add (.int i) (.int j) = some (.int (i + j)) := rfl
theorem sub_d (st : Store) (i j : Int) : binD st .sub (.int i) (.int j) = some (.int (i - j)) := rfl
theorem mod_d (st : Store) {i j : Int} (h : 0 < j) : binD st .mod (.int i) (.int j) = some (.int (i % j)) := by
  simp [binD, ints2, h]
theorem fdiv_d (st : Store) {i j : Int} (h : 0 < j) (h2 : j < 1073741824) : binD st .fdiv (.int i) (.int j) = some (.int (i / j)) := by
  simp [binD, ints2, h, h2]
theorem pow_d (st : Store) {i j : Int} (h : 0 ≤ j ∧ j ≤ 1000 ∧ i.natAbs < 2 ^ 64) : binD st .pow (.int i) (.int j) = some (.int (i ^ j.toNat)) := by
  simp only [binD, ints2, if_pos h, Option.map]
theorem mixStep_r {p f : Int} {c : Nat} (hp : 0 < p) : 0 ≤ mixStep p f c ∧ mixStep p f c < p := ⟨Int.emod_nonneg _ (by omega), Int.emod_lt_of_pos _ hp⟩
theorem mix_loop (F : FnSem) (th : M) (xc : Option Nat) {p : Int} {x : D} (h0 : 1000 ≤ p) (h1 : p ≤ 170141183460469231731687303715884105728) (st : Store) (body : Ss)
    (hb : ∀ (l0 l1 l2 l4 : Option D) (c : Nat) (f : Int), okc c = true → 0 ≤ f → f ≤ p → evSs P F th body xc [some (.int p), l1, some (.int f), some (.str [c]), l4] st = .ok (.nx [some (.int p), l1, some (.int (mixStep p f c)), some (.str [c]), some (.int (num c))]) st) :
    ∀ (xs : List Nat) (f : Int) (o3 o4 : Option D), xs.all okc = true → 0 ≤ f → f ≤ p →
    ∃ o3' o4', forL (.nm 3) (fun l st => evSs P F th body xc l st) (xs.map fun c => .str [c]) [some (.int p), some x, some (.int f), o3, o4] st = .ok (.nx [some (.int p), some x, some (.int (xs.foldl (mixStep p) f)), o3', o4']) st
  | [], f, o3, o4, _, _, _ => ⟨o3, o4, rfl⟩
  | c :: xs, f, o3, o4, hx, f0, f1 => by
    simp only [List.all_cons, Bool.and_eq_true] at hx
    have r := mixStep_r (p := p) (f := f) (c := c) (by omega)
    obtain ⟨o3', o4', e⟩ := mix_loop F th xc (x := x) h0 h1 st body hb xs (mixStep p f c) (some (.str [c])) (some (.int (num c))) hx.2 r.1 (by omega)
    refine ⟨o3', o4', ?_⟩
    simp [forL, setT, hb none (some x) none o4 c f hx.1 f0 f1, e]
theorem num_e (st : Store) (c : Nat) : (if c = 10 then (0 : Int) else (c : Int) - 31) = num c := rfl
theorem F8 (n : Nat) {p : Int} {x : List Nat} (h0 : 1000 ≤ p) (h1 : p ≤ 170141183460469231731687303715884105728) (hx : x.all okc = true) (th : M) (st : Store) :
    evF P (n+1) 8 [.int p, .str x] th st = .ok (.int (rawmix p x)) st := by
  rw [evF]
  simp [f8, b8, setT, seq_str]
  obtain ⟨o3, o4, e⟩ := mix_loop (evF P n) th none (x := .str x) h0 h1 st b8_1 (fun l0 l1 l2 l4 c f hc f0 f1 => by
    have m1 := mul_d st (mulB f0 (by omega) f0 (by omega) : mulOk f f = true)
    have m2 := mul_d st (mul3 (f := f))
    have m3 := mul_d st (mulR (a := 3 * f) (num_lo c) (num_hi hc))
    by_cases h10 : c = 10
    · subst h10
      simp only [num, if_pos] at m3
      simp [b8_1, eq_ss, setT, m1, m2, m3, add_d, mod_d st (show 0 < p by omega), num, mixStep]
    · have hn : num c = (c : Int) - 31 := by unfold num; rw [if_neg h10]
      have h10' : (c == 10) = false := by simpa using h10
      rw [hn] at m3
      simp [b8_1, eq_ss, h10, h10', setT, bi_ord, sub_d, m1, m2, m3, add_d, mod_d st (show 0 < p by omega), hn, mixStep]) x 1 none none hx (by omega) (by omega)
  rw [e]
  simp [rawmix]
end Pk27

set_option linter.all false
set_option maxRecDepth 100000
set_option maxHeartbeats 4000000
/-! Pl3: texts of facts (k27). -/
namespace Pk27
open Pm Pl
set_option autoImplicit false
theorem isPrime_int {d : D} (h : isPrime d = true) : ∃ p, d = .int p ∧ 1000 ≤ p ∧ p ≤ 170141183460469231731687303715884105728 := by
  unfold isPrime within at h
  split at h
  · simp at h; exact ⟨_, rfl, h⟩
  · cases h
theorem isText_str {d : D} (h : isText d = true) : ∃ x, d = .str x ∧ x.all okc = true := by
  unfold isText at h
  split at h
  · exact ⟨_, rfl, h⟩
  · cases h
/-- what mix(p, text) tells -/
def mixR (p t : D) (st : Store) : Res D := match p, t with
  | .int p, .str x => .ok (.int (rawmix p x)) st
  | _, _ => .bad
theorem F9 (n : Nat) (p t : D) (th : M) (st : Store) (hp : okD p = true) (ht : okD t = true) :
    evF P (n+4) 9 [p, t] th st = if isPrime p then (if isText t then mixR p t st else .exc 3 [] st) else .exc 1 [] st := by
  rw [evF]
  simp [f9, b9, F7 n p _ st hp]
  by_cases h1 : isPrime p = true
  · obtain ⟨i, rfl, i0, i1⟩ := isPrime_int h1
    simp [h1, F10 (n+2) t _ st ht]
    by_cases h2 : isText t = true
    · obtain ⟨x, rfl, hx⟩ := isText_str h2
      simp [h2, F8 (n+2) i0 i1 hx, mixR]
    · simp [Bool.eq_false_iff.mpr h2]
  · simp [h1]
/-! ### texts -/
def escC (c : Nat) : List Nat := if c = 39 ∨ c = 126 then [126, c] else [c]
def wtext : D → List Nat
  | .int i => intText i
  | .str x => [39] ++ (x.map escC).flatten ++ [39]
  | _ => []
def joinC (xs : List (List Nat)) : List Nat := joinT [44] xs
def rtext (n : List Nat) (xs : List D) : List Nat := n ++ [40] ++ joinC (xs.map wtext) ++ [41]
/-- what may be a worth, or a rule's text: not too long -/
def isW : D → Bool
  | .int i => decide (i.natAbs.log2 < 1920)
  | .str x => decide (x.length ≤ 3000)
  | _ => false
theorem esc_len (x : List Nat) : ((x.map escC).flatten).length ≤ 2 * x.length := by
  induction x with
  | nil => simp
  | cons c x ih =>
    simp only [List.map_cons, List.flatten_cons, List.length_append, List.length_cons]
    have : (escC c).length ≤ 2 := by unfold escC; split <;> simp
    omega
theorem add_ss (st : Store) {x y : List Nat} (h : x.length + y.length ≤ SL) : binD st .add (.str x) (.str y) = some (.str (x ++ y)) := by
  simp [binD, addD, h]
theorem in_str (st : Store) (c : Nat) (y : List Nat) : cmpD st .isin (.str [c]) (.str y) = some (y.contains c) := rfl
theorem join_d (P : Par) (st : Store) (sep : List Nat) (xs : List (List Nat)) (h : (xs.map List.length).sum + xs.length * sep.length ≤ SL) :
    mtD P .join (.str sep) [.lst (xs.map .str)] st = some (.str (joinT sep xs), st) := by
  have := strsOf_map id xs
  simp only [id, List.map_id'] at this
  rw [show (xs.map fun x => D.str x) = xs.map .str from rfl] at this
  rw [show xs.map id = xs from List.map_id xs] at this
  simp only [mtD, listOf, Option.bind, this]
  rw [if_pos h]
theorem F12 (n : Nat) (d : D) (h : isW d = true) (th : M) (st : Store) : evF P (n+2) 12 [d] th st = .ok (.str (wtext d)) st := by
  have hSL : SL = 16777216 := rfl
  rw [evF]
  cases d <;> simp [isW] at h
  · rename_i i
    simp [f12, b12, F0 n (.int i) _ st rfl, isInt, bi_str h, wtext]
  · rename_i x
    simp [f12, b12, F0 n (.str x) _ st (by simp [okD]; omega), isInt, seq_str]
    rw [compL_mapf (fun c => .str [c]) (fun c => .str (escC c))]
    · rw [calm_ok, bind_ok, sized_ok (by simp; omega), bind_ok, bind_ok]
      have e := join_d P st [] (x.map escC) (by
        have := esc_len x
        rw [List.length_flatten] at this
        simp only [List.length_nil, Nat.mul_zero, Nat.add_zero]
        rw [hSL]; omega)
      rw [List.map_map] at e
      simp only [mtOk, mtK]
      rw [show (x.map fun c => D.str (escC c)) = x.map (D.str ∘ escC) from rfl]
      simp [e, joinT_nil, wtext]
      have hL := esc_len x
      generalize (x.map escC).flatten = y at *
      have g1 : [39].length + y.length ≤ SL := by simp only [List.length_cons, List.length_nil]; omega
      have g2 : (39 :: y).length + [39].length ≤ SL := by simp only [List.length_cons, List.length_nil]; omega
      have k1 := add_ss st g1
      have k2 := add_ss st g2
      simp only [List.cons_append, List.nil_append] at k1 k2
      simp [k1, k2]
    · intro c _
      refine ⟨_, rfl, rfl, ?_⟩
      by_cases h1 : c = 39
      · subst h1; have k := add_ss st (show ([126] : List Nat).length + [39].length ≤ SL by decide); simp at k; simp [in_str, escC, k]
      · by_cases h2 : c = 126
        · subst h2; have k := add_ss st (show ([126] : List Nat).length + [126].length ≤ SL by decide); simp at k; simp [in_str, escC, k]
        · have : ([39, 126] : List Nat).contains c = false := by simp [h1, h2]
          simp [in_str, escC, this, h1, h2]
theorem ix0 (st : Store) (x y : D) : ixD st (.tup [x, y]) (.int 0) = some x := ix_tup0 st x [y]
theorem ix1 (st : Store) (x y : D) : ixD st (.tup [x, y]) (.int 1) = some y := ix_tup1 st x y []
theorem intText_len {i : Int} {k : Nat} (hk : 0 < k) (h : i.natAbs < 10 ^ k) : (intText i).length ≤ k + 1 := by
  unfold intText codes
  rw [List.length_map]
  show (toString i).length ≤ k + 1
  cases i with
  | ofNat m =>
    have : (toString (Int.ofNat m)) = m.repr := rfl
    rw [this]
    have := (Nat.length_repr_le_iff (n := m) hk).mpr h
    omega
  | negSucc m =>
    have : (toString (Int.negSucc m)) = "-" ++ (m + 1).repr := rfl
    rw [this, String.length_append]
    have := (Nat.length_repr_le_iff (n := m + 1) hk).mpr h
    have : ("-" : String).length = 1 := rfl
    omega
theorem wtext_len {d : D} (h : isW d = true) : (wtext d).length ≤ 6002 := by
  cases d <;> simp [isW] at h
  · rename_i i
    simp only [wtext]
    have h2 : i.natAbs < 2 ^ 1920 := by
      by_cases h0 : i.natAbs = 0
      · rw [h0]; exact Nat.pow_pos (by decide)
      · exact (Nat.log2_lt h0).mp h
    have h3 : i.natAbs < 10 ^ 1920 := Nat.lt_of_lt_of_le h2 (Nat.pow_le_pow_left (by decide) _)
    have := intText_len (by decide) h3
    omega
  · rename_i x
    simp only [wtext, List.length_append, List.length_cons, List.length_nil]
    have := esc_len x
    omega
theorem joinT_len (sep : List Nat) (m : Nat) : ∀ xs : List (List Nat), (∀ x ∈ xs, x.length ≤ m) → (joinT sep xs).length ≤ xs.length * (m + sep.length)
  | [], _ => by simp [joinT]
  | [x], h => by
    have := h x (List.mem_cons_self ..)
    simp only [joinT, List.length_cons, List.length_nil]
    omega
  | x :: y :: r, h => by
    have h1 := h x (List.mem_cons_self ..)
    have h2 := joinT_len sep m (y :: r) fun z hz => h z (List.mem_cons_of_mem _ hz)
    simp only [joinT, List.length_append, List.length_cons] at *
    rw [Nat.add_mul, Nat.one_mul]
    omega
theorem sum_len (m : Nat) : ∀ xs : List (List Nat), (∀ x ∈ xs, x.length ≤ m) → (xs.map List.length).sum ≤ xs.length * m
  | [], _ => by simp
  | x :: r, h => by
    have h1 := h x (List.mem_cons_self ..)
    have h2 := sum_len m r fun z hz => h z (List.mem_cons_of_mem _ hz)
    simp only [List.map_cons, List.sum_cons, List.length_cons]
    rw [Nat.add_mul, Nat.one_mul]
    omega
/-- join of worths' texts, by a function of each -/
theorem text_of (P : Par) (st : Store) (name : List Nat) (xs : List D) (hn : name.length ≤ 100) (hl : xs.length ≤ 100) (hw : ∀ d ∈ xs, isW d = true) :
    mtD P .join (.str [44]) [.lst (xs.map fun d => .str (wtext d))] st = some (.str (joinC (xs.map wtext)), st) ∧
    binD st .add (.str name) (.str [40]) = some (.str (name ++ [40])) ∧ binD st .add (.str (name ++ [40])) (.str (joinC (xs.map wtext))) = some (.str (name ++ [40] ++ joinC (xs.map wtext))) ∧
    binD st .add (.str (name ++ [40] ++ joinC (xs.map wtext))) (.str [41]) = some (.str (rtext name xs)) := by
  have hSL : SL = 16777216 := rfl
  have hm : ∀ x ∈ xs.map wtext, x.length ≤ 6002 := fun x hx => by
    obtain ⟨d, hd, rfl⟩ := List.mem_map.mp hx
    exact wtext_len (hw d hd)
  have e1 := sum_len 6002 _ hm
  have e2 := joinT_len [44] 6002 _ hm
  rw [List.length_map] at e1 e2
  have e3 : xs.length * 6002 ≤ 100 * 6002 := Nat.mul_le_mul_right _ hl
  have e4 : xs.length * (6002 + [44].length) ≤ 100 * (6002 + 1) := Nat.mul_le_mul_right _ hl
  refine ⟨?_, add_ss st ?_, add_ss st ?_, add_ss st ?_⟩
  · have e := join_d P st [44] (xs.map wtext) (by rw [List.length_map]; simp only [List.length_cons, List.length_nil]; omega)
    rw [List.map_map] at e
    exact e
  · simp only [List.length_cons, List.length_nil]; omega
  · unfold joinC; simp only [List.length_append, List.length_cons, List.length_nil] at e2 e4 ⊢; omega
  · unfold joinC; simp only [List.length_append, List.length_cons, List.length_nil] at e2 e4 ⊢; omega
theorem F13 (n : Nat) (name : List Nat) (xs : List D) (hn : name.length ≤ 100) (hl : xs.length ≤ 100) (hw : ∀ d ∈ xs, isW d = true) (th : M) (st : Store) :
    evF P (n+3) 13 [.tup [.str name, .tup xs]] th st = .ok (.str (rtext name xs)) st := by
  obtain ⟨k1, k2, k3, k4⟩ := text_of P st name xs hn hl hw
  rw [evF]
  simp [f13, b13, ix0, ix1, k2, seq_tup]
  rw [show xs = xs.map id from (List.map_id xs).symm, compL_mapf id (fun d => .str (wtext d)), List.map_id]
  · rw [calm_ok, bind_ok, sized_ok (by simp; have : SL = 16777216 := rfl; omega), bind_ok, bind_ok]
    simp only [mtOk, mtK]
    simp [k1]
    simp at k3 k4
    simp [k3, k4]
  · intro c hc
    refine ⟨_, rfl, rfl, ?_⟩
    simp [F12 n c (hw c hc)]
end Pk27

set_option linter.all false
set_option maxRecDepth 100000
set_option maxHeartbeats 4000000
/-! Pl4: facts, numbers (k27). -/
namespace Pk27
open Pm Pl
set_option autoImplicit false
mutual
/-- as okD, and no text of more than 3000 signs, no great integer -/
def okW : D → Bool
  | .ref _ => false
  | .scr _ => false
  | .int i => decide (i.natAbs.log2 < 1920)
  | .str x => decide (x.length ≤ 3000)
  | .tup xs => okWs xs
  | .lst xs => okWs xs
  | _ => true
def okWs : List D → Bool
  | [] => true
  | x :: xs => okW x && okWs xs
end
mutual
theorem okW_ok : ∀ d : D, okW d = true → okD d = true
  | .non, _ => rfl
  | .bl _, _ => rfl
  | .int _, _ => rfl
  | .str x, h => by
    have hSL : SL = 16777216 := rfl
    simp [okW] at h
    simp [okD]; omega
  | .tup xs, h => by
    simp only [okW] at h
    simpa only [okD] using okWs_ok xs h
  | .lst xs, h => by
    simp only [okW] at h
    simpa only [okD] using okWs_ok xs h
  | .dct _, _ => rfl
  | .ref _, h => by simp [okW] at h
  | .scr _, h => by simp [okW] at h
theorem okWs_ok : ∀ ds : List D, okWs ds = true → oks ds = true
  | [], _ => rfl
  | x :: xs, h => by
    simp only [okWs, Bool.and_eq_true] at h
    simp only [oks, Bool.and_eq_true]
    exact ⟨okW_ok x h.1, okWs_ok xs h.2⟩
end
theorem okWs_mem {xs : List D} (h : okWs xs = true) {x : D} (hx : x ∈ xs) : okW x = true := by
  induction xs with
  | nil => cases hx
  | cons y ys ih =>
    simp only [okWs, Bool.and_eq_true] at h
    rcases List.mem_cons.mp hx with e | e
    · rw [e]; exact h.1
    · exact ih h.2 e
def ftext : D → List Nat
  | .tup [.str n, .tup xs] => rtext n xs
  | _ => []
/-- a worth, or a rule's text -/
def isWT (d : D) : Bool := isCell d || isText d
theorem repr_ok (m : Nat) : ∀ c ∈ m.repr.toList, okc c.toNat = true := fun c hc => by
  rw [Nat.toList_repr] at hc
  have := Nat.isDigit_of_mem_toDigits (by decide) (by decide) hc
  unfold okc
  simp only [Char.isDigit, Bool.and_eq_true, decide_eq_true_eq] at this
  have h1 : 48 ≤ c.toNat := this.1
  have h2 : c.toNat ≤ 57 := this.2
  simp only [Bool.or_eq_true, Bool.and_eq_true, decide_eq_true_eq]
  omega
theorem intText_ok (i : Int) : (intText i).all okc = true := by
  unfold intText codes
  rw [List.all_map, List.all_eq_true]
  intro c hc
  cases i with
  | ofNat m => exact repr_ok m c hc
  | negSucc m =>
    have : (toString (Int.negSucc m)) = "-" ++ (m + 1).repr := rfl
    rw [this, String.toList_append] at hc
    rcases List.mem_append.mp hc with e | e
    · have : c = '-' := by simpa using e
      subst this; rfl
    · exact repr_ok _ c e
theorem esc_ok {x : List Nat} (h : x.all okc = true) : ((x.map escC).flatten).all okc = true := by
  induction x with
  | nil => rfl
  | cons c x ih =>
    simp only [List.all_cons, Bool.and_eq_true] at h
    simp only [List.map_cons, List.flatten_cons, List.all_append, ih h.2, Bool.and_true]
    unfold escC
    split
    · simp [h.1]; decide
    · simp [h.1]
theorem cell_W {d : D} (h : isWT d = true) (hw : okW d = true) : isW d = true ∧ (wtext d).all okc = true := by
  cases d with
  | int i =>
    simp only [okW] at hw
    exact ⟨hw, intText_ok i⟩
  | str x =>
    simp only [okW] at hw
    refine ⟨hw, ?_⟩
    have hx : x.all okc = true := by
      simp only [isWT, isCell, isInt, isWord, isText, Bool.false_or, Bool.or_eq_true, Bool.and_eq_true] at h
      rcases h with h | h
      · refine List.all_eq_true.mpr fun c hc => ?_
        have := List.all_eq_true.mp h.2 c hc
        simp only [Bool.and_eq_true, decide_eq_true_eq] at this
        unfold okc
        simp only [Bool.or_eq_true, Bool.and_eq_true, decide_eq_true_eq]
        omega
      · exact h
    simp only [wtext, List.all_append, esc_ok hx]; rfl
  | _ => simp [isWT, isCell, isInt, isWord, isText] at h
theorem fact_of {d : D} (h : isFact d = true) (hw : okW d = true) : ∃ n xs, d = .tup [.str n, .tup xs] ∧ n.length ≤ 100 ∧ n.all okc = true ∧ xs.length ≤ 100 ∧ (∀ w ∈ xs, isW w = true ∧ (wtext w).all okc = true) := by
  unfold isFact at h
  split at h
  · rename_i n b
    simp only [Bool.and_eq_true] at h
    obtain ⟨h1, h2⟩ := h
    simp only [okW, okWs, Bool.and_eq_true] at hw
    have hn : n.length ≤ 8 ∧ n.all okc = true := by
      simp only [isName, Bool.and_eq_true, decide_eq_true_eq] at h1
      refine ⟨h1.1.2, List.all_eq_true.mpr fun c hc => ?_⟩
      have := List.all_eq_true.mp h1.2 c hc
      simp only [Bool.and_eq_true, decide_eq_true_eq] at this
      unfold okc
      simp only [Bool.or_eq_true, Bool.and_eq_true, decide_eq_true_eq]
      omega
    split at h2
    · unfold isRuleRow at h2
      split at h2
      · rename_i t x
        simp only [Bool.and_eq_true] at h2
        simp only [okW, okWs, Bool.and_eq_true] at hw
        have ht : isCell t = true := by
          obtain ⟨y, rfl⟩ := isName_str h2.1
          simp only [isName, Bool.and_eq_true, decide_eq_true_eq] at h2
          simp only [isCell, isInt, isWord, Bool.false_or, Bool.and_eq_true, decide_eq_true_eq]
          refine ⟨by omega, List.all_eq_true.mpr fun c hc => ?_⟩
          have := List.all_eq_true.mp h2.1.2 c hc
          simp only [Bool.and_eq_true, decide_eq_true_eq] at this ⊢
          omega
        refine ⟨n, [t, x], rfl, by omega, hn.2, by simp, fun w hw' => ?_⟩
        rcases List.mem_cons.mp hw' with e | e
        · rw [e]; exact cell_W (by simp [isWT, ht]) hw.2.1.1
        · rcases List.mem_cons.mp e with e | e
          · rw [e]; exact cell_W (by simp [isWT, h2.2]) hw.2.1.2.1
          · cases e
      · cases h2
    · unfold isRow at h2
      split at h2
      · rename_i xs
        simp only [Bool.and_eq_true, decide_eq_true_eq] at h2
        refine ⟨n, xs, rfl, by omega, hn.2, by omega, fun w hw' => cell_W (by simp [isWT, List.all_eq_true.mp h2.2 w hw']) ?_⟩
        simp only [okW] at hw
        exact okWs_mem hw.2.1 hw'
      · cases h2
  · cases h
theorem joinC_ok : ∀ xs : List (List Nat), (∀ x ∈ xs, x.all okc = true) → (joinC xs).all okc = true
  | [], _ => rfl
  | [x], h => h x (List.mem_cons_self ..)
  | x :: y :: r, h => by
    have h1 := h x (List.mem_cons_self ..)
    have h2 := joinC_ok (y :: r) fun z hz => h z (List.mem_cons_of_mem _ hz)
    unfold joinC at *
    simp only [joinT, List.all_append, h1, h2]; rfl
theorem ftext_ok {d : D} (h : isFact d = true) (hw : okW d = true) : (ftext d).all okc = true := by
  obtain ⟨n, xs, rfl, h1, h2, h3, h4⟩ := fact_of h hw
  have := joinC_ok (xs.map wtext) fun x hx => by
    obtain ⟨w, hw', rfl⟩ := List.mem_map.mp hx
    exact (h4 w hw').2
  simp only [ftext, rtext, List.all_append, h2, this]; rfl
theorem F14 (n : Nat) (d : D) (th : M) (st : Store) (h : okD d = true) : evF P (n+5) 14 [d] th st = if isFact d then .ok .non st else .exc 2 [] st := by
  rw [evF]
  simp [f14, b14, F11 n d _ st h]
  by_cases hw : isFact d = true
  · simp [hw]
  · simp [Bool.eq_false_iff.mpr hw]
theorem F15 (n : Nat) (d : D) (th : M) (st : Store) (h : okW d = true) : evF P (n+6) 15 [d] th st = if isFact d then .ok (.str (ftext d)) st else .exc 2 [] st := by
  rw [evF]
  simp [f15, b15, F14 n d _ st (okW_ok d h)]
  by_cases hw : isFact d = true
  · obtain ⟨n', xs, rfl, h1, h2, h3, h4⟩ := fact_of hw h
    simp [hw, F13 (n+2) n' xs h1 h3 (fun w hw => (h4 w hw).1), ftext]
  · simp [Bool.eq_false_iff.mpr hw]
def numR (p d : D) (st : Store) : Res D := match p with
  | .int p => .ok (.int (rawmix p (ftext d))) st
  | _ => .bad
theorem F16 (n : Nat) {p : Int} {d : D} (h0 : 1000 ≤ p) (h1 : p ≤ 170141183460469231731687303715884105728) (hf : isFact d = true) (hw : okW d = true) (th : M) (st : Store) :
    evF P (n+4) 16 [.int p, d] th st = .ok (.int (rawmix p (ftext d))) st := by
  rw [evF]
  have ho := ftext_ok hf hw
  obtain ⟨n', xs, rfl, k1, k2, k3, k4⟩ := fact_of hf hw
  simp only [ftext] at ho
  simp [f16, b16, F13 n n' xs k1 k3 (fun w hw => (k4 w hw).1), ftext, F8 (n+2) h0 h1 ho]
theorem F17 (n : Nat) (p d : D) (th : M) (st : Store) (hp : okD p = true) (h : okW d = true) :
    evF P (n+6) 17 [p, d] th st = if isPrime p then (if isFact d then numR p d st else .exc 2 [] st) else .exc 1 [] st := by
  rw [evF]
  simp [f17, b17, F7 (n+2) p _ st hp]
  by_cases h1 : isPrime p = true
  · obtain ⟨i, rfl, i0, i1⟩ := isPrime_int h1
    simp [h1, F14 n d _ st (okW_ok d h)]
    by_cases h2 : isFact d = true
    · simp [h2, F16 (n+1) i0 i1 h2 h, numR]
    · simp [Bool.eq_false_iff.mpr h2]
  · simp [h1]
end Pk27

set_option linter.all false
set_option maxRecDepth 100000
set_option maxHeartbeats 4000000
/-! Pl5: the law's own reckoning (k27). -/
namespace Pk27
open Pm Pl
set_option autoImplicit false
theorem F21 (n : Nat) {p : Int} {x : List Nat} (h0 : 1000 ≤ p) (h1 : p ≤ 170141183460469231731687303715884105728) (hx : x.all okc = true) (th : M) (st : Store) :
    evF P (n+1) 21 [.int p, .str x] th st = .ok (.int (rawmix p x)) st := by
  rw [evF]
  simp [f21, b21, setT, seq_str]
  obtain ⟨o3, o4, e⟩ := mix_loop (evF P n) th none (x := .str x) h0 h1 st b21_1 (fun l0 l1 l2 l4 c f hc f0 f1 => by
    have m1 := mul_d st (mulB f0 (by omega) f0 (by omega) : mulOk f f = true)
    have m2 := mul_d st (mul3 (f := f))
    have m3 := mul_d st (mulR (a := 3 * f) (num_lo c) (num_hi hc))
    by_cases h10 : c = 10
    · subst h10
      simp only [num, if_pos] at m3
      simp [b21_1, eq_ss, setT, m1, m2, m3, add_d, mod_d st (show 0 < p by omega), num, mixStep, bi_int]
    · have hn : num c = (c : Int) - 31 := by unfold num; rw [if_neg h10]
      have h10' : (c == 10) = false := by simpa using h10
      rw [hn] at m3
      simp [b21_1, eq_ss, h10, h10', setT, bi_ord, sub_d, m1, m2, m3, add_d, mod_d st (show 0 < p by omega), hn, mixStep, bi_int]) x 1 none none hx (by omega) (by omega)
  rw [e]
  simp [rawmix]
theorem repl_esc (x : List Nat) : replC 39 [126, 39] (replC 126 [126, 126] x) = (x.map escC).flatten := by
  induction x with
  | nil => rfl
  | cons c x ih =>
    by_cases h1 : c = 126
    · subst h1
      simp [replC, escC, ih]
    · by_cases h2 : c = 39
      · subst h2
        simp [replC, escC, ih]
      · simp [replC, escC, ih, h1, h2]
theorem repl_len (c : Nat) (y : List Nat) (x : List Nat) : (replC c y x).length ≤ x.length * (y.length + 1) := by
  induction x with
  | nil => simp [replC]
  | cons a x ih =>
    simp only [replC]
    split
    · simp only [List.length_append, List.length_cons]
      rw [Nat.add_mul, Nat.one_mul]; omega
    · simp only [List.length_cons]
      rw [Nat.add_mul, Nat.one_mul]; omega
theorem repl_d (P : Par) (st : Store) {c : Nat} {x y : List Nat} (h : x.length + (x.length + 1) * y.length ≤ SL) : mtD P .replace (.str x) [.str [c], .str y] st = some (.str (replC c y x), st) := by
  simp only [mtD, if_pos h]
theorem F22 (n : Nat) (d : D) (h : isW d = true) (th : M) (st : Store) : evF P (n+1) 22 [d] th st = .ok (.str (wtext d)) st := by
  have hSL : SL = 16777216 := rfl
  rw [evF]
  cases d <;> simp [isW] at h
  · rename_i i
    simp [f22, b22, liveT, live, isD, bi_str h, wtext]
  · rename_i x
    have l1 := repl_len 126 [126, 126] x
    have l2 := esc_len x
    simp only [List.length_cons, List.length_nil] at l1
    have r1 := repl_d P st (c := 126) (x := x) (y := [126, 126]) (by simp only [List.length_cons, List.length_nil]; omega)
    have r2 := repl_d P st (c := 39) (x := replC 126 [126, 126] x) (y := [126, 39]) (by simp only [List.length_cons, List.length_nil]; omega)
    rw [repl_esc] at r2
    simp [f22, b22, liveT, live, isD, mtOk, mtK, r1, r2, wtext]
    generalize (x.map escC).flatten = y at *
    have k1 := add_ss st (x := [39]) (y := y) (by simp only [List.length_cons, List.length_nil]; omega)
    have k2 := add_ss st (x := 39 :: y) (y := [39]) (by simp only [List.length_cons, List.length_nil]; omega)
    simp only [List.cons_append, List.nil_append] at k1 k2
    simp [k1, k2]
theorem F23 (n : Nat) (name : List Nat) (xs : List D) (hn : name.length ≤ 100) (hl : xs.length ≤ 100) (hw : ∀ d ∈ xs, isW d = true) (th : M) (st : Store) :
    evF P (n+2) 23 [.tup [.str name, .tup xs]] th st = .ok (.str (rtext name xs)) st := by
  obtain ⟨k1, k2, k3, k4⟩ := text_of P st name xs hn hl hw
  rw [evF]
  simp [f23, b23, ix0, ix1, k2, seq_tup]
  rw [show xs = xs.map id from (List.map_id xs).symm, compL_mapf id (fun d => .str (wtext d)), List.map_id]
  · rw [calm_ok, bind_ok, sized_ok (by simp; have : SL = 16777216 := rfl; omega), bind_ok, bind_ok]
    simp only [mtOk, mtK]
    simp [k1]
    simp at k3 k4
    simp [k3, k4]
  · intro c hc
    refine ⟨_, rfl, rfl, ?_⟩
    simp [F22 n c (hw c hc)]
theorem F23' (n : Nat) (d : D) (hf : isFact d = true) (hw : okW d = true) (th : M) (st : Store) : evF P (n+2) 23 [d] th st = .ok (.str (ftext d)) st := by
  obtain ⟨n', xs, rfl, k1, k2, k3, k4⟩ := fact_of hf hw
  exact F23 n n' xs k1 k3 (fun w hw => (k4 w hw).1) th st
theorem F24 (n : Nat) {p : Int} {d : D} (h0 : 1000 ≤ p) (h1 : p ≤ 170141183460469231731687303715884105728) (hf : isFact d = true) (hw : okW d = true) (th : M) (st : Store) :
    evF P (n+3) 24 [.int p, d] th st = .ok (.int (rawmix p (ftext d))) st := by
  rw [evF]
  simp [f24, b24, F23' n d hf hw, F21 (n+1) h0 h1 (ftext_ok hf hw)]
theorem F28 (n : Nat) (d : D) (th : M) (st : Store) (h : okD d = true) : evF P (n+1) 28 [d] th st = .ok (.bl (isPrime d)) st := by
  rw [evF]
  cases d <;> simp_all [f28, b28, okD, isPrime, within, liveT, live, isD, le_ii]
  rename_i i
  by_cases h1 : 1000 ≤ i <;> simp [h1]
theorem F29 (n : Nat) (d : D) (th : M) (st : Store) (h : okD d = true) : evF P (n+1) 29 [d] th st = .ok (.bl (isText d)) st := by
  rw [evF]
  cases d <;> simp_all [f29, b29, okD, isText, liveT, live, isD]
  rename_i x
  simp [seq_str]
  rw [compL_mapf (fun c => .str [c]) (fun c => .bl (okc c))]
  · rw [calm_ok, bind_ok, sized_ok (by simpa using h), bind_ok, bind_ok, all_map]; rfl
  · intro c _
    by_cases h3 : c = 10
    · subst h3; simp [setT, le_ss, eq_ss, okc]
    · have h4 : (c == 10) = false := by simpa using h3
      by_cases h2 : 32 ≤ c <;> simp [setT, le_ss, eq_ss, h2, h3, h4, okc]
theorem F30 (n : Nat) (d : D) (th : M) (st : Store) (h : okD d = true) : evF P (n+1) 30 [d] th st = .ok (.bl (isCell d)) st := by
  rw [evF]
  cases d <;> simp_all [f30, b30, okD, isCell, isInt, isWord, liveT, live, isD, len_str, le_ii]
  rename_i x
  have e1 : ((x.length : Int) ≤ 20) ↔ x.length ≤ 20 := by omega
  by_cases h1 : x.length ≤ 20
  · simp [e1, h1, seq_str]
    rw [compL_mapf (fun c => .str [c]) (fun c => .bl (decide (32 ≤ c) && decide (c ≤ 126)))]
    · rw [calm_ok, bind_ok, sized_ok (by simpa using h), bind_ok, bind_ok, all_map]; rfl
    · intro c _
      by_cases h2 : 32 ≤ c <;> simp [setT, le_ss, h2]
  · simp [e1, h1]
theorem F31 (n : Nat) (d : D) (th : M) (st : Store) (h : okD d = true) : evF P (n+1) 31 [d] th st = .ok (.bl (isName d)) st := by
  rw [evF]
  cases d <;> simp_all [f31, b31, okD, isName, liveT, live, isD, len_str, le_ii]
  rename_i x
  have e1 : ((1 : Int) ≤ (x.length : Int)) ↔ 1 ≤ x.length := by omega
  have e2 : ((x.length : Int) ≤ 8) ↔ x.length ≤ 8 := by omega
  by_cases h1 : 1 ≤ x.length
  · by_cases h2 : x.length ≤ 8
    · simp [e1, e2, h1, h2, seq_str]
      rw [compL_mapf (fun c => .str [c]) (fun c => .bl (decide (97 ≤ c) && decide (c ≤ 122)))]
      · rw [calm_ok, bind_ok, sized_ok (by simpa using h), bind_ok, bind_ok, all_map]; rfl
      · intro c _
        by_cases h2 : 97 ≤ c <;> simp [setT, le_ss, h2]
    · simp [e1, e2, h1, h2]
  · simp [e1, e2, h1]
end Pk27

set_option linter.all false
set_option maxRecDepth 100000
set_option maxHeartbeats 4000000
/-! Pl6: the hand, draws (k27). -/
namespace Pk27
open Pm Pl
set_option autoImplicit false
/-- the store: the hand alone -/
def hs (cells : List Int) (i r s c : Int) : Store := [.lst [.lst (cells.map .int), .int i, .int r, .int s, .int c]]
section
variable (cells : List Int) (i r s c v : Int) (l : Loc)
theorem h0 : ixD (hs cells i r s c) (.ref 0) (.int 0) = some (.lst (cells.map .int)) := by simp [hs, ixD, listOf, place]
theorem h1 : ixD (hs cells i r s c) (.ref 0) (.int 1) = some (.int i) := by simp [hs, ixD, listOf, place]
theorem h2 : ixD (hs cells i r s c) (.ref 0) (.int 2) = some (.int r) := by simp [hs, ixD, listOf, place]
theorem h3 : ixD (hs cells i r s c) (.ref 0) (.int 3) = some (.int s) := by simp [hs, ixD, listOf, place]
theorem h4 : ixD (hs cells i r s c) (.ref 0) (.int 4) = some (.int c) := by simp [hs, ixD, listOf, place]
theorem s1 : subD (.ref 0) (.int 1) (.int v) l (hs cells i r s c) = .ok (.nx l) (hs cells v r s c) := by simp [hs, subD, place, optR]
theorem s2 : subD (.ref 0) (.int 2) (.int v) l (hs cells i r s c) = .ok (.nx l) (hs cells i v s c) := by simp [hs, subD, place, optR]
theorem s3 : subD (.ref 0) (.int 3) (.int v) l (hs cells i r s c) = .ok (.nx l) (hs cells i r v c) := by simp [hs, subD, place, optR]
theorem s4 : subD (.ref 0) (.int 4) (.int v) l (hs cells i r s c) = .ok (.nx l) (hs cells i r s v) := by simp [hs, subD, place, optR]
end
def Inv (st : Store) : Prop := ∃ cells i r s c, st = hs cells i r s c ∧ 0 ≤ i ∧ 0 ≤ r ∧ ∀ z ∈ cells, 0 ≤ z
theorem ix_lst (st : Store) {xs : List D} {i : Int} {d : D} (h0 : 0 ≤ i) (h1 : xs[i.toNat]? = some d) : ixD st (.lst xs) (.int i) = some d := by
  have hlt : i < xs.length := by
    have := (List.getElem?_eq_some_iff.mp h1).1
    omega
  simp [ixD, listOf, place_nn h0 hlt, h1]
def rest19 : Ss := match b19 with
  | .cons _ ss => ss
  | ss => ss
def first19 : S := match b19 with
  | .cons s _ => s
  | _ => .pass
def cond19 : E := match first19 with
  | .iff c _ _ => c
  | _ => .non
def then19 : Ss := match first19 with
  | .iff _ a _ => a
  | _ => .nil
theorem e19 : b19 = .cons (.iff cond19 then19 .nil) rest19 := rfl
theorem rest_ok (F : FnSem) (th : M) (xc : Option Nat) {cells : List Int} {i r s c m : Int} {o2 o3 o4 : Option D} (hi : 0 ≤ i) (hr : 0 ≤ r) (hc : ∀ z ∈ cells, 0 ≤ z) (hm : 0 < m) (hm2 : m < 1073741824) :
    ∃ d st', evSs P F th rest19 xc [some (.ref 0), some (.int m), o2, o3, o4] (hs cells i r s c) = .ok (.rt (.int d)) st' ∧ 0 ≤ d ∧ d < m ∧ Inv st' := by
  by_cases h : 0 < r
  · refine ⟨r % m, hs cells i (r / m) s c, ?_, Int.emod_nonneg _ (by omega), Int.emod_lt_of_pos _ hm, cells, i, _, s, c, rfl, hi, Int.ediv_nonneg hr (by omega), hc⟩
    simp [rest19, b19, h2, gt_ii, h, bi_int, mod_d _ hm, setT, fdiv_d _ hm hm2, s2]
  · simp [rest19, b19, h2, gt_ii, h, bi_int, h4, add_d, s4, h3]
    have k1 : ∀ a : Int, binD (hs cells i r s (c + 1)) .mul (.int 6151) (.int a) = some (.int (6151 * a)) := fun a => mul_d _ (mulL (by decide) (by decide))
    have k2 : ∀ a : Int, binD (hs cells i r s (c + 1)) .mul (.int a) (.int 40692) = some (.int (a * 40692)) := fun a => mul_d _ (mulR (by decide) (by decide))
    simp [k1, k2, add_d, bi_int, mod_d, setT]
    generalize hn1 : (s + 6151 * (c + 1)) * 40692 % 2147483399 = n1
    have b1 : 0 ≤ n1 ∧ n1 < 2147483399 := by
      rw [← hn1]; exact ⟨Int.emod_nonneg _ (by decide), Int.emod_lt_of_pos _ (by decide)⟩
    have k3 : ∀ a : Int, binD (hs cells i r s (c + 1)) .mul (.int n1) (.int a) = some (.int (n1 * a)) := fun a => mul_d _ (mulL (by omega) (by omega))
    have d1 : ∀ a : Int, ∀ st, binD st .fdiv (.int a) (.int 1223) = some (.int (a / 1223)) := fun a st => fdiv_d st (by decide) (by decide)
    have d2 : ∀ a : Int, ∀ st, binD st .fdiv (.int a) (.int 2671) = some (.int (a / 2671)) := fun a st => fdiv_d st (by decide) (by decide)
    have d3 : ∀ a : Int, ∀ st, binD st .fdiv (.int a) (.int 32) = some (.int (a / 32)) := fun a st => fdiv_d st (by decide) (by decide)
    simp [k3, add_d, d1, bi_int, mod_d]
    generalize hn2 : n1 * (n1 / 1223 + 52027) % 2147483629 = n2
    have b2 : 0 ≤ n2 ∧ n2 < 2147483629 := by
      rw [← hn2]; exact ⟨Int.emod_nonneg _ (by decide), Int.emod_lt_of_pos _ (by decide)⟩
    have k4 : ∀ a : Int, binD (hs cells i r s (c + 1)) .mul (.int n2) (.int a) = some (.int (n2 * a)) := fun a => mul_d _ (mulL (by omega) (by omega))
    simp [k4, add_d, d2, d3, bi_int, mod_d, hm]
    exact ⟨_, _, ⟨rfl, rfl⟩, Int.emod_nonneg _ (by omega), Int.emod_lt_of_pos _ hm, cells, i, r, s, _, rfl, hi, hr, hc⟩
theorem F19 (n : Nat) {m : Int} (hm : 0 < m) (hm2 : m < 1073741824) (th : M) {st : Store} (hI : Inv st) :
    ∃ d st', evF P (n+1) 19 [.ref 0, .int m] th st = .ok (.int d) st' ∧ 0 ≤ d ∧ d < m ∧ Inv st' := by
  obtain ⟨cells, i, r, s, c, rfl, hi, hr, hc⟩ := hI
  rw [evF]
  simp only [P_f19, optR_some, f19]
  rw [e19]
  have fin : ∀ {res : Res Flow}, (∃ d st', res = .ok (.rt (.int d)) st' ∧ 0 ≤ d ∧ d < m ∧ Inv st') → ∃ d st', (res.bind fun r st => r.ends st) = .ok (.int d) st' ∧ 0 ≤ d ∧ d < m ∧ Inv st' := by
    rintro _ ⟨d, st', rfl, h1, h2, h3⟩
    exact ⟨d, st', rfl, h1, h2, h3⟩
  simp only [List.length_cons, List.length_nil, List.map_cons, List.map_nil, List.cons_append, List.nil_append]
  rw [if_pos trivial]
  refine fin ?_
  rw [evSs_cons, evS_iff]
  by_cases h : r = 0 ∧ i < cells.length
  · obtain ⟨rfl, hlt⟩ := h
    have hcell : (cells.map D.int)[i.toNat]? = some (.int (cells[i.toNat]'(by omega))) := by simp
    have hm0 := hc _ (List.getElem_mem (l := cells) (n := i.toNat) (by omega))
    generalize cells[i.toNat]'(by omega) = z at hcell hm0
    have k0 := ix_lst (hs cells i 0 s c) hi hcell
    have k1 : ∀ a : Int, binD (hs cells (i + 1) 0 s c) .mul (.int a) (.int 48271) = some (.int (a * 48271)) := fun a => mul_d _ (mulR (by decide) (by decide))
    have k2 : ∀ st, binD st .pow (.int 10) (.int 18) = some (.int (10 ^ 18)) := fun st => pow_d st ⟨by decide, by decide, by decide⟩
    by_cases hz : 1000000000000000000 ≤ z
    · simp [cond19, then19, first19, b19, h2, eq_ii, h1, h0, len_lst, lt_ii, hlt, k0, setT, add_d, s1, h3, k1, bi_int, mod_d, s3, k2, ge_ii, hz, s2]
      exact rest_ok _ _ _ (r := z) (by omega) hm0 hc hm hm2
    · simp [cond19, then19, first19, b19, h2, eq_ii, h1, h0, len_lst, lt_ii, hlt, k0, setT, add_d, s1, h3, k1, bi_int, mod_d, s3, k2, ge_ii, hz, s2]
      exact rest_ok _ _ _ (by omega) (by omega) hc hm hm2
  · have e : evT P (evF P n) th none cond19 [some (.ref 0), some (.int m), none, none, none] (hs cells i r s c) = .ok false (hs cells i r s c) := by
      by_cases h5 : r = 0
      · subst h5
        have : ¬ i < cells.length := fun q => h ⟨rfl, q⟩
        simp [cond19, first19, b19, h2, eq_ii, h1, h0, len_lst, lt_ii, this]
      · have h6 : (r == 0) = false := by simpa using h5
        simp [cond19, first19, b19, h2, eq_ii, h6]
    simp [List.replicate, e]
    exact rest_ok _ _ _ hi hr hc hm hm2
end Pk27

set_option linter.all false
set_option maxRecDepth 100000
set_option maxHeartbeats 4000000
/-! Pl7: what is drawn (k27). -/
namespace Pk27
open Pm Pl
set_option autoImplicit false
theorem F20 (n : Nat) {xs : List D} (hx : xs ≠ []) (hl : xs.length < 1073741824) (th : M) {st : Store} (hI : Inv st) :
    ∃ d st', evF P (n+2) 20 [.ref 0, .lst xs] th st = .ok d st' ∧ d ∈ xs ∧ Inv st' := by
  have h0 : 0 < xs.length := List.length_pos_iff.mpr hx
  obtain ⟨d, st', e, d0, d1, hI'⟩ := F19 n (m := (xs.length : Int)) (by omega) (by omega) (fun _ => .bad) hI
  have hlt : d.toNat < xs.length := by omega
  refine ⟨xs[d.toNat], st', ?_, List.getElem_mem hlt, hI'⟩
  rw [evF]
  simp [f20, b20, len_lst, e, ix_lst st' d0 (List.getElem?_eq_getElem hlt)]
/-- an end with a property, the hand as it must be -/
def Ends1 (p : D → Prop) (r : Res D) : Prop := ∃ d st', r = .ok d st' ∧ p d ∧ Inv st'
theorem some_of (n : Nat) {xs : List D} (p : D → Prop) (h : ∀ d ∈ xs, p d) (hx : xs ≠ []) (hl : xs.length < 1073741824) (th : M) {st : Store} (hI : Inv st) : Ends1 p (evF P (n+2) 20 [.ref 0, .lst xs] th st) := by
  obtain ⟨d, st', e, hd, hI'⟩ := F20 n hx hl th hI
  exact ⟨d, st', e, h d hd, hI'⟩
theorem Ends1.get {p : D → Prop} {r : Res D} (h : Ends1 p r) : ∃ d st', r = .ok d st' ∧ p d ∧ Inv st' := h
theorem sized_lit {ds : List D} {d : D} {st : Store} (h : ds.length ≤ 1000) : sized ds d st = .ok d st := sized_ok (by have : SL = 16777216 := rfl; omega)
theorem okW_one {d : D} (h : okW d = true) : okWs [d] = true := by simp [okWs, h]
theorem F25 (n : Nat) (th : M) {st : Store} (hI : Inv st) : Ends1 (fun d => okW d = true) (evF P (n+2) 25 [.ref 0] th st) := by
  rw [evF]
  obtain ⟨d, st1, e1, d0, d1, hI1⟩ := F19 n (m := 5) (by decide) (by decide) (fun _ => .bad) hI
  obtain ⟨x0, e2, w0⟩ : ∃ x, ixD st1 (.lst [.non, .str [97], .int (-1), .dct [], .bl true]) (.int d) = some x ∧ okW x = true := by
    have : d = 0 ∨ d = 1 ∨ d = 2 ∨ d = 3 ∨ d = 4 := by omega
    rcases this with rfl | rfl | rfl | rfl | rfl <;> exact ⟨_, ix_lst st1 (by decide) rfl, by decide +kernel⟩
  obtain ⟨k, st2, e3, k0, k1, hI2⟩ := F19 n (m := 28) (by decide) (by decide) (fun _ => .bad) hI1
  obtain ⟨l3, st3, e4, x3, o3, rfl, hw, hI3⟩ : ∃ l3 st3, forL (.nm 2) (fun l st => evSs P (evF P (n+1)) th b25_1 none l st) (rangeD 0 (1 + k)) [some (.ref 0), some x0, none] st2 = .ok (.nx l3) st3 ∧ ∃ x o, l3 = [some (.ref 0), some x, o] ∧ okW x = true ∧ Inv st3 := by
    obtain ⟨l3, st3, e, x, o, h1, h2, h3⟩ := forL_inv (t := .nm 2) (body := fun l st => evSs P (evF P (n+1)) th b25_1 none l st) (I := fun l st => ∃ x o, l = [some (.ref 0), some x, o] ∧ okW x = true ∧ Inv st) (rangeD 0 (1 + k)) [some (.ref 0), some x0, none] st2 ⟨x0, none, rfl, w0, hI2⟩ (fun y _ l st hI => by
      obtain ⟨x, o, rfl, w, hI⟩ := hI
      refine ⟨_, rfl, ?_⟩
      obtain ⟨d, st1, e1, d0, d1, hI1⟩ := F19 n (m := 3) (by decide) (by decide) (fun _ => .bad) hI
      obtain ⟨x1, e2, w1⟩ : ∃ y, ixD st1 (.lst [.tup [x], .lst [x], .dct [(.i 0, x)]]) (.int d) = some y ∧ okW y = true := by
        have : d = 0 ∨ d = 1 ∨ d = 2 := by omega
        rcases this with rfl | rfl | rfl
        · exact ⟨_, ix_lst st1 (by decide) rfl, by simp [okW, okWs, w]⟩
        · exact ⟨_, ix_lst st1 (by decide) rfl, by simp [okW, okWs, w]⟩
        · exact ⟨_, ix_lst st1 (by decide) rfl, by simp [okW]⟩
      refine ⟨_, st1, ?_, x1, some y, rfl, w1, hI1⟩
      simp [b25_1, sized_lit, mergeD, putK, e1, e2, setT])
    exact ⟨l3, st3, e, x, o, h1, h2, h3⟩
  refine ⟨x3, st3, ?_, hw, hI3⟩
  have r1 : rngD 0 (1 + k) = some (rangeD 0 (1 + k)) := by unfold rngD; rw [if_pos (by omega)]
  simp [f25, b25, sized_lit, mergeD, e1, e2, setT, e3, add_d, r1, e4]
theorem shl_d (st : Store) : binD st .shl (.int 1) (.int 63) = some (.int 9223372036854775808) := by simp [binD, ints2]
theorem p39 (st : Store) : binD st .pow (.int 10) (.int 39) = some (.int (10 ^ 39)) := pow_d st ⟨by decide, by decide, by decide⟩
theorem p20 (st : Store) : binD st .pow (.int 10) (.int 20) = some (.int (10 ^ 20)) := pow_d st ⟨by decide, by decide, by decide⟩
theorem p30 (st : Store) : binD st .pow (.int 10) (.int 30) = some (.int (10 ^ 30)) := pow_d st ⟨by decide, by decide, by decide⟩
theorem F26 (n : Nat) (th : M) {st : Store} (hI : Inv st) : Ends1 (fun d => okW d = true) (evF P (n+3) 26 [.ref 0] th st) := by
  rw [evF]
  obtain ⟨x, st1, e1, w, hI1⟩ := F25 n (fun _ => .bad) hI
  obtain ⟨d, st2, e2, hd, hI2⟩ := some_of n (xs := [.non, .bl true, .bl false, .int 0, .int (-1), .int 999, .int 9223372036854775808, .str [112], .str [], .tup [], .lst [], .dct [], .tup [.int 1], .tup [.str [97]], x]) (fun d => okW d = true) (by
    intro d hd
    simp only [List.mem_cons, List.not_mem_nil, or_false] at hd
    rcases hd with rfl | rfl | rfl | rfl | rfl | rfl | rfl | rfl | rfl | rfl | rfl | rfl | rfl | rfl | rfl
    all_goals first | exact w | decide +kernel) (by simp) (by simp) (fun _ => .bad) hI1
  refine ⟨d, st2, ?_, hd, hI2⟩
  simp [f26, b26, sized_lit, mergeD, shl_d, e1, e2]
theorem F27 (n : Nat) (th : M) {st : Store} (hI : Inv st) : Ends1 (fun d => okW d = true) (evF P (n+3) 27 [.ref 0] th st) := by
  rw [evF]
  obtain ⟨d, st2, e2, hd, hI2⟩ := some_of n (xs := [.int 999, .int 1000, .int 170141183460469231731687303715884105727, .int 170141183460469231731687303715884105728, .int 170141183460469231731687303715884105729, .bl true, .non, .str [49, 48, 48, 57], .int (-1009), .tup [.int 1009], .int 1009, .int 1013, .int 2, .int 1000000000000000000000000000000000000000]) (fun d => okW d = true) (by
    intro d hd
    simp only [List.mem_cons, List.not_mem_nil, or_false] at hd
    rcases hd with rfl | rfl | rfl | rfl | rfl | rfl | rfl | rfl | rfl | rfl | rfl | rfl | rfl | rfl
    all_goals decide +kernel) (by simp) (by simp) (fun _ => .bad) hI
  refine ⟨d, st2, ?_, hd, hI2⟩
  have := p39 st
  simp at this
  simp [f27, b27, sized_lit, setT, sub_d, add_d, this, e2]
theorem F34 (n : Nat) (th : M) {st : Store} (hI : Inv st) : Ends1 (fun d => okW d = true ∧ isPrime d = true) (evF P (n+3) 34 [.ref 0] th st) := by
  rw [evF]
  obtain ⟨d, st2, e2, hd, hI2⟩ := some_of n (xs := [.int 1009, .int 1013, .int 10007, .int 1000003, .int 2147483647, .int 2305843009213693951, .int 618970019642690137449562111]) (fun d => okW d = true ∧ isPrime d = true) (by
    intro d hd
    simp only [List.mem_cons, List.not_mem_nil, or_false] at hd
    rcases hd with rfl | rfl | rfl | rfl | rfl | rfl | rfl
    all_goals decide +kernel) (by simp) (by simp) (fun _ => .bad) hI
  refine ⟨d, st2, ?_, hd, hI2⟩
  simp [f34, b34, sized_lit, e2]
theorem rep_d (st : Store) {j : Int} (h0 : 0 ≤ j) (h1 : j ≤ 1000) : binD st .mul (.str [39]) (.int j) = some (.str (List.replicate j.toNat 39)) := by
  have hSL : SL = 16777216 := rfl
  simp only [binD, mulD]
  rw [if_pos (by simp only [List.length_cons, List.length_nil]; omega)]
  congr 2
  generalize j.toNat = k
  induction k with
  | zero => rfl
  | succ k ih => simp [List.replicate_succ, ih]
theorem small_W {i : Int} (h : i.natAbs < 2 ^ 200) : okW (.int i) = true := by
  simp only [okW, decide_eq_true_eq]
  by_cases h0 : i.natAbs = 0
  · rw [h0]; decide
  · have := (Nat.log2_lt h0).mpr h
    omega
theorem F35 (n : Nat) (th : M) {st : Store} (hI : Inv st) : Ends1 (fun d => okW d = true ∧ isCell d = true) (evF P (n+3) 35 [.ref 0] th st) := by
  rw [evF]
  obtain ⟨k, st1, e1, k0, k1, hI1⟩ := F19 (n+1) (m := 20) (by decide) (by decide) (fun _ => .bad) hI
  obtain ⟨g, st2, e2, g0, g1, hI2⟩ := F19 (n+1) (m := 3) (by decide) (by decide) (fun _ => .bad) hI1
  have r1 := rep_d st1 (j := 1 + k) (by omega) (by omega)
  by_cases hg : g = 0
  · subst hg
    obtain ⟨d, st3, e3, hd, hI3⟩ := some_of n (xs := [.str [], .str [97], .str [97, 98], .str [105, 116, 39, 115], .str [126], .str [98, 32, 99], .str [120, 126, 39], .str [57], .str [65], .str (List.replicate (1 + k).toNat 39)]) (fun d => okW d = true ∧ isCell d = true) (by
      intro d hd
      simp only [List.mem_cons, List.not_mem_nil, or_false] at hd
      rcases hd with rfl | rfl | rfl | rfl | rfl | rfl | rfl | rfl | rfl | rfl
      all_goals first
        | decide +kernel
        | (constructor
           · simp only [okW, List.length_replicate, decide_eq_true_eq]; omega
           · simp only [isCell, isInt, isWord, List.length_replicate, Bool.false_or, Bool.and_eq_true, decide_eq_true_eq]
             refine ⟨by omega, List.all_eq_true.mpr fun c hc => ?_⟩
             rw [(List.mem_replicate.mp hc).2]; decide)) (by simp) (by simp) (fun _ => .bad) hI2
    refine ⟨d, st3, ?_, hd, hI3⟩
    simp [f35, b35, sized_lit, setT, e1, add_d, r1, e2, eq_ii, e3]
  · have hg' : (g == 0) = false := by simpa using hg
    obtain ⟨a, st3, e3, a0, a1, hI3⟩ := F19 (n+1) (m := 9) (by decide) (by decide) (fun _ => .bad) hI2
    obtain ⟨b, st4, e4, b0', b1, hI4⟩ := F19 (n+1) (m := 60) (by decide) (by decide) (fun _ => .bad) hI3
    obtain ⟨d, st5, e5, hd, hI5⟩ := some_of n (xs := [.int a, .int (b - 30), .int (10 ^ 20 - 1), .int (1 - 10 ^ 20), .int 0, .int (10 ^ 30)]) (fun d => okW d = true ∧ isCell d = true) (by
      intro d hd
      simp only [List.mem_cons, List.not_mem_nil, or_false] at hd
      rcases hd with rfl | rfl | rfl | rfl | rfl | rfl
      all_goals exact ⟨small_W (by omega), rfl⟩) (by simp) (by simp) (fun _ => .bad) hI4
    refine ⟨d, st5, ?_, hd, hI5⟩
    simp only [show (10:Int) ^ 20 - 1 = 99999999999999999999 by decide, show 1 - (10:Int) ^ 20 = -99999999999999999999 by decide, show (10:Int) ^ 30 = 1000000000000000000000000000000 by decide] at e5
    have q20 := p20 st4
    have q30 := p30 st4
    simp at q20 q30
    simp [f35, b35, sized_lit, setT, e1, add_d, r1, e2, eq_ii, hg', e3, e4, sub_d, q20, q30, e5]
/-- a fact as the law draws it -/
def DrawnFact (d : D) : Prop := isFact d = true ∧ okW d = true ∧ ∃ n xs, d = .tup [.str n, .tup xs] ∧ xs ≠ [] ∧ xs.length ≤ 5 ∧ n.length ≤ 10 ∧ (n.all fun c => decide (c < 128)) = true
theorem tup_lst (P : Par) (st : Store) (xs : List D) : biD P st .tuple [.lst xs] = some (.tup xs) := rfl
theorem F36 (n : Nat) (th : M) {st : Store} (hI : Inv st) : Ends1 DrawnFact (evF P (n+4) 36 [.ref 0] th st) := by
  rw [evF]
  obtain ⟨g, st1, e1, g0, g1, hI1⟩ := F19 (n+2) (m := 9) (by decide) (by decide) (fun _ => .bad) hI
  by_cases hg : g = 0
  · subst hg
    obtain ⟨a, st2, e2, ha, hI2⟩ := some_of (n+1) (xs := [.str [97], .str [98], .str [122, 122], .str [114, 117, 108, 101]]) (fun d => okW d = true ∧ isName d = true) (by
      intro d hd
      simp only [List.mem_cons, List.not_mem_nil, or_false] at hd
      rcases hd with rfl | rfl | rfl | rfl
      all_goals decide +kernel) (by simp) (by simp) (fun _ => .bad) hI1
    obtain ⟨b, st3, e3, hb, hI3⟩ := some_of (n+1) (xs := [.str [112, 40, 63, 48, 41, 32, 105, 102, 32, 113, 40, 63, 48, 41], .str [112, 40, 63, 48, 41, 32, 105, 102, 32, 113, 40, 63, 48, 41, 44, 32, 110, 111, 116, 32, 114, 40, 63, 48, 44, 32, 95, 41], .str [112, 40, 39, 105, 116, 126, 39, 115, 39, 41, 32, 105, 102, 32, 113, 40, 49, 41], .str []]) (fun d => okW d = true ∧ isText d = true) (by
      intro d hd
      simp only [List.mem_cons, List.not_mem_nil, or_false] at hd
      rcases hd with rfl | rfl | rfl | rfl
      all_goals decide +kernel) (by simp) (by simp) (fun _ => .bad) hI2
    refine ⟨.tup [.str sRule, .tup [a, b]], st3, ?_, ⟨?_, ?_, _, _, rfl, by simp, by simp, by decide, by decide⟩, hI3⟩
    · simp [f36, b36, sized_lit, setT, e1, eq_ii, e2, e3]
    · show (isName (.str sRule) && (if sRule = sRule then isRuleRow (.tup [a, b]) else isRow (.tup [a, b]))) = true
      rw [if_pos rfl, show isName (.str sRule) = true by decide +kernel]
      simp [isRuleRow, ha.2, hb.2]
    · simp [okW, okWs, ha.1, hb.1]
  · have hg' : (g == 0) = false := by simpa using hg
    obtain ⟨a, st2, e2, ha, hI2⟩ := some_of (n+1) (xs := [.str [97], .str [98], .str [98], .str [98, 97, 103], .str [113], .str [122, 122]]) (fun d => d = .str [97] ∨ d = .str [98] ∨ d = .str [98, 97, 103] ∨ d = .str [113] ∨ d = .str [122, 122]) (by
      intro d hd
      simp only [List.mem_cons, List.not_mem_nil, or_false] at hd
      rcases hd with rfl | rfl | rfl | rfl | rfl | rfl <;> simp) (by simp) (by simp) (fun _ => .bad) hI1
    obtain ⟨k, st3, e3, k0, k1, hI3⟩ := F19 (n+2) (m := 5) (by decide) (by decide) (fun _ => .bad) hI2
    obtain ⟨m, e4, m0, m1⟩ : ∃ m : Int, ixD st3 (.dct [(.s [97], .int 1), (.s [98], .int 2), (.s [98, 97, 103], .int 3), (.s [113], .int (1 + k)), (.s [122, 122], .int 2)]) a = some (.int m) ∧ 1 ≤ m ∧ m ≤ 5 := by
      rcases ha with rfl | rfl | rfl | rfl | rfl
      · exact ⟨1, rfl, by decide, by decide⟩
      · exact ⟨2, rfl, by decide, by decide⟩
      · exact ⟨3, rfl, by decide, by decide⟩
      · exact ⟨1 + k, rfl, by omega, by omega⟩
      · exact ⟨2, rfl, by decide, by decide⟩
    have r1 : rngD 0 m = some (rangeD 0 m) := by unfold rngD; rw [if_pos (by omega)]
    obtain ⟨ds, st4, e5, l5, p5, hI4⟩ := compL_inv (t := .nm 4) (tst := fun l st => Res.ok true st) (elt := fun l st => (((optR l[0]? fun o => optR o fun d => Res.ok d st).bind fun d st => Res.ok [d] st).bind fun ds st => evF P (n+3) 35 ds (fun _ => .bad) st)) (l := [some (.ref 0), some a, some (.int m), none, none]) (I := Inv) (p := fun d => okW d = true ∧ isCell d = true) (rangeD 0 m) st3 hI3 (fun x _ st hI => by
      refine ⟨_, rfl, rfl, ?_⟩
      obtain ⟨d, st', e, h, hI'⟩ := F35 n (fun _ => .bad) hI
      exact ⟨d, st', by simp [e], h, hI'⟩)
    have hlen : ds.length = m.toNat := by rw [l5]; simp [rangeD]
    have hcell : ds.all isCell = true := List.all_eq_true.mpr fun d hd => (p5 d hd).2
    have hokw : okWs ds = true := by
      have : ∀ ds : List D, (∀ d ∈ ds, okW d = true) → okWs ds = true := by
        intro ds
        induction ds with
        | nil => intro _; rfl
        | cons x xs ih => intro h; simp [okWs, h x (List.mem_cons_self ..), ih fun d hd => h d (List.mem_cons_of_mem _ hd)]
      exact this ds fun d hd => (p5 d hd).1
    have hrow : isRow (.tup ds) = true := by
      simp only [isRow, hcell, Bool.and_true, Bool.and_eq_true, decide_eq_true_eq]; omega
    refine ⟨.tup [a, .tup ds], st4, ?_, ?_, hI4⟩
    · simp [f36, b36, sized_lit, setT, e1, eq_ii, hg', e2, e3, add_d, mergeD, putK, e4, r1]
      rw [e5]
      simp [sized_lit (show ds.length ≤ 1000 by omega), tup_lst, sized_lit (show [a, D.tup ds].length ≤ 1000 by simp)]
    · have hne : ds ≠ [] := by intro h; subst h; simp at hlen; omega
      rcases ha with rfl | rfl | rfl | rfl | rfl
      all_goals exact ⟨by simp [isFact, hrow, isName], by simp [okW, okWs, hokw], _, ds, rfl, hne, by omega, by decide, by decide⟩
abbrev sg38 : List D := [.str [32], .str [126], .str [39], .str [97], .str [90], .str [48], .str [10], .str [95], .str [33], .str [125], .str [44], .str [40]]
abbrev el38 (n : Nat) : Loc → Store → Res D := fun l st => (((optR l[0]? fun o => optR o fun d => Res.ok d st).bind fun d st => ((optR l[1]? fun o => optR o fun d => Res.ok d st).bind fun d st => Res.ok [d] st).bind fun ds st => Res.ok (d :: ds) st).bind fun ds st => evF P (n+2) 20 ds (fun _ => .bad) st)
theorem main38 (n : Nat) (m : Int) (st2 : Store) (m0 : 0 ≤ m) (m1 : m ≤ 2000) (hI2 : Inv st2) :
    ∃ (ds : List (List Nat)) (st3 : Store), compL (.nm 3) (fun l st => Res.ok true st) (el38 n) [some (.ref 0), some (.lst sg38), some (.int m), none] (rangeD 0 m) st2 = .ok (ds.map .str) st3 ∧ ds.length ≤ 2000 ∧ (∀ x ∈ ds, x.length = 1 ∧ x.all okc = true) ∧ Inv st3 := by
  obtain ⟨ds, st3, e, l, p, hI3⟩ := compL_inv (t := .nm 3) (tst := fun l st => Res.ok true st) (elt := el38 n) (l := [some (.ref 0), some (.lst sg38), some (.int m), none]) (I := Inv) (p := fun d => ∃ x, d = .str x ∧ x.length = 1 ∧ x.all okc = true) (rangeD 0 m) st2 hI2 (fun x _ st hI => by
    refine ⟨_, rfl, rfl, ?_⟩
    obtain ⟨d, st', e, h, hI'⟩ := some_of n (xs := sg38) (fun d => ∃ x, d = .str x ∧ x.length = 1 ∧ x.all okc = true) (by
      intro d hd
      simp only [List.mem_cons, List.not_mem_nil, or_false] at hd
      rcases hd with rfl | rfl | rfl | rfl | rfl | rfl | rfl | rfl | rfl | rfl | rfl | rfl
      all_goals exact ⟨_, rfl, rfl, by decide⟩) (by simp) (by simp) (fun _ => .bad) hI
    exact ⟨d, st', by simp [el38, e], h, hI'⟩)
  have this : ∀ ds : List D, (∀ d ∈ ds, ∃ x : List Nat, d = .str x ∧ x.length = 1 ∧ x.all okc = true) → ∃ xs : List (List Nat), ds = xs.map .str ∧ ∀ x ∈ xs, x.length = 1 ∧ x.all okc = true := by
    intro ds
    induction ds with
    | nil => intro _; exact ⟨[], rfl, fun x hx => nomatch hx⟩
    | cons d ds ih =>
      intro h
      obtain ⟨x, rfl, h1, h2⟩ := h d (List.mem_cons_self ..)
      obtain ⟨xs, rfl, h3⟩ := ih fun d hd => h d (List.mem_cons_of_mem _ hd)
      refine ⟨x :: xs, rfl, fun y hy => ?_⟩
      rcases List.mem_cons.mp hy with e | e
      · rw [e]; exact ⟨h1, h2⟩
      · exact h3 y e
  obtain ⟨xs, rfl, hx⟩ := this ds p
  refine ⟨xs, st3, e, ?_, hx, hI3⟩
  simp [rangeD] at l
  omega
theorem F38 (n : Nat) (th : M) {st : Store} (hI : Inv st) : Ends1 (fun d => okW d = true ∧ isText d = true) (evF P (n+3) 38 [.ref 0] th st) := by
  have hSL : SL = 16777216 := rfl
  rw [evF]
  obtain ⟨g, st1, e1, g0, g1, hI1⟩ := F19 (n+1) (m := 4) (by decide) (by decide) (fun _ => .bad) hI
  have fin : ∀ (ds : List (List Nat)) (st3 : Store), ds.length ≤ 2000 → (∀ x ∈ ds, x.length = 1 ∧ x.all okc = true) → (ds.map D.str).length ≤ SL ∧ mtD P .join (.str []) [.lst (ds.map .str)] st3 = some (.str ds.flatten, st3) ∧ okW (.str ds.flatten) = true ∧ isText (.str ds.flatten) = true := by
    intro ds st3 l p
    have s1 := sum_len 1 ds (fun x hx => by rw [(p x hx).1]; exact Nat.le_refl _)
    refine ⟨by rw [List.length_map]; omega, ?_, ?_, ?_⟩
    · rw [join_d P st3 [] ds (by simp only [List.length_nil, Nat.mul_zero, Nat.add_zero]; omega), joinT_nil]
    · simp only [okW, List.length_flatten, decide_eq_true_eq]; omega
    · simp only [isText, List.all_flatten]
      exact List.all_eq_true.mpr fun x hx => (p x hx).2
  by_cases hg : g = 0
  · subst hg
    obtain ⟨m, st2, e2, hm, hI2⟩ := some_of n (xs := [.int 0, .int 1, .int 12, .int 200, .int 2000]) (fun d => ∃ m : Int, d = .int m ∧ 0 ≤ m ∧ m ≤ 2000) (by
      intro d hd
      simp only [List.mem_cons, List.not_mem_nil, or_false] at hd
      rcases hd with rfl | rfl | rfl | rfl | rfl
      all_goals exact ⟨_, rfl, by decide, by decide⟩) (by simp) (by simp) (fun _ => .bad) hI1
    obtain ⟨m, rfl, m0, m1⟩ := hm
    obtain ⟨ds, st3, e3, l, p, hI3⟩ := main38 n m st2 m0 m1 hI2
    obtain ⟨k1, k2, k3, k4⟩ := fin ds st3 l p
    refine ⟨_, st3, ?_, ⟨k3, k4⟩, hI3⟩
    have r1 : rngD 0 m = some (rangeD 0 m) := by unfold rngD; rw [if_pos (by omega)]
    simp [f38, b38, sized_lit, setT, e1, eq_ii, e2, r1, mtOk, mtK]
    rw [e3, calm_ok, bind_ok, sized_ok k1]
    simp [k2]
  · have hg' : (g == 0) = false := by simpa using hg
    obtain ⟨m, st2, e2, m0, m1, hI2⟩ := F19 (n+1) (m := 9) (by decide) (by decide) (fun _ => .bad) hI1
    obtain ⟨ds, st3, e3, l, p, hI3⟩ := main38 n m st2 m0 (by omega) hI2
    obtain ⟨k1, k2, k3, k4⟩ := fin ds st3 l p
    refine ⟨_, st3, ?_, ⟨k3, k4⟩, hI3⟩
    have r1 : rngD 0 m = some (rangeD 0 m) := by unfold rngD; rw [if_pos (by omega)]
    simp [f38, b38, sized_lit, setT, e1, eq_ii, hg', e2, r1, mtOk, mtK]
    rw [e3, calm_ok, bind_ok, sized_ok k1]
    simp [k2]
end Pk27

set_option linter.all false
set_option maxRecDepth 100000
set_option maxHeartbeats 4000000
/-! Pl8: the judges, words (k27). -/
namespace Pk27
open Pm Pl
set_option autoImplicit false
theorem isFact_a {a b : D} (h : isName a = false) : isFact (.tup [a, b]) = false := by
  cases hf : isFact (.tup [a, b]) with
  | false => rfl
  | true =>
    exfalso
    unfold isFact at hf
    split at hf
    · rename_i heq; cases heq; simp [h] at hf
    · cases hf
theorem F32 (n : Nat) (d : D) (th : M) (st : Store) (h : okD d = true) : evF P (n+2) 32 [d] th st = .ok (.bl (isFact d)) st := by
  rw [evF]
  cases d with
  | tup xs =>
    match xs, h with
    | [], h => simp [f32, b32, liveT, live, isD, len_tup, ne_ii, isFact]
    | [a], h => simp [f32, b32, liveT, live, isD, len_tup, ne_ii, isFact]
    | a :: b :: c :: r, h =>
      have : ((r.length : Int) + 1 + 1 + 1 == 2) = false := by simp; omega
      simp [f32, b32, liveT, live, isD, len_tup, ne_ii, isFact, this]
    | [a, b], h =>
      have ha : okD a = true := by simp [okD, oks] at h; exact h.1
      have hb : okD b = true := by simp [okD, oks] at h; exact h.2
      have e2 := F31 n a (fun _ => Res.bad) st ha
      cases hn : isName a with
      | false => simp [f32, b32, liveT, live, isD, len_tup, ne_ii, isFact_a hn, ix0, e2, hn]
      | true =>
        obtain ⟨x, rfl⟩ := isName_str hn
        cases b with
        | tup ys =>
          by_cases hx : x = sRule
          · subst hx
            match ys, hb with
            | [], _ => simp [f32, b32, liveT, live, isD, len_tup, ne_ii, ix0, ix1, e2, hn, eq_ss, eq_ii, isFact, isRuleRow]
            | [_], _ => simp [f32, b32, liveT, live, isD, len_tup, ne_ii, ix0, ix1, e2, hn, eq_ss, eq_ii, isFact, isRuleRow]
            | a :: b :: c :: r, _ =>
              have : ((r.length : Int) + 1 + 1 + 1 == 2) = false := by simp; omega
              simp [f32, b32, liveT, live, isD, len_tup, ne_ii, ix0, ix1, e2, hn, eq_ss, eq_ii, isFact, isRuleRow, this]
            | [t, u], hb =>
              have ht : okD t = true := by simp [okD, oks] at hb; exact hb.1
              have hu : okD u = true := by simp [okD, oks] at hb; exact hb.2
              have e5 := F31 n t (fun _ => Res.bad) st ht
              have e6 := F29 n u (fun _ => Res.bad) st hu
              cases hn2 : isName t <;> simp [f32, b32, liveT, live, isD, len_tup, ne_ii, ix0, ix1, e2, hn, eq_ss, eq_ii, isFact, isRuleRow, e5, hn2, e6]
          · have hx2 : (x == [114, 117, 108, 101]) = false := by simpa using hx
            have e1 : ((1 : Int) ≤ (ys.length : Int)) ↔ 1 ≤ ys.length := by omega
            have e3 : ((ys.length : Int) ≤ 5) ↔ ys.length ≤ 5 := by omega
            by_cases h1 : 1 ≤ ys.length
            · by_cases h2 : ys.length ≤ 5
              · simp [f32, b32, liveT, live, isD, len_tup, ne_ii, ix0, ix1, e2, hn, eq_ss, eq_ii, isFact, hx, hx2, le_ii, e1, e3, h1, h2, isRow, seq_tup]
                rw [show ys = ys.map id from (List.map_id ys).symm, compL_mapf id (fun d => .bl (isCell d))]
                · rw [calm_ok, bind_ok, sized_lit (by simp; omega), bind_ok, bind_ok, all_map, List.map_id]; rfl
                · intro c hc
                  have e2 := F30 n c (fun _ => Res.bad) st (oks_mem (by simpa [okD] using hb) hc)
                  simp [setT, e2]
              · simp [f32, b32, liveT, live, isD, len_tup, ne_ii, ix0, ix1, e2, hn, eq_ss, eq_ii, isFact, hx, hx2, le_ii, e1, e3, h1, h2, isRow]
            · simp [f32, b32, liveT, live, isD, len_tup, ne_ii, ix0, ix1, e2, hn, eq_ss, eq_ii, isFact, hx, hx2, le_ii, e1, e3, h1, isRow]
        | ref _ => simp [okD] at hb
        | scr _ => simp [okD] at hb
        | _ =>
          by_cases hx : x = sRule
          · subst hx
            simp [f32, b32, liveT, live, isD, len_tup, ne_ii, ix0, ix1, e2, hn, isFact, isRuleRow]
          · simp [f32, b32, liveT, live, isD, len_tup, ne_ii, ix0, ix1, e2, hn, isFact, isRow, hx]
  | ref _ => simp [okD] at h
  | scr _ => simp [okD] at h
  | _ => simp [f32, b32, liveT, live, isD, isFact]
theorem F37i (n : Nat) (i : Int) (th : M) (st : Store) : evF P (n+1) 37 [.int i, .int i] th st = .ok (.bl true) st := by
  rw [evF]
  simp [f37, b37, liveT, live, isD, eq_ii, eq_bb, isNon]
theorem F37s (n : Nat) (x : List Nat) (th : M) (st : Store) : evF P (n+1) 37 [.str x, .str x] th st = .ok (.bl true) st := by
  rw [evF]
  simp [f37, b37, liveT, live, isD, eq_ss, eq_bb, isNon]
abbrev sLet : List Nat := [108, 101, 116]
abbrev sPrime : List Nat := [112, 114, 105, 109, 101]
abbrev sText : List Nat := [116, 101, 120, 116]
abbrev sFact : List Nat := [102, 97, 99, 116]
/-- the word for an end -/
def wordOf : Res D → Option D
  | .ok d _ => some (.tup [.str sLet, d])
  | .exc 1 [] _ => some (.str sPrime)
  | .exc 3 [] _ => some (.str sText)
  | .exc 2 [] _ => some (.str sFact)
  | _ => none
theorem cnt (P : Par) (st : Store) (bs : List Bool) : mtD P .count (.lst (bs.map .bl)) [.bl true] st = some (.int (bs.count true), st) := by
  have : boolsOf (bs.map .bl) = some bs := by
    have := boolsOf_map id bs
    simpa using this
  simp [mtD, listOf, this]
theorem idx (P : Par) (st : Store) (bs : List Bool) (h : true ∈ bs) : mtD P .index (.lst (bs.map .bl)) [.bl true] st = some (.int (bs.idxOf true), st) := by
  have : boolsOf (bs.map .bl) = some bs := by
    have := boolsOf_map id bs
    simpa using this
  simp [mtD, listOf, this, h]
theorem F42 (n : Nat) (th : M) (st st' : Store) (r : Res D) (w : D) (hr : th st = r) (hw : wordOf r = some w) (hs : (∃ d, r = .ok d st') ∨ ∃ k, r = .exc k [] st') : evF P (n+1) 42 [] th st = .ok w st' := by
  rw [evF]
  rcases hs with ⟨d, rfl⟩ | ⟨k, rfl⟩
  · simp [wordOf] at hw
    subst hw
    simp [f42, b42, hr, sized_lit]
  · have cs : ∀ k : Nat, k < 4 → P.catches 0 k = some ((P.anc k).contains 0) := fun k hk => by
      unfold Par.catches; rw [P_n, if_pos hk]
    have hk : k = 1 ∧ w = .str sPrime ∨ k = 3 ∧ w = .str sText ∨ k = 2 ∧ w = .str sFact := by
      unfold wordOf at hw
      split at hw <;> simp_all
    rcases hk with ⟨rfl, rfl⟩ | ⟨rfl, rfl⟩ | ⟨rfl, rfl⟩
    · have c1 := cnt P st' [true, false, false]
      have i1 := idx P st' [true, false, false] (by simp)
      have x1 := ix_lst st' (xs := [.str sPrime, .str sText, .str sFact]) (i := 0) (by decide) rfl
      simp at c1 i1 x1
      simp [f42, b42, hr, sized_lit, cs, isE, setT, mtOk, mtK, listOf, c1, i1, eq_ii, x1]
    · have c1 := cnt P st' [false, true, false]
      have i1 := idx P st' [false, true, false] (by simp)
      rw [show List.idxOf true [false, true, false] = 1 by decide] at i1
      have x1 := ix_lst st' (xs := [.str sPrime, .str sText, .str sFact]) (i := 1) (by decide) rfl
      simp at c1 i1 x1
      simp [f42, b42, hr, sized_lit, cs, isE, setT, mtOk, mtK, listOf, c1, i1, eq_ii, x1]
    · have c1 := cnt P st' [false, false, true]
      have i1 := idx P st' [false, false, true] (by simp)
      rw [show List.idxOf true [false, false, true] = 2 by decide] at i1
      have x1 := ix_lst st' (xs := [.str sPrime, .str sText, .str sFact]) (i := 2) (by decide) rfl
      simp at c1 i1 x1
      simp [f42, b42, hr, sized_lit, cs, isE, setT, mtOk, mtK, listOf, c1, i1, eq_ii, x1]
end Pk27

set_option linter.all false
set_option maxRecDepth 100000
set_option maxHeartbeats 4000000
/-! Pl9: the law (k27). -/
namespace Pk27
open Pm Pl
set_option autoImplicit false
theorem F18 (n : Nat) (ns : List Int) (hn : ns.length ≤ 63) (th : M) : ∃ st, evF P (n+1) 18 [.scr ns] th [] = .ok (.ref 0) st ∧ Inv st := by
  have hSL : SL = 16777216 := rfl
  have hc : cut ns none (some 63) = ns := by
    simp [cut, cutIx]
    rw [List.take_of_length_le]; omega
  refine ⟨hs (ns.map fun i => if i < 0 then -i else i) 0 0 (97 + 5 * (ns.length : Int)) 0, ?_, _, _, _, _, _, rfl, by decide, by decide, ?_⟩
  · rw [evF]
    simp [f18, b18, slcD, hc, seqOf]
    rw [compL_mapf D.int (fun i => .int (if i < 0 then -i else i))]
    · rw [calm_ok, bind_ok, sized_ok (by rw [List.length_map]; omega)]
      have k1 := mul_d [] (mulL (a := 5) (b := (ns.length : Int)) (by decide) (by decide))
      simp [setT, len_lst, k1, add_d, sized_lit, boxD, hs]
    · intro i _
      exact ⟨_, rfl, rfl, by simp [bi_int, bi_abs]⟩
  · intro z hz
    obtain ⟨i, _, rfl⟩ := List.mem_map.mp hz
    split <;> omega
theorem okWs_of : ∀ {ds : List D}, (∀ d ∈ ds, okW d = true) → okWs ds = true := by
  intro ds
  induction ds with
  | nil => intro _; rfl
  | cons x xs ih => intro h; simp [okWs, h x (List.mem_cons_self ..), ih fun d hd => h d (List.mem_cons_of_mem _ hd)]
theorem tup_W {ds : List D} (h : ∀ d ∈ ds, okW d = true) : okW (.tup ds) = true := by simp only [okW]; exact okWs_of h
theorem lst_W {ds : List D} (h : ∀ d ∈ ds, okW d = true) : okW (.lst ds) = true := by simp only [okW]; exact okWs_of h
theorem two_W {a b : D} (ha : okW a = true) (hb : okW b = true) : okW (.tup [a, b]) = true := by simp [okW, okWs, ha, hb]
theorem lst2_W {a b : D} (ha : okW a = true) (hb : okW b = true) : okW (.lst [a, b]) = true := by simp [okW, okWs, ha, hb]
theorem tup3_W {a b c : D} (ha : okW a = true) (hb : okW b = true) (hc : okW c = true) : okW (.tup [a, b, c]) = true := by simp [okW, okWs, ha, hb, hc]
theorem slc_tup (st : Store) (xs : List D) (lo hi : Option Int) : slcD st (.tup xs) lo hi = some (.tup (cut xs lo hi)) := rfl
theorem cut_mem {xs : List D} {lo hi : Option Int} {d : D} (h : d ∈ cut xs lo hi) : d ∈ xs := List.mem_of_mem_drop (List.mem_of_mem_take h)
theorem cut_len {xs : List D} {lo hi : Option Int} : (cut xs lo hi).length ≤ xs.length := by
  unfold cut; rw [List.length_take, List.length_drop]; omega
theorem add_tt (st : Store) {x y : List D} (h : x.length + y.length ≤ SL) : binD st .add (.tup x) (.tup y) = some (.tup (x ++ y)) := by
  simp [binD, addD, h]
theorem add_ll (st : Store) {x y : List D} (h : x.length + y.length ≤ SL) : binD st .add (.lst x) (.lst y) = some (.lst (x ++ y)) := by
  simp [binD, addD, listOf, h]
theorem mul_t (st : Store) {x : List D} (h : x.length ≤ 1000) (h2 : x ≠ []) : binD st .mul (.tup x) (.int 6) = some (.tup (List.replicate 6 x).flatten) := by
  simp [binD, mulD, h, h2]
theorem rep21 (st : Store) : binD st .mul (.str [97]) (.int 21) = some (.str [97, 97, 97, 97, 97, 97, 97, 97, 97, 97, 97, 97, 97, 97, 97, 97, 97, 97, 97, 97, 97]) := by
  have hSL : SL = 16777216 := rfl
  simp only [binD, mulD]
  rw [if_pos (by simp only [List.length_cons, List.length_nil]; omega)]
  rfl
theorem upper_d (P : Par) (st : Store) {x : List Nat} (h : x.length ≤ 10) (h2 : (x.all fun c => decide (c < 128)) = true) : mtD P .upper (.str x) [] st = some (.str (x.map fun c => if 97 ≤ c ∧ c ≤ 122 then c - 32 else c), st) := by
  simp only [mtD]
  rw [if_pos ⟨by omega, h2⟩]
theorem F33 (n : Nat) {d : D} (hd : DrawnFact d) (th : M) {st : Store} (hI : Inv st) : Ends1 (fun d => okW d = true) (evF P (n+4) 33 [.ref 0, d] th st) := by
  have hSL : SL = 16777216 := rfl
  obtain ⟨hf, hw, name, xs, rfl, hne, hl, hnl, h128⟩ := hd
  have wn : okW (.str name) = true := by simp [okW]; omega
  have wx : ∀ w ∈ xs, okW w = true := fun w hw' => by
    simp only [okW, okWs, Bool.and_eq_true] at hw
    exact okWs_mem hw.2.1 hw'
  have wr : okW (.tup xs) = true := tup_W wx
  rw [evF]
  have st0 : setT (.tp [3, 4]) (.tup [.str name, .tup xs]) [some (.ref 0), some (.tup [.str name, .tup xs]), none, none, none, none, none] = some [some (.ref 0), some (.tup [.str name, .tup xs]), none, some (.str name), some (.tup xs), none, none] := by simp [setT]
  by_cases hx : name = sRule
  · subst hx
    obtain ⟨o, st1, e1, wo, hI1⟩ := F26 n (fun _ => .bad) hI
    obtain ⟨a, r, rfl⟩ : ∃ a r, xs = a :: r := by
      cases xs with
      | nil => exact absurd rfl hne
      | cons a r => exact ⟨a, r, rfl⟩
    have wa : okW a = true := wx a (List.mem_cons_self ..)
    obtain ⟨d, st2, e2, hd, hI2⟩ := some_of (n+1) (xs := [.lst [.str sRule, .tup (a :: r)], .tup [.str sRule, .lst (a :: r)], .tup [.str sRule, .tup [a, .non]], .tup [.str sRule, .tup []], o]) (fun d => okW d = true) (by
      intro d hd
      simp only [List.mem_cons, List.not_mem_nil, or_false] at hd
      rcases hd with rfl | rfl | rfl | rfl | rfl
      · exact lst2_W wn wr
      · exact two_W wn (lst_W wx)
      · exact two_W wn (two_W wa rfl)
      · exact two_W wn rfl
      · exact wo) (by simp) (by simp) (fun _ => .bad) hI1
    refine ⟨d, st2, ?_, hd, hI2⟩
    simp [f33, b33, st0, eq_ss, bi_list_tup, sized_lit, ix_tup0, e1, e2]
  · have hx2 : (name == [114, 117, 108, 101]) = false := by simpa using hx
    have hxl : 0 < xs.length := List.length_pos_iff.mpr hne
    obtain ⟨a, st1, e1, a0, a1, hI1⟩ := F19 (n+2) (m := (xs.length : Int)) (by omega) (by omega) (fun _ => .bad) hI
    obtain ⟨t, st2, e2, wt, hI2⟩ := some_of (n+1) (xs := [.bl true, .non, (.str [97, 97, 97, 97, 97, 97, 97, 97, 97, 97, 97, 97, 97, 97, 97, 97, 97, 97, 97, 97, 97]), .lst [.str [97]], .tup [.str [97]], .str [97, 10], .str [98], .int 5]) (fun d => okW d = true) (by
      intro d hd
      simp only [List.mem_cons, List.not_mem_nil, or_false] at hd
      rcases hd with rfl | rfl | rfl | rfl | rfl | rfl | rfl | rfl
      all_goals decide +kernel) (by simp) (by simp) (fun _ => .bad) hI1
    obtain ⟨o, st3, e3, wo, hI3⟩ := F26 n (fun _ => .bad) hI2
    have c1 : (cut xs none (some a)).length ≤ xs.length := cut_len
    have c2 : (cut xs (some (a + 1)) none).length ≤ xs.length := cut_len
    have w1 : ∀ w ∈ cut xs none (some a) ++ [t] ++ cut xs (some (a + 1)) none, okW w = true := by
      intro w hw'
      rcases List.mem_append.mp hw' with e | e
      · rcases List.mem_append.mp e with e | e
        · exact wx w (cut_mem e)
        · have : w = t := by simpa using e
          rw [this]; exact wt
      · exact wx w (cut_mem e)
    have k1 := add_tt st2 (x := cut xs none (some a)) (y := [t]) (by simp only [List.length_cons, List.length_nil]; omega)
    have k2 := add_tt st2 (x := cut xs none (some a) ++ [t]) (y := cut xs (some (a + 1)) none) (by simp only [List.length_append, List.length_cons, List.length_nil]; omega)
    obtain ⟨six, k3, w6⟩ : ∃ six, binD st2 .mul (.tup xs) (.int 6) = some (.tup six) ∧ ∀ w ∈ six, okW w = true := by
      refine ⟨_, mul_t st2 (x := xs) (by omega) hne, fun w hw' => ?_⟩
      obtain ⟨l, hl, h⟩ := List.mem_flatten.mp hw'
      rw [(List.mem_replicate.mp hl).2] at h
      exact wx w h
    obtain ⟨up, k4, lup⟩ : ∃ up : List Nat, mtD P .upper (.str name) [] st2 = some (.str up, st2) ∧ up.length = name.length := ⟨_, upper_d P st2 hnl h128, List.length_map _⟩
    have k5 := add_ss st2 (x := name) (y := [122, 122, 122, 122, 122, 122, 122, 122, 122]) (by simp only [List.length_cons, List.length_nil]; omega)
    have k6 := add_tt st2 (x := [.str name, .tup xs]) (y := [.int 1]) (by simp only [List.length_cons, List.length_nil]; omega)
    have k7 := add_ll st3 (x := [.tup [.str name, .tup (cut xs none (some a) ++ [t] ++ cut xs (some (a + 1)) none)], .tup [.str name, .tup []], .tup [.str name, .tup six], .lst [.str name, .tup xs], .tup [.str up, .tup xs]])
      (y := [.tup [.str (name ++ [122, 122, 122, 122, 122, 122, 122, 122, 122]), .tup xs], .tup [.str [], .tup xs], .tup [.str name, .lst xs], .tup [.str name, .tup xs, .int 1], .tup [.int 1, .tup xs], o]) (by simp only [List.length_cons, List.length_nil]; omega)
    obtain ⟨d, st4, e4, hd, hI4⟩ := some_of (n+1) (xs := [.tup [.str name, .tup (cut xs none (some a) ++ [t] ++ cut xs (some (a + 1)) none)], .tup [.str name, .tup []], .tup [.str name, .tup six], .lst [.str name, .tup xs], .tup [.str up, .tup xs]] ++ [.tup [.str (name ++ [122, 122, 122, 122, 122, 122, 122, 122, 122]), .tup xs], .tup [.str [], .tup xs], .tup [.str name, .lst xs], .tup [.str name, .tup xs, .int 1], .tup [.int 1, .tup xs], o]) (fun d => okW d = true) (by
      intro d hd
      simp only [List.mem_append, List.mem_cons, List.not_mem_nil, or_false] at hd
      rcases hd with (rfl | rfl | rfl | rfl | rfl) | (rfl | rfl | rfl | rfl | rfl | rfl)
      · exact two_W wn (tup_W (by simpa using w1))
      · exact two_W wn rfl
      · exact two_W wn (tup_W w6)
      · exact lst2_W wn wr
      · exact two_W (by simp [okW]; omega) wr
      · exact two_W (by simp [okW]; omega) wr
      · exact two_W rfl wr
      · exact two_W wn (lst_W wx)
      · exact tup3_W wn wr rfl
      · exact two_W rfl wr
      · exact wo) (by simp) (by simp) (fun _ => .bad) hI3
    refine ⟨d, st4, ?_, hd, hI4⟩
    simp only [List.cons_append, List.nil_append, List.append_assoc] at k2 k6 k7 e4
    have r21 := rep21 st1
    have sp : setT (.tp [5, 6]) (.tup [.int a, t]) [some (.ref 0), some (.tup [.str name, .tup xs]), none, some (.str name), some (.tup xs), none, none] = some [some (.ref 0), some (.tup [.str name, .tup xs]), none, some (.str name), some (.tup xs), some (.int a), some t] := by simp [setT]
    have st2s : ∀ (v : D) (l : Loc), 2 < l.length → setT (.nm 2) v l = some (l.set 2 (some v)) := fun v l h => by simp [setT, h]
    simp [f33, b33, st0, eq_ss, hx2, len_tup, e1, r21, sized_lit, e2, sp, slc_tup, k1, add_d, k2, k3, bi_list_tup, mtOk, mtK, k4, st2s]
    simp [k5, sized_lit, bi_list_tup, k6, e3, k7, st2s, e4]
end Pk27

set_option linter.all false
set_option maxRecDepth 100000
set_option maxHeartbeats 4000000
/-! Pl10: the law (k27). -/
namespace Pk27
open Pm Pl
set_option autoImplicit false
theorem F39a (n : Nat) (r : D) (th : M) (st : Store) : evF P (n+1) 39 [.tup [.str sLet, r], .non] th st = .ok (.bl true) st := by
  rw [evF]
  simp [f39, b39, live, isNon, ix0, eq_ss]
theorem F39b (n : Nat) (x : List Nat) (th : M) (st : Store) : evF P (n+1) 39 [.str x, .str x] th st = .ok (.bl true) st := by
  rw [evF]
  simp [f39, b39, live, isNon, eq_ss]
section
variable (n : Nat) (th0 : M) (xc : Option Nat) {l : Loc} {p t f : D} (st : Store)
theorem J9 (hp : l[5]? = some (some p)) (ht : l[1]? = some (some t)) (wp : okW p = true) (wt : okW t = true) :
    ∃ w, evF P (n+6) 42 [] (evE P (evF P (n+6)) th0 xc (.call 9 (.cons (.v 5) (.cons (.v 1) .nil))) l) st = .ok w st ∧
      ((isPrime p = true ∧ isText t = true ∧ ∃ r, w = .tup [.str sLet, r]) ∨ (isPrime p = true ∧ isText t = false ∧ w = .str sText) ∨ (isPrime p = false ∧ w = .str sPrime)) := by
  have e : evE P (evF P (n+6)) th0 xc (.call 9 (.cons (.v 5) (.cons (.v 1) .nil))) l st = if isPrime p then (if isText t then mixR p t st else .exc 3 [] st) else .exc 1 [] st := by
    simp [hp, ht, F9 (n+2) p t _ st (okW_ok p wp) (okW_ok t wt)]
  cases h1 : isPrime p with
  | false =>
    rw [h1] at e
    exact ⟨_, F42 (n+5) _ st st _ (.str sPrime) e rfl (.inr ⟨1, rfl⟩), .inr (.inr ⟨rfl, rfl⟩)⟩
  | true =>
    cases h2 : isText t with
    | false =>
      rw [h1, h2] at e
      exact ⟨_, F42 (n+5) _ st st _ (.str sText) e rfl (.inr ⟨3, rfl⟩), .inr (.inl ⟨rfl, rfl, rfl⟩)⟩
    | true =>
      rw [h1, h2] at e
      obtain ⟨i, rfl, _⟩ := isPrime_int h1
      obtain ⟨x, rfl, _⟩ := isText_str h2
      exact ⟨_, F42 (n+5) _ st st _ _ e rfl (.inl ⟨_, rfl⟩), .inl ⟨rfl, rfl, _, rfl⟩⟩
theorem J17 (hp : l[5]? = some (some p)) (hf : l[2]? = some (some f)) (wp : okW p = true) (wf : okW f = true) :
    ∃ w, evF P (n+6) 42 [] (evE P (evF P (n+6)) th0 xc (.call 17 (.cons (.v 5) (.cons (.v 2) .nil))) l) st = .ok w st ∧
      ((isPrime p = true ∧ isFact f = true ∧ ∃ r, w = .tup [.str sLet, r]) ∨ (isPrime p = true ∧ isFact f = false ∧ w = .str sFact) ∨ (isPrime p = false ∧ w = .str sPrime)) := by
  have e : evE P (evF P (n+6)) th0 xc (.call 17 (.cons (.v 5) (.cons (.v 2) .nil))) l st = if isPrime p then (if isFact f then numR p f st else .exc 2 [] st) else .exc 1 [] st := by
    simp [hp, hf, F17 n p f _ st (okW_ok p wp) wf]
  cases h1 : isPrime p with
  | false =>
    rw [h1] at e
    exact ⟨_, F42 (n+5) _ st st _ (.str sPrime) e rfl (.inr ⟨1, rfl⟩), .inr (.inr ⟨rfl, rfl⟩)⟩
  | true =>
    cases h2 : isFact f with
    | false =>
      rw [h1, h2] at e
      exact ⟨_, F42 (n+5) _ st st _ (.str sFact) e rfl (.inr ⟨2, rfl⟩), .inr (.inl ⟨rfl, rfl, rfl⟩)⟩
    | true =>
      rw [h1, h2] at e
      obtain ⟨i, rfl, _⟩ := isPrime_int h1
      exact ⟨_, F42 (n+5) _ st st _ _ e rfl (.inl ⟨_, rfl⟩), .inl ⟨rfl, rfl, _, rfl⟩⟩
theorem J15 (hf : l[2]? = some (some f)) (wf : okW f = true) :
    ∃ w, evF P (n+6) 42 [] (evE P (evF P (n+6)) th0 xc (.call 15 (.cons (.v 2) .nil)) l) st = .ok w st ∧
      ((isFact f = true ∧ ∃ r, w = .tup [.str sLet, r]) ∨ (isFact f = false ∧ w = .str sFact)) := by
  have e : evE P (evF P (n+6)) th0 xc (.call 15 (.cons (.v 2) .nil)) l st = if isFact f then .ok (.str (ftext f)) st else .exc 2 [] st := by
    simp [hf, F15 n f _ st wf]
  cases h2 : isFact f with
  | false =>
    rw [h2] at e
    exact ⟨_, F42 (n+5) _ st st _ (.str sFact) e rfl (.inr ⟨2, rfl⟩), .inr ⟨rfl, rfl⟩⟩
  | true =>
    rw [h2] at e
    exact ⟨_, F42 (n+5) _ st st _ _ e rfl (.inl ⟨_, rfl⟩), .inl ⟨rfl, _, rfl⟩⟩
end
theorem F40 (n : Nat) (th : M) {st : Store} (hI : Inv st) : ∃ st', evF P (n+7) 40 [.ref 0] th st = .ok (.bl true) st' ∧ Inv st' := by
  rw [evF]
  obtain ⟨p, st1, e1, wp, hI1⟩ := F27 (n+3) (fun _ => .bad) hI
  obtain ⟨f0, st2, e2, hf0, hI2⟩ := F36 (n+2) (fun _ => .bad) hI1
  obtain ⟨t, st3, e3, wt, hI3⟩ := some_of (n+4) (xs := [.str [], .str [97, 98], .str [97, 10, 98], .non, .int 5, .lst [.str [97]], .tup [.str [97]]]) (fun d => okW d = true) (by
    intro d hd
    simp only [List.mem_cons, List.not_mem_nil, or_false] at hd
    rcases hd with rfl | rfl | rfl | rfl | rfl | rfl | rfl
    all_goals decide +kernel) (by simp) (by simp) (fun _ => .bad) hI2
  obtain ⟨g, st4, e4, g0, g1, hI4⟩ := F19 (n+5) (m := 2) (by decide) (by decide) (fun _ => .bad) hI3
  have sp : ∀ a b : D, setT (.tp [5, 2]) (.tup [a, b]) [some (.ref 0), none, none, none, none, none] = some [some (.ref 0), none, some b, none, none, some a] := fun a b => by simp [setT]
  have tail : ∀ (f : D) (st5 : Store), okW f = true → Inv st5 → ∃ st', ((evSs P (evF P (n+6)) th (match b40 with | .cons _ (.cons _ (.cons _ ss)) => ss | ss => ss) none [some (.ref 0), some t, some f, none, none, some p] st5).bind fun r st => r.ends st) = .ok (.bl true) st' ∧ Inv st' := by
    intro f st5 wf hI5
    refine ⟨st5, ?_, hI5⟩
    obtain ⟨w9, k9, c9⟩ := J9 n th none (l := [some (.ref 0), some t, some f, some (if isPrime p then .non else .str sPrime), none, some p]) st5 rfl rfl wp wt
    obtain ⟨w17, k17, c17⟩ := J17 n th none (l := [some (.ref 0), some t, some f, some (if isPrime p then .non else .str sPrime), some (if isFact f then .non else .str sFact), some p]) st5 rfl rfl wp wf
    obtain ⟨w15, k15, c15⟩ := J15 n th none (l := [some (.ref 0), some t, some f, some (if isPrime p then .non else .str sPrime), some (if isFact f then .non else .str sFact), some p]) st5 rfl wf
    have q28 := F28 (n+5) p (fun _ => .bad) st5 (okW_ok p wp)
    have q29 := F29 (n+5) t (fun _ => .bad) st5 (okW_ok t wt)
    have q32 := F32 (n+4) f (fun _ => .bad) st5 (okW_ok f wf)
    have tr : ∀ x : List Nat, x.length ≤ 100 → x ≠ [] → truth st5 (.str x) = some true := fun x h h2 => by
      have hSL : SL = 16777216 := rfl
      simp only [truth]
      rw [if_pos (by omega)]
      cases x with
      | nil => exact absurd rfl h2
      | cons _ _ => rfl
    have trp := tr sPrime (by decide) (by decide)
    have a39 := fun r => F39a (n+5) r (fun _ => .bad) st5
    have b39' := fun x => F39b (n+5) x (fun _ => .bad) st5
    cases h1 : isPrime p <;> cases h2 : isText t <;> cases h3 : isFact f <;> rw [h1, h2] at c9 <;> rw [h1, h3] at c17 <;> rw [h3] at c15 <;> simp only [h1, h3] at k9 k17 k15 <;> simp at c9 c17 c15 <;> simp only [Bool.false_eq_true, if_false, if_true] at k9 k17 k15
    all_goals first
      | obtain ⟨r9, rfl⟩ := c9
      | subst c9
    all_goals first
      | obtain ⟨r17, rfl⟩ := c17
      | subst c17
    all_goals first
      | obtain ⟨r15, rfl⟩ := c15
      | subst c15
    all_goals simp [b40, q28, q29, q32, h1, h2, h3, k9, k17, k15, a39, b39', trp, setT, sized_lit]
  by_cases hg : g = 0
  · subst hg
    obtain ⟨f, st5, e5, wf, hI5⟩ := F33 (n+2) hf0 (fun _ => .bad) hI4
    obtain ⟨st', e6, hI6⟩ := tail f st5 wf hI5
    refine ⟨st', ?_, hI6⟩
    simp [f40, b40, e1, e2, sized_lit, sp, e3, setT, e4, eq_ii, e5] at *
    exact e6
  · have hg' : (g == 0) = false := by simpa using hg
    obtain ⟨st', e6, hI6⟩ := tail f0 st4 hf0.2.1 hI4
    refine ⟨st', ?_, hI6⟩
    simp [f40, b40, e1, e2, sized_lit, sp, e3, setT, e4, eq_ii, hg'] at *
    exact e6
end Pk27

set_option linter.all false
set_option maxRecDepth 100000
set_option maxHeartbeats 4000000
/-! Pl11: the law itself (k27). -/
namespace Pk27
open Pm Pl
set_option autoImplicit false
theorem turn (n : Nat) (th : M) {s2 o3 o4 o5 : Option D} {x0 : Option D} {st : Store} (hI : Inv st) :
    ∃ l2 st', evSs P (evF P (n+7)) th b41_1 none [x0, some (.ref 0), s2, o3, o4, o5] st = .ok (.nx l2) st' ∧ (∃ s3 o4 o5 o6, l2 = [x0, some (.ref 0), s3, o4, o5, o6]) ∧ Inv st' := by
  obtain ⟨p, st1, e1, ⟨wp, hp⟩, hI1⟩ := F34 (n+4) (fun _ => .bad) hI
  obtain ⟨t, st2, e2, ⟨wt, ht⟩, hI2⟩ := F38 (n+4) (fun _ => .bad) hI1
  obtain ⟨f, st3, e3, hf, hI3⟩ := F36 (n+3) (fun _ => .bad) hI2
  obtain ⟨st4, e4, hI4⟩ := F40 n (fun _ => .bad) hI3
  obtain ⟨i, rfl, i0, i1⟩ := isPrime_int hp
  obtain ⟨x, rfl, hx⟩ := isText_str ht
  have q9 := F9 (n+3) (.int i) (.str x) (fun _ => .bad) st3 rfl (okW_ok _ wt)
  have q21 := F21 (n+6) i0 i1 hx (fun _ => .bad) st3
  have q15 := F15 (n+1) f (fun _ => .bad) st3 hf.2.1
  have q23 := F23' (n+5) f hf.1 hf.2.1 (fun _ => .bad) st3
  have q17 := F17 (n+1) (.int i) f (fun _ => .bad) st3 rfl hf.2.1
  have q24 := F24 (n+4) i0 i1 hf.1 hf.2.1 (fun _ => .bad) st3
  rw [hp, ht] at q9
  rw [hf.1] at q15
  rw [hp, hf.1] at q17
  simp only [mixR, numR, if_true] at q9 q15 q17
  have sp : ∀ a b c : D, setT (.tp [3, 4, 5]) (.tup [a, b, c]) [x0, some (.ref 0), s2, o3, o4, o5] = some [x0, some (.ref 0), s2, some a, some b, some c] := fun a b c => by simp [setT]
  refine ⟨[x0, some (.ref 0), s2, some (.int i), some (.str x), some f], st4, ?_, ⟨_, _, _, _, rfl⟩, hI4⟩
  simp [b41_1, e1, e2, e3, sp, q9, q21, F37i (n+6), q15, q23, F37s (n+6), q17, q24, e4]
theorem F41 (n : Nat) (ns : List Int) (hn : ns.length ≤ 63) (th : M) : ∃ st, evF P (n+8) 41 [.scr ns] th [] = .ok (.bl true) st := by
  obtain ⟨st0, e0, hI0⟩ := F18 (n+6) ns hn (fun _ => .bad)
  obtain ⟨l2, st2, e2, ⟨s3, o4, o5, o6, rfl⟩, hI2⟩ := forL_inv (t := .nm 2) (body := fun l st => evSs P (evF P (n+7)) th b41_1 none l st) (I := fun l st => (∃ s3 o4 o5 o6, l = [some (.scr ns), some (.ref 0), s3, o4, o5, o6]) ∧ Inv st) (rangeD 0 6) [some (.scr ns), some (.ref 0), none, none, none, none] st0 ⟨⟨_, _, _, _, rfl⟩, hI0⟩ (fun y _ l st hI => by
    obtain ⟨⟨s3, o4, o5, o6, rfl⟩, hI⟩ := hI
    obtain ⟨l2, st', e, h1, h2⟩ := turn n th (x0 := some (.scr ns)) (s2 := some y) (o3 := o4) (o4 := o5) (o5 := o6) hI
    exact ⟨_, rfl, l2, st', e, h1, h2⟩)
  refine ⟨st2, ?_⟩
  rw [evF]
  have r1 : rngD 0 6 = some (rangeD 0 6) := by unfold rngD; rw [if_pos (by omega)]
  simp [f41, b41, e0, setT, r1, e2]
end Pk27

set_option Elab.async false
set_option linter.all false
set_option maxRecDepth 1000000
set_option maxHeartbeats 0
namespace Pk27
open PySem PySem.Spec PyProof.Rows L2 LamX Pm
def top (i : Nat) : Stmt := PySem.Challenge.pw_everyview_k27_whole_mixing_texts_numbers.main.body.getD i (.Pass ⟨0, 0, 0, 0⟩)
def G : Gd := { fn := [(("is_integer" : Str), (1 : Nat)), (("is_within" : Str), (3 : Nat)), (("is_sized" : Str), (3 : Nat)), (("is_word" : Str), (1 : Nat)), (("is_cell" : Str), (1 : Nat)), (("is_row_of_cells" : Str), (1 : Nat)), (("is_name" : Str), (1 : Nat)), (("check_prime" : Str), (1 : Nat)), (("raw_mix" : Str), (2 : Nat)), (("mix" : Str), (2 : Nat)), (("is_text" : Str), (1 : Nat)), (("is_fact" : Str), (1 : Nat)), (("worth_text" : Str), (1 : Nat)), (("raw_fact_text" : Str), (1 : Nat)), (("check_fact" : Str), (1 : Nat)), (("fact_text" : Str), (1 : Nat)), (("raw_number_of" : Str), (2 : Nat)), (("number_of" : Str), (2 : Nat)), (("_law_hand" : Str), (1 : Nat)), (("_law_draw" : Str), (2 : Nat)), (("_law_some" : Str), (2 : Nat)), (("_law_mix" : Str), (2 : Nat)), (("_law_worth_text" : Str), (1 : Nat)), (("_law_fact_text" : Str), (1 : Nat)), (("_law_number" : Str), (2 : Nat)), (("_law_deep" : Str), (1 : Nat)), (("_law_odd" : Str), (1 : Nat)), (("_law_odd_prime" : Str), (1 : Nat)), (("_law_is_prime" : Str), (1 : Nat)), (("_law_is_text" : Str), (1 : Nat)), (("_law_is_worth" : Str), (1 : Nat)), (("_law_is_name" : Str), (1 : Nat)), (("_law_is_fact" : Str), (1 : Nat)), (("_law_bent_fact" : Str), (2 : Nat)), (("_law_prime" : Str), (1 : Nat)), (("_law_worth" : Str), (1 : Nat)), (("_law_fact" : Str), (1 : Nat)), (("_law_is" : Str), (2 : Nat)), (("_law_text" : Str), (1 : Nat)), (("_law_is_due" : Str), (2 : Nat)), (("_law_refused_right" : Str), (1 : Nat)), (("law" : Str), (1 : Nat))], cn := ["MOST_SIGNS", "MOST_LETTERS", "MOST_PLACES", "LEAST_PRIME", "MOST_PRIME", "RULE"], cl := ["ViewError", "NoPrime", "NoFact", "NoText"], lm := [(42, "_law_word")] }
def d0 : Fd := { x := "is_integer", ps := ["thing"], N := ["thing"], params := L2.defArgs (top 9), body := L2.defBody (top 9), scope := L2.defScope (top 9), lm := false }
def d1 : Fd := { x := "is_within", ps := ["thing", "least", "most"], N := ["thing", "least", "most"], params := L2.defArgs (top 10), body := L2.defBody (top 10), scope := L2.defScope (top 10), lm := false }
def d2 : Fd := { x := "is_sized", ps := ["thing", "least", "most"], N := ["thing", "least", "most"], params := L2.defArgs (top 11), body := L2.defBody (top 11), scope := L2.defScope (top 11), lm := false }
def d3 : Fd := { x := "is_word", ps := ["thing"], N := ["thing", "sign"], params := L2.defArgs (top 12), body := L2.defBody (top 12), scope := L2.defScope (top 12), lm := false }
def d4 : Fd := { x := "is_cell", ps := ["thing"], N := ["thing"], params := L2.defArgs (top 13), body := L2.defBody (top 13), scope := L2.defScope (top 13), lm := false }
def d5 : Fd := { x := "is_row_of_cells", ps := ["thing"], N := ["thing", "item"], params := L2.defArgs (top 14), body := L2.defBody (top 14), scope := L2.defScope (top 14), lm := false }
def d6 : Fd := { x := "is_name", ps := ["thing"], N := ["thing", "sign"], params := L2.defArgs (top 15), body := L2.defBody (top 15), scope := L2.defScope (top 15), lm := false }
def d7 : Fd := { x := "check_prime", ps := ["p"], N := ["p"], params := L2.defArgs (top 20), body := L2.defBody (top 20), scope := L2.defScope (top 20), lm := false }
def d8 : Fd := { x := "raw_mix", ps := ["p", "text"], N := ["p", "text", "found", "sign", "number"], params := L2.defArgs (top 21), body := L2.defBody (top 21), scope := L2.defScope (top 21), lm := false }
def d9 : Fd := { x := "mix", ps := ["p", "text"], N := ["p", "text"], params := L2.defArgs (top 22), body := L2.defBody (top 22), scope := L2.defScope (top 22), lm := false }
def d10 : Fd := { x := "is_text", ps := ["thing"], N := ["thing", "sign"], params := L2.defArgs (top 23), body := L2.defBody (top 23), scope := L2.defScope (top 23), lm := false }
def d11 : Fd := { x := "is_fact", ps := ["thing"], N := ["thing"], params := L2.defArgs (top 24), body := L2.defBody (top 24), scope := L2.defScope (top 24), lm := false }
def d12 : Fd := { x := "worth_text", ps := ["worth"], N := ["worth", "sign"], params := L2.defArgs (top 25), body := L2.defBody (top 25), scope := L2.defScope (top 25), lm := false }
def d13 : Fd := { x := "raw_fact_text", ps := ["fact"], N := ["fact", "worth"], params := L2.defArgs (top 26), body := L2.defBody (top 26), scope := L2.defScope (top 26), lm := false }
def d14 : Fd := { x := "check_fact", ps := ["fact"], N := ["fact"], params := L2.defArgs (top 27), body := L2.defBody (top 27), scope := L2.defScope (top 27), lm := false }
def d15 : Fd := { x := "fact_text", ps := ["fact"], N := ["fact"], params := L2.defArgs (top 28), body := L2.defBody (top 28), scope := L2.defScope (top 28), lm := false }
def d16 : Fd := { x := "raw_number_of", ps := ["p", "fact"], N := ["p", "fact"], params := L2.defArgs (top 29), body := L2.defBody (top 29), scope := L2.defScope (top 29), lm := false }
def d17 : Fd := { x := "number_of", ps := ["p", "fact"], N := ["p", "fact"], params := L2.defArgs (top 30), body := L2.defBody (top 30), scope := L2.defScope (top 30), lm := false }
def d18 : Fd := { x := "_law_hand", ps := ["script"], N := ["script", "cells", "cell"], params := L2.defArgs (top 32), body := L2.defBody (top 32), scope := L2.defScope (top 32), lm := false }
def d19 : Fd := { x := "_law_draw", ps := ["hand", "many"], N := ["hand", "many", "number", "cell", "figure"], params := L2.defArgs (top 33), body := L2.defBody (top 33), scope := L2.defScope (top 33), lm := false }
def d20 : Fd := { x := "_law_some", ps := ["hand", "things"], N := ["hand", "things"], params := L2.defArgs (top 34), body := L2.defBody (top 34), scope := L2.defScope (top 34), lm := false }
def d21 : Fd := { x := "_law_mix", ps := ["p", "text"], N := ["p", "text", "found", "sign", "number"], params := L2.defArgs (top 35), body := L2.defBody (top 35), scope := L2.defScope (top 35), lm := false }
def d22 : Fd := { x := "_law_worth_text", ps := ["worth"], N := ["worth"], params := L2.defArgs (top 36), body := L2.defBody (top 36), scope := L2.defScope (top 36), lm := false }
def d23 : Fd := { x := "_law_fact_text", ps := ["fact"], N := ["fact", "worth"], params := L2.defArgs (top 37), body := L2.defBody (top 37), scope := L2.defScope (top 37), lm := false }
def d24 : Fd := { x := "_law_number", ps := ["p", "fact"], N := ["p", "fact"], params := L2.defArgs (top 38), body := L2.defBody (top 38), scope := L2.defScope (top 38), lm := false }
def d25 : Fd := { x := "_law_deep", ps := ["hand"], N := ["hand", "found", "turn"], params := L2.defArgs (top 39), body := L2.defBody (top 39), scope := L2.defScope (top 39), lm := false }
def d26 : Fd := { x := "_law_odd", ps := ["hand"], N := ["hand"], params := L2.defArgs (top 40), body := L2.defBody (top 40), scope := L2.defScope (top 40), lm := false }
def d27 : Fd := { x := "_law_odd_prime", ps := ["hand"], N := ["hand", "top", "things"], params := L2.defArgs (top 41), body := L2.defBody (top 41), scope := L2.defScope (top 41), lm := false }
def d28 : Fd := { x := "_law_is_prime", ps := ["thing"], N := ["thing"], params := L2.defArgs (top 42), body := L2.defBody (top 42), scope := L2.defScope (top 42), lm := false }
def d29 : Fd := { x := "_law_is_text", ps := ["thing"], N := ["thing", "sign"], params := L2.defArgs (top 43), body := L2.defBody (top 43), scope := L2.defScope (top 43), lm := false }
def d30 : Fd := { x := "_law_is_worth", ps := ["thing"], N := ["thing", "sign"], params := L2.defArgs (top 44), body := L2.defBody (top 44), scope := L2.defScope (top 44), lm := false }
def d31 : Fd := { x := "_law_is_name", ps := ["thing"], N := ["thing", "sign"], params := L2.defArgs (top 45), body := L2.defBody (top 45), scope := L2.defScope (top 45), lm := false }
def d32 : Fd := { x := "_law_is_fact", ps := ["thing"], N := ["thing", "worth"], params := L2.defArgs (top 46), body := L2.defBody (top 46), scope := L2.defScope (top 46), lm := false }
def d33 : Fd := { x := "_law_bent_fact", ps := ["hand", "fact"], N := ["hand", "fact", "things", "name", "row", "at", "thing"], params := L2.defArgs (top 47), body := L2.defBody (top 47), scope := L2.defScope (top 47), lm := false }
def d34 : Fd := { x := "_law_prime", ps := ["hand"], N := ["hand"], params := L2.defArgs (top 48), body := L2.defBody (top 48), scope := L2.defScope (top 48), lm := false }
def d35 : Fd := { x := "_law_worth", ps := ["hand"], N := ["hand", "words"], params := L2.defArgs (top 49), body := L2.defBody (top 49), scope := L2.defScope (top 49), lm := false }
def d36 : Fd := { x := "_law_fact", ps := ["hand"], N := ["hand", "name", "many", "texts", "place"], params := L2.defArgs (top 50), body := L2.defBody (top 50), scope := L2.defScope (top 50), lm := false }
def d37 : Fd := { x := "_law_is", ps := ["told", "due"], N := ["told", "due", "one", "two"], params := L2.defArgs (top 51), body := L2.defBody (top 51), scope := L2.defScope (top 51), lm := false }
def d38 : Fd := { x := "_law_text", ps := ["hand"], N := ["hand", "signs", "many", "turn"], params := L2.defArgs (top 52), body := L2.defBody (top 52), scope := L2.defScope (top 52), lm := false }
def d39 : Fd := { x := "_law_is_due", ps := ["told", "due"], N := ["told", "due"], params := L2.defArgs (top 54), body := L2.defBody (top 54), scope := L2.defScope (top 54), lm := false }
def d40 : Fd := { x := "_law_refused_right", ps := ["hand"], N := ["hand", "text", "fact", "first", "last", "p"], params := L2.defArgs (top 55), body := L2.defBody (top 55), scope := L2.defScope (top 55), lm := true }
def d41 : Fd := { x := "law", ps := ["script"], N := ["script", "hand", "turn", "p", "text", "fact"], params := L2.defArgs (top 56), body := L2.defBody (top 56), scope := L2.defScope (top 56), lm := false }
def d42 : Fd := { x := "_law_word", ps := ["call"], N := ["call", "error", "some"], params := L2.defArgs (top 53), body := L2.defBody (top 53), scope := L2.defScope (top 53), lm := false }
/-- is_integer -/
theorem ck0 : chkFd P G 0 d0 = true := by decide +kernel
theorem tx0 : TxOk d0 := ⟨⟨rfl, rfl, rfl, by decide +kernel, rfl, by decide +kernel, by decide +kernel⟩, by decide, fun _ _ _ _ _ _ us hl => match us, hl with | [_], _ => rfl⟩
/-- is_within -/
theorem ck1 : chkFd P G 1 d1 = true := by decide +kernel
theorem tx1 : TxOk d1 := ⟨⟨rfl, rfl, rfl, by decide +kernel, rfl, by decide +kernel, by decide +kernel⟩, by decide, fun _ _ _ _ _ _ us hl => match us, hl with | [_, _, _], _ => rfl⟩
/-- is_sized -/
theorem ck2 : chkFd P G 2 d2 = true := by decide +kernel
theorem tx2 : TxOk d2 := ⟨⟨rfl, rfl, rfl, by decide +kernel, rfl, by decide +kernel, by decide +kernel⟩, by decide, fun _ _ _ _ _ _ us hl => match us, hl with | [_, _, _], _ => rfl⟩
/-- is_word -/
theorem ck3 : chkFd P G 3 d3 = true := by decide +kernel
theorem tx3 : TxOk d3 := ⟨⟨rfl, rfl, rfl, by decide +kernel, rfl, by decide +kernel, by decide +kernel⟩, by decide, fun _ _ _ _ _ _ us hl => match us, hl with | [_], _ => rfl⟩
/-- is_cell -/
theorem ck4 : chkFd P G 4 d4 = true := by decide +kernel
theorem tx4 : TxOk d4 := ⟨⟨rfl, rfl, rfl, by decide +kernel, rfl, by decide +kernel, by decide +kernel⟩, by decide, fun _ _ _ _ _ _ us hl => match us, hl with | [_], _ => rfl⟩
/-- is_row_of_cells -/
theorem ck5 : chkFd P G 5 d5 = true := by decide +kernel
theorem tx5 : TxOk d5 := ⟨⟨rfl, rfl, rfl, by decide +kernel, rfl, by decide +kernel, by decide +kernel⟩, by decide, fun _ _ _ _ _ _ us hl => match us, hl with | [_], _ => rfl⟩
/-- is_name -/
theorem ck6 : chkFd P G 6 d6 = true := by decide +kernel
theorem tx6 : TxOk d6 := ⟨⟨rfl, rfl, rfl, by decide +kernel, rfl, by decide +kernel, by decide +kernel⟩, by decide, fun _ _ _ _ _ _ us hl => match us, hl with | [_], _ => rfl⟩
/-- check_prime -/
theorem ck7 : chkFd P G 7 d7 = true := by decide +kernel
theorem tx7 : TxOk d7 := ⟨⟨rfl, rfl, rfl, by decide +kernel, rfl, by decide +kernel, by decide +kernel⟩, by decide, fun _ _ _ _ _ _ us hl => match us, hl with | [_], _ => rfl⟩
/-- raw_mix -/
theorem ck8 : chkFd P G 8 d8 = true := by decide +kernel
theorem tx8 : TxOk d8 := ⟨⟨rfl, rfl, rfl, by decide +kernel, rfl, by decide +kernel, by decide +kernel⟩, by decide, fun _ _ _ _ _ _ us hl => match us, hl with | [_, _], _ => rfl⟩
/-- mix -/
theorem ck9 : chkFd P G 9 d9 = true := by decide +kernel
theorem tx9 : TxOk d9 := ⟨⟨rfl, rfl, rfl, by decide +kernel, rfl, by decide +kernel, by decide +kernel⟩, by decide, fun _ _ _ _ _ _ us hl => match us, hl with | [_, _], _ => rfl⟩
/-- is_text -/
theorem ck10 : chkFd P G 10 d10 = true := by decide +kernel
theorem tx10 : TxOk d10 := ⟨⟨rfl, rfl, rfl, by decide +kernel, rfl, by decide +kernel, by decide +kernel⟩, by decide, fun _ _ _ _ _ _ us hl => match us, hl with | [_], _ => rfl⟩
/-- is_fact -/
theorem ck11 : chkFd P G 11 d11 = true := by decide +kernel
theorem tx11 : TxOk d11 := ⟨⟨rfl, rfl, rfl, by decide +kernel, rfl, by decide +kernel, by decide +kernel⟩, by decide, fun _ _ _ _ _ _ us hl => match us, hl with | [_], _ => rfl⟩
/-- worth_text -/
theorem ck12 : chkFd P G 12 d12 = true := by decide +kernel
theorem tx12 : TxOk d12 := ⟨⟨rfl, rfl, rfl, by decide +kernel, rfl, by decide +kernel, by decide +kernel⟩, by decide, fun _ _ _ _ _ _ us hl => match us, hl with | [_], _ => rfl⟩
/-- raw_fact_text -/
theorem ck13 : chkFd P G 13 d13 = true := by decide +kernel
theorem tx13 : TxOk d13 := ⟨⟨rfl, rfl, rfl, by decide +kernel, rfl, by decide +kernel, by decide +kernel⟩, by decide, fun _ _ _ _ _ _ us hl => match us, hl with | [_], _ => rfl⟩
/-- check_fact -/
theorem ck14 : chkFd P G 14 d14 = true := by decide +kernel
theorem tx14 : TxOk d14 := ⟨⟨rfl, rfl, rfl, by decide +kernel, rfl, by decide +kernel, by decide +kernel⟩, by decide, fun _ _ _ _ _ _ us hl => match us, hl with | [_], _ => rfl⟩
/-- fact_text -/
theorem ck15 : chkFd P G 15 d15 = true := by decide +kernel
theorem tx15 : TxOk d15 := ⟨⟨rfl, rfl, rfl, by decide +kernel, rfl, by decide +kernel, by decide +kernel⟩, by decide, fun _ _ _ _ _ _ us hl => match us, hl with | [_], _ => rfl⟩
/-- raw_number_of -/
theorem ck16 : chkFd P G 16 d16 = true := by decide +kernel
theorem tx16 : TxOk d16 := ⟨⟨rfl, rfl, rfl, by decide +kernel, rfl, by decide +kernel, by decide +kernel⟩, by decide, fun _ _ _ _ _ _ us hl => match us, hl with | [_, _], _ => rfl⟩
/-- number_of -/
theorem ck17 : chkFd P G 17 d17 = true := by decide +kernel
theorem tx17 : TxOk d17 := ⟨⟨rfl, rfl, rfl, by decide +kernel, rfl, by decide +kernel, by decide +kernel⟩, by decide, fun _ _ _ _ _ _ us hl => match us, hl with | [_, _], _ => rfl⟩
/-- _law_hand -/
theorem ck18 : chkFd P G 18 d18 = true := by decide +kernel
theorem tx18 : TxOk d18 := ⟨⟨rfl, rfl, rfl, by decide +kernel, rfl, by decide +kernel, by decide +kernel⟩, by decide, fun _ _ _ _ _ _ us hl => match us, hl with | [_], _ => rfl⟩
/-- _law_draw -/
theorem ck19 : chkFd P G 19 d19 = true := by decide +kernel
theorem tx19 : TxOk d19 := ⟨⟨rfl, rfl, rfl, by decide +kernel, rfl, by decide +kernel, by decide +kernel⟩, by decide, fun _ _ _ _ _ _ us hl => match us, hl with | [_, _], _ => rfl⟩
/-- _law_some -/
theorem ck20 : chkFd P G 20 d20 = true := by decide +kernel
theorem tx20 : TxOk d20 := ⟨⟨rfl, rfl, rfl, by decide +kernel, rfl, by decide +kernel, by decide +kernel⟩, by decide, fun _ _ _ _ _ _ us hl => match us, hl with | [_, _], _ => rfl⟩
/-- _law_mix -/
theorem ck21 : chkFd P G 21 d21 = true := by decide +kernel
theorem tx21 : TxOk d21 := ⟨⟨rfl, rfl, rfl, by decide +kernel, rfl, by decide +kernel, by decide +kernel⟩, by decide, fun _ _ _ _ _ _ us hl => match us, hl with | [_, _], _ => rfl⟩
/-- _law_worth_text -/
theorem cx22 : chkFx P G 22 d22 = true := by decide +kernel
theorem tx22 : TxOk d22 := ⟨⟨rfl, rfl, rfl, by decide +kernel, rfl, by decide +kernel, by decide +kernel⟩, by decide, fun _ _ _ _ _ _ us hl => match us, hl with | [_], _ => rfl⟩
/-- _law_fact_text -/
theorem ck23 : chkFd P G 23 d23 = true := by decide +kernel
theorem tx23 : TxOk d23 := ⟨⟨rfl, rfl, rfl, by decide +kernel, rfl, by decide +kernel, by decide +kernel⟩, by decide, fun _ _ _ _ _ _ us hl => match us, hl with | [_], _ => rfl⟩
/-- _law_number -/
theorem ck24 : chkFd P G 24 d24 = true := by decide +kernel
theorem tx24 : TxOk d24 := ⟨⟨rfl, rfl, rfl, by decide +kernel, rfl, by decide +kernel, by decide +kernel⟩, by decide, fun _ _ _ _ _ _ us hl => match us, hl with | [_, _], _ => rfl⟩
/-- _law_deep -/
theorem ck25 : chkFd P G 25 d25 = true := by decide +kernel
theorem tx25 : TxOk d25 := ⟨⟨rfl, rfl, rfl, by decide +kernel, rfl, by decide +kernel, by decide +kernel⟩, by decide, fun _ _ _ _ _ _ us hl => match us, hl with | [_], _ => rfl⟩
/-- _law_odd -/
theorem ck26 : chkFd P G 26 d26 = true := by decide +kernel
theorem tx26 : TxOk d26 := ⟨⟨rfl, rfl, rfl, by decide +kernel, rfl, by decide +kernel, by decide +kernel⟩, by decide, fun _ _ _ _ _ _ us hl => match us, hl with | [_], _ => rfl⟩
/-- _law_odd_prime -/
theorem ck27 : chkFd P G 27 d27 = true := by decide +kernel
theorem tx27 : TxOk d27 := ⟨⟨rfl, rfl, rfl, by decide +kernel, rfl, by decide +kernel, by decide +kernel⟩, by decide, fun _ _ _ _ _ _ us hl => match us, hl with | [_], _ => rfl⟩
/-- _law_is_prime -/
theorem ck28 : chkFd P G 28 d28 = true := by decide +kernel
theorem tx28 : TxOk d28 := ⟨⟨rfl, rfl, rfl, by decide +kernel, rfl, by decide +kernel, by decide +kernel⟩, by decide, fun _ _ _ _ _ _ us hl => match us, hl with | [_], _ => rfl⟩
/-- _law_is_text -/
theorem ck29 : chkFd P G 29 d29 = true := by decide +kernel
theorem tx29 : TxOk d29 := ⟨⟨rfl, rfl, rfl, by decide +kernel, rfl, by decide +kernel, by decide +kernel⟩, by decide, fun _ _ _ _ _ _ us hl => match us, hl with | [_], _ => rfl⟩
/-- _law_is_worth -/
theorem ck30 : chkFd P G 30 d30 = true := by decide +kernel
theorem tx30 : TxOk d30 := ⟨⟨rfl, rfl, rfl, by decide +kernel, rfl, by decide +kernel, by decide +kernel⟩, by decide, fun _ _ _ _ _ _ us hl => match us, hl with | [_], _ => rfl⟩
/-- _law_is_name -/
theorem ck31 : chkFd P G 31 d31 = true := by decide +kernel
theorem tx31 : TxOk d31 := ⟨⟨rfl, rfl, rfl, by decide +kernel, rfl, by decide +kernel, by decide +kernel⟩, by decide, fun _ _ _ _ _ _ us hl => match us, hl with | [_], _ => rfl⟩
/-- _law_is_fact -/
theorem ck32 : chkFd P G 32 d32 = true := by decide +kernel
theorem tx32 : TxOk d32 := ⟨⟨rfl, rfl, rfl, by decide +kernel, rfl, by decide +kernel, by decide +kernel⟩, by decide, fun _ _ _ _ _ _ us hl => match us, hl with | [_], _ => rfl⟩
/-- _law_bent_fact -/
theorem ck33 : chkFd P G 33 d33 = true := by decide +kernel
theorem tx33 : TxOk d33 := ⟨⟨rfl, rfl, rfl, by decide +kernel, rfl, by decide +kernel, by decide +kernel⟩, by decide, fun _ _ _ _ _ _ us hl => match us, hl with | [_, _], _ => rfl⟩
/-- _law_prime -/
theorem ck34 : chkFd P G 34 d34 = true := by decide +kernel
theorem tx34 : TxOk d34 := ⟨⟨rfl, rfl, rfl, by decide +kernel, rfl, by decide +kernel, by decide +kernel⟩, by decide, fun _ _ _ _ _ _ us hl => match us, hl with | [_], _ => rfl⟩
/-- _law_worth -/
theorem ck35 : chkFd P G 35 d35 = true := by decide +kernel
theorem tx35 : TxOk d35 := ⟨⟨rfl, rfl, rfl, by decide +kernel, rfl, by decide +kernel, by decide +kernel⟩, by decide, fun _ _ _ _ _ _ us hl => match us, hl with | [_], _ => rfl⟩
/-- _law_fact -/
theorem ck36 : chkFd P G 36 d36 = true := by decide +kernel
theorem tx36 : TxOk d36 := ⟨⟨rfl, rfl, rfl, by decide +kernel, rfl, by decide +kernel, by decide +kernel⟩, by decide, fun _ _ _ _ _ _ us hl => match us, hl with | [_], _ => rfl⟩
/-- _law_is -/
theorem ck37 : chkFd P G 37 d37 = true := by decide +kernel
theorem tx37 : TxOk d37 := ⟨⟨rfl, rfl, rfl, by decide +kernel, rfl, by decide +kernel, by decide +kernel⟩, by decide, fun _ _ _ _ _ _ us hl => match us, hl with | [_, _], _ => rfl⟩
/-- _law_text -/
theorem ck38 : chkFd P G 38 d38 = true := by decide +kernel
theorem tx38 : TxOk d38 := ⟨⟨rfl, rfl, rfl, by decide +kernel, rfl, by decide +kernel, by decide +kernel⟩, by decide, fun _ _ _ _ _ _ us hl => match us, hl with | [_], _ => rfl⟩
/-- _law_is_due -/
theorem ck39 : chkFd P G 39 d39 = true := by decide +kernel
theorem tx39 : TxOk d39 := ⟨⟨rfl, rfl, rfl, by decide +kernel, rfl, by decide +kernel, by decide +kernel⟩, by decide, fun _ _ _ _ _ _ us hl => match us, hl with | [_, _], _ => rfl⟩
/-- _law_refused_right -/
theorem ck40 : chkFd P G 40 d40 = true := by decide +kernel
theorem tx40 : TxOk d40 := ⟨⟨rfl, rfl, rfl, by decide +kernel, rfl, by decide +kernel, by decide +kernel⟩, by decide, fun _ _ _ _ _ _ us hl => match us, hl with | [_], _ => rfl⟩
/-- law -/
theorem ck41 : chkFd P G 41 d41 = true := by decide +kernel
theorem tx41 : TxOk d41 := ⟨⟨rfl, rfl, rfl, by decide +kernel, rfl, by decide +kernel, by decide +kernel⟩, by decide, fun _ _ _ _ _ _ us hl => match us, hl with | [_], _ => rfl⟩
/-- _law_word -/
theorem ck42 : chkGd P G 42 d42 "call" = true := by decide +kernel
theorem tx42 : TxOk d42 := ⟨⟨rfl, rfl, rfl, by decide +kernel, rfl, by decide +kernel, by decide +kernel⟩, by decide, fun _ _ _ _ _ _ us hl => match us, hl with | [_], _ => rfl⟩
def ds : List Fd := [d0, d1, d2, d3, d4, d5, d6, d7, d8, d9, d10, d11, d12, d13, d14, d15, d16, d17, d18, d19, d20, d21, d22, d23, d24, d25, d26, d27, d28, d29, d30, d31, d32, d33, d34, d35, d36, d37, d38, d39, d40, d41]
def dl : List Fd := [d42]
theorem txs : ∀ d, d ∈ ds → TxOk d := fun d hd => by
  rcases List.mem_cons.mp hd with rfl | hd
  · exact tx0
  rcases List.mem_cons.mp hd with rfl | hd
  · exact tx1
  rcases List.mem_cons.mp hd with rfl | hd
  · exact tx2
  rcases List.mem_cons.mp hd with rfl | hd
  · exact tx3
  rcases List.mem_cons.mp hd with rfl | hd
  · exact tx4
  rcases List.mem_cons.mp hd with rfl | hd
  · exact tx5
  rcases List.mem_cons.mp hd with rfl | hd
  · exact tx6
  rcases List.mem_cons.mp hd with rfl | hd
  · exact tx7
  rcases List.mem_cons.mp hd with rfl | hd
  · exact tx8
  rcases List.mem_cons.mp hd with rfl | hd
  · exact tx9
  rcases List.mem_cons.mp hd with rfl | hd
  · exact tx10
  rcases List.mem_cons.mp hd with rfl | hd
  · exact tx11
  rcases List.mem_cons.mp hd with rfl | hd
  · exact tx12
  rcases List.mem_cons.mp hd with rfl | hd
  · exact tx13
  rcases List.mem_cons.mp hd with rfl | hd
  · exact tx14
  rcases List.mem_cons.mp hd with rfl | hd
  · exact tx15
  rcases List.mem_cons.mp hd with rfl | hd
  · exact tx16
  rcases List.mem_cons.mp hd with rfl | hd
  · exact tx17
  rcases List.mem_cons.mp hd with rfl | hd
  · exact tx18
  rcases List.mem_cons.mp hd with rfl | hd
  · exact tx19
  rcases List.mem_cons.mp hd with rfl | hd
  · exact tx20
  rcases List.mem_cons.mp hd with rfl | hd
  · exact tx21
  rcases List.mem_cons.mp hd with rfl | hd
  · exact tx22
  rcases List.mem_cons.mp hd with rfl | hd
  · exact tx23
  rcases List.mem_cons.mp hd with rfl | hd
  · exact tx24
  rcases List.mem_cons.mp hd with rfl | hd
  · exact tx25
  rcases List.mem_cons.mp hd with rfl | hd
  · exact tx26
  rcases List.mem_cons.mp hd with rfl | hd
  · exact tx27
  rcases List.mem_cons.mp hd with rfl | hd
  · exact tx28
  rcases List.mem_cons.mp hd with rfl | hd
  · exact tx29
  rcases List.mem_cons.mp hd with rfl | hd
  · exact tx30
  rcases List.mem_cons.mp hd with rfl | hd
  · exact tx31
  rcases List.mem_cons.mp hd with rfl | hd
  · exact tx32
  rcases List.mem_cons.mp hd with rfl | hd
  · exact tx33
  rcases List.mem_cons.mp hd with rfl | hd
  · exact tx34
  rcases List.mem_cons.mp hd with rfl | hd
  · exact tx35
  rcases List.mem_cons.mp hd with rfl | hd
  · exact tx36
  rcases List.mem_cons.mp hd with rfl | hd
  · exact tx37
  rcases List.mem_cons.mp hd with rfl | hd
  · exact tx38
  rcases List.mem_cons.mp hd with rfl | hd
  · exact tx39
  rcases List.mem_cons.mp hd with rfl | hd
  · exact tx40
  rcases List.mem_cons.mp hd with rfl | hd
  · exact tx41
  cases hd
theorem cks : ∀ (i : Nat) (d : Fd), ds[i]? = some d → chkFd P G i d = false → chkFx P G i d = true := fun i d hi hc => by
  match i, hi with
  | 0, hi => cases hi; rw [ck0] at hc; cases hc
  | 1, hi => cases hi; rw [ck1] at hc; cases hc
  | 2, hi => cases hi; rw [ck2] at hc; cases hc
  | 3, hi => cases hi; rw [ck3] at hc; cases hc
  | 4, hi => cases hi; rw [ck4] at hc; cases hc
  | 5, hi => cases hi; rw [ck5] at hc; cases hc
  | 6, hi => cases hi; rw [ck6] at hc; cases hc
  | 7, hi => cases hi; rw [ck7] at hc; cases hc
  | 8, hi => cases hi; rw [ck8] at hc; cases hc
  | 9, hi => cases hi; rw [ck9] at hc; cases hc
  | 10, hi => cases hi; rw [ck10] at hc; cases hc
  | 11, hi => cases hi; rw [ck11] at hc; cases hc
  | 12, hi => cases hi; rw [ck12] at hc; cases hc
  | 13, hi => cases hi; rw [ck13] at hc; cases hc
  | 14, hi => cases hi; rw [ck14] at hc; cases hc
  | 15, hi => cases hi; rw [ck15] at hc; cases hc
  | 16, hi => cases hi; rw [ck16] at hc; cases hc
  | 17, hi => cases hi; rw [ck17] at hc; cases hc
  | 18, hi => cases hi; rw [ck18] at hc; cases hc
  | 19, hi => cases hi; rw [ck19] at hc; cases hc
  | 20, hi => cases hi; rw [ck20] at hc; cases hc
  | 21, hi => cases hi; rw [ck21] at hc; cases hc
  | 22, hi => cases hi; exact cx22
  | 23, hi => cases hi; rw [ck23] at hc; cases hc
  | 24, hi => cases hi; rw [ck24] at hc; cases hc
  | 25, hi => cases hi; rw [ck25] at hc; cases hc
  | 26, hi => cases hi; rw [ck26] at hc; cases hc
  | 27, hi => cases hi; rw [ck27] at hc; cases hc
  | 28, hi => cases hi; rw [ck28] at hc; cases hc
  | 29, hi => cases hi; rw [ck29] at hc; cases hc
  | 30, hi => cases hi; rw [ck30] at hc; cases hc
  | 31, hi => cases hi; rw [ck31] at hc; cases hc
  | 32, hi => cases hi; rw [ck32] at hc; cases hc
  | 33, hi => cases hi; rw [ck33] at hc; cases hc
  | 34, hi => cases hi; rw [ck34] at hc; cases hc
  | 35, hi => cases hi; rw [ck35] at hc; cases hc
  | 36, hi => cases hi; rw [ck36] at hc; cases hc
  | 37, hi => cases hi; rw [ck37] at hc; cases hc
  | 38, hi => cases hi; rw [ck38] at hc; cases hc
  | 39, hi => cases hi; rw [ck39] at hc; cases hc
  | 40, hi => cases hi; rw [ck40] at hc; cases hc
  | 41, hi => cases hi; rw [ck41] at hc; cases hc
  | n + 42, hi => cases hi
theorem fns : ∀ (i : Nat) (x : Str) (n : Nat), G.fn[i]? = some (x, n) → ∃ d : Fd, ds[i]? = some d ∧ d.x = x ∧ d.ps.length = n :=
  fn_ofB (by decide +kernel)
theorem lawTx : LawTx P G ds dl 41 d41 where
  ncl := rfl
  tx := txs
  fn := fns
  lt := fun i x hi => by
    rcases List.mem_cons.mp hi with e | hi
    · cases e
      exact ⟨d42, "call", by simp [dl], ⟨rfl, rfl, ck42, tx42, rfl, (by first | exact .inl (by decide +kernel) | exact .inr (.inl (by decide +kernel)) | exact .inr (.inr (by decide +kernel))), by decide +kernel⟩⟩
    cases hi
  law := rfl
  lx := rfl
  lp := rfl
  lck := ck41
  llm := rfl
end Pk27

set_option Elab.async false
set_option linter.all false
set_option maxRecDepth 1000000
set_option maxHeartbeats 0
namespace Pk27
open PySem PySem.Spec PyProof.Rows L2 LamX Pm
def ls0 : List PySem.Str := ["ViewError", "NoPrime", "NoFact", "NoText", "MOST_SIGNS", "MOST_LETTERS", "MOST_PLACES", "is_integer", "is_within", "is_sized", "is_word", "is_cell", "is_row_of_cells", "is_name", "LEAST_PRIME", "MOST_PRIME", "RULE", "check_prime", "raw_mix", "mix", "is_text", "is_fact", "worth_text", "raw_fact_text", "check_fact", "fact_text", "raw_number_of", "number_of", "_law_hand", "_law_draw"]
def ls1 : List PySem.Str := ["_law_some", "_law_mix", "_law_worth_text", "_law_fact_text", "_law_number", "_law_deep", "_law_odd", "_law_odd_prime", "_law_is_prime", "_law_is_text", "_law_is_worth", "_law_is_name", "_law_is_fact", "_law_bent_fact", "_law_prime", "_law_worth", "_law_fact", "_law_is", "_law_text", "_law_word", "_law_is_due", "_law_refused_right"]
abbrev loose : List PySem.Str := ls0 ++ ls1
abbrev R : PySem.W.OpenRow := PySem.W.OpenLaw.row PySem.Challenge.rw_everyview_k27_whole_mixing_texts_numbers
def xs : List Str := (ds ++ dl).map (·.x)
abbrev hk : PySem.W.Hook := He.hookX 5 (faOf G xs) ((ds ++ dl).map dfOf) [] (tfOf ds) (exB P G (tfOf ds))
def ob (s : PySem.W.SharedT) : He.AlX := He.obsX 5 (faOf G xs) ((ds ++ dl).map dfOf) [] (tfOf ds) (exB P G (tfOf ds)) (HandSHeadRun.getT s)
theorem ob_eq (s : PySem.W.SharedT) : ob s = hk.obs s.abs := He.obsX_eq (HandSHeadRun.getT_eq s)
theorem run (w : World) : HandSHeadRun.RunEq R (PySem.W.view R.prog [56]) hk ob 3000 loose w := by
  intro os
  kernel_rfl
end Pk27

set_option Elab.async false
set_option linter.all false
set_option maxRecDepth 1000000
set_option maxHeartbeats 0
open PySem PySem.W PySem.Calls PyProof.Rows
theorem end_Pk27 (lv : Nat) (hr : L2.Room (3 * (lv + 1)) PySem.callerA) (hm : ∀ ns : List Int, ns.length ≤ 63 → (∀ z ∈ ns, Builtin.Int.intBits z ≤ 1048576) → ∃ st, Pm.evF Pk27.P (lv + 1) 41 [.scr ns] (fun _ => .bad) [] = .ok (.bl true) st)
    : PySem.Challenge.rw_everyview_k27_whole_mixing_texts_numbers.Holds := by
  w_on; o_law
  refine HandSHeadRun.head_any (r := OpenLaw.row PySem.Challenge.rw_everyview_k27_whole_mixing_texts_numbers) (q := view (OpenLaw.row PySem.Challenge.rw_everyview_k27_whole_mixing_texts_numbers).prog [56]) (H := Pk27.hk) (ob := Pk27.ob) (M := 3000) (loose := Pk27.loose) (d := HandSHeadRun.topDef (OpenLaw.row PySem.Challenge.rw_everyview_k27_whole_mixing_texts_numbers).prog 56) (kwd := []) Pk27.ob_eq
    (by kernel_rfl) (fun s => by kernel_rfl) Pk27.run (by kernel_rfl) (by kernel_rfl) (by kernel_rfl) (by rfl) (by first | assumption | decide +kernel) (by decide +kernel) ⟨rfl, rfl, rfl, rfl, rfl, by decide +kernel⟩ ?hw ?hc
  case hw => w_witness2
  case hc =>
    refine LamX.walk_ofTsE (l := PySem.Challenge.rw_everyview_k27_whole_mixing_texts_numbers) (n := 63) (k := 3 * (lv + 1)) (x := "script") (CX := fun _ => L2.CX0) rfl (by decide) (by kernel_rfl) hr ?F (fun _ _ _ _ _ z => z)
    intro w mg fa h Y G hmg0
    obtain ⟨K, KX, c⟩ := Y
    have hmg : mg ("law" : PySem.Str) = some (.ref fa) := by
      have e : (HandSHeadRun.topDef (OpenLaw.row PySem.Challenge.rw_everyview_k27_whole_mixing_texts_numbers).prog 56).name = ("law" : PySem.Str) := by kernel_rfl
      rw [← e]
      exact hmg0
    exact ⟨K, KX, Pm.law_atX Pk27.lawTx Pk27.cks KX G hmg c hm⟩

open PySem PySem.W PyProof.Rows
set_option Elab.async false
set_option maxRecDepth 100000 in
set_option maxHeartbeats 8000000 in
theorem PySem.Challenge.cw_everyview_k27_whole_mixing_texts_numbers_holds : PySem.Challenge.rw_everyview_k27_whole_mixing_texts_numbers.Holds := by
  exact end_Pk27 7 ⟨rfl, by decide, by decide⟩ fun ns hn _ => Pk27.F41 0 ns hn _
