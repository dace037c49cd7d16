import PyProof.Rows.All
import Wide.All
import OpenK.AllK
import Wide.FinOn
import HandS.ForMost
import HandS.Flow
import HandS.Conv
import HandS.Lambda
import HandS.ExcValue
import HandS.ExcInit
import HandS.TupAny
import HandS.Wide
import HandS.Style
import HandS.Text
import KE.DataEq
import HandS.Dict
import HandS.TupMul
import PyProof.StrOps2
import HandS.Codes
import HandS.IsInst
import HandS.ExcIs
import HandS.WordsDict
import KE.KExcIs
import PyProof.ExcAttrAll.ValueError
import HandS.Replace
import HandS.ReplaceList
import HandS.ReplaceLit
import HandS.Zip
import HandS.ExcOwn
import HandS.NoneIn
import HandS.Small
import HandS.EndTab
import HandS.HeadWalk
import HandS.ReplaceDef
import HandS.FStr
import PyProof.ReprRoads
import PyProof.StrLawsRepr
import PyProof.FitsInt
import KE.KDictPairs
import HandS.ListItems
import HandS.More
import HandS.TupSets
import KE.KItemsList
import HandS.DictTup
import HandS.SetFor
import HandS.Strs
import HandS.ExcField
import KE.KExcSuper
import HandS.ExcBuiltin
import KE.KDictZip
import HandS.HeadHook4
import HandS.Defaults
import HandS.HeadEnd
import HandS.Head0
import HandS.Head1
import HandS.Head2
import KE.KNestM
import PyProof.StrLawsFrom
import PyProof.MeetsStr3
import PySem.Challenge.RW_everyview_k00_errors_and_their_fields
/-! Ev0: data, a small language, its evaluator (core Lean alone). -/
namespace Pm
set_option autoImplicit false

/-- keys of dicts: ints and texts (texts by their codes) -/
inductive DKey where
  | i (n : Int) | s (x : List Nat)
  deriving DecidableEq

/-- values: tuples, lists, dicts that nobody changes any more stand by value; what may change stands in the store -/
inductive D where
  | non | bl (b : Bool) | int (i : Int) | str (x : List Nat)
  | tup (xs : List D) | lst (xs : List D) | dct (kvs : List (DKey × D))
  | ref (n : Nat)
  | scr (ns : List Int)
  /-- what zip and enumerate hand on: parted, and no more -/
  | itp (xs : List D)
  /-- an error that was made (its class, its fields), a ValueError -/
  | err (c : Nat) (fs : List (List Nat × D)) | ver

/-- what stands in the store -/
inductive Ob where
  | dead
  | lst (xs : List D)
  | dct (kvs : List (DKey × D))
  | ins (c : Nat) (fs : List (List Nat × D))

abbrev Store := List Ob
abbrev Loc := List (Option D)

inductive Res (α : Type) where
  | ok (a : α) (st : Store)
  | exc (c : Nat) (fs : List D) (st : Store)
  | bad

def Res.bind {α β : Type} : Res α → (α → Store → Res β) → Res β
  | .ok a st, f => f a st
  | .exc c fs st, _ => .exc c fs st
  | .bad, _ => .bad
/-- where nothing may be raised -/
def Res.calm {α : Type} : Res α → Res α
  | .exc _ _ _ => .bad
  | r => r

inductive Flow where
  | nx (l : Loc) | rt (d : D) | bk (l : Loc) | ct (l : Loc)

inductive Op where
  | add | sub | mul | fdiv | mod | pow | shl
  deriving DecidableEq
inductive Cm where
  | eq | ne | lt | le | gt | ge | isin | notin
  deriving DecidableEq
inductive Tg where
  | int | bool | str | tuple | list | dict | own (c : Nat) | verr
  deriving DecidableEq
inductive Bi where
  | len | tuple | list | dict | int | str | abs | ord | all | any | repr | sorted | max2 | max | min | sum | bool | sset | sitm
  deriving DecidableEq
inductive Mt where
  | append | extend | join | split | replace1 | replace | get | items | pop | count | index | upper
  deriving DecidableEq
/-- x[::-1] -/
inductive U1 where
  | revt
  deriving DecidableEq
inductive T where
  | nm (i : Nat) | tp (is : List Nat)
  deriving DecidableEq

mutual
inductive E where
  | non | bl (b : Bool) | int (i : Int) | str (x : List Nat)
  | v (i : Nat)
  | g (i : Nat)
  | tup (es : Es) | lst (es : Es)
  | bin (op : Op) (a b : E) | neg (a : E)
  | cmp (op : Cm) (a b : E) | chn (o1 o2 : Cm) (a b c : E)
  | isn (a : E) | nisn (a : E)
  | and (a b : E) | or (a b : E) | not (a : E) | ite (c a b : E)
  | ix (a b : E) | slc (a : E) (lo hi : Oe) | rev (a : E)
  | isi (a : E) (ts : List Tg)
  | call (f : Nat) (es : Es)
  | thk (f : Nat) (body : E)
  | frc
  | isx (t : Tg)
  | bi (b : Bi) (es : Es)
  | mt (m : Mt) (o : E) (es : Es)
  | lc (elt : E) (t : T) (it : It) (c : Oe)
  | fmt (es : Es)
  | dic (ks : List DKey) (es : Es)
  | box (a : E) | frz (i : Nat)
  | un (u : U1) (a : E)
  | mk (c : Nat) (es : Es) | mkv (es : Es) | fld (a : E) (f : List Nat) | lzip (a b : E)
inductive Oe where
  | no | yes (e : E)
inductive Es where
  | nil | cons (e : E) (es : Es)
inductive It where
  | seq (a : E) | rng (a : E) | rng2 (a b : E) | zip (a b : E) | enm (a : E) | itm (a : E)
end

mutual
inductive S where
  | pass
  | asg (t : T) (e : E)
  | par (is : List Nat) (es : Es)
  | aug (i : Nat) (op : Op) (e : E)
  | sub (o i e : E)
  | ex (e : E)
  | ret (e : E)
  | retn
  | iff (c : E) (a b : Ss)
  | for (t : T) (it : It) (b : Ss)
  | whl (c : E) (b : Ss)
  | rse (c : Nat) (es : Es)
  | try (b : Ss) (c : Nat) (i : Nat) (h : Ss)
inductive Ss where
  | nil | cons (s : S) (ss : Ss)
end
end Pm

namespace Pm
set_option autoImplicit false

/-- the most items of a list, signs of a text -/
abbrev SL : Nat := 16777216

/-! ### plain data: equality, what is shown -/
def keyD : DKey → D
  | .i n => .int n
  | .s x => .str x
def asKey : D → Option DKey
  | .int n => some (.i n)
  | .str x => some (.s x)
  | _ => none

mutual
/-- no stored thing, dict or error within -/
def D.plain : D → Bool
  | .non => true | .bl _ => true | .int _ => true | .str _ => true
  | .tup xs => plains xs
  | .lst xs => plains xs
  | _ => false
def plains : List D → Bool
  | [] => true
  | x :: xs => x.plain && plains xs
end
mutual
/-- what repr shows -/
def D.shows : D → Bool
  | .non => true | .bl _ => true | .int _ => true | .str _ => true
  | .tup xs => showsL xs
  | .lst xs => showsL xs
  | .dct kvs => match kvs with
    | [] => true
    | [(.s _, .int _)] => true
    | _ => false
  | _ => false
def showsL : List D → Bool
  | [] => true
  | x :: xs => x.shows && showsL xs
end
mutual
def D.depth : D → Nat
  | .tup xs => depths xs + 1
  | .lst xs => depths xs + 1
  | .dct _ => 1
  | _ => 0
def depths : List D → Nat
  | [] => 0
  | x :: xs => max x.depth (depths xs)
end
mutual
/-- == of plain data -/
def eqv : D → D → Bool
  | .non, .non => true
  | .bl a, .bl b => a == b
  | .bl a, .int i => (if a then 1 else 0) == i
  | .int i, .bl a => i == (if a then 1 else 0)
  | .int i, .int j => i == j
  | .str x, .str y => x == y
  | .tup xs, .tup ys => eqvs xs ys
  | .lst xs, .lst ys => eqvs xs ys
  | _, _ => false
def eqvs : List D → List D → Bool
  | [], [] => true
  | x :: xs, y :: ys => eqv x y && eqvs xs ys
  | _, _ => false
end
mutual
/-- a bound of the length of what repr tells -/
def D.weight : D → Nat
  | .int i => i.natAbs.log2 + 3
  | .str x => 10 * x.length + 2
  | .tup xs => weights xs + 3
  | .lst xs => weights xs + 3
  | .dct kvs => match kvs with
    | [(.s x, .int i)] => 10 * x.length + i.natAbs.log2 + 15
    | _ => 5
  | _ => 5
def weights : List D → Nat
  | [] => 0
  | x :: xs => x.weight + 2 + weights xs
end
mutual
def D.tame : D → Bool
  | .int i => decide (i.natAbs.log2 < 1920)
  | .str x => x.all fun c => decide (c < 128)
  | .tup xs => tames xs
  | .lst xs => tames xs
  | .dct kvs => match kvs with
    | [(.s x, .int i)] => (x.all fun c => decide (c < 128)) && decide (i.natAbs.log2 < 1920)
    | _ => true
  | _ => true
def tames : List D → Bool
  | [] => true
  | x :: xs => x.tame && tames xs
end
def D.level (d : D) : Bool := d.plain && decide (d.depth ≤ 64)

/-! ### the store -/
/-- a list, by value or in the store -/
def listOf (st : Store) : D → Option (List D)
  | .lst xs => some xs
  | .ref n => match st[n]? with
    | some (.lst xs) => some xs
    | _ => none
  | _ => none
/-- what may be walked: lists, tuples, texts by signs -/
def seqOf (st : Store) : D → Option (List D)
  | .tup xs => some xs
  | .str x => some (x.map fun c => .str [c])
  | .lst xs => some xs
  | _ => none
def dictOf (st : Store) : D → Option (List (DKey × D))
  | .dct kvs => some kvs
  | .ref n => match st[n]? with
    | some (.dct kvs) => some kvs
    | _ => none
  | _ => none
/-- a list of the store at its top by value -/
def top (st : Store) (d : D) : D := match d with
  | .ref n => match st[n]? with
    | some (.lst xs) => .lst xs
    | _ => d
  | d => d
mutual
/-- stored lists by value, through and through (so deep) -/
def deref (st : Store) : Nat → D → D
  | 0, d => d
  | n + 1, .tup xs => .tup (derefs st n xs)
  | n + 1, .lst xs => .lst (derefs st n xs)
  | n + 1, .ref k => match st[k]? with
    | some (.lst xs) => .lst (derefs st n xs)
    | _ => .ref k
  | _ + 1, d => d
def derefs (st : Store) : Nat → List D → List D
  | 0, xs => xs
  | _ + 1, [] => []
  | n + 1, x :: xs => deref st n x :: derefs st (n + 1) xs
end

def truth (st : Store) : D → Option Bool
  | .non => some false
  | .bl b => some b
  | .int i => some (i != 0)
  | .str x => if x.length ≤ SL then some (!x.isEmpty) else none
  | .tup xs => some (!xs.isEmpty)
  | .lst xs => some (!xs.isEmpty)
  | .dct kvs => some (!kvs.isEmpty)
  | .ref n => match st[n]? with
    | some (.lst xs) => some (!xs.isEmpty)
    | some (.dct kvs) => some (!kvs.isEmpty)
    | _ => none
  | _ => none

/-! ### operators -/
def big : Nat := 2 ^ 900
def mulOk (i j : Int) : Bool := (decide (-(2 ^ 64) < i) && decide (i < 2 ^ 64)) || (decide (-(2 ^ 64) < j) && decide (j < 2 ^ 64)) || (decide (i.natAbs < big) && decide (j.natAbs < big))
def ints2 (a b : D) (f : Int → Int → Option Int) : Option D := match a, b with
  | .int i, .int j => (f i j).map .int
  | _, _ => none
def addD (st : Store) (a b : D) : Option D := match a, b with
  | .int i, .int j => some (.int (i + j))
  | .str x, .str y => if x.length + y.length ≤ SL then some (.str (x ++ y)) else none
  | .tup x, .tup y => if x.length + y.length ≤ SL then some (.tup (x ++ y)) else none
  | a, b => match listOf st a, listOf st b with
    | some x, some y => if x.length + y.length ≤ SL then some (.lst (x ++ y)) else none
    | _, _ => none
def mulD (st : Store) (a b : D) : Option D := match a, b with
  | .int i, .int j => if mulOk i j then some (.int (i * j)) else none
  | .str x, .int j => if x.length * j.toNat ≤ SL ∧ j < 2 ^ 62 ∧ -(2 ^ 62) < j then some (.str (List.replicate j.toNat x).flatten) else none
  | .tup x, .int j => if !x.isEmpty ∧ 1 ≤ j ∧ j ≤ 1000 ∧ x.length ≤ 1000 then some (.tup (List.replicate j.toNat x).flatten) else none
  | a, .int j => (listOf st a).bind fun x => if x.length * j.toNat ≤ SL ∧ j < 2 ^ 62 ∧ -(2 ^ 62) < j then some (.lst (List.replicate j.toNat x).flatten) else none
  | _, _ => none
def binD (st : Store) (op : Op) (a b : D) : Option D := match op with
  | .add => addD st a b
  | .sub => ints2 a b fun i j => some (i - j)
  | .mul => mulD st a b
  | .fdiv => ints2 a b fun i j => if 0 < j ∧ j < 1073741824 then some (i / j) else none
  | .mod => ints2 a b fun i j => if 0 < j then some (i % j) else none
  | .pow => ints2 a b fun i j => if 0 ≤ j ∧ j ≤ 1000 ∧ i.natAbs < 2 ^ 64 then some (i ^ j.toNat) else none
  | .shl => ints2 a b fun i j => if 0 ≤ j ∧ j ≤ 1000 ∧ i.natAbs < 2 ^ 64 then some (i * 2 ^ j.toNat) else none

def lookK (k : DKey) : List (DKey × D) → Option D
  | [] => none
  | p :: r => if p.1 = k then some p.2 else lookK k r
def putK (k : DKey) (d : D) (kvs : List (DKey × D)) : List (DKey × D) :=
  if (kvs.any fun p => decide (p.1 = k)) = true then kvs.map (fun p => if p.1 = k then (p.1, d) else p) else kvs ++ [(k, d)]
def mergeD (ks : List DKey) (ds : List D) : List (DKey × D) := (ks.zip ds).foldl (fun a p => putK p.1 p.2 a) []
/-- x < y of texts -/
def ltS (x y : List Nat) : Bool := decide (x < y)
/-- < of what is put in order: ints, texts, tuples of such -/
def ordB (f : Int → Int → Bool) (g : List Nat → List Nat → Bool) (a b : D) : Option Bool := match a, b with
  | .int i, .int j => some (f i j)
  | .str x, .str y => some (g x y)
  | _, _ => none
def eqD (st : Store) (a b : D) : Option Bool := if (top st a).level && (top st b).level then some (eqv (top st a) (top st b)) else none
def inSeq (a : D) (ys : List D) : Option Bool := if a.level && plains ys && decide (depths ys ≤ 60) then some (ys.any fun y => eqv y a) else none
def inD (st : Store) (a b : D) : Option Bool := match b with
  | .str y => match a with
    | .str [c] => some (y.contains c)
    | _ => none
  | .tup ys => inSeq a ys
  | b => match listOf st b with
    | some ys => inSeq a ys
    | none => match dictOf st b, asKey a with
      | some kvs, some k => some (lookK k kvs).isSome
      | _, _ => none
def cmpD (st : Store) (op : Cm) (a b : D) : Option Bool := match op with
  | .lt => ordB (fun i j => decide (i < j)) (fun x y => ltS x y) a b
  | .le => ordB (fun i j => decide (i ≤ j)) (fun x y => !ltS y x) a b
  | .gt => ordB (fun i j => decide (j < i)) (fun x y => ltS y x) a b
  | .ge => ordB (fun i j => decide (j ≤ i)) (fun x y => !ltS x y) a b
  | .eq => eqD st a b
  | .ne => (eqD st a b).map (!·)
  | .isin => inD st a b
  | .notin => (inD st a b).map (!·)

/-- a place counted from the end where below 0 -/
def place (n : Nat) (i : Int) : Option Nat := if 0 ≤ i then (if i < n then some i.toNat else none) else if -(n : Int) ≤ i then some (i + n).toNat else none
def ixD (st : Store) (a b : D) : Option D := match a, b with
  | .str x, .int i => if x.length ≤ SL then (place x.length i).bind fun j => (x[j]?).map fun c => .str [c] else none
  | .tup xs, .int i => (place xs.length i).bind fun j => xs[j]?
  | a, b => match listOf st a, b with
    | some xs, .int i => (place xs.length i).bind fun j => xs[j]?
    | _, _ => match dictOf st a, asKey b with
      | some kvs, some k => lookK k kvs
      | _, _ => none
/-- a bound of a slice among n places (d where it is left out) -/
def cutIx (n d : Nat) : Option Int → Nat
  | none => d
  | some v => if v < 0 then (v + (n : Int)).toNat else min v.toNat n
def cut {α : Type} (xs : List α) (lo hi : Option Int) : List α := (xs.drop (cutIx xs.length 0 lo)).take (cutIx xs.length xs.length hi - cutIx xs.length 0 lo)
def slcD (st : Store) (a : D) (lo hi : Option Int) : Option D := match a with
  | .scr ns => some (.lst ((cut ns lo hi).map .int))
  | .str x => if x.length ≤ SL then some (.str (cut x lo hi)) else none
  | .tup xs => some (.tup (cut xs lo hi))
  | a => (listOf st a).map fun xs => .lst (cut xs lo hi)
def partD : D → Option (Option Int)
  | .int i => some (some i)
  | _ => none

def isD (st : Store) (anc : Nat → List Nat) (d : D) (t : Tg) : Bool := match d, t with
  | .bl _, .bool => true
  | .bl _, .int => true
  | .int _, .int => true
  | .str _, .str => true
  | .tup _, .tuple => true
  | .lst _, .list => true
  | .dct _, .dict => true
  | .err c _, .own k => (anc c).contains k
  | .err _ _, .verr => true
  | .ver, .verr => true
  | .ref n, .list => match st[n]? with
    | some (.lst _) => true
    | _ => false
  | .ref n, .dict => match st[n]? with
    | some (.dct _) => true
    | _ => false
  | .ref n, .own k => match st[n]? with
    | some (.ins c _) => (anc c).contains k
    | _ => false
  | _, _ => false

/-! ### built-ins -/
def codes (s : String) : List Nat := s.toList.map Char.toNat
def intText (i : Int) : List Nat := codes (toString i)
def isDigits (x : List Nat) : Bool := !x.isEmpty && x.all fun c => decide (48 ≤ c) && decide (c ≤ 57)
def digitsVal (x : List Nat) : Nat := x.foldl (fun a c => 10 * a + (c - 48)) 0
def strsOf : List D → Option (List (List Nat))
  | [] => some []
  | .str x :: r => (strsOf r).map (x :: ·)
  | _ :: _ => none
def boolsOf : List D → Option (List Bool)
  | [] => some []
  | .bl b :: r => (boolsOf r).map (b :: ·)
  | _ :: _ => none
def intsOf : List D → Option (List Int)
  | [] => some []
  | .int i :: r => (intsOf r).map (i :: ·)
  | _ :: _ => none
def joinT (sep : List Nat) : List (List Nat) → List Nat
  | [] => []
  | [x] => x
  | x :: y :: r => x ++ sep ++ joinT sep (y :: r)
/-- a text parted at each sign c -/
def splitC (c : Nat) : List Nat → List (List Nat)
  | [] => [[]]
  | a :: r => if a = c then [] :: splitC c r else match splitC c r with
    | [] => [[a]]
    | p :: ps => (a :: p) :: ps
/-- each sign c replaced -/
def replC (c : Nat) (y : List Nat) : List Nat → List Nat
  | [] => []
  | a :: r => if a = c then y ++ replC c y r else a :: replC c y r
/-- the first sign c replaced -/
def replC1 (c : Nat) (y : List Nat) : List Nat → List Nat
  | [] => []
  | a :: r => if a = c then y ++ r else a :: replC1 c y r
def rangeD (a b : Int) : List D := (List.range (b - a).toNat).map fun (i : Nat) => .int (a + (i : Int))
end Pm

namespace Pm
set_option autoImplicit false
set_option linter.unusedVariables false

/-- what a program's text gives: its functions, constants, classes (each with its own ancestors, itself too), what repr tells -/
structure Fn where
  nps : Nat
  nsl : Nat
  body : Ss
structure Par where
  funs : Nat → Option Fn
  consts : Nat → D
  anc : Nat → List Nat
  ncl : Nat
  fuel : Nat
  rp : D → List Nat
  fld : List (Option (List Nat)) := []

abbrev M := Store → Res D
abbrev FnSem := Nat → List D → M → M

def insI (i : Int) : List Int → List Int
  | [] => [i]
  | j :: r => if i ≤ j then i :: j :: r else j :: insI i r
def sortI : List Int → List Int
  | [] => []
  | i :: r => insI i (sortI r)
def insS (i : List Nat) : List (List Nat) → List (List Nat)
  | [] => [i]
  | j :: r => if ltS j i then j :: insS i r else i :: j :: r
def sortS : List (List Nat) → List (List Nat)
  | [] => []
  | i :: r => insS i (sortS r)

/-- pairs (key, value) -/
def pairsK : List D → Option (List (DKey × D))
  | [] => some []
  | .tup [k, d] :: r => match asKey k, pairsK r with
    | some k, some r => some ((k, d) :: r)
    | _, _ => none
  | _ :: _ => none
def putAll (a : List (DKey × D)) : List (DKey × D) → List (DKey × D)
  | [] => a
  | p :: r => putAll (putK p.1 p.2 a) r
def intKeys : List (DKey × D) → Option (List Int)
  | [] => some []
  | (.i n, _) :: r => (intKeys r).map (n :: ·)
  | _ :: _ => none
def strKeys : List (DKey × D) → Option (List (List Nat))
  | [] => some []
  | (.s n, _) :: r => (strKeys r).map (n :: ·)
  | _ :: _ => none
def intItems : List (DKey × D) → Option (List (Int × Int))
  | [] => some []
  | (.i n, .int m) :: r => (intItems r).map ((n, m) :: ·)
  | _ :: _ => none
/-- ascending, each once -/
def dedupI (is : List Int) : List Int := (sortI is).foldr (fun i r => match r with
  | [] => [i]
  | j :: _ => if i = j then r else i :: r) []
def insP (p : Int × Int) : List (Int × Int) → List (Int × Int)
  | [] => [p]
  | q :: r => if p.1 < q.1 ∨ (p.1 = q.1 ∧ p.2 ≤ q.2) then p :: q :: r else q :: insP p r
def sortP : List (Int × Int) → List (Int × Int)
  | [] => []
  | p :: r => insP p (sortP r)
/-- pairs of ints -/
def intPairs : List D → Option (List (Int × Int))
  | [] => some []
  | .tup [.int n, .int m] :: r => (intPairs r).map ((n, m) :: ·)
  | _ :: _ => none
def pairOk (p : Int × Int) : Bool := decide (0 ≤ p.1) && decide (p.1 < 2 ^ 200) && decide (0 ≤ p.2) && decide (p.2 < 2 ^ 200)
def unD (u : U1) (x : D) : Option D := match u, x with
  | .revt, .tup xs => some (.tup xs.reverse)
  | _, _ => none
def biD (P : Par) (st : Store) (b : Bi) (ds : List D) : Option D := match b, ds with
  | .len, [.str x] => if x.length ≤ SL then some (.int x.length) else none
  | .len, [.tup x] => some (.int x.length)
  | .len, [d] => match listOf st d with
    | some xs => some (.int xs.length)
    | none => (dictOf st d).map fun kvs => .int kvs.length
  | .tuple, [.tup x] => some (.tup x)
  | .tuple, [d] => (listOf st d).map .tup
  | .list, [.tup x] => some (.lst x)
  | .list, [d] => match listOf st d with
    | some xs => some (.lst xs)
    | none => (dictOf st d).map fun kvs => .lst (kvs.map fun p => keyD p.1)
  | .int, [.int i] => some (.int i)
  | .int, [.bl b] => some (.int (if b then 1 else 0))
  | .int, [.str x] => if isDigits x && decide (x.length ≤ 600) then some (.int (digitsVal x)) else none
  | .str, [.int i] => if i.natAbs.log2 < 1920 then some (.str (intText i)) else none
  | .abs, [.int i] => some (.int (if i < 0 then -i else i))
  | .ord, [.str [c]] => some (.int c)
  | .all, [d] => ((listOf st d).bind boolsOf).map fun bs => .bl (bs.all id)
  | .any, [d] => ((listOf st d).bind boolsOf).map fun bs => .bl (bs.any id)
  | .repr, [d] => if (deref st 9 d).shows && decide ((deref st 9 d).depth ≤ 64) && (deref st 9 d).tame && decide ((deref st 9 d).weight ≤ 10000000) then some (.str (P.rp (deref st 9 d))) else none
  | .dict, [.tup xs] => if xs.length ≤ SL then (pairsK xs).map fun kvs => .dct (putAll [] kvs) else none
  | .dict, [d] => (listOf st d).bind fun xs => if xs.length ≤ SL then (pairsK xs).map fun kvs => .dct (putAll [] kvs) else none
  | .sorted, [d] => match listOf st d with
    | some xs => if xs.length < 64 then (match intsOf xs with
      | some is => some (.lst ((sortI is).map .int))
      | none => match strsOf xs with
        | some ss => some (.lst ((sortS ss).map .str))
        | none => (intPairs xs).bind fun ps => if ps.all pairOk = true then some (.lst ((sortP ps).map fun p => .tup [.int p.1, .int p.2])) else none) else none
    | none => (dictOf st d).bind fun kvs => if kvs.length < 64 then (intKeys kvs).map fun is => .lst ((sortI is).map .int) else none
  | .sset, [d] => (listOf st d).bind fun xs => if xs.length < 64 then (intsOf xs).map fun is => .lst ((dedupI is).map .int) else none
  | .sitm, [d] => (dictOf st d).bind fun kvs => if kvs.length < 64 then (intItems kvs).bind fun is => if (is.all fun p => decide (0 ≤ p.1) && decide (0 ≤ p.2)) = true then some (.lst ((sortP is).map fun p => .tup [.int p.1, .int p.2])) else none else none
  | .max, [d] => (listOf st d).bind fun xs => (intsOf xs).bind fun is => match is with
    | [] => none
    | i :: r => some (.int (r.foldl (fun a b => if a < b then b else a) i))
  | .sum, [d] => (listOf st d).bind fun xs => (intsOf xs).map fun is => .int is.sum
  | .max2, [.int i, .int j] => some (.int (if j > i then j else i))
  | .bool, [.bl b] => some (.bl b)
  | _, _ => none

def mtD (P : Par) (m : Mt) (o : D) (ds : List D) (st : Store) : Option (D × Store) := match m, o, ds with
  | .append, .ref n, [d] => match st[n]? with
    | some (.lst xs) => if xs.length < SL then some (.non, st.set n (.lst (xs ++ [d]))) else none
    | _ => none
  | .extend, .ref n, [d] => match st[n]?, listOf st d with
    | some (.lst xs), some ys => if xs.length + ys.length ≤ SL then some (.non, st.set n (.lst (xs ++ ys))) else none
    | _, _ => none
  | .join, .str sep, [d] => ((listOf st d).bind strsOf).bind fun xs => if (xs.map List.length).sum + xs.length * sep.length ≤ SL then some (.str (joinT sep xs), st) else none
  | .split, .str x, [.str [c]] => if x.length + 2 ≤ SL ∧ c < 256 then some (.lst ((splitC c x).map .str), st) else none
  | .pop, .ref n, [.int i] => match st[n]? with
    | some (.lst xs) => if xs.length ≤ SL then (place xs.length i).bind fun j => (xs[j]?).map fun y => (y, st.set n (.lst (xs.eraseIdx j))) else none
    | _ => none
  | .replace1, .str x, [.str [c], .str y, .int 1] => if x.length + y.length < SL then some (.str (replC1 c y x), st) else none
  | .replace, .str x, [.str [c], .str y] => if x.length + (x.length + 1) * y.length ≤ SL then some (.str (replC c y x), st) else none
  | .upper, .str x, [] => if x.length ≤ 5000000 ∧ x.all (fun c => decide (c < 128)) = true then some (.str (x.map fun c => if 97 ≤ c ∧ c ≤ 122 then c - 32 else c), st) else none
  | .index, d, [.bl b] => (listOf st d).bind fun xs => (boolsOf xs).bind fun bs => if b ∈ bs then some (.int (bs.idxOf b), st) else none
  | .count, d, [.bl b] => (listOf st d).bind fun xs => (boolsOf xs).map fun bs => (.int (bs.count b), st)
  | .get, d, [k, e] => (dictOf st d).bind fun kvs => (asKey k).map fun k => ((lookK k kvs).getD e, st)
  | .items, d, [] => (dictOf st d).map fun kvs => (.lst (kvs.map fun p => .tup [keyD p.1, p.2]), st)
  | _, _, _ => none

inductive Mk where
  | str | list | dict
  deriving DecidableEq
def mtK : Mt → Mk
  | .append => .list | .extend => .list | .index => .list | .count => .list | .pop => .list
  | .get => .dict | .items => .dict
  | _ => .str
/-- the receiver is of the method's type -/
def mtOk (m : Mt) (st : Store) (x : D) : Bool := match mtK m with
  | .str => match x with
    | .str _ => true
    | _ => false
  | .list => (listOf st x).isSome
  | .dict => (dictOf st x).isSome
/-- what a part of an f-string tells -/
def fmt1 : D → Option (List Nat)
  | .str x => if x.length ≤ SL then some x else none
  | .int i => if i.natAbs.log2 < 1920 then some (intText i) else none
  | _ => none

/-- a target is given a value -/
def setT (t : T) (d : D) (l : Loc) : Option Loc := match t with
  | .nm i => if i < l.length then some (l.set i (some d)) else none
  | .tp is => match (match d with | .tup ds => some ds | .itp ds => some ds | .lst ds => some ds | _ => none) with
    | some ds => if is.length = ds.length ∧ (is.all fun i => decide (i < l.length)) = true then some ((is.zip ds).foldl (fun l p => l.set p.1 (some p.2)) l) else none
    | none => none

def Res.ofOpt {α : Type} (o : Option α) (st : Store) : Res α := match o with
  | some a => .ok a st
  | none => .bad
def Res.ofPair {α : Type} (o : Option (α × Store)) : Res α := match o with
  | some (a, st) => .ok a st
  | none => .bad


/-- x op= y: ints alone -/
def augD (op : Op) (x y : D) : Option D := match op with
  | .add => ints2 x y fun i j => some (i + j)
  | .sub => ints2 x y fun i j => some (i - j)
  | _ => none

/-! ### ends, put together by names -/
def Flow.go (f : Flow) (k : Loc → Res Flow) (st : Store) : Res Flow := match f with
  | .nx l => k l
  | f => .ok f st
/-- behind a turn: on, or out -/
def Flow.turn (f : Flow) (k : Loc → Res Flow) (st : Store) : Res Flow := match f with
  | .nx l => k l
  | .ct l => k l
  | .bk l => .ok (.nx l) st
  | .rt d => .ok (.rt d) st
def Flow.ends (f : Flow) (st : Store) : Res D := match f with
  | .nx _ => .ok .non st
  | .rt d => .ok d st
  | _ => .bad
/-- behind an except suite: the error's name is gone -/
def Flow.out (f : Flow) (i : Nat) (st : Store) : Res Flow := match f with
  | .nx l => .ok (.nx (l.set i none)) st
  | .rt d => .ok (.rt d) st
  | _ => .bad
def optB {α : Type} (o : Option Bool) (t f : Res α) : Res α := match o with
  | some true => t
  | some false => f
  | none => .bad
def ifB {α : Type} (b : Bool) (t f : Res α) : Res α := match b with
  | true => t
  | false => f
def optR {α β : Type} (o : Option α) (f : α → Res β) : Res β := match o with
  | some a => f a
  | none => .bad
def asInt {α : Type} (d : D) (f : Int → Res α) : Res α := match d with
  | .int i => f i
  | _ => .bad
/-- what is not gone from the store -/
def live (st : Store) (x : D) : Option D := match x with
  | .ref n => match st[n]? with
    | some .dead => none
    | some _ => some x
    | none => none
  | x => some x
def liveT (st : Store) (x : D) : Option D := match x with
  | .scr _ => none
  | .itp _ => none
  | .err _ _ => none
  | .ver => none
  | x => live st x
/-- what isinstance may be asked about -/
def liveI (ncl : Nat) (ts : List Tg) (st : Store) (x : D) : Option D := match x with
  | .err c fs => match ts with
    | [.own _] => if c < ncl then some (.err c fs) else none
    | [.verr] => if c < ncl then some (.err c fs) else none
    | _ => none
  | .ver => match ts with
    | [.own _] => some .ver
    | [.verr] => some .ver
    | _ => none
  | x => liveT st x
/-- is an error of the class c a t? -/
def isE (anc : Nat → List Nat) (c : Nat) : Tg → Bool
  | .own k => (anc c).contains k
  | .verr => true
  | _ => false
def isNon : D → Bool
  | .non => true
  | _ => false
/-- is it True itself? -/
def revD : D → Option D
  | .bl b => some (.bl b)
  | .non => some (.bl false)
  | .int _ => some (.bl false)
  | .str _ => some (.bl false)
  | _ => none
def boxD (d : D) (st : Store) : Res D := match d with
  | .lst xs => .ok (.ref st.length) (st ++ [.lst xs])
  | .dct kvs => .ok (.ref st.length) (st ++ [.dct kvs])
  | _ => .bad
def frzD (o : Option (Option D)) (st : Store) : Res D := match o with
  | some (some (.ref n)) => match st[n]? with
    | some (.lst xs) => .ok (.lst xs) (st.set n .dead)
    | some (.dct kvs) => .ok (.dct kvs) (st.set n .dead)
    | _ => .bad
  | _ => .bad
def subD (x k d : D) (l : Loc) (st : Store) : Res Flow := match x with
  | .ref n => match st[n]? with
    | some (.lst xs) => asInt k fun k => optR (place xs.length k) fun j => .ok (.nx l) (st.set n (.lst (xs.set j d)))
    | some (.dct kvs) => optR (asKey k) fun k => if kvs.length < SL then .ok (.nx l) (st.set n (.dct (putK k d kvs))) else .bad
    | _ => .bad
  | _ => .bad
def zipD (x y : D) : Option (List D) := match x, y with
  | .tup xs, .tup ys => some ((xs.zip ys).map fun p => .itp [p.1, p.2])
  | .lst xs, .lst ys => some ((xs.zip ys).map fun p => .itp [p.1, p.2])
  | _, _ => none
def enmD (x : D) : Option (List D) := match x with
  | .lst xs => some ((xs.zipIdx).map fun p => .itp [.int p.2, p.1])
  | _ => none
def rngD (i j : Int) : Option (List D) := if -(2 ^ 62) ≤ i ∧ i < 2 ^ 62 ∧ -(2 ^ 62) ≤ j ∧ j < 2 ^ 62 then some (rangeD i j) else none
def sized (ds : List D) (d : D) (st : Store) : Res D := if ds.length ≤ SL then .ok d st else .bad
/-- a try: the body's end, or its error where the clause is for it -/
def Res.tried (r : Res Flow) (p : Nat → Option Bool) (h : Nat → Store → Res Flow) : Res Flow := match r with
  | .exc k fs st => optB (p k) (h k st) (.exc k fs st)
  | r => r
/-- is an error of the class k caught by a clause for c? -/
def Par.catches (P : Par) (c k : Nat) : Option Bool := if k < P.ncl then some ((P.anc k).contains c) else none

/-- the field that errors of a class keep -/
def Par.fl (P : Par) (c : Nat) : Option (List Nat) := (P.fld[c]?).join
/-- an own error is made -/
def mkD (P : Par) (c : Nat) (ds : List D) : Option D := match P.fl c, ds with
  | none, [] => some (.err c [])
  | some f, [d] => some (.err c [(f, d)])
  | _, _ => none
/-- list(zip(xs, ys)) of lists of one length -/
def lzipD (x y : D) : Option D := match x, y with
  | .lst xs, .lst ys => if xs.length = ys.length then some (.lst ((xs.zip ys).map fun p => .itp [p.1, p.2])) else none
  | _, _ => none
def verD : List D → Option D
  | [.str _] => some .ver
  | _ => none
def fldD (P : Par) (x : D) (f : List Nat) : Option D := match x with
  | .err c [(g, d)] => if g = f ∧ P.fl c = some f then some d else none
  | _ => none

/-- the elements of a comprehension, item by item -/
def compL (t : T) (tst : Loc → Store → Res Bool) (elt : Loc → Store → Res D) (l : Loc) : List D → Store → Res (List D)
  | [], st => .ok [] st
  | x :: xs, st => optR (setT t x l) fun l' => (tst l' st).bind fun b st => ifB b ((elt l' st).bind fun d st => (compL t tst elt l xs st).bind fun ds st => .ok (d :: ds) st) (compL t tst elt l xs st)
/-- a for over items -/
def forL (t : T) (body : Loc → Store → Res Flow) : List D → Loc → Store → Res Flow
  | [], l, st => .ok (.nx l) st
  | x :: xs, l, st => optR (setT t x l) fun l' => (body l' st).bind fun f st => f.turn (fun l => forL t body xs l st) st
def whlL (tst : Loc → Store → Res Bool) (body : Loc → Store → Res Flow) : Nat → Loc → Store → Res Flow
  | 0, _, _ => .bad
  | n + 1, l, st => (tst l st).bind fun b st => ifB b ((body l st).bind fun f st => f.turn (fun l => whlL tst body n l st) st) (.ok (.nx l) st)

section
variable (P : Par) (F : FnSem) (th : M) (xc : Option Nat)
mutual
def evE : E → Loc → Store → Res D
  | .non, _, st => .ok .non st
  | .bl b, _, st => .ok (.bl b) st
  | .int i, _, st => .ok (.int i) st
  | .str x, _, st => .ok (.str x) st
  | .v i, l, st => optR (l[i]?) fun o => optR o fun d => .ok d st
  | .g i, _, st => .ok (P.consts i) st
  | .tup es, l, st => (evEs es l st).bind fun ds st => sized ds (.tup ds) st
  | .lst es, l, st => (evEs es l st).bind fun ds st => sized ds (.lst ds) st
  | .bin op a b, l, st => (evE a l st).bind fun x st => (evE b l st).bind fun y st => .ofOpt (binD st op x y) st
  | .neg a, l, st => (evE a l st).bind fun x st => asInt x fun i => .ok (.int (-i)) st
  | .cmp op a b, l, st => (evE a l st).bind fun x st => (evE b l st).bind fun y st => .ofOpt ((cmpD st op x y).map .bl) st
  | .chn o1 o2 a b c, l, st => (evE a l st).bind fun x st => (evE b l st).bind fun y st => optB (cmpD st o1 x y) ((evE c l st).bind fun z st => .ofOpt ((cmpD st o2 y z).map .bl) st) (.ok (.bl false) st)
  | .isn a, l, st => (evE a l st).bind fun x st => optR (live st x) fun x => .ok (.bl (isNon x)) st
  | .nisn a, l, st => (evE a l st).bind fun x st => optR (live st x) fun x => .ok (.bl (!isNon x)) st
  | .and a b, l, st => (evE a l st).bind fun x st => optB (truth st x) (evE b l st) (.ok x st)
  | .or a b, l, st => (evE a l st).bind fun x st => optB (truth st x) (.ok x st) (evE b l st)
  | .not a, l, st => (evE a l st).bind fun x st => .ofOpt ((truth st x).map fun b => .bl (!b)) st
  | .ite c a b, l, st => (evT c l st).bind fun k st => ifB k (evE a l st) (evE b l st)
  | .ix a b, l, st => (evE a l st).bind fun x st => (evE b l st).bind fun y st => .ofOpt (ixD st x y) st
  | .slc a lo hi, l, st => (evE a l st).bind fun x st => (evO lo l st).bind fun u st => (evO hi l st).bind fun w st => .ofOpt (slcD st x u w) st
  | .rev a, l, st => (evE a l st).bind fun x st => .ofOpt (revD x) st
  | .isi a ts, l, st => (evE a l st).bind fun x st => optR (liveI P.ncl ts st x) fun x => .ok (.bl (ts.any (isD st P.anc x))) st
  | .call f es, l, st => (evEs es l st).bind fun ds st => F f ds (fun _ => .bad) st
  | .thk f body, l, st => (F f [] (evE body l) st).calm
  | .frc, _, st => th st
  | .isx t, _, st => optR xc fun c => .ok (.bl (isE P.anc c t)) st
  | .bi b es, l, st => (evEs es l st).bind fun ds st => .ofOpt (biD P st b ds) st
  | .mt m o es, l, st => (evE o l st).bind fun x st => ifB (mtOk m st x) ((evEs es l st).bind fun ds st => .ofPair (mtD P m x ds st)) .bad
  | .lc elt t it c, l, st => (evI it l st).bind fun xs st => ((compL t (fun l st => evC c l st) (fun l st => evE elt l st) l xs st).calm).bind fun ds st => sized ds (.lst ds) st
  | .fmt es, l, st => (evFm es [] l st).bind fun x st => .ok (.str x) st
  | .dic ks es, l, st => (evEs es l st).bind fun ds st => if ks.length = ds.length ∧ ds.length ≤ 15 then .ok (.dct (mergeD ks ds)) st else .bad
  | .box a, l, st => (evE a l st).bind fun x st => boxD x st
  | .un u a, l, st => (evE a l st).bind fun x st => .ofOpt (unD u x) st
  | .frz i, l, st => frzD (l[i]?) st
  | .mk c es, l, st => (evEs es l st).bind fun ds st => .ofOpt (mkD P c ds) st
  | .mkv es, l, st => (evEs es l st).bind fun ds st => .ofOpt (verD ds) st
  | .fld a f, l, st => (evE a l st).bind fun x st => .ofOpt (fldD P x f) st
  | .lzip a b, l, st => (evE a l st).bind fun x st => (evE b l st).bind fun y st => .ofOpt (lzipD x y) st
/-- a test -/
def evT : E → Loc → Store → Res Bool
  | .and a b, l, st => (evT a l st).bind fun k st => ifB k (evT b l st) (.ok false st)
  | .or a b, l, st => (evT a l st).bind fun k st => ifB k (.ok true st) (evT b l st)
  | .not a, l, st => (evT a l st).bind fun k st => .ok (!k) st
  | e, l, st => (evE e l st).bind fun x st => .ofOpt (truth st x) st
def evO : Oe → Loc → Store → Res (Option Int)
  | .no, _, st => .ok none st
  | .yes e, l, st => (evE e l st).bind fun x st => asInt x fun i => .ok (some i) st
/-- a comprehension's test -/
def evC : Oe → Loc → Store → Res Bool
  | .no, _, st => .ok true st
  | .yes e, l, st => evT e l st
def evEs : Es → Loc → Store → Res (List D)
  | .nil, _, st => .ok [] st
  | .cons e es, l, st => (evE e l st).bind fun d st => (evEs es l st).bind fun ds st => .ok (d :: ds) st
/-- the parts of an f-string, one behind another -/
def evFm : Es → List Nat → Loc → Store → Res (List Nat)
  | .nil, acc, _, st => .ok acc st
  | .cons e es, acc, l, st => (evE e l st).bind fun d st => optR (fmt1 d) fun y => ifB (decide (acc.length + y.length ≤ SL)) (evFm es (acc ++ y) l st) .bad
/-- what a loop walks -/
def evI : It → Loc → Store → Res (List D)
  | .seq a, l, st => (evE a l st).bind fun x st => .ofOpt (seqOf st x) st
  | .rng a, l, st => (evE a l st).bind fun x st => asInt x fun j => .ofOpt (rngD 0 j) st
  | .rng2 a b, l, st => (evE a l st).bind fun x st => (evE b l st).bind fun y st => asInt x fun i => asInt y fun j => .ofOpt (rngD i j) st
  | .zip a b, l, st => (evE a l st).bind fun x st => (evE b l st).bind fun y st => .ofOpt (zipD x y) st
  | .enm a, l, st => (evE a l st).bind fun x st => .ofOpt (enmD x) st
  | .itm a, l, st => (evE a l st).bind fun x st => .ofOpt ((dictOf st x).map fun kvs => kvs.map fun p => .tup [keyD p.1, p.2]) st
end

end
section
variable (P : Par) (F : FnSem) (th : M)
mutual
def evS : S → Option Nat → Loc → Store → Res Flow
  | .pass, xc, l, st => .ok (.nx l) st
  | .asg t e, xc, l, st => (evE P F th xc e l st).bind fun d st => .ofOpt ((setT t d l).map .nx) st
  | .par is es, xc, l, st => (evEs P F th xc es l st).bind fun ds st => .ofOpt ((setT (.tp is) (.tup ds) l).map .nx) st
  | .aug i op e, xc, l, st => optR (l[i]?) fun o => optR o fun x => (evE P F th xc e l st).bind fun y st => .ofOpt ((augD op x y).map fun d => .nx (l.set i (some d))) st
  | .sub o i e, xc, l, st => (evE P F th xc e l st).bind fun d st => (evE P F th xc o l st).bind fun x st => (evE P F th xc i l st).bind fun k st => subD x k d l st
  | .ex e, xc, l, st => (evE P F th xc e l st).bind fun _ st => .ok (.nx l) st
  | .ret e, xc, l, st => (evE P F th xc e l st).bind fun d st => .ok (.rt d) st
  | .retn, xc, _, st => .ok (.rt .non) st
  | .iff c a b, xc, l, st => (evT P F th xc c l st).bind fun k st => ifB k (evSs a xc l st) (evSs b xc l st)
  | .for t it b, xc, l, st => (evI P F th xc it l st).bind fun xs st => forL t (fun l st => evSs b xc l st) xs l st
  | .whl c b, xc, l, st => whlL (fun l st => evT P F th xc c l st) (fun l st => evSs b xc l st) P.fuel l st
  | .rse c es, xc, l, st => (evEs P F th xc es l st).bind fun ds st => .exc c ds st
  | .try b c i h, xc, l, st => (evSs b xc l st).tried (P.catches c) fun k st => ((evSs h (some k) (l.set i none) st).calm).bind fun f st => f.out i st
def evSs : Ss → Option Nat → Loc → Store → Res Flow
  | .nil, xc, l, st => .ok (.nx l) st
  | .cons s ss, xc, l, st => (evS s xc l st).bind fun f st => f.go (fun l => evSs ss xc l st) st
end
end

/-- a call, so deep at the most -/
def evF (P : Par) : Nat → FnSem
  | 0, _, _, _, _ => .bad
  | n + 1, f, ds, th, st => optR (P.funs f) fun fn => if ds.length = fn.nps then (evSs P (evF P n) th fn.body none (ds.map some ++ List.replicate (fn.nsl - fn.nps) none) st).bind fun r st => r.ends st else .bad
end Pm

set_option Elab.async false
set_option linter.all false
set_option maxRecDepth 100000
set_option maxHeartbeats 2000000
/-! Ev1: how the evaluator's data stand in the abstract heap of the hand layer. -/
namespace Pm
open PySem PySem.Spec PyProof.Rows L2
set_option autoImplicit false

/-- where the store's things stand: none for what is dead -/
abbrev Rho := List (Option Addr)
/-- the frame: tables of code objects, slots that stay, things that stay, the classes, how many lists are hidden -/
structure Kx where
  T : List (Addr × PySem.Str)
  fx : List (Nat × Addr)
  cd : List (Addr × HO)
  en : List (Rho × Hp)
  cl : Nat → Addr
  h : Nat
/-- what the reading of data hangs on -/
abbrev Kx.key (κ : Kx) : Nat × (Nat → Addr) := (κ.h, κ.cl)
structure Kit extends Kx where
  K : PySem.W.Frag

def strS (x : List Nat) : Str := ⟨x.toArray⟩
def keyK : DKey → Key
  | .i n => .inl n
  | .s x => .inr (strS x)

/-- a list that nobody writes: locked, or an object of the module -/
def SqF (K : PySem.W.Frag) (H : Hp) (a : Addr) (xs : List V) : Prop :=
  (∃ o, H a = some (.frz o (.lst xs))) ∨ (SqL K (fun _ => none) a xs)
/-- a tuple whose object is known to have no dict -/
def TN (K : PySem.W.Frag) (H : Hp) (a : Addr) (xs : List V) : Prop :=
  (∃ o : Obj, o.dict = none ∧ H a = some (.frz o (.tup xs))) ∨ ∃ (o : Obj) (its : Array Value) (n : Nat), o.dict = none ∧ K.lookup a = some o ∧ o.cls = .type "tuple" ∧ o.data = .seq its n ∧ its.size ≤ sizeLine ∧ Vals xs its.toList
theorem TN.sq {K : PySem.W.Frag} {H : Hp} {a : Addr} {xs : List V} (h : TN K H a xs) : SqT K H a xs := by
  rcases h with ⟨o, _, h⟩ | ⟨o, its, n, _, h⟩
  · exact .inl (.inr ⟨o, h⟩)
  · exact .inr ⟨o, its, n, h⟩
theorem SqF.sq {K : PySem.W.Frag} {H : Hp} {a : Addr} {xs : List V} (h : SqF K H a xs) : SqL K H a xs := by
  rcases h with ⟨o, h⟩ | (h | ⟨o, h⟩) | h
  · exact .inl (.inr ⟨o, h⟩)
  · cases h
  · cases h
  · exact .inr h

mutual
inductive RelD (K : Kit) (ρ : Rho) (H : Hp) : D → V → Prop
  | non : RelD K ρ H .non .non
  | bl (b : Bool) : RelD K ρ H (.bl b) (.bl b)
  | int (i : Int) : RelD K ρ H (.int i) (.int i)
  | str (x : List Nat) : RelD K ρ H (.str x) (.str (strS x))
  | tup {ds : List D} {vs : List V} {a : Addr} : TN K.K H a vs → RelDs K ρ H ds vs → RelD K ρ H (.tup ds) (.ref a)
  | itp {ds : List D} {vs : List V} {a : Addr} : SqT K.K H a vs → RelDs K ρ H ds vs → RelD K ρ H (.itp ds) (.ref a)
  | lst {ds : List D} {vs : List V} {a : Addr} : H a = some (.lst vs) → some a ∉ ρ → RelDs K ρ H ds vs → RelD K ρ H (.lst ds) (.ref a)
  | dct {ds : List (DKey × D)} {vs : List (Key × V)} {a : Addr} : H a = some (.dK vs) → some a ∉ ρ → RelKs K ρ H ds vs → RelD K ρ H (.dct ds) (.ref a)
  | scr {ns : List Int} {a : Addr} : SqF K.K H a (ns.map V.int) → RelD K ρ H (.scr ns) (.ref a)
  | err {c : Nat} {a : Addr} : H a = some (ExO (.ref (K.cl c)) a) → RelD K ρ H (.err c []) (.ref a)
  | errf {c : Nat} {a d : Addr} {f : List Nat} {x : D} {v : V} {fs : List (Str × V)} : H a = some (exo a (K.cl c) (some d)) → H d = some (exd d fs) → fs.lookup (strS f) = some v → RelD K ρ H x v → RelD K ρ H (.err c [(f, x)]) (.ref a)
  | ver {a : Addr} : H a = some (ExO (.type "ValueError") a) → RelD K ρ H .ver (.ref a)
  | ref {n : Nat} {a : Addr} : ρ[K.h + n]? = some (some a) → RelD K ρ H (.ref n) (.ref a)
  | dead {n : Nat} {v : V} : ρ[K.h + n]? = some none → RelD K ρ H (.ref n) v
inductive RelDs (K : Kit) (ρ : Rho) (H : Hp) : List D → List V → Prop
  | nil : RelDs K ρ H [] []
  | cons {d : D} {ds : List D} {v : V} {vs : List V} : RelD K ρ H d v → RelDs K ρ H ds vs → RelDs K ρ H (d :: ds) (v :: vs)
inductive RelKs (K : Kit) (ρ : Rho) (H : Hp) : List (DKey × D) → List (Key × V) → Prop
  | nil : RelKs K ρ H [] []
  | cons {k : DKey} {d : D} {ds : List (DKey × D)} {v : V} {vs : List (Key × V)} : RelD K ρ H d v → RelKs K ρ H ds vs → RelKs K ρ H ((k, d) :: ds) ((keyK k, v) :: vs)
end

def RelOb (K : Kit) (ρ : Rho) (H : Hp) : Ob → Addr → Prop
  | .lst ds, a => ∃ vs, H a = some (.lst vs) ∧ RelDs K ρ H ds vs
  | .dct ds, a => ∃ vs, H a = some (.dK vs) ∧ RelKs K ρ H ds vs
  | _, _ => False

/-- no code object's table -/
def Calm (o : HO) : Prop := ∀ ps, o ≠ .tbl ps
/-- what a program may write -/
def mutO : HO → Bool
  | .lst _ => true
  | .dK _ => true
  | .dT _ => true
  | .set _ _ => true
  | .ins _ _ _ => true
  | _ => false

structure Sim (K : Kit) (ρ : Rho) (st : Store) (H : Hp) : Prop where
  len : ρ.length = K.h + st.length
  inj : ∀ (n m : Nat) (a : Addr), ρ[n]? = some (some a) → ρ[m]? = some (some a) → n = m
  ob : ∀ (n : Nat) (o : Ob), st[n]? = some o → (o = .dead ∧ ρ[K.h + n]? = some none) ∨ ∃ a, ρ[K.h + n]? = some (some a) ∧ RelOb K ρ H o a
  hd : ∀ (n : Nat) (a : Addr), n < K.h → ρ[n]? = some (some a) → ∃ o, H a = some o ∧ mutO o = true
  tab : LamX.Tabs K.T H
  cd : ∀ p ∈ K.cd, H p.1 = some p.2 ∧ ∃ φ, p.2 = HO.ext φ

/-- nothing but a table stands there -/
def Free (H : Hp) (a : Addr) : Prop := ∀ o, H a = some o → ∃ ps, o = HO.tbl ps
theorem Free.of {H : Hp} {a : Addr} (h : H a = none) : Free H a := fun o e => by rw [h] at e; cases e
theorem Free.no {H : Hp} {a : Addr} {o : HO} (f : Free H a) (h : H a = some o) (c : Calm o) : False := by
  obtain ⟨ps, e⟩ := f o h
  exact c ps e
structure Ext (h : Nat) (ρ : Rho) (H : Hp) (ρ' : Rho) (H' : Hp) : Prop where
  len : ρ.length ≤ ρ'.length
  old : ∀ n : Nat, n < ρ.length → ρ'[n]? = ρ[n]? ∨ ρ'[n]? = some none
  new : ∀ (n : Nat) (a : Addr), ρ.length ≤ n → ρ'[n]? = some (some a) → Free H a
  keep : ∀ (a : Addr) (o : HO), H a = some o → some a ∉ ρ → Calm o → H' a = some o
  dom : ∀ a : Addr, Free H' a → Free H a
  hid : ∀ (n : Nat) (a : Addr), n < h → ρ[n]? = some (some a) → ρ'[n]? = some (some a) ∧ ∀ o, H a = some o → H' a = some o

theorem mem_rho {ρ : Rho} {a : Addr} : some a ∈ ρ ↔ ∃ n : Nat, ρ[n]? = some (some a) := by
  rw [List.mem_iff_getElem?]

theorem Ext.refl {h : Nat} (ρ : Rho) (H : Hp) : Ext h ρ H ρ H :=
  ⟨Nat.le_refl _, fun _ _ => .inl rfl, fun n a hn e => (by rw [List.getElem?_eq_none hn] at e; exact nomatch e), fun _ _ e _ _ => e, fun _ e => e, fun _ _ _ e => ⟨e, fun _ z => z⟩⟩
theorem Ext.mem {n0 : Nat} {ρ ρ' : Rho} {H H' : Hp} (x : Ext n0 ρ H ρ' H') {a : Addr} (h : some a ∈ ρ') : some a ∈ ρ ∨ Free H a := by
  obtain ⟨n, e⟩ := mem_rho.mp h
  by_cases hn : n < ρ.length
  · rcases x.old n hn with q | q
    · exact .inl (mem_rho.mpr ⟨n, q ▸ e⟩)
    · rw [q] at e; cases e
  · exact .inr (x.new n a (Nat.le_of_not_lt hn) e)
theorem Ext.trans {h : Nat} {ρ ρ1 ρ2 : Rho} {H H1 H2 : Hp} (x : Ext h ρ H ρ1 H1) (y : Ext h ρ1 H1 ρ2 H2) : Ext h ρ H ρ2 H2 where
  len := Nat.le_trans x.len y.len
  old := fun n hn => by
    rcases y.old n (Nat.lt_of_lt_of_le hn x.len) with q | q
    · rw [q]; exact x.old n hn
    · exact .inr q
  new := fun n a hn e => by
    by_cases h1 : n < ρ1.length
    · rcases y.old n h1 with q | q
      · exact x.new n a hn (q ▸ e)
      · rw [q] at e; cases e
    · exact x.dom a (y.new n a (Nat.le_of_not_lt h1) e)
  keep := fun a o e hn hc => y.keep a o (x.keep a o e hn hc) (fun hm => by
    rcases x.mem hm with q | q
    · exact hn q
    · exact q.no e hc) hc
  dom := fun a e => x.dom a (y.dom a e)
  hid := fun n a hn e => let ⟨e1, k1⟩ := x.hid n a hn e; let ⟨e2, k2⟩ := y.hid n a hn e1; ⟨e2, fun o z => k2 o (k1 o z)⟩

/-- what is live may be written -/
theorem Sim.live {K : Kit} {ρ : Rho} {st : Store} {H : Hp} (s : Sim K ρ st H) {a : Addr} (h : some a ∈ ρ) : ∃ o, H a = some o ∧ mutO o = true := by
  obtain ⟨n, e⟩ := mem_rho.mp h
  by_cases hh : n < K.h
  · exact s.hd n a hh e
  obtain ⟨m, rfl⟩ : ∃ m, n = K.h + m := ⟨n - K.h, by omega⟩
  have hn : m < st.length := by have := (List.getElem?_eq_some_iff.mp e).1; rw [s.len] at this; omega
  rcases s.ob m st[m] (List.getElem?_eq_getElem hn) with ⟨_, q⟩ | ⟨b, q, r⟩
  · rw [q] at e; cases e
  · rw [q] at e; cases e
    cases ho : st[m] with
    | lst ds => rw [ho] at r; obtain ⟨vs, h1, _⟩ := r; exact ⟨_, h1, rfl⟩
    | dct kvs => rw [ho] at r; obtain ⟨vs, h1, _⟩ := r; exact ⟨_, h1, rfl⟩
    | dead => rw [ho] at r; exact r.elim
    | ins c fs => rw [ho] at r; exact r.elim
theorem Sim.nolive {K : Kit} {ρ : Rho} {st : Store} {H : Hp} (s : Sim K ρ st H) {a : Addr} {o : HO} (h : H a = some o) (hl : mutO o = false) : some a ∉ ρ := fun hm => by
  obtain ⟨o', e, m⟩ := s.live hm
  rw [h] at e
  cases e
  rw [hl] at m
  cases m

section
variable {K : Kit} {ρ ρ' : Rho} {st : Store} {H H' : Hp}
theorem sqT_mono (s : Sim K ρ st H) (x : Ext K.h ρ H ρ' H') {a : Addr} {vs : List V} (h : SqT K.K H a vs) : SqT K.K H' a vs := by
  rcases h with (h | ⟨o, h⟩) | h
  · exact .inl (.inl (x.keep _ _ h (s.nolive h rfl) nofun))
  · exact .inl (.inr ⟨o, x.keep _ _ h (s.nolive h rfl) nofun⟩)
  · exact .inr h
theorem Ext.stay {n0 : Nat} (x : Ext n0 ρ H ρ' H') {a : Addr} {o : HO} (h : H a = some o) (c : Calm o) (n : some a ∉ ρ) : some a ∉ ρ' := fun hm => (x.mem hm).elim n fun q => q.no h c
theorem sqT_monoN {h0 : Nat} (nl : ∀ {a o}, H a = some o → mutO o = false → some a ∉ ρ) (x : Ext h0 ρ H ρ' H') {a : Addr} {vs : List V} (h : SqT K.K H a vs) : SqT K.K H' a vs := by
  rcases h with (h | ⟨o, h⟩) | h
  · exact .inl (.inl (x.keep _ _ h (nl h rfl) nofun))
  · exact .inl (.inr ⟨o, x.keep _ _ h (nl h rfl) nofun⟩)
  · exact .inr h
theorem tN_monoN {h0 : Nat} (nl : ∀ {a o}, H a = some o → mutO o = false → some a ∉ ρ) (x : Ext h0 ρ H ρ' H') {a : Addr} {vs : List V} (h : TN K.K H a vs) : TN K.K H' a vs := by
  rcases h with ⟨o, d, h⟩ | h
  · exact .inl ⟨o, d, x.keep _ _ h (nl h rfl) nofun⟩
  · exact .inr h
theorem tN_mono (s : Sim K ρ st H) (x : Ext K.h ρ H ρ' H') {a : Addr} {vs : List V} (h : TN K.K H a vs) : TN K.K H' a vs := tN_monoN (fun h m => s.nolive h m) x h
mutual
theorem RelD.monoN {h0 : Nat} (nl : ∀ {a o}, H a = some o → mutO o = false → some a ∉ ρ) (x : Ext h0 ρ H ρ' H') : ∀ {d : D} {v : V}, RelD K ρ H d v → RelD K ρ' H' d v
  | _, _, .non => .non
  | _, _, .bl b => .bl b
  | _, _, .int i => .int i
  | _, _, .str y => .str y
  | _, _, .tup h r => .tup (tN_monoN nl x h) (RelDs.monoN nl x r)
  | _, _, .itp h r => .itp (sqT_monoN nl x h) (RelDs.monoN nl x r)
  | _, _, .lst h n r => .lst (x.keep _ _ h n nofun) (x.stay h nofun n) (RelDs.monoN nl x r)
  | _, _, .dct h n r => .dct (x.keep _ _ h n nofun) (x.stay h nofun n) (RelKs.monoN nl x r)
  | _, _, .err h => .err (x.keep _ _ h (nl h rfl) (fun ps z => nomatch (show HO.ext _ = HO.tbl ps from z)))
  | _, _, .errf h1 h2 h3 r => .errf (x.keep _ _ h1 (nl h1 rfl) (fun ps z => nomatch (show HO.ext _ = HO.tbl ps from z))) (x.keep _ _ h2 (nl h2 rfl) (fun ps z => nomatch (show HO.ext _ = HO.tbl ps from z))) h3 (RelD.monoN nl x r)
  | _, _, .ver h => .ver (x.keep _ _ h (nl h rfl) (fun ps z => nomatch (show HO.ext _ = HO.tbl ps from z)))
  | _, _, .scr h => by
    rcases h with ⟨o, h⟩ | h
    · exact .scr (.inl ⟨o, x.keep _ _ h (nl h rfl) nofun⟩)
    · exact .scr (.inr h)
  | _, _, @RelD.ref _ _ _ n a h => by
    rcases x.old (K.h + n) (List.getElem?_eq_some_iff.mp h).1 with q | q
    · exact .ref (q.trans h)
    · exact .dead q
  | _, _, @RelD.dead _ _ _ n v h => by
    rcases x.old (K.h + n) (List.getElem?_eq_some_iff.mp h).1 with q | q
    · exact .dead (q.trans h)
    · exact .dead q
theorem RelDs.monoN {h0 : Nat} (nl : ∀ {a o}, H a = some o → mutO o = false → some a ∉ ρ) (x : Ext h0 ρ H ρ' H') : ∀ {ds : List D} {vs : List V}, RelDs K ρ H ds vs → RelDs K ρ' H' ds vs
  | _, _, .nil => .nil
  | _, _, .cons h r => .cons (RelD.monoN nl x h) (RelDs.monoN nl x r)
theorem RelKs.monoN {h0 : Nat} (nl : ∀ {a o}, H a = some o → mutO o = false → some a ∉ ρ) (x : Ext h0 ρ H ρ' H') : ∀ {ds : List (DKey × D)} {vs : List (Key × V)}, RelKs K ρ H ds vs → RelKs K ρ' H' ds vs
  | _, _, .nil => .nil
  | _, _, .cons h r => .cons (RelD.monoN nl x h) (RelKs.monoN nl x r)
end
theorem RelD.mono (s : Sim K ρ st H) (x : Ext K.h ρ H ρ' H') {d : D} {v : V} (r : RelD K ρ H d v) : RelD K ρ' H' d v := r.monoN (fun h m => s.nolive h m) x
theorem RelDs.mono (s : Sim K ρ st H) (x : Ext K.h ρ H ρ' H') {ds : List D} {vs : List V} (r : RelDs K ρ H ds vs) : RelDs K ρ' H' ds vs := r.monoN (fun h m => s.nolive h m) x
theorem RelKs.mono (s : Sim K ρ st H) (x : Ext K.h ρ H ρ' H') {ds : List (DKey × D)} {vs : List (Key × V)} (r : RelKs K ρ H ds vs) : RelKs K ρ' H' ds vs := r.monoN (fun h m => s.nolive h m) x
end
end Pm

set_option Elab.async false
set_option linter.all false
set_option maxRecDepth 100000
set_option maxHeartbeats 4000000
/-! EvT: new tuples, their objects known whole. -/
namespace Pm
open PySem PySem.Spec PyProof.Rows L2
set_option autoImplicit false

/-- a tuple's object as it is made -/
abbrev tupO (us : List Value) : Obj := { cls := .type "tuple", data := .seq us.toArray }
/-- Q of a new tuple of the items xs -/
def NewT (Q : VK) (H : Hp) (xs : List V) : Prop := ∀ (p : Addr) (o : Obj), H p = none → o.dict = none → Q (.ref p) (upd H p (.frz o (.tup xs)))
section
variable {X : Cx} {pins : List (Addr × Obj)} {σ : L2.St} {H : Hp} {s : Shared}
theorem laidT {t' : Nat} {xs : List V} {us : List Value} (I : L2.Inv X pins σ H s) (r : Vals xs us) (hz : xs.length ≤ sizeLine) :
    L2.Inv X pins σ (upd H s.heap.objs.size (.frz (tupO us) (.tup xs))) { s with heap := s.heap.push (tupO us), toks := t' } :=
  I.laid (o := .frz (tupO us) (.tup xs)) (fun b u e => Heap.get?_push_of_some _ e) (Nat.le_refl _) ⟨Heap.get?_push_size _ rfl, hz, us, r, IsTup.new _ _⟩
theorem newT_at {t' : Nat} {xs : List V} {us : List Value} {Q : VK} (I : L2.Inv X pins σ H s) (r : Vals xs us) (hz : xs.length ≤ sizeLine) (q : NewT Q H xs) :
    EP X pins σ Q (.ref s.heap.objs.size) { s with heap := s.heap.push (tupO us), toks := t' } :=
  ⟨.ref s.heap.objs.size, _, laidT I r hz, rfl, q _ _ (I.hok.fresh (Nat.le_refl _)) rfl⟩
end
section
variable {X : Cx} {es : List Expr} {t : TA} {pos : Pos}
def tTupN (t : TA) : TE := fun σ H Q => t σ H fun xs H1 => xs.length ≤ sizeLine ∧ NewT Q H1 xs
theorem pe_tupN {k : Nat} (ha : PA X es t) : PE X (.Tuple es k pos) (tTupN t) :=
  ⟨fun pins s σ H Q I h => wpAny_Tuple_spliced (thn (ha.run pos pins s σ H _ I h) fun us s1 ⟨xs, H1, I1, r, z, q⟩ => ⟨by rw [← r.length]; exact z, newT_at (t' := s1.toks) I1 r z q⟩)⟩
/-- t + u -/
def rCatN (K : PySem.W.Frag) : R2 := fun x y H Q => ∃ a b xs ys, x = .ref a ∧ y = .ref b ∧ SqT K H a xs ∧ SqT K H b ys ∧ xs.length + ys.length ≤ sizeLine ∧
  (xs = [] → Q (.ref b) H) ∧ (xs ≠ [] → ys = [] → Q (.ref a) H) ∧ (xs ≠ [] → ys ≠ [] → NewT Q H (xs ++ ys))
theorem op_catN : OpR X (binaryOp .Add) (rCatN X.K) := fun pins s σ H x y v u Q I rx ry h => by
  obtain ⟨a, b, xs, ys, rfl, rfl, ha, hb, hz, q0, q1, q2⟩ := h
  cases rx
  cases ry
  obtain ⟨us, ra, pa, _⟩ := I.tuple ha
  obtain ⟨ws, rb, pb, _⟩ := I.tuple hb
  cases xs with
  | nil => cases ra; exact cat_tup0 pa pb ⟨.ref b, H, I, rfl, q0 rfl⟩
  | cons x0 xr =>
    have nx : (x0 :: xr) ≠ [] := nofun
    refine HT.cat_tup pa pb (fun z => nx (ra.nil_iff.mp z)) (fun z => ⟨.ref a, H, I, rfl, q1 nx (rb.nil_iff.mp z)⟩) (fun z => ?_) (by rw [← ra.length, ← rb.length]; exact hz)
    exact newT_at (t' := s.toks) I (ra.append rb) (by rw [List.length_append]; exact hz) (q2 nx fun e => z (rb.nil_iff.mpr e))
/-- is the slice the whole? -/
def wholeS (n : Nat) (lo hi : Option Int) : Prop := HT.sIx n 0 lo = 0 ∧ HT.sIx n n hi = n
def rSlN (K : PySem.W.Frag) : V → Option Int → Option Int → Hp → VK → Prop := fun x lo hi H Q => ∃ a xs, x = .ref a ∧ SqT K H a xs ∧ (wholeS xs.length lo hi → Q (.ref a) H) ∧ (¬ wholeS xs.length lo hi → NewT Q H (cutV xs lo hi))
theorem sl_tupN : SlR X (rSlN X.K) := fun pins s σ H x v vl vu lo hi sl Q I rx hs pl pu h => by
  obtain ⟨a, xs, rfl, hx, q1, q2⟩ := h
  cases rx
  obtain ⟨us, r, ht, hz⟩ := I.tuple hx
  have hn : us.toArray.size = xs.length := by rw [List.size_toArray, ← r.length]
  refine ⟨"tuple", _, PyProof.Rows.slot_tuple_getitem.lookup, ht.typeIs, ?_⟩
  by_cases hw : wholeS xs.length lo hi
  · exact getItem_tuple_whole ht hs pl pu (by rw [hn]; exact hw) ⟨.ref a, H, I, rfl, q1 hw⟩
  · refine HT.getItem_tuple_cut ht hs pl pu (by rw [hn]; exact hw) ?_ (by rw [hn]; exact hz)
    rw [hn]
    exact newT_at (t' := s.toks) I ((r.drop (HT.sIx xs.length 0 lo)).take (HT.sIx xs.length xs.length hi - HT.sIx xs.length 0 lo)) (Nat.le_trans (cutV_length xs lo hi) hz) (q2 hw)
/-- tuple(xs) -/
def rTupN (K : PySem.W.Frag) : List V → Hp → VK → Prop := fun xs H Q => ∃ p ys, xs = [.ref p] ∧ ((SqL K H p ys ∧ NewT Q H ys) ∨ (SqT K H p ys ∧ Q (.ref p) H))
theorem call_tupleN : CallR X (.type "tuple") (rTupN X.K) := fun pins s σ H xs us Q I r h => by
  obtain ⟨p, ys, rfl, h⟩ := h
  obtain ⟨u, rfl, ru⟩ := vals1 r
  cases ru
  rcases h with ⟨hl, q⟩ | ⟨ht, q⟩
  · obtain ⟨its, ri, pl, hz⟩ := I.list hl
    have hn := ri.length
    refine call_tuple_list pl.isList (fun h1 kp => ?_) (by rw [List.size_toArray]; omega)
    exact newT_at (t' := s.toks) (s := { s with heap := h1 }) (I.kept (t' := s.toks) kp) ri hz q
  · obtain ⟨its, ri, pt, hz⟩ := I.tuple ht
    exact call_tuple_same pt ⟨.ref p, H, I, rfl, q⟩
end
end Pm

set_option Elab.async false
set_option linter.all false
set_option maxRecDepth 100000
set_option maxHeartbeats 2000000
/-! Ev2: the evaluator's ends as readings of the hand layer. -/
namespace Pm
open PySem PySem.Spec PyProof.Rows L2
set_option autoImplicit false

theorem SL_eq : sizeLine = SL := sizeLine_eq

/-- the locals -/
def RelL (K : Kit) (ρ : Rho) (H : Hp) (l : Loc) (σ : L2.St) : Prop :=
  l.length = σ.length ∧ (∀ (i : Nat) (d : D), l[i]? = some (some d) → ∃ v, σ[i]? = some (some v) ∧ RelD K ρ H d v) ∧ ∀ p ∈ K.fx, σ[p.1]? = some (some (.ref p.2))
theorem RelL.mono {K : Kit} {ρ ρ' : Rho} {H H' : Hp} {st : Store} {l : Loc} {σ : L2.St} (s : Sim K ρ st H) (x : Ext K.h ρ H ρ' H') (r : RelL K ρ H l σ) : RelL K ρ' H' l σ :=
  ⟨r.1, fun i d e => let ⟨v, h1, h2⟩ := r.2.1 i d e; ⟨v, h1, h2.mono s x⟩, r.2.2⟩

/-- what is wished of an error: its class, its dict, the heap -/
abbrev XW := Nat → Option Addr → Hp → Prop
def XOk (fs : List D) (dx : Option Addr) (_ : Hp) : Prop := fs = [] ∧ dx = none

/-- an end: R ties what is told (with the heap ahead and behind) -/
def EndG {α β : Type} (K : Kit) (B : XW) (R : Rho → Store → Hp → Hp → α → β → Prop) (ρ : Rho) (H : Hp) (r : Res α) (Q : β → Hp → Prop) : Prop := match r with
  | .ok a st' => ∀ ρ' b H', Ext K.h ρ H ρ' H' → Sim K ρ' st' H' → R ρ' st' H H' a b → Q b H'
  | .exc c fs st' => ∀ ρ' H' dx, Ext K.h ρ H ρ' H' → Sim K ρ' st' H' → XOk fs dx H' → B c dx H'
  | .bad => False

/-- R may be told of an elder heap -/
def Back {α β : Type} (R : Rho → Store → Hp → Hp → α → β → Prop) : Prop := ∀ ρ' st H H1 H' a b, (∀ x, Free H1 x → Free H x) → R ρ' st H1 H' a b → R ρ' st H H' a b

section
variable {α β γ δ : Type} {K : Kit} {B : XW} {R : Rho → Store → Hp → Hp → α → β → Prop} {R' : Rho → Store → Hp → Hp → γ → δ → Prop} {ρ ρ1 : Rho} {H H1 : Hp} {st : Store}
theorem EndG.mono (hb : Back R) {r : Res α} {Q : β → Hp → Prop} (h : EndG K B R ρ H r Q) (x : Ext K.h ρ H ρ1 H1) : EndG K B R ρ1 H1 r Q := by
  cases r with
  | ok a st' => exact fun ρ' b H' y s q => h ρ' b H' (x.trans y) s (hb _ _ _ _ _ _ _ x.dom q)
  | exc c fs st' => exact fun ρ' H' dx y s q => h ρ' H' dx (x.trans y) s q
  | bad => exact h
theorem EndG.bind (hb : Back R') {r : Res α} {f : α → Store → Res γ} {Q : δ → Hp → Prop} {Q1 : β → Hp → Prop} (h : EndG K B R' ρ H (r.bind f) Q)
    (k : ∀ a st1 ρ1 b H1, Ext K.h ρ H ρ1 H1 → Sim K ρ1 st1 H1 → R ρ1 st1 H H1 a b → EndG K B R' ρ1 H1 (f a st1) Q → Q1 b H1) : EndG K B R ρ H r Q1 := by
  cases r with
  | ok a st' => exact fun ρ' b H' x s q => k a st' ρ' b H' x s q (EndG.mono hb h x)
  | exc c fs st' => exact h
  | bad => exact h
theorem EndG.imp {r : Res α} {Q Q' : β → Hp → Prop} (h : EndG K B R ρ H r Q) (k : ∀ b H', Q b H' → Q' b H') : EndG K B R ρ H r Q' := by
  cases r with
  | ok a st' => exact fun ρ' b H' x s q => k _ _ (h ρ' b H' x s q)
  | exc c fs st' => exact h
  | bad => exact h
end

/-- a list or dict by value -/
def D.tmp : D → Bool
  | .lst _ => true
  | .dct _ => true
  | _ => false
/-- a list or dict by value that was just laid: no one knows it -/
def Fresh (K : Kit) (ρ' : Rho) (st' : Store) (H H' : Hp) (d : D) (v : V) : Prop := ∃ a H0, v = .ref a ∧ Free H a ∧ H0 a = none ∧ Sim K ρ' st' H0 ∧
  ((∃ ds vs, d = .lst ds ∧ H' = upd H0 a (.lst vs) ∧ RelDs K ρ' H0 ds vs) ∨ ∃ ds vs, d = .dct ds ∧ H' = upd H0 a (.dK vs) ∧ RelKs K ρ' H0 ds vs)
theorem Fresh.back {K : Kit} {ρ' : Rho} {st' : Store} {H H1 H' : Hp} {d : D} {v : V} (k : ∀ x, Free H1 x → Free H x) (h : Fresh K ρ' st' H1 H' d v) : Fresh K ρ' st' H H' d v := by
  obtain ⟨a, H0, h1, h2, h3⟩ := h
  exact ⟨a, H0, h1, k a h2, h3⟩
theorem Fresh.lst {K : Kit} {ρ : Rho} {st : Store} {H : Hp} {p : Addr} {ds : List D} {vs : List V} (s : Sim K ρ st H) (hp : H p = none) (r : RelDs K ρ H ds vs) : Fresh K ρ st H (upd H p (.lst vs)) (.lst ds) (.ref p) :=
  ⟨p, H, rfl, Free.of hp, hp, s, .inl ⟨ds, vs, rfl, rfl, r⟩⟩
theorem Fresh.dct {K : Kit} {ρ : Rho} {st : Store} {H : Hp} {p : Addr} {ds : List (DKey × D)} {vs : List (Key × V)} (s : Sim K ρ st H) (hp : H p = none) (r : RelKs K ρ H ds vs) : Fresh K ρ st H (upd H p (.dK vs)) (.dct ds) (.ref p) :=
  ⟨p, H, rfl, Free.of hp, hp, s, .inr ⟨ds, vs, rfl, rfl, r⟩⟩
/-- a value; fr: a list by value is new -/
def RE (K : Kit) (fr : Bool) : Rho → Store → Hp → Hp → D → V → Prop := fun ρ' st H H' d v => RelD K ρ' H' d v ∧ (fr = true → d.tmp = true → Fresh K ρ' st H H' d v)
theorem RE.back {K : Kit} {fr : Bool} : Back (RE K fr) := fun _ _ _ _ _ _ _ k h => ⟨h.1, fun f t => (h.2 f t).back k⟩
def REs (K : Kit) : Rho → Store → Hp → Hp → List D → List V → Prop := fun ρ' _ _ H' d v => RelDs K ρ' H' d v
theorem REs.back {K : Kit} : Back (REs K) := fun _ _ _ _ _ _ _ _ h => h
def RB {α : Type} : Rho → Store → Hp → Hp → α → α → Prop := fun _ _ _ _ a b => a = b
theorem RB.back {α : Type} : Back (RB (α := α)) := fun _ _ _ _ _ _ _ _ h => h

section
variable (K : Kit) (B : L2.St → XW)
/-- where the evaluator stands -/
structure At (ρ : Rho) (H : Hp) (l : Loc) (σ : L2.St) (st : Store) : Prop where
  sim : Sim K ρ st H
  loc : RelL K ρ H l σ
  en : ∀ p ∈ K.en, Ext K.h p.1 p.2 ρ H
def tE (fr : Bool) (m : Loc → Store → Res D) : TE := fun σ H Q => ∃ ρ l st, At K ρ H l σ st ∧ EndG K (B σ) (RE K fr) ρ H (m l st) Q
def tT (m : Loc → Store → Res Bool) : TT := fun σ H Q => ∃ ρ l st, At K ρ H l σ st ∧ EndG K (B σ) RB ρ H (m l st) Q
def tO (m : Loc → Store → Res (Option Int)) : TO := fun σ H Q => ∃ ρ l st, At K ρ H l σ st ∧ EndG K (B σ) RB ρ H (m l st) Q
def tA (m : Loc → Store → Res (List D)) : TA := fun σ H Q => ∃ ρ l st, At K ρ H l σ st ∧ EndG K (B σ) (REs K) ρ H (m l st) Q
end
theorem At.go {K : Kit} {ρ ρ1 : Rho} {H H1 : Hp} {l : Loc} {σ : L2.St} {st st1 : Store} (a : At K ρ H l σ st) (x : Ext K.h ρ H ρ1 H1) (s : Sim K ρ1 st1 H1) : At K ρ1 H1 l σ st1 := ⟨s, a.loc.mono a.sim x, fun p hp => (a.en p hp).trans x⟩

theorem PE.imp {X : Cx} {e : Expr} {t t' : TE} (h : PE X e t) (w : ∀ σ H Q, t' σ H Q → t σ H Q) : PE X e t' := ⟨fun pins s σ H Q I q => h.run pins s σ H Q I (w σ H Q q)⟩
theorem PT.imp {X : Cx} {e : Expr} {t t' : TT} (h : PT X e t) (w : ∀ σ H Q, t' σ H Q → t σ H Q) : PT X e t' := ⟨fun pins s σ H Q I q => h.run pins s σ H Q I (w σ H Q q)⟩
theorem PA.imp {X : Cx} {e : List Expr} {t t' : TA} (h : PA X e t) (w : ∀ σ H Q, t' σ H Q → t σ H Q) : PA X e t' := ⟨fun pos pins s σ H Q I q => h.run pos pins s σ H Q I (w σ H Q q)⟩
theorem PO.imp {X : Cx} {e : Option Expr} {t t' : TO} (h : PO X e t) (w : ∀ σ H Q, t' σ H Q → t σ H Q) : PO X e t' := ⟨fun pins s σ H Q I q => h.run pins s σ H Q I (w σ H Q q)⟩

/-- an operation by values, the store as it is: what the evaluator tells is what the rule asks -/
theorem EndG.opt {K : Kit} {B : XW} {fr : Bool} {ρ : Rho} {H : Hp} {st : Store} {o : Option D} {Q : VK} (h : EndG K B (RE K fr) ρ H (Res.ofOpt o st) Q) : ∃ d, o = some d ∧
    ∀ ρ' v H', Ext K.h ρ H ρ' H' → Sim K ρ' st H' → RelD K ρ' H' d v → (fr = true → d.tmp = true → Fresh K ρ' st H H' d v) → Q v H' := by
  cases o with
  | none => exact h.elim
  | some d => exact ⟨d, rfl, fun ρ' v H' x s r f => h ρ' v H' x s ⟨r, f⟩⟩

/-- a new untracked thing is laid: the store stays -/
theorem ext_new {h : Nat} {ρ : Rho} {H : Hp} {p : Addr} {o : HO} (hp : H p = none) : Ext h ρ H ρ (upd H p o) where
  hid := fun _ a _ e => ⟨e, fun u z => by rw [upd_ne (ne_of_none z hp)]; exact z⟩
  len := Nat.le_refl _
  old := fun _ _ => .inl rfl
  new := fun n a hn e => (by rw [List.getElem?_eq_none hn] at e; exact nomatch e)
  keep := fun a u e _ _ => (by rw [upd_ne (ne_of_none e hp)]; exact e)
  dom := fun a e => by
    by_cases h : a = p
    · rw [h]; exact Free.of hp
    · exact fun o q => e o (by rw [upd_ne h]; exact q)
theorem sim_new {K : Kit} {ρ : Rho} {H : Hp} {st : Store} {p : Addr} {o : HO} (s : Sim K ρ st H) (hp : H p = none) : Sim K ρ st (upd H p o) where
  len := s.len
  inj := s.inj
  ob := fun n ob e => by
    rcases s.ob n ob e with q | ⟨a, e1, r⟩
    · exact .inl q
    · refine .inr ⟨a, e1, ?_⟩
      have x : Ext K.h ρ H ρ (upd H p o) := ext_new hp
      cases ob with
      | lst ds =>
        obtain ⟨vs, h1, h2⟩ := r
        exact ⟨vs, by rw [upd_ne (ne_of_none h1 hp)]; exact h1, RelDs.mono s x h2⟩
      | dct ds =>
        obtain ⟨vs, h1, h2⟩ := r
        exact ⟨vs, by rw [upd_ne (ne_of_none h1 hp)]; exact h1, RelKs.mono s x h2⟩
      | dead => exact r
      | ins _ _ => exact r
  hd := fun n a hn e => let ⟨u, h1, h2⟩ := s.hd n a hn e; ⟨u, by rw [upd_ne (ne_of_none h1 hp)]; exact h1, h2⟩
  cd := fun q hq => let ⟨h1, h2⟩ := s.cd q hq; ⟨by rw [upd_ne (ne_of_none h1 hp)]; exact h1, h2⟩
  tab := s.tab.ext fun b o e => by rw [upd_ne (ne_of_none e hp)]; exact e
theorem new_free {K : Kit} {ρ : Rho} {H : Hp} {st : Store} {p : Addr} (s : Sim K ρ st H) (hp : H p = none) : some p ∉ ρ := fun hm => by
  obtain ⟨o, e, _⟩ := s.live hm
  rw [hp] at e; cases e
theorem RelDs.length {K : Kit} {ρ : Rho} {H : Hp} : ∀ {ds : List D} {vs : List V}, RelDs K ρ H ds vs → ds.length = vs.length
  | _, _, .nil => rfl
  | _, _, .cons _ r => by rw [List.length_cons, List.length_cons, RelDs.length r]
/-- a new list by value -/
theorem new_lst {K : Kit} {ρ : Rho} {H : Hp} {st : Store} {p : Addr} {ds : List D} {vs : List V} (s : Sim K ρ st H) (hp : H p = none) (r : RelDs K ρ H ds vs) : RelD K ρ (upd H p (.lst vs)) (.lst ds) (.ref p) :=
  .lst upd_same (new_free s hp) (r.mono s (ext_new hp))
theorem new_tup {K : Kit} {ρ : Rho} {H : Hp} {st : Store} {p : Addr} {ds : List D} {vs : List V} (s : Sim K ρ st H) {o : Obj} (hp : H p = none) (ho : o.dict = none) (r : RelDs K ρ H ds vs) : RelD K ρ (upd H p (.frz o (.tup vs))) (.tup ds) (.ref p) :=
  .tup (.inl ⟨o, ho, upd_same⟩) (r.mono s (ext_new hp))
theorem new_itp {K : Kit} {ρ : Rho} {H : Hp} {st : Store} {p : Addr} {ds : List D} {vs : List V} (s : Sim K ρ st H) (hp : H p = none) (r : RelDs K ρ H ds vs) : RelD K ρ (upd H p (.tup vs)) (.itp ds) (.ref p) :=
  .itp (.inl (.inl upd_same)) (r.mono s (ext_new hp))

abbrev Cx.kit (X : Cx) (κ : Kx) : Kit := ⟨κ, X.K⟩
section
variable {X : Cx} {κ : Kx} {B : L2.St → XW}
/-! ### names, constants -/
theorem se_const {e : Expr} {v : V} {d : D} {fr : Bool} (h : PE X e (tC v)) (hr : ∀ (K : Kit) ρ H, RelD K ρ H d v) (ht : d.tmp = false) : PE X e (tE (Cx.kit X κ) B fr fun _ st => .ok d st) :=
  PE.imp h fun σ H Q ⟨ρ, l, st, a, q⟩ => q ρ v H (Ext.refl _ _) a.sim ⟨hr _ ρ H, fun _ t => by rw [ht] at t; cases t⟩
theorem se_var {e : Expr} {i : Nat} (h : PE X e (tVar i)) : PE X e (tE (Cx.kit X κ) B false fun l st => optR (l[i]?) fun o => optR o fun d => .ok d st) :=
  PE.imp h fun σ H Q ⟨ρ, l, st, a, q⟩ => by
    dsimp only at q
    cases hi : l[i]? with
    | none => rw [hi] at q; exact q.elim
    | some o =>
      rw [hi] at q
      cases o with
      | none => exact q.elim
      | some d =>
        obtain ⟨v, e, r⟩ := a.loc.2.1 i d hi
        exact ⟨v, e, q ρ v H (Ext.refl _ _) a.sim ⟨r, fun f => nomatch f⟩⟩

/-! ### argument lists -/
theorem sa_nil : PA X [] (tA (Cx.kit X κ) B fun _ st => .ok [] st) :=
  PA.imp pa_nil fun σ H Q ⟨ρ, l, st, a, q⟩ => q ρ [] H (Ext.refl _ _) a.sim .nil
theorem sa_cons {e : Expr} {es : List Expr} {fr : Bool} {m : Loc → Store → Res D} {ms : Loc → Store → Res (List D)} (he : PE X e (tE (Cx.kit X κ) B fr m)) (hs : PA X es (tA (Cx.kit X κ) B ms))
    (hst : starEach (e :: es) X.env = (false, eval e X.env) :: starEach es X.env) : PA X (e :: es) (tA (Cx.kit X κ) B fun l st => (m l st).bind fun d st => (ms l st).bind fun ds st => .ok (d :: ds) st) :=
  PA.imp (pa_cons he hs hst) fun σ H Q ⟨ρ, l, st, a, q⟩ =>
    ⟨ρ, l, st, a, EndG.bind REs.back q fun d st1 ρ1 v H1 x1 s1 r1 q1 =>
      ⟨ρ1, l, st1, a.go x1 s1, EndG.bind REs.back q1 fun ds st2 ρ2 vs H2 x2 s2 r2 q2 => q2 ρ2 (v :: vs) H2 (Ext.refl _ _) s2 (.cons (r1.1.mono s1 x2) r2)⟩⟩
/-! ### displays -/
theorem se_tup {es : List Expr} {k : Nat} {pos : Pos} {fr : Bool} {ms : Loc → Store → Res (List D)} (h : PA X es (tA (Cx.kit X κ) B ms)) : PE X (.Tuple es k pos) (tE (Cx.kit X κ) B fr fun l st => (ms l st).bind fun ds st => sized ds (.tup ds) st) :=
  PE.imp (pe_tupN h) fun σ H Q ⟨ρ, l, st, a, q⟩ => ⟨ρ, l, st, a, EndG.bind RE.back q fun ds st1 ρ1 vs H1 x1 s1 r1 q1 => by
    unfold sized at q1
    split at q1
    · rename_i hz
      have r1 : RelDs (Cx.kit X κ) ρ1 H1 ds vs := r1
      refine ⟨by rw [← r1.length, SL_eq]; exact hz, fun p o hp ho => ?_⟩
      exact q1 ρ1 (.ref p) _ (ext_new hp) (sim_new s1 hp) ⟨new_tup s1 hp ho r1, fun _ t => nomatch t⟩
    · exact q1.elim⟩
theorem se_lst {es : List Expr} {pos : Pos} {fr : Bool} {ms : Loc → Store → Res (List D)} (h : PA X es (tA (Cx.kit X κ) B ms)) : PE X (.List es pos) (tE (Cx.kit X κ) B fr fun l st => (ms l st).bind fun ds st => sized ds (.lst ds) st) :=
  PE.imp (pe_lst h) fun σ H Q ⟨ρ, l, st, a, q⟩ => ⟨ρ, l, st, a, EndG.bind RE.back q fun ds st1 ρ1 vs H1 x1 s1 r1 q1 => by
    unfold sized at q1
    split at q1
    · rename_i hz
      have r1 : RelDs (Cx.kit X κ) ρ1 H1 ds vs := r1
      refine ⟨by rw [← r1.length, SL_eq]; exact hz, fun p hp => ?_⟩
      exact q1 ρ1 (.ref p) _ (ext_new hp) (sim_new s1 hp) ⟨new_lst s1 hp r1, fun _ _ => Fresh.lst s1 hp r1⟩
    · exact q1.elim⟩
end
end Pm

set_option Elab.async false
set_option linter.all false
set_option maxRecDepth 100000
set_option maxHeartbeats 2000000
/-! Ev3: operators by data. -/
namespace Pm
open PySem PySem.Spec PyProof.Rows L2
set_option autoImplicit false

section
variable {K : Kit} {ρ : Rho} {H : Hp} {st : Store}
theorem listOf_rel (s : Sim K ρ st H) {d : D} {v : V} {xs : List D} (r : RelD K ρ H d v) (h : listOf st d = some xs) : ∃ a vs, v = .ref a ∧ H a = some (.lst vs) ∧ RelDs K ρ H xs vs := by
  cases r with
  | lst h1 h2 h3 => cases h; exact ⟨_, _, rfl, h1, h3⟩
  | @ref n a e =>
    dsimp only [listOf] at h
    cases hs : st[n]? with
    | none => rw [hs] at h; cases h
    | some o =>
      rw [hs] at h
      cases o with
      | lst ys =>
        cases h
        rcases s.ob n _ hs with ⟨q, _⟩ | ⟨b, e2, r2⟩
        · cases q
        · rw [e] at e2; cases e2
          obtain ⟨vs, h1, h2⟩ := r2
          exact ⟨a, vs, rfl, h1, h2⟩
      | _ => cases h
  | @dead n v e =>
    dsimp only [listOf] at h
    cases hs : st[n]? with
    | none => rw [hs] at h; cases h
    | some o =>
      rw [hs] at h
      rcases s.ob n _ hs with ⟨q, _⟩ | ⟨b, e2, r2⟩
      · subst q; cases h
      · rw [e] at e2; cases e2
  | _ => cases h
theorem RelDs.append : ∀ {xs : List D} {vs : List V} {ys : List D} {ws : List V}, RelDs K ρ H xs vs → RelDs K ρ H ys ws → RelDs K ρ H (xs ++ ys) (vs ++ ws)
  | _, _, _, _, .nil, q => q
  | _, _, _, _, .cons h r, q => .cons h (RelDs.append r q)
theorem RelDs.get : ∀ {xs : List D} {vs : List V} {i : Nat} {d : D}, RelDs K ρ H xs vs → xs[i]? = some d → ∃ v, vs[i]? = some v ∧ RelD K ρ H d v
  | _, _, _, _, .nil, e => by simp at e
  | _, _, 0, _, .cons h _, e => by simp at e; subst e; exact ⟨_, rfl, h⟩
  | _, _, i + 1, d, .cons _ r, e => by
    obtain ⟨v, h1, h2⟩ := RelDs.get (i := i) (d := d) r (by simpa using e)
    exact ⟨v, by simpa using h1, h2⟩
theorem RelDs.take : ∀ {xs : List D} {vs : List V} (n : Nat), RelDs K ρ H xs vs → RelDs K ρ H (xs.take n) (vs.take n)
  | _, _, 0, _ => .nil
  | _, _, _ + 1, .nil => .nil
  | _, _, n + 1, .cons h r => .cons h (RelDs.take n r)
theorem RelDs.drop : ∀ {xs : List D} {vs : List V} (n : Nat), RelDs K ρ H xs vs → RelDs K ρ H (xs.drop n) (vs.drop n)
  | _, _, 0, r => r
  | _, _, _ + 1, .nil => .nil
  | _, _, n + 1, .cons _ r => RelDs.drop n r
theorem RelDs.set {d : D} {v : V} (h : RelD K ρ H d v) : ∀ {xs : List D} {vs : List V} (i : Nat), RelDs K ρ H xs vs → RelDs K ρ H (xs.set i d) (vs.set i v)
  | _, _, _, .nil => .nil
  | _, _, 0, .cons _ r => .cons h r
  | _, _, i + 1, .cons q r => .cons q (RelDs.set h i r)
theorem RelDs.reverse : ∀ {xs : List D} {vs : List V}, RelDs K ρ H xs vs → RelDs K ρ H xs.reverse vs.reverse
  | _, _, .nil => .nil
  | _, _, .cons h r => by rw [List.reverse_cons, List.reverse_cons]; exact RelDs.append (RelDs.reverse r) (.cons h .nil)
theorem RelDs.rep {xs : List D} {vs : List V} (r : RelDs K ρ H xs vs) : ∀ k : Nat, RelDs K ρ H (List.replicate k xs).flatten (List.replicate k vs).flatten
  | 0 => .nil
  | k + 1 => by rw [List.replicate_succ, List.replicate_succ, List.flatten_cons, List.flatten_cons]; exact RelDs.append r (RelDs.rep r k)

/-- what an operation by values must hand on -/
def Out (K : Kit) (fr : Bool) (ρ : Rho) (H : Hp) (st : Store) (d : D) (Q : VK) : Prop :=
  ∀ ρ' v H', Ext K.h ρ H ρ' H' → Sim K ρ' st H' → RelD K ρ' H' d v → (fr = true → d.tmp = true → Fresh K ρ' st H H' d v) → Q v H'
variable {fr : Bool} {d : D} {Q : VK}
theorem Out.flat {v : V} (h : Out K fr ρ H st d Q) (s : Sim K ρ st H) (r : RelD K ρ H d v) (t : d.tmp = false) : Q v H := h ρ v H (Ext.refl _ _) s r fun _ e => by rw [t] at e; cases e
theorem Out.lst {p : Addr} {ds : List D} {vs : List V} (h : Out K fr ρ H st (.lst ds) Q) (s : Sim K ρ st H) (hp : H p = none) (r : RelDs K ρ H ds vs) : Q (.ref p) (upd H p (.lst vs)) :=
  h ρ _ _ (ext_new hp) (sim_new s hp) (new_lst s hp r) fun _ _ => Fresh.lst s hp r
theorem Out.tup {p : Addr} {ds : List D} {vs : List V} (h : Out K fr ρ H st (.tup ds) Q) (s : Sim K ρ st H) {o : Obj} (hp : H p = none) (ho : o.dict = none) (r : RelDs K ρ H ds vs) : Q (.ref p) (upd H p (.frz o (.tup vs))) :=
  h ρ _ _ (ext_new hp) (sim_new s hp) (new_tup s hp ho r) fun _ t => nomatch t
end

section
variable {X : Cx} {κ : Kx} {B : L2.St → XW} {a b : Expr} {fa fb fr : Bool} {ma mb : Loc → Store → Res D} {pos : Pos}
/-- two values, an operation of them -/
theorem two_of {r : R2} {ta tb : TE} (ha : PE X a (tE (Cx.kit X κ) B fa ma)) (hb : PE X b (tE (Cx.kit X κ) B fb mb)) {f : Store → D → D → Option D}
    (hr : ∀ ρ H st d1 d2 v1 v2 d Q, Sim (Cx.kit X κ) ρ st H → RelD (Cx.kit X κ) ρ H d1 v1 → RelD (Cx.kit X κ) ρ H d2 v2 → f st d1 d2 = some d → Out (Cx.kit X κ) fr ρ H st d Q → r v1 v2 H Q) :
    ∀ σ H Q, tE (Cx.kit X κ) B fr (fun l st => (ma l st).bind fun x st => (mb l st).bind fun y st => .ofOpt (f st x y) st) σ H Q → tOp r (tE (Cx.kit X κ) B fa ma) (tE (Cx.kit X κ) B fb mb) σ H Q :=
  fun σ H Q ⟨ρ, l, st, at0, q⟩ => ⟨ρ, l, st, at0, EndG.bind RE.back q fun d1 st1 ρ1 v1 H1 x1 s1 r1 q1 =>
    ⟨ρ1, l, st1, at0.go x1 s1, EndG.bind RE.back q1 fun d2 st2 ρ2 v2 H2 x2 s2 r2 q2 => by
      obtain ⟨d, e, k⟩ := EndG.opt q2
      exact hr ρ2 H2 st2 d1 d2 v1 v2 d Q s2 (r1.1.mono s1 x2) r2.1 e k⟩⟩
theorem se_op {op : Operator} {r : R2} (ho : OpR X (binaryOp op) r) (ha : PE X a (tE (Cx.kit X κ) B fa ma)) (hb : PE X b (tE (Cx.kit X κ) B fb mb)) {f : Store → D → D → Option D}
    (hr : ∀ ρ H st d1 d2 v1 v2 d Q, Sim (Cx.kit X κ) ρ st H → RelD (Cx.kit X κ) ρ H d1 v1 → RelD (Cx.kit X κ) ρ H d2 v2 → f st d1 d2 = some d → Out (Cx.kit X κ) fr ρ H st d Q → r v1 v2 H Q) :
    PE X (.BinOp a op b pos) (tE (Cx.kit X κ) B fr fun l st => (ma l st).bind fun x st => (mb l st).bind fun y st => .ofOpt (f st x y) st) :=
  PE.imp (pe_op ho ha hb) (two_of (ta := tE (Cx.kit X κ) B fa ma) (tb := tE (Cx.kit X κ) B fb mb) ha hb hr)

/-! ### + -/
def rAddA (K : PySem.W.Frag) : R2 := fun x y H Q => (rI0 fun i j => .int (i + j)) x y H Q ∨ (∃ i j, x = .str i ∧ y = .str j ∧ i.length + j.length ≤ sizeLine ∧ Q (.str (i ++ j)) H) ∨ rCatN K x y H Q ∨ rCat x y H Q
theorem op_addA : OpR X (binaryOp .Add) (rAddA X.K) := op_add.or (op_add_str.or (op_catN.or op_cat))
theorem strS_append (x y : List Nat) : strS x ++ strS y = strS (x ++ y) := by
  show Str.mk (x.toArray ++ y.toArray) = _
  simp [strS]
theorem strS_length (x : List Nat) : (strS x).length = x.length := by
  show (x.toArray).size = _
  simp
theorem add_lists {K : Kit} {ρ : Rho} {H : Hp} {st : Store} {d1 d2 d : D} {v1 v2 : V} {Q : VK} {fr : Bool} (s : Sim K ρ st H) (r1 : RelD K ρ H d1 v1) (r2 : RelD K ρ H d2 v2)
    (e : (match listOf st d1, listOf st d2 with
      | some x, some y => if x.length + y.length ≤ SL then some (D.lst (x ++ y)) else none
      | _, _ => none) = some d) (k : Out K fr ρ H st d Q) : rAddA K.K v1 v2 H Q := by
  split at e
  · rename_i x y h1 h2
    split at e
    · rename_i hz
      cases e
      obtain ⟨a1, w1, rfl, g1, q1⟩ := listOf_rel s r1 h1
      obtain ⟨a2, w2, rfl, g2, q2⟩ := listOf_rel s r2 h2
      exact .inr (.inr (.inr ⟨a1, a2, w1, w2, rfl, rfl, g1, g2, by rw [← q1.length, ← q2.length, SL_eq]; exact hz, fun p hp => k.lst s hp (q1.append q2)⟩))
    · cases e
  · cases e
theorem RelDs.nil_iff {K : Kit} {ρ : Rho} {H : Hp} {xs : List D} {vs : List V} (r : RelDs K ρ H xs vs) : vs = [] ↔ xs = [] := by
  cases r <;> simp
theorem add_tups {K : Kit} {ρ : Rho} {H : Hp} {st : Store} {x y : List D} {v1 v2 : V} {Q : VK} {fr : Bool} (s : Sim K ρ st H) (r1 : RelD K ρ H (.tup x) v1) (r2 : RelD K ρ H (.tup y) v2)
    (hz : x.length + y.length ≤ SL) (k : Out K fr ρ H st (.tup (x ++ y)) Q) : rAddA K.K v1 v2 H Q := by
  cases r1 with
  | @tup _ w1 a1 h1 q1 =>
    cases r2 with
    | @tup _ w2 a2 h2 q2 =>
      refine .inr (.inr (.inl ⟨a1, a2, w1, w2, rfl, rfl, h1.sq, h2.sq, by rw [← q1.length, ← q2.length, SL_eq]; exact hz, fun e => ?_, fun e1 e2 => ?_, fun _ _ p o hp ho => k.tup s hp ho (q1.append q2)⟩))
      · have e' := q1.nil_iff.mp e
        subst e'
        exact k.flat s (.tup h2 q2) rfl
      · have e' := q2.nil_iff.mp e2
        subst e'
        rw [List.append_nil] at k
        exact k.flat s (.tup h1 q1) rfl
theorem add_all {ρ : Rho} {H : Hp} {st : Store} {d1 d2 d : D} {v1 v2 : V} {Q : VK} {K : Kit} {fr : Bool} (s : Sim K ρ st H) (r1 : RelD K ρ H d1 v1) (r2 : RelD K ρ H d2 v2) (e : addD st d1 d2 = some d) (k : Out K fr ρ H st d Q) : rAddA K.K v1 v2 H Q := by
  unfold addD at e
  split at e
  · cases e; cases r1; cases r2
    exact .inl ⟨_, _, rfl, rfl, k.flat s (.int _) rfl⟩
  · split at e
    · rename_i hz
      cases e; cases r1; cases r2
      refine .inr (.inl ⟨_, _, rfl, rfl, by rw [strS_length, strS_length, SL_eq]; exact hz, ?_⟩)
      rw [strS_append]
      exact k.flat s (.str _) rfl
    · cases e
  · split at e
    · rename_i hz
      cases e
      exact add_tups s r1 r2 hz k
    · cases e
  · exact add_lists s r1 r2 e k
/-! ### ints -/
theorem ints2_rel {K : Kit} {ρ : Rho} {H : Hp} {st : Store} {d1 d2 d : D} {v1 v2 : V} {f : Int → Int → Option Int} (r1 : RelD K ρ H d1 v1) (r2 : RelD K ρ H d2 v2) (e : ints2 d1 d2 f = some d) :
    ∃ i j k, v1 = .int i ∧ v2 = .int j ∧ f i j = some k ∧ d = .int k := by
  unfold ints2 at e
  split at e
  · rename_i i j
    cases r1; cases r2
    obtain ⟨k, h1, h2⟩ := Option.map_eq_some_iff.mp e
    exact ⟨i, j, k, rfl, rfl, h1, h2.symm⟩
  · cases e
/-! ### * -/
def rMulA (K : PySem.W.Frag) : R2 := fun x y H Q => (rI CMul fun i j => .int (i * j)) x y H Q ∨ (rI CMulW fun i j => .int (i * j)) x y H Q ∨ rRep x y H Q
theorem op_mulA : OpR X (binaryOp .Mult) (rMulA X.K) := op_mul.or (op_mulW.or op_rep)
theorem mul_ints {K : PySem.W.Frag} {i j : Int} {H : Hp} {Q : VK} (h : mulOk i j = true) (k : Q (.int (i * j)) H) : rMulA K (.int i) (.int j) H Q := by
  unfold mulOk at h
  simp only [Bool.or_eq_true, Bool.and_eq_true, decide_eq_true_eq] at h
  rcases h with (h | h) | h
  · exact .inl ⟨i, j, rfl, rfl, .inl h, k⟩
  · exact .inl ⟨i, j, rfl, rfl, .inr h, k⟩
  · refine .inr (.inl ⟨i, j, rfl, rfl, wide_mul (a := 900) (b := 900) h.1 h.2 (by decide) (by decide) (by decide), k⟩)
theorem mul_all {ρ : Rho} {H : Hp} {st : Store} {d1 d2 d : D} {v1 v2 : V} {Q : VK} {K : Kit} {fr : Bool} (s : Sim K ρ st H) (r1 : RelD K ρ H d1 v1) (r2 : RelD K ρ H d2 v2) (e : mulD st d1 d2 = some d)
    (hs : ∀ x j, d1 = .str x → d2 = .int j → False) (ht : ∀ x j, d1 = .tup x → d2 = .int j → False) (k : Out K fr ρ H st d Q) : rMulA K.K v1 v2 H Q := by
  unfold mulD at e
  split at e
  · split at e
    · rename_i hz
      cases e; cases r1; cases r2
      exact mul_ints hz (k.flat s (.int _) rfl)
    · cases e
  · exact (hs _ _ rfl rfl).elim
  · exact (ht _ _ rfl rfl).elim
  · rename_i j _ _ _
    obtain ⟨x, h1, h2⟩ := Option.bind_eq_some_iff.mp e
    split at h2
    · rename_i hz
      cases h2; cases r2
      obtain ⟨a1, w1, rfl, g1, q1⟩ := listOf_rel s r1 h1
      exact .inr (.inr ⟨a1, j, w1, rfl, rfl, g1, by omega, by omega, by rw [← q1.length, SL_eq]; exact hz.1, fun p hp => k.lst s hp (q1.rep _)⟩)
    · cases h2
  · cases e
end
end Pm

set_option Elab.async false
set_option linter.all false
set_option maxRecDepth 100000
set_option maxHeartbeats 2000000
/-! Ev4: comparisons by data. -/
namespace Pm
open PySem PySem.Spec PyProof.Rows L2
set_option autoImplicit false

mutual
def toP : D → PyData
  | .non => .none
  | .bl b => .bool b
  | .int i => .int i
  | .str x => .str (strS x)
  | .tup xs => .tuple (toPs xs)
  | .lst xs => .list (toPs xs)
  | _ => .none
def toPs : List D → List PyData
  | [] => []
  | x :: xs => toP x :: toPs xs
end
theorem strS_inj {x y : List Nat} (h : strS x = strS y) : x = y := by
  unfold strS at h
  injection h with h
  simpa using congrArg Array.toList h
theorem strS_beq (x y : List Nat) : (strS x == strS y) = (x == y) := by
  by_cases h : x = y
  · subst h; simp
  · rw [beq_eq_false_iff_ne.mpr h, beq_eq_false_iff_ne.mpr fun q => h (strS_inj q)]
section
variable {K : Kit} {ρ : Rho} {H : Hp}
mutual
theorem dp_of : ∀ {d : D} {v : V}, RelD K ρ H d v → d.plain = true → Dp K.K H v (toP d)
  | _, _, .non, _ => .non
  | _, _, .bl b, _ => .bl b
  | _, _, .int i, _ => .int i
  | _, _, .str x, _ => .str _
  | _, _, .tup h r, p => .tup h.sq (dps_of r (by simpa only [D.plain] using p))
  | _, _, .lst h _ r, p => .lst (SqL.of h) (dps_of r (by simpa only [D.plain] using p))
  | _, _, .scr _, p => by simp [D.plain] at p
  | _, _, .err _, p => by simp [D.plain] at p
  | _, _, .errf _ _ _ _, p => by simp [D.plain] at p
  | _, _, .ver _, p => by simp [D.plain] at p
  | _, _, .ref _, p => by simp [D.plain] at p
  | _, _, .dead _, p => by simp [D.plain] at p
  | _, _, .dct _ _ _, p => by simp [D.plain] at p
  | _, _, .itp _ _, p => by simp [D.plain] at p
theorem dps_of : ∀ {ds : List D} {vs : List V}, RelDs K ρ H ds vs → plains ds = true → DpAll K.K H vs (toPs ds)
  | _, _, .nil, _ => .nil
  | _, _, .cons h r, p => by
    simp only [plains, Bool.and_eq_true] at p
    exact .cons (dp_of h p.1) (dps_of r p.2)
end
end
mutual
theorem toP_plain : ∀ d : D, d.plain = true → (toP d).plain = true
  | .non, _ => rfl
  | .bl _, _ => rfl
  | .int _, _ => rfl
  | .str _, _ => rfl
  | .tup xs, h => by simp only [toP, PyData.plain]; exact toPs_plain xs (by simpa only [D.plain] using h)
  | .lst xs, h => by simp only [toP, PyData.plain]; exact toPs_plain xs (by simpa only [D.plain] using h)
  | .dct _, h => by simp [D.plain] at h
  | .ref _, h => by simp [D.plain] at h
  | .scr _, h => by simp [D.plain] at h
  | .itp _, h => by simp [D.plain] at h
  | .err _ _, h => by simp [D.plain] at h
  | .ver, h => by simp [D.plain] at h
theorem toPs_plain : ∀ ds : List D, plains ds = true → PyData.plainAll (toPs ds) = true
  | [], _ => rfl
  | x :: xs, h => by
    simp only [plains, Bool.and_eq_true] at h
    simp only [toPs, PyData.plainAll, toP_plain x h.1, toPs_plain xs h.2, Bool.and_self]
end
mutual
theorem toP_depth : ∀ d : D, (toP d).depth ≤ d.depth
  | .tup xs => by simp only [toP, PyData.depth, D.depth]; exact Nat.succ_le_succ (toPs_depth xs)
  | .lst xs => by simp only [toP, PyData.depth, D.depth]; exact Nat.succ_le_succ (toPs_depth xs)
  | .non => Nat.zero_le _
  | .bl _ => Nat.zero_le _
  | .int _ => Nat.zero_le _
  | .str _ => Nat.zero_le _
  | .dct _ => Nat.zero_le _
  | .ref _ => Nat.zero_le _
  | .scr _ => Nat.zero_le _
  | .itp _ => Nat.zero_le _
  | .err _ _ => Nat.zero_le _
  | .ver => Nat.zero_le _
theorem toPs_depth : ∀ ds : List D, PyData.depthAll (toPs ds) ≤ depths ds
  | [] => Nat.le_refl _
  | x :: xs => by
    simp only [toPs, PyData.depthAll, depths]
    have h1 := toP_depth x
    have h2 := toPs_depth xs
    omega
end
mutual
theorem eqv_toP : ∀ a b : D, a.plain = true → b.plain = true → PyData.eqv (toP a) (toP b) = eqv a b
  | .tup xs, .tup ys, h1, h2 => by simp only [toP, PyData.eqv, eqv]; exact eqvs_toPs xs ys (by simpa only [D.plain] using h1) (by simpa only [D.plain] using h2)
  | .lst xs, .lst ys, h1, h2 => by simp only [toP, PyData.eqv, eqv]; exact eqvs_toPs xs ys (by simpa only [D.plain] using h1) (by simpa only [D.plain] using h2)
  | .non, b, _, h => by cases b <;> first | rfl | (simp [D.plain] at h)
  | .bl _, b, _, h => by cases b <;> first | rfl | (simp [D.plain] at h)
  | .int _, b, _, h => by cases b <;> first | rfl | (simp [D.plain] at h)
  | .str x, .str y, _, _ => by simp only [toP, PyData.eqv, eqv]; exact strS_beq _ _
  | .str _, .non, _, _ => rfl
  | .str _, .bl _, _, _ => rfl
  | .str _, .int _, _, _ => rfl
  | .str _, .tup _, _, _ => rfl
  | .str _, .lst _, _, _ => rfl
  | .str _, .dct _, _, h => by simp [D.plain] at h
  | .str _, .ref _, _, h => by simp [D.plain] at h
  | .str _, .scr _, _, h => by simp [D.plain] at h
  | .str _, .err _ _, _, h => by simp [D.plain] at h
  | .str _, .ver, _, h => by simp [D.plain] at h
  | .tup _, .non, _, _ => rfl
  | .tup _, .bl _, _, _ => rfl
  | .tup _, .int _, _, _ => rfl
  | .tup _, .str _, _, _ => rfl
  | .tup _, .lst _, _, _ => rfl
  | .lst _, .non, _, _ => rfl
  | .lst _, .bl _, _, _ => rfl
  | .lst _, .int _, _, _ => rfl
  | .lst _, .str _, _, _ => rfl
  | .lst _, .tup _, _, _ => rfl
  | .tup _, .dct _, _, h => by simp [D.plain] at h
  | .tup _, .ref _, _, h => by simp [D.plain] at h
  | .tup _, .scr _, _, h => by simp [D.plain] at h
  | .tup _, .err _ _, _, h => by simp [D.plain] at h
  | .tup _, .ver, _, h => by simp [D.plain] at h
  | .lst _, .dct _, _, h => by simp [D.plain] at h
  | .lst _, .ref _, _, h => by simp [D.plain] at h
  | .lst _, .scr _, _, h => by simp [D.plain] at h
  | .lst _, .err _ _, _, h => by simp [D.plain] at h
  | .lst _, .ver, _, h => by simp [D.plain] at h
  | .dct _, _, h, _ => by simp [D.plain] at h
  | .ref _, _, h, _ => by simp [D.plain] at h
  | .scr _, _, h, _ => by simp [D.plain] at h
  | .err _ _, _, h, _ => by simp [D.plain] at h
  | .ver, _, h, _ => by simp [D.plain] at h
theorem eqvs_toPs : ∀ xs ys : List D, plains xs = true → plains ys = true → PyData.eqvAll (toPs xs) (toPs ys) = eqvs xs ys
  | [], [], _, _ => rfl
  | [], _ :: _, _, _ => rfl
  | _ :: _, [], _, _ => rfl
  | x :: xs, y :: ys, h1, h2 => by
    simp only [plains, Bool.and_eq_true] at h1 h2
    simp only [toPs, PyData.eqvAll, eqvs, eqv_toP x y h1.1 h2.1, eqvs_toPs xs ys h1.2 h2.2]
end
theorem any_toPs (a : D) (ha : a.plain = true) : ∀ ys : List D, plains ys = true → ((toPs ys).any fun y => PyData.eqv y (toP a)) = ys.any fun y => eqv y a
  | [], _ => rfl
  | y :: ys, h => by
    simp only [plains, Bool.and_eq_true] at h
    simp only [toPs, List.any_cons, eqv_toP y a h.1 ha, any_toPs a ha ys h.2]

/-! ### rules by data without canLay0 -/
section
variable {X : Cx}
def rEqP (K : PySem.W.Frag) : R2 := fun x y H Q => ∃ d e, Dp K H x d ∧ Dp K H y e ∧ d.plain = true ∧ e.plain = true ∧ d.depth ≤ 64 ∧ Q (.bl (PyData.eqv d e)) H
def rNeP (K : PySem.W.Frag) : R2 := fun x y H Q => ∃ d e, Dp K H x d ∧ Dp K H y e ∧ d.plain = true ∧ e.plain = true ∧ d.depth ≤ 64 ∧ Q (.bl (!PyData.eqv d e)) H
def rInP (K : PySem.W.Frag) : R2 := fun x y H Q => ∃ d es, Dp K H x d ∧ (Dp K H y (.list es) ∨ Dp K H y (.tuple es)) ∧ d.plain = true ∧ PyData.plainAll es = true ∧ PyData.depthAll es ≤ 60 ∧ Q (.bl (es.any fun y => PyData.eqv y d)) H
def rNotInP (K : PySem.W.Frag) : R2 := fun x y H Q => ∃ d es, Dp K H x d ∧ (Dp K H y (.list es) ∨ Dp K H y (.tuple es)) ∧ d.plain = true ∧ PyData.plainAll es = true ∧ PyData.depthAll es ≤ 60 ∧ Q (.bl (!es.any fun y => PyData.eqv y d)) H
theorem op_eqP (hu : X.A.units + 64 < cLine) : OpR X (compareOp .Eq) (rEqP X.K) := by
  intro pins s σ H x y v u Q I rx ry h
  obtain ⟨d, e, hd, he, pd, pe, dd, q⟩ := h
  obtain ⟨as, r1⟩ := Dp.reads I d x v hd rx
  obtain ⟨bs, r2⟩ := Dp.reads I e y u he ry
  exact SeqAt.eq_plain r1 r2 pd pe (by omega) ⟨.bl _, H, I, rfl, q⟩
theorem op_neP (hu : X.A.units + 64 < cLine) : OpR X (compareOp .NotEq) (rNeP X.K) := by
  intro pins s σ H x y v u Q I rx ry h
  obtain ⟨d, e, hd, he, pd, pe, dd, q⟩ := h
  obtain ⟨as, r1⟩ := Dp.reads I d x v hd rx
  obtain ⟨bs, r2⟩ := Dp.reads I e y u he ry
  exact SeqAt.ne_plain r1 r2 pd pe (by omega) ⟨.bl _, H, I, rfl, q⟩
theorem op_inP (hu : X.A.units + 64 < cLine) : OpR X (compareOp .In) (rInP X.K) := by
  intro pins s σ H x y v u Q I rx ry h
  obtain ⟨d, es, hd, he, pd, pe, dd, q⟩ := h
  obtain ⟨as, r1⟩ := Dp.reads I d x v hd rx
  rcases he with he | he
  · obtain ⟨bs, r2⟩ := Dp.reads I _ y u he ry
    exact SeqAt.in_list_data r2 r1 pe pd (by omega) ⟨.bl _, H, I, rfl, q⟩
  · obtain ⟨bs, r2⟩ := Dp.reads I _ y u he ry
    exact SeqAt.in_tuple_data r2 r1 pe pd (by omega) ⟨.bl _, H, I, rfl, q⟩
theorem op_notInP (hu : X.A.units + 64 < cLine) : OpR X (compareOp .NotIn) (rNotInP X.K) := by
  intro pins s σ H x y v u Q I rx ry h
  obtain ⟨d, es, hd, he, pd, pe, dd, q⟩ := h
  obtain ⟨as, r1⟩ := Dp.reads I d x v hd rx
  rcases he with he | he
  · obtain ⟨bs, r2⟩ := Dp.reads I _ y u he ry
    exact SeqAt.notIn_list_data r2 r1 pe pd (by omega) ⟨.bl _, H, I, rfl, q⟩
  · obtain ⟨bs, r2⟩ := Dp.reads I _ y u he ry
    exact SeqAt.notIn_tuple_data r2 r1 pe pd (by omega) ⟨.bl _, H, I, rfl, q⟩
/-! ### texts in order -/
def rStr2 (f : List Nat → List Nat → Bool) : R2 := fun x y H Q => ∃ i j, x = .str i ∧ y = .str j ∧ Q (.bl (f i.cps.toList j.cps.toList)) H
theorem op_ltS : OpR X (compareOp .Lt) (rStr2 fun x y => ltS x y) := by
  intro pins s σ H x y v u Q I rx ry h
  obtain ⟨i, j, rfl, rfl, q⟩ := h
  obtain ⟨t, rfl⟩ := rx
  obtain ⟨t', rfl⟩ := ry
  exact PySem.P.lt_str ⟨.bl _, H, I, rfl, q⟩
theorem op_leS : OpR X (compareOp .LtE) (rStr2 fun x y => !ltS y x) := by
  intro pins s σ H x y v u Q I rx ry h
  obtain ⟨i, j, rfl, rfl, q⟩ := h
  obtain ⟨t, rfl⟩ := rx
  obtain ⟨t', rfl⟩ := ry
  exact PySem.P.le_str ⟨.bl _, H, I, rfl, q⟩
theorem op_gtS : OpR X (compareOp .Gt) (rStr2 fun x y => ltS y x) := by
  intro pins s σ H x y v u Q I rx ry h
  obtain ⟨i, j, rfl, rfl, q⟩ := h
  obtain ⟨t, rfl⟩ := rx
  obtain ⟨t', rfl⟩ := ry
  exact PySem.P.gt_str ⟨.bl _, H, I, rfl, q⟩
theorem op_geS : OpR X (compareOp .GtE) (rStr2 fun x y => !ltS x y) := by
  intro pins s σ H x y v u Q I rx ry h
  obtain ⟨i, j, rfl, rfl, q⟩ := h
  obtain ⟨t, rfl⟩ := rx
  obtain ⟨t', rfl⟩ := ry
  exact PySem.P.ge_str ⟨.bl _, H, I, rfl, q⟩
def rInSg : R2 := fun x y H Q => ∃ (c : Nat) (z : Str), x = .str ⟨#[c]⟩ ∧ y = .str z ∧ Q (.bl (decide (c ∈ z.cps.toList))) H
def rNotInSg : R2 := fun x y H Q => ∃ (c : Nat) (z : Str), x = .str ⟨#[c]⟩ ∧ y = .str z ∧ Q (.bl (!decide (c ∈ z.cps.toList))) H
end

/-! ### the comparisons, told by data -/
def cmA : Cm → CmpOp
  | .eq => .Eq | .ne => .NotEq | .lt => .Lt | .le => .LtE | .gt => .Gt | .ge => .GtE | .isin => .In | .notin => .NotIn
theorem dictOf_rel {K : Kit} {ρ : Rho} {H : Hp} {st : Store} (s : Sim K ρ st H) {d : D} {v : V} {xs : List (DKey × D)} (r : RelD K ρ H d v) (h : dictOf st d = some xs) : ∃ a vs, v = .ref a ∧ H a = some (.dK vs) ∧ RelKs K ρ H xs vs := by
  cases r with
  | dct h1 h2 h3 => cases h; exact ⟨_, _, rfl, h1, h3⟩
  | @ref n a e =>
    dsimp only [dictOf] at h
    cases hs : st[n]? with
    | none => rw [hs] at h; cases h
    | some o =>
      rw [hs] at h
      cases o with
      | dct ys =>
        cases h
        rcases s.ob n _ hs with ⟨q, _⟩ | ⟨b, e2, r2⟩
        · cases q
        · rw [e] at e2; cases e2
          obtain ⟨vs, h1, h2⟩ := r2
          exact ⟨a, vs, rfl, h1, h2⟩
      | _ => cases h
  | @dead n v e =>
    dsimp only [dictOf] at h
    cases hs : st[n]? with
    | none => rw [hs] at h; cases h
    | some o =>
      rw [hs] at h
      rcases s.ob n _ hs with ⟨q, _⟩ | ⟨b, e2, r2⟩
      · subst q; cases h
      · rw [e] at e2; cases e2
  | _ => cases h
theorem asKey_rel {K : Kit} {ρ : Rho} {H : Hp} {d : D} {v : V} {k : DKey} (r : RelD K ρ H d v) (h : asKey d = some k) : v = kV (keyK k) := by
  unfold asKey at h
  split at h
  · cases h; cases r; rfl
  · cases h; cases r; rfl
  · cases h
theorem keyK_inj {a b : DKey} (h : keyK a = keyK b) : a = b := by
  cases a <;> cases b <;> simp only [keyK] at h
  · cases h; rfl
  · cases h
  · cases h
  · rw [strS_inj (Sum.inr.inj h)]
theorem lookK_rel {K : Kit} {ρ : Rho} {H : Hp} {k : DKey} : ∀ {xs : List (DKey × D)} {vs : List (Key × V)}, RelKs K ρ H xs vs → (lookK k xs = none ∧ valV vs (keyK k) = none) ∨ ∃ d v, lookK k xs = some d ∧ valV vs (keyK k) = some v ∧ RelD K ρ H d v
  | _, _, .nil => .inl ⟨rfl, rfl⟩
  | _, _, @RelKs.cons _ _ _ k' d xs v vs h r => by
    by_cases e : k' = k
    · subst e
      exact .inr ⟨d, v, by simp [lookK], valV_pos rfl, h⟩
    · have e2 : ¬ keyK k' = keyK k := fun q => e (keyK_inj q)
      rcases lookK_rel (k := k) r with ⟨h1, h2⟩ | ⟨d', v', h1, h2, h3⟩
      · exact .inl ⟨by simp [lookK, e, h1], by rw [valV_neg e2]; exact h2⟩
      · exact .inr ⟨d', v', by simp [lookK, e, h1], by rw [valV_neg e2]; exact h2, h3⟩

/-! ### key in dict -/
def rInDc (neg : Bool) : R2 := fun x y H Q => ∃ a o, y = .ref a ∧ DGet H a x o ∧ Q (.bl (if neg then !o.isSome else o.isSome)) H
theorem op_inDc {X : Cx} (hu : X.A.units + 64 < cLine) : OpR X (compareOp .In) (rInDc false) := by
  intro pins s σ H x y v u Q I rx ry h
  obtain ⟨a, o, rfl, g, q⟩ := h
  obtain rfl : u = Value.ref a := ry
  exact d_in (by omega) I g rx fun s3 I3 => ⟨.bl o.isSome, H, I3, rfl, q⟩
theorem op_notInDc {X : Cx} (hu : X.A.units + 64 < cLine) : OpR X (compareOp .NotIn) (rInDc true) := by
  intro pins s σ H x y v u Q I rx ry h
  obtain ⟨a, o, rfl, g, q⟩ := h
  obtain rfl : u = Value.ref a := ry
  exact d_notIn (by omega) I g rx fun s3 I3 => ⟨.bl (!o.isSome), H, I3, rfl, q⟩
def rCm (K : PySem.W.Frag) : Cm → R2
  | .eq => rEqP K
  | .ne => rNeP K
  | .lt => fun x y H Q => (rI0 fun i j => .bl (decide (i < j))) x y H Q ∨ (rStr2 fun x y => ltS x y) x y H Q
  | .le => fun x y H Q => (rI0 fun i j => .bl (decide (i ≤ j))) x y H Q ∨ (rStr2 fun x y => !ltS y x) x y H Q
  | .gt => fun x y H Q => (rI0 fun i j => .bl (decide (j < i))) x y H Q ∨ (rStr2 fun x y => ltS y x) x y H Q
  | .ge => fun x y H Q => (rI0 fun i j => .bl (decide (j ≤ i))) x y H Q ∨ (rStr2 fun x y => !ltS x y) x y H Q
  | .isin => fun x y H Q => rInP K x y H Q ∨ rInSg x y H Q ∨ rInDc false x y H Q
  | .notin => fun x y H Q => rNotInP K x y H Q ∨ rNotInSg x y H Q ∨ rInDc true x y H Q
theorem op_cm {X : Cx} (hu : X.A.units + 64 < cLine) : ∀ c : Cm, OpR X (compareOp (cmA c)) (rCm X.K c)
  | .eq => op_eqP hu
  | .ne => op_neP hu
  | .lt => op_lt.or op_ltS
  | .le => op_le.or op_leS
  | .gt => op_gt.or op_gtS
  | .ge => op_ge.or op_geS
  | .isin => (op_inP hu).or (op_in_sign.or (op_inDc hu))
  | .notin => (op_notInP hu).or (op_notIn_sign.or (op_notInDc hu))

section
variable {K : Kit} {ρ : Rho} {H : Hp} {st : Store} {d1 d2 : D} {v1 v2 : V} {Q : VK} {b : Bool}
theorem top_rel (s : Sim K ρ st H) {d : D} {v : V} (r : RelD K ρ H d v) (h : (top st d).plain = true) : Dp K.K H v (toP (top st d)) := by
  cases r with
  | @ref n a e =>
    unfold top at h ⊢
    dsimp only at h ⊢
    cases hs : st[n]? with
    | none => rw [hs] at h; simp [D.plain] at h
    | some o =>
      rw [hs] at h
      cases o with
      | lst ys =>
        dsimp only at h ⊢
        rcases s.ob n _ hs with ⟨q, _⟩ | ⟨b, e2, r2⟩
        · cases q
        · rw [e] at e2; cases e2
          obtain ⟨vs, h1, h2⟩ := r2
          simp only [toP]
          exact .lst (SqL.of h1) (dps_of h2 (by simpa only [D.plain] using h))
      | _ => simp [D.plain] at h
  | @dead n v e =>
    unfold top at h
    dsimp only at h
    cases hs : st[n]? with
    | none => rw [hs] at h; simp [D.plain] at h
    | some o =>
      rw [hs] at h
      rcases s.ob n _ hs with ⟨q, _⟩ | ⟨b, e2, r2⟩
      · subst q; simp [D.plain] at h
      · rw [e] at e2; cases e2
  | non => exact .non
  | bl b => exact .bl b
  | int i => exact .int i
  | str x => exact .str _
  | tup h1 h2 => exact dp_of (.tup h1 h2) h
  | lst h1 h2 h3 => exact dp_of (.lst h1 h2 h3) h
  | scr h1 => simp [top, D.plain] at h
  | err h1 => simp [top, D.plain] at h
  | errf h1 h2 h3 h4 => simp [top, D.plain] at h
  | ver h1 => simp [top, D.plain] at h
  | dct h1 h2 h3 => simp [top, D.plain] at h
  | itp h1 h2 => simp [top, D.plain] at h
theorem level_of {d : D} (h : d.level = true) : d.plain = true ∧ d.depth ≤ 64 := by
  simpa [D.level] using h
theorem eqD_rel (s : Sim K ρ st H) (r1 : RelD K ρ H d1 v1) (r2 : RelD K ρ H d2 v2) (h : eqD st d1 d2 = some b) :
    ∃ d e, Dp K.K H v1 d ∧ Dp K.K H v2 e ∧ d.plain = true ∧ e.plain = true ∧ d.depth ≤ 64 ∧ PyData.eqv d e = b := by
  unfold eqD at h
  split at h
  · rename_i hl
    simp only [Bool.and_eq_true] at hl
    have l1 := level_of hl.1
    have l2 := level_of hl.2
    exact ⟨_, _, top_rel s r1 l1.1, top_rel s r2 l2.1, toP_plain _ l1.1, toP_plain _ l2.1, Nat.le_trans (toP_depth _) l1.2, (eqv_toP _ _ l1.1 l2.1).trans (Option.some.inj h)⟩
  · cases h
theorem ord_rel {f : Int → Int → Bool} {g : List Nat → List Nat → Bool} (r1 : RelD K ρ H d1 v1) (r2 : RelD K ρ H d2 v2) (h : ordB f g d1 d2 = some b) (q : Q (.bl b) H) :
    (rI0 fun i j => .bl (f i j)) v1 v2 H Q ∨ (rStr2 g) v1 v2 H Q := by
  unfold ordB at h
  split at h
  · cases h; cases r1; cases r2; exact .inl ⟨_, _, rfl, rfl, q⟩
  · cases h; cases r1; cases r2
    exact .inr ⟨_, _, rfl, rfl, by simpa only [strS, List.toList_toArray] using q⟩
  · cases h
theorem inSeq_rel {ys : List D} (r1 : RelD K ρ H d1 v1) (h : inSeq d1 ys = some b) : ∃ d, Dp K.K H v1 d ∧ d.plain = true ∧ PyData.plainAll (toPs ys) = true ∧ PyData.depthAll (toPs ys) ≤ 60 ∧ ((toPs ys).any fun y => PyData.eqv y d) = b ∧ plains ys = true := by
  unfold inSeq at h
  split at h
  · rename_i hl
    simp only [Bool.and_eq_true, decide_eq_true_eq] at hl
    have l1 := level_of hl.1.1
    exact ⟨_, dp_of r1 l1.1, toP_plain _ l1.1, toPs_plain _ hl.1.2, Nat.le_trans (toPs_depth _) hl.2, (any_toPs _ l1.1 _ hl.1.2).trans (Option.some.inj h), hl.1.2⟩
  · cases h
theorem inD_rel (s : Sim K ρ st H) (r1 : RelD K ρ H d1 v1) (r2 : RelD K ρ H d2 v2) (h : inD st d1 d2 = some b) :
    (∃ d es, Dp K.K H v1 d ∧ (Dp K.K H v2 (.list es) ∨ Dp K.K H v2 (.tuple es)) ∧ d.plain = true ∧ PyData.plainAll es = true ∧ PyData.depthAll es ≤ 60 ∧ (es.any fun y => PyData.eqv y d) = b) ∨
      (∃ (c : Nat) (z : Str), v1 = .str ⟨#[c]⟩ ∧ v2 = .str z ∧ decide (c ∈ z.cps.toList) = b) ∨ ∃ a o, v2 = .ref a ∧ DGet H a v1 o ∧ o.isSome = b := by
  unfold inD at h
  split at h
  · rename_i y
    split at h
    · rename_i c
      cases r1; cases r2
      refine .inr (.inl ⟨c, strS y, rfl, rfl, ?_⟩)
      rw [← Option.some.inj h, List.contains_eq_mem]
      exact decide_eq_decide.mpr (by simp [strS])
    · cases h
  · cases r2 with
    | tup h1 h2 =>
      obtain ⟨d, a1, a2, a3, a4, a5, a6⟩ := inSeq_rel r1 h
      exact .inl ⟨d, _, a1, .inr (.tup h1.sq (dps_of h2 a6)), a2, a3, a4, a5⟩
  · split at h
    · rename_i ys hy
      obtain ⟨a, vs, rfl, h1, h2⟩ := listOf_rel s r2 hy
      obtain ⟨d, a1, a2, a3, a4, a5, a6⟩ := inSeq_rel r1 h
      exact .inl ⟨d, _, a1, .inl (.lst (SqL.of h1) (dps_of h2 a6)), a2, a3, a4, a5⟩
    · split at h
      · rename_i kvs k hd hk
        obtain ⟨a, vs, rfl, h1, h2⟩ := dictOf_rel s r2 hd
        have e := asKey_rel r1 hk
        subst e
        refine .inr (.inr ⟨a, _, rfl, DGet.k h1, ?_⟩)
        rcases lookK_rel (k := k) h2 with ⟨h3, h4⟩ | ⟨d', v', h3, h4, h5⟩
        · rw [h3] at h; rw [h4]; exact Option.some.inj h
        · rw [h3] at h; rw [h4]; exact Option.some.inj h
      · cases h
theorem cmp_rel (s : Sim K ρ st H) (r1 : RelD K ρ H d1 v1) (r2 : RelD K ρ H d2 v2) {c : Cm} (h : cmpD st c d1 d2 = some b) (q : Q (.bl b) H) : rCm K.K c v1 v2 H Q := by
  cases c with
  | eq =>
    obtain ⟨d, e, a1, a2, a3, a4, a5, a6⟩ := eqD_rel s r1 r2 h
    exact ⟨d, e, a1, a2, a3, a4, a5, by rw [a6]; exact q⟩
  | ne =>
    obtain ⟨b', h1, h2⟩ := Option.map_eq_some_iff.mp h
    obtain ⟨d, e, a1, a2, a3, a4, a5, a6⟩ := eqD_rel s r1 r2 h1
    exact ⟨d, e, a1, a2, a3, a4, a5, by rw [a6, h2]; exact q⟩
  | lt => exact ord_rel r1 r2 h q
  | le => exact ord_rel r1 r2 h q
  | gt => exact ord_rel r1 r2 h q
  | ge => exact ord_rel r1 r2 h q
  | isin =>
    rcases inD_rel s r1 r2 h with ⟨d, es, a1, a2, a3, a4, a5, a6⟩ | ⟨c, z, e1, e2, e3⟩ | ⟨a, o, e1, g, e3⟩
    · exact .inl ⟨d, es, a1, a2, a3, a4, a5, by rw [a6]; exact q⟩
    · exact .inr (.inl ⟨c, z, e1, e2, by rw [e3]; exact q⟩)
    · exact .inr (.inr ⟨a, o, e1, g, by rw [e3]; exact q⟩)
  | notin =>
    obtain ⟨b', h1, h2⟩ := Option.map_eq_some_iff.mp h
    rcases inD_rel s r1 r2 h1 with ⟨d, es, a1, a2, a3, a4, a5, a6⟩ | ⟨c, z, e1, e2, e3⟩ | ⟨a, o, e1, g, e3⟩
    · exact .inl ⟨d, es, a1, a2, a3, a4, a5, by rw [a6, h2]; exact q⟩
    · exact .inr (.inl ⟨c, z, e1, e2, by rw [e3, h2]; exact q⟩)
    · exact .inr (.inr ⟨a, o, e1, g, by simp only [if_true]; rw [e3, h2]; exact q⟩)
end
end Pm

set_option Elab.async false
set_option linter.all false
set_option maxRecDepth 100000
set_option maxHeartbeats 2000000
/-! Ev5: operators, comparisons, tests of the evaluator as readings. -/
namespace Pm
open PySem PySem.Spec PyProof.Rows L2
set_option autoImplicit false

/-! ### a text * an int -/
def rRepS : R2 := fun x y H Q => ∃ (z : Str) (k : Int), x = .str z ∧ y = .int k ∧ z.length * k.toNat ≤ sizeLine ∧ k < 2 ^ 62 ∧ -(2 ^ 62) < k ∧ Q (.str ⟨(List.replicate k.toNat z.cps.toList).flatten.toArray⟩) H
theorem foldl_app (l : List (Array Nat)) : ∀ b : Array Nat, l.foldl (· ++ ·) b = b ++ ((l.map Array.toList).flatten).toArray := by
  induction l with
  | nil => intro b; simp
  | cons x r ih =>
    intro b
    rw [List.foldl_cons, ih]
    apply Array.ext'
    simp
theorem foldl_cps (a : Array Nat) (n : Nat) : (List.replicate n a).foldl (· ++ ·) #[] = (List.replicate n a.toList).flatten.toArray := by
  rw [foldl_app]; simp
theorem op_repS {X : Cx} : OpR X (binaryOp .Mult) rRepS := by
  intro pins s σ H x y v u Q I rx ry h
  obtain ⟨z, k, rfl, rfl, h1, h2, h3, q⟩ := h
  obtain ⟨t, rfl⟩ := rx
  obtain ⟨t', rfl⟩ := ry
  have hs := sizeLine_eq
  refine PySem.P.mul_str (by rw [decide_eq_false (by omega), decide_eq_false (by omega)]; rfl) (fun hk h0 => ?_) (fun hk h0 => ?_) ?_
  · have hk0 : (0 : Int) < k := by omega
    have e : ((z.length * k.toNat : Nat) : Int) = (z.length : Int) * k := by rw [Int.natCast_mul, Int.toNat_of_nonneg (by omega)]
    have : (z.length : Int) ≤ (2 ^ 63 - 1) / k := (Int.le_ediv_iff_mul_le hk0).mpr (by rw [← e]; omega)
    omega
  · exact decide_eq_false (by omega)
  · by_cases hk : k < 1
    · rw [if_pos hk]
      have e : k.toNat = 0 := by omega
      rw [e] at q
      exact ⟨by decide, ⟨.str Str.empty, H, I.tok _, ⟨_, rfl⟩, q⟩⟩
    · rw [if_neg hk]
      by_cases h0 : (k == 1 || z.length == 0) = true
      · rw [if_pos h0]
        refine ⟨.str z, H, I.tok _, ⟨_, rfl⟩, ?_⟩
        have e : (⟨(List.replicate k.toNat z.cps.toList).flatten.toArray⟩ : Str) = z := by
          rcases Bool.or_eq_true_iff.mp h0 with e | e
          · have e := eq_of_beq e
            subst e
            simp
          · have e := eq_of_beq e
            have e2 : z.cps = #[] := Array.eq_empty_of_size_eq_zero e
            obtain ⟨c⟩ := z
            simp only at e2
            subst e2
            simp
        rw [e] at q
        exact q
      · rw [if_neg h0]
        refine ⟨?_, ⟨.str _, H, I.tok _, ⟨_, rfl⟩, by rw [foldl_cps]; exact q⟩⟩
        rw [foldl_cps]
        show (List.replicate k.toNat z.cps.toList).flatten.toArray.size ≤ sizeLine
        rw [List.size_toArray, PyProof.Rows.lm_len_rep_flat, Array.length_toList]
        rw [Nat.mul_comm]
        exact h1
/-! ### a tuple * an int -/
theorem tuple_mul1W (l : Addr) (items : Array Value) (n : Nat) (dd : Option Addr) (sl : Array (Option Value)) (x : Int) (u : Tok) (c0 : (decide (x < -(2 ^ 63)) || decide (x ≥ 2 ^ 63)) = false) (c1 : (items.isEmpty || x == 1) = true) :
    Meets (Builtin.«tuple.__mul__» ⟨[.ref l, .int x u], []⟩) (fun _ R s => s.heap.get? l = some { cls := .type "tuple", dict := dd, data := .seq items n, slots := sl } ∧ R (.ok (.ret (Value.ref l))) s) :=
  .of_wp fun prog w A R s h => by
    obtain ⟨hp, g, d, tk, os⟩ := s
    obtain ⟨hl, h⟩ := h
    have f1 := AutoSeq1.idx_int
    wp_walk using wpAny_loadPart' hl
    repeat (first
      | (refine wpAny_ite_false (decide_eq_false (by rw [c0]; exact Bool.false_ne_true)) ?_; wp_walk using wpAny_loadPart' hl)
      | (refine wpAny_ite_true (decide_eq_true c1) ?_; wp_walk using wpAny_loadPart' hl))
    exact ⟨_, rfl, h⟩
def rRepN (K : PySem.W.Frag) : R2 := fun x y H Q => ∃ l k xs, x = .ref l ∧ y = .int k ∧ SqT K H l xs ∧ xs ≠ [] ∧ 1 ≤ k ∧ k ≤ 1000 ∧ xs.length ≤ 1000 ∧ (k = 1 → Q (.ref l) H) ∧ (2 ≤ k → NewT Q H (List.replicate k.toNat xs).flatten)
theorem op_repN {X : Cx} : OpR X (binaryOp .Mult) (rRepN X.K) := by
  intro pins s σ H x y v u Q I rx ry h
  obtain ⟨l, k, xs, rfl, rfl, hT, hne, h1, h2, hz, q1, q⟩ := h
  cases rx
  obtain ⟨t, rfl⟩ := ry
  obtain ⟨its, r, ⟨⟨cls, dd, data, sl⟩, ho, hc, n, hd⟩, hs⟩ := I.tuple hT
  simp only at hc hd
  subst hc hd
  have hle : its.length = xs.length := r.length.symm
  have hi : its.toArray.isEmpty = false := by
    cases its with
    | nil => exact absurd (List.eq_nil_of_length_eq_zero hle.symm) hne
    | cons a b => rfl
  have hsz0 : its.toArray.size = xs.length := by rw [List.size_toArray, hle]
  have c0 : (decide (k < -(2 ^ 63)) || decide (k ≥ 2 ^ 63)) = false := by
    rw [decide_eq_false (by omega), decide_eq_false (by omega)] <;> rfl
  have road : ∀ {Q' : Value → Shared → Prop}, wpAny (model X.prog X.w) X.A (call (.builtin "tuple.__mul__") [.ref l, .int k t]) Q' X.xe s → wpAny (model X.prog X.w) X.A (binaryOp .Mult (.ref l) (.int k t)) Q' X.xe s := fun h =>
    wpAny_binaryOp_repeat_ref (T := "tuple") (U := "int") (by decide) ⟨_, ho, rfl⟩ (fun s' => typeIs_int s' k t) noFill_tuple_mul F.fills_int_mul F.slot_int_rmul repeat_tuple F.slot_int_index.lookup
      (call_meets F.slot_int_rmul (typeIs_int s k t) F.entry_int_rmul (F.args_int_rmul_2 _ _) (int_rmul_tuple k t l its.toArray n dd sl) ⟨ho, rfl, ⟨_, ho, rfl⟩, h⟩)
  refine road ?_
  by_cases hk : k = 1
  · refine call_meets F.slot_tuple_mul ⟨_, ho, rfl⟩ F.entry_tuple_mul (F.args_tuple_mul_2 _ _) (tuple_mul1W l its.toArray n dd sl k t c0 (by rw [hk]; simp)) ⟨ho, ?_⟩
    exact ⟨.ref l, H, I, rfl, q1 hk⟩
  · have hm : ((its.toArray.size : Nat) : Int) * k ≤ 1000000 := by
      rw [hsz0]
      have a1 : ((xs.length : Nat) : Int) * k ≤ 1000 * k := Int.mul_le_mul_of_nonneg_right (by omega) (by omega)
      omega
    have a2 : k.toNat * xs.length ≤ 1000 * 1000 := Nat.mul_le_mul (by omega) hz
    have flen : (List.replicate k.toNat its).flatten.length ≤ sizeLine := by
      rw [PyProof.Rows.lm_len_rep_flat, hle, sizeLine_eq]
      omega
    have c1 : (its.toArray.isEmpty || k == 1) = false := by
      rw [hi, Bool.false_or]
      exact beq_eq_false_iff_ne.mpr hk
    have c2 : (decide (k ≤ 0) || its.toArray.isEmpty) = false := by
      rw [hi, Bool.or_false]
      exact decide_eq_false (by omega)
    have c4 : Builtin.Tuple.tupleTooMany (((its.toArray.size : Nat) : Int) * k) = false := by
      unfold Builtin.Tuple.tupleTooMany
      rw [sizeLine_eq]
      exact decide_eq_false (by omega)
    refine call_meets F.slot_tuple_mul ⟨_, ho, rfl⟩ F.entry_tuple_mul (F.args_tuple_mul_2 _ _) (tuple_mulW l its.toArray n dd sl k t c0 c1 c2 (by omega) c4 (by rw [size_rep, List.size_toArray]; exact flen)) ⟨ho, ?_⟩
    rw [size_rep]
    exact newT_at (t' := s.toks) I (r.rep k.toNat) (by rw [PyProof.Rows.lm_len_rep_flat, sizeLine_eq]; omega) (q (by omega))
end Pm

set_option Elab.async false
set_option linter.all false
set_option maxRecDepth 100000
set_option maxHeartbeats 2000000
/-! Ev6: operators, comparisons, tests of the evaluator as readings. -/
namespace Pm
open PySem PySem.Spec PyProof.Rows L2
set_option autoImplicit false

theorem Res.bind_assoc {α β γ : Type} (r : Res α) (f : α → Store → Res β) (g : β → Store → Res γ) : (r.bind f).bind g = r.bind fun a st => (f a st).bind g := by
  cases r <;> rfl

/-! ### the operators -/
def opA : Op → Operator
  | .add => .Add | .sub => .Sub | .mul => .Mult | .fdiv => .FloorDiv | .mod => .Mod | .pow => .Pow | .shl => .LShift
def rBin (K : PySem.W.Frag) : Op → R2
  | .add => rAddA K
  | .sub => rI0 fun i j => .int (i - j)
  | .mul => fun x y H Q => rMulA K x y H Q ∨ rRepS x y H Q ∨ rRepN K x y H Q
  | .fdiv => rI CDiv fun i j => .int (i / j)
  | .mod => rI (fun _ j => 0 < j) fun i j => .int (i % j)
  | .pow => rI CPow fun i j => .int (i ^ j.toNat)
  | .shl => rI CPow fun i j => .int (i * 2 ^ j.toNat)
theorem op_bin {X : Cx} : ∀ o : Op, OpR X (binaryOp (opA o)) (rBin X.K o)
  | .add => op_addA
  | .sub => op_sub
  | .mul => op_mulA.or (op_repS.or op_repN)
  | .fdiv => op_fdiv
  | .mod => op_mod
  | .pow => op_pow
  | .shl => op_shl
theorem bin_rel {K : Kit} {ρ : Rho} {H : Hp} {st : Store} {d1 d2 d : D} {v1 v2 : V} {Q : VK} {fr : Bool} (s : Sim K ρ st H) (r1 : RelD K ρ H d1 v1) (r2 : RelD K ρ H d2 v2) {o : Op} (e : binD st o d1 d2 = some d) (k : Out K fr ρ H st d Q) : rBin K.K o v1 v2 H Q := by
  cases o with
  | add => exact add_all s r1 r2 e k
  | sub =>
    obtain ⟨i, j, m, rfl, rfl, e1, rfl⟩ := ints2_rel (st := st) r1 r2 e
    cases e1
    exact ⟨i, j, rfl, rfl, k.flat s (.int _) rfl⟩
  | mul =>
    by_cases hs : ∃ x j, d1 = .str x ∧ d2 = .int j
    · obtain ⟨x, j, rfl, rfl⟩ := hs
      cases r1; cases r2
      simp only [binD, mulD] at e
      split at e
      · rename_i hz
        cases e
        refine .inr (.inl ⟨strS x, j, rfl, rfl, by rw [strS_length, SL_eq]; exact hz.1, hz.2.1, hz.2.2, ?_⟩)
        have := k.flat s (.str _) rfl
        simpa [strS] using this
      · cases e
    · by_cases ht : ∃ x j, d1 = .tup x ∧ d2 = .int j
      · obtain ⟨x, j, rfl, rfl⟩ := ht
        simp only [binD, mulD] at e
        split at e
        · rename_i hz
          cases e; cases r2
          cases r1 with
          | tup g1 g2 =>
            have hl := g2.length
            refine .inr (.inr ⟨_, j, _, rfl, rfl, g1.sq, fun z => ?_, hz.2.1, hz.2.2.1, by rw [← hl]; exact hz.2.2.2, fun e1 => ?_, fun _ p o hp ho => k.tup s hp ho (g2.rep _)⟩)
            · subst z
              cases g2
              simp at hz
            · subst e1
              have : (List.replicate (1 : Int).toNat x).flatten = x := by simp
              rw [this] at k
              exact k.flat s (.tup g1 g2) rfl
        · cases e
      · exact .inl (mul_all s r1 r2 e (fun x j h1 h2 => hs ⟨x, j, h1, h2⟩) (fun x j h1 h2 => ht ⟨x, j, h1, h2⟩) k)
  | fdiv =>
    obtain ⟨i, j, m, rfl, rfl, e1, rfl⟩ := ints2_rel (st := st) r1 r2 e
    split at e1
    · rename_i hz
      cases e1
      exact ⟨i, j, rfl, rfl, hz, k.flat s (.int _) rfl⟩
    · cases e1
  | mod =>
    obtain ⟨i, j, m, rfl, rfl, e1, rfl⟩ := ints2_rel (st := st) r1 r2 e
    split at e1
    · rename_i hz
      cases e1
      exact ⟨i, j, rfl, rfl, hz, k.flat s (.int _) rfl⟩
    · cases e1
  | pow =>
    obtain ⟨i, j, m, rfl, rfl, e1, rfl⟩ := ints2_rel (st := st) r1 r2 e
    split at e1
    · rename_i hz
      cases e1
      exact ⟨i, j, rfl, rfl, ⟨hz.1, by omega, hz.2.2⟩, k.flat s (.int _) rfl⟩
    · cases e1
  | shl =>
    obtain ⟨i, j, m, rfl, rfl, e1, rfl⟩ := ints2_rel (st := st) r1 r2 e
    split at e1
    · rename_i hz
      cases e1
      exact ⟨i, j, rfl, rfl, ⟨hz.1, by omega, hz.2.2⟩, k.flat s (.int _) rfl⟩
    · cases e1

/-! ### truth -/
section
variable {K : Kit} {ρ : Rho} {H : Hp} {st : Store}
theorem RelDs.empty {xs : List D} {vs : List V} (r : RelDs K ρ H xs vs) : (!xs.isEmpty) = !vs.isEmpty := by cases r <;> rfl
theorem RelKs.empty {xs : List (DKey × D)} {vs : List (Key × V)} (r : RelKs K ρ H xs vs) : (!xs.isEmpty) = !vs.isEmpty := by cases r <;> rfl
theorem RelKs.length : ∀ {xs : List (DKey × D)} {vs : List (Key × V)}, RelKs K ρ H xs vs → xs.length = vs.length
  | _, _, .nil => rfl
  | _, _, .cons _ r => by rw [List.length_cons, List.length_cons, RelKs.length r]
theorem truth_rel (s : Sim K ρ st H) {d : D} {v : V} {b : Bool} (r : RelD K ρ H d v) (h : truth st d = some b) : TruV K.K v H b := by
  cases r with
  | non => cases h; rfl
  | bl b => cases h; rfl
  | int i => cases h; rfl
  | str x =>
    dsimp only [truth] at h
    split at h
    · rename_i hz
      cases h
      refine ⟨by rw [strS_length, SL_eq]; exact hz, ?_⟩
      rw [strS_length]
      cases x with
      | nil => rfl
      | cons a l => exact (bne_iff_ne.mpr (by rw [List.length_cons]; omega)).symm
    · cases h
  | tup h1 h2 => cases h; exact .inr (.inl ⟨_, h1.sq, h2.empty⟩)
  | itp h1 h2 => cases h
  | lst h1 h2 h3 => cases h; exact .inl ⟨_, SqL.of h1, h3.empty⟩
  | dct h1 h2 h3 => cases h; exact .inr (.inr ⟨_, h1, h3.empty⟩)
  | scr h1 => cases h
  | err h1 => cases h
  | errf h1 h2 h3 h4 => cases h
  | ver h1 => cases h
  | @ref n a e =>
    dsimp only [truth] at h
    split at h
    · rename_i xs hs
      cases h
      obtain ⟨a, vs, e1, e2, e3⟩ := listOf_rel (d := .ref n) (xs := xs) s (.ref e) (by simp only [listOf, hs])
      cases e1
      exact .inl ⟨_, SqL.of e2, e3.empty⟩
    · rename_i xs hs
      cases h
      obtain ⟨a, vs, e1, e2, e3⟩ := dictOf_rel (d := .ref n) (xs := xs) s (.ref e) (by simp only [dictOf, hs])
      cases e1
      exact .inr (.inr ⟨_, e2, e3.empty⟩)
    · cases h
  | @dead n v e =>
    dsimp only [truth] at h
    split at h
    · rename_i xs hs
      rcases s.ob n _ hs with ⟨q, _⟩ | ⟨b, e2, r2⟩
      · cases q
      · rw [e] at e2; cases e2
    · rename_i xs hs
      rcases s.ob n _ hs with ⟨q, _⟩ | ⟨b, e2, r2⟩
      · cases q
      · rw [e] at e2; cases e2
    · cases h
end

section
variable {X : Cx} {κ : Kx} {B : L2.St → XW} {a b c : Expr} {fa fb fc fr : Bool} {ma mb mc : Loc → Store → Res D} {pos : Pos}
abbrev eE (X : Cx) (κ : Kx) (B : L2.St → XW) (fr : Bool) (m : Loc → Store → Res D) : TE := tE (Cx.kit X κ) B fr m
abbrev eT (X : Cx) (κ : Kx) (B : L2.St → XW) (m : Loc → Store → Res Bool) : TT := tT (Cx.kit X κ) B m
abbrev eA (X : Cx) (κ : Kx) (B : L2.St → XW) (m : Loc → Store → Res (List D)) : TA := tA (Cx.kit X κ) B m
abbrev eO (X : Cx) (κ : Kx) (B : L2.St → XW) (m : Loc → Store → Res (Option Int)) : TO := tO (Cx.kit X κ) B m

theorem EndG.weak {K : Kit} {B : XW} {ρ : Rho} {H : Hp} {r : Res D} {Q : VK} (h : EndG K B (RE K false) ρ H r Q) : EndG K B (RE K fr) ρ H r Q := by
  cases r with
  | ok a st => exact fun ρ' v H' x s q => h ρ' v H' x s ⟨q.1, fun z => nomatch z⟩
  | exc c fs st => exact h
  | bad => exact h
theorem EndG.weak2 {K : Kit} {B : XW} {ρ : Rho} {H : Hp} {r : Res D} {Q : VK} {f1 f2 : Bool} (hf : f1 = true → f2 = true) (h : EndG K B (RE K f1) ρ H r Q) : EndG K B (RE K f2) ρ H r Q := by
  cases r with
  | ok a st => exact fun ρ' v H' x s q => h ρ' v H' x s ⟨q.1, fun z => q.2 (hf z)⟩
  | exc c fs st => exact h
  | bad => exact h

theorem se_bin (o : Op) (ha : PE X a (eE X κ B fa ma)) (hb : PE X b (eE X κ B fb mb)) :
    PE X (.BinOp a (opA o) b pos) (eE X κ B fr fun l st => (ma l st).bind fun x st => (mb l st).bind fun y st => .ofOpt (binD st o x y) st) :=
  se_op (op_bin o) ha hb fun ρ H st d1 d2 v1 v2 d Q s r1 r2 e k => bin_rel s r1 r2 e k
theorem se_neg (ha : PE X a (eE X κ B fa ma)) : PE X (.UnaryOp .USub a pos) (eE X κ B fr fun l st => (ma l st).bind fun x st => asInt x fun i => .ok (.int (-i)) st) :=
  PE.imp (pe_un un_neg ha) fun σ H Q ⟨ρ, l, st, a, q⟩ => ⟨ρ, l, st, a, EndG.bind RE.back q fun d st1 ρ1 v H1 x1 s1 r1 q1 => by
    cases d with
    | int i => obtain ⟨r1, _⟩ := r1; cases r1; exact ⟨i, rfl, q1 ρ1 _ H1 (Ext.refl _ _) s1 ⟨.int _, fun _ t => nomatch t⟩⟩
    | _ => exact q1.elim⟩

/-! ### comparisons -/
theorem cmp_end {K : Kit} {B : XW} {ρ : Rho} {H : Hp} {st : Store} {d1 d2 : D} {v1 v2 : V} {o : Cm} {Q : VK} (s : Sim K ρ st H) (r1 : RelD K ρ H d1 v1) (r2 : RelD K ρ H d2 v2)
    (q : EndG K B (RE K fr) ρ H (Res.ofOpt ((cmpD st o d1 d2).map .bl) st) Q) : rCm K.K o v1 v2 H Q := by
  cases h : cmpD st o d1 d2 with
  | none => rw [h] at q; exact q.elim
  | some b =>
    rw [h] at q
    exact cmp_rel s r1 r2 h (q ρ (.bl b) H (Ext.refl _ _) s ⟨.bl b, fun _ t => nomatch t⟩)
theorem se_cmp (hu : X.A.units + 64 < cLine) (o : Cm) (hm : behindInMarks (cmA o) b = false) (ha : PE X a (eE X κ B fa ma)) (hb : PE X b (eE X κ B fb mb)) :
    PE X (.Compare a [cmA o] [b] pos) (eE X κ B fr fun l st => (ma l st).bind fun x st => (mb l st).bind fun y st => .ofOpt ((cmpD st o x y).map .bl) st) :=
  PE.imp (pe_cmpR (op_cm hu o) ha hb hm) fun σ H Q ⟨ρ, l, st, a, q⟩ => ⟨ρ, l, st, a, EndG.bind RE.back q fun d1 st1 ρ1 v1 H1 x1 s1 r1 q1 =>
    ⟨ρ1, l, st1, a.go x1 s1, EndG.bind RE.back q1 fun d2 st2 ρ2 v2 H2 x2 s2 r2 q2 => cmp_end s2 (r1.1.mono s1 x2) r2.1 q2⟩⟩
theorem cmp_endT {K : Kit} {B : XW} {ρ : Rho} {H : Hp} {st : Store} {d1 d2 : D} {v1 v2 : V} {o : Cm} {Q : Bool → Hp → Prop} (s : Sim K ρ st H) (r1 : RelD K ρ H d1 v1) (r2 : RelD K ρ H d2 v2)
    (q : EndG K B RB ρ H ((Res.ofOpt ((cmpD st o d1 d2).map .bl) st).bind fun x st => .ofOpt (truth st x) st) Q) : rCm K.K o v1 v2 H fun x H' => ∃ k, x = .bl k ∧ Q k H' := by
  cases h : cmpD st o d1 d2 with
  | none => rw [h] at q; exact q.elim
  | some b =>
    rw [h] at q
    exact cmp_rel s r1 r2 h ⟨b, rfl, q ρ b H (Ext.refl _ _) s rfl⟩
theorem st_cmp (hu : X.A.units + 64 < cLine) (o : Cm) (hm : behindInMarks (cmA o) b = false) (ha : PE X a (eE X κ B fa ma)) (hb : PE X b (eE X κ B fb mb)) :
    PT X (.Compare a [cmA o] [b] pos) (eT X κ B fun l st => ((ma l st).bind fun x st => (mb l st).bind fun y st => .ofOpt ((cmpD st o x y).map .bl) st).bind fun x st => .ofOpt (truth st x) st) :=
  PT.imp (pt_cmpR (op_cm hu o) ha hb hm) fun σ H Q ⟨ρ, l, st, a, q⟩ => ⟨ρ, l, st, a, by
    dsimp only at q
    rw [Res.bind_assoc] at q
    refine EndG.bind RB.back q fun d1 st1 ρ1 v1 H1 x1 s1 r1 q1 => ⟨ρ1, l, st1, a.go x1 s1, ?_⟩
    rw [Res.bind_assoc] at q1
    exact EndG.bind RB.back q1 fun d2 st2 ρ2 v2 H2 x2 s2 r2 q2 => cmp_endT s2 (r1.1.mono s1 x2) r2.1 q2⟩
theorem se_chn (hu : X.A.units + 64 < cLine) (o1 o2 : Cm) (hm : behindInMarks (cmA o2) c = false) (ha : PE X a (eE X κ B fa ma)) (hb : PE X b (eE X κ B fb mb)) (hc : PE X c (eE X κ B fc mc)) :
    PE X (.Compare a [cmA o1, cmA o2] [b, c] pos) (eE X κ B fr fun l st => (ma l st).bind fun x st => (mb l st).bind fun y st => optB (cmpD st o1 x y) ((mc l st).bind fun z st => .ofOpt ((cmpD st o2 y z).map .bl) st) (.ok (.bl false) st)) :=
  PE.imp (pe_chain (op_cm hu o1) (op_cm hu o2) ha hb hc hm) fun σ H Q ⟨ρ, l, st, a, q⟩ => ⟨ρ, l, st, a, EndG.bind RE.back q fun d1 st1 ρ1 v1 H1 x1 s1 r1 q1 =>
    ⟨ρ1, l, st1, a.go x1 s1, EndG.bind RE.back q1 fun d2 st2 ρ2 v2 H2 x2 s2 r2 q2 => by
      cases h : cmpD st2 o1 d1 d2 with
      | none => rw [h] at q2; exact q2.elim
      | some k =>
        rw [h] at q2
        refine cmp_rel s2 (r1.1.mono s1 x2) r2.1 h ⟨k, rfl, ?_⟩
        cases k with
        | true =>
          rw [if_pos rfl]
          exact ⟨ρ2, l, st2, (a.go x1 s1).go x2 s2, EndG.bind RE.back q2 fun d3 st3 ρ3 v3 H3 x3 s3 r3 q3 => cmp_end s3 (r2.1.mono s2 x3) r3.1 q3⟩
        | false =>
          rw [if_neg (by decide)]
          exact q2 ρ2 _ H2 (Ext.refl _ _) s2 ⟨.bl false, fun _ t => nomatch t⟩⟩⟩
theorem st_chn (hu : X.A.units + 64 < cLine) (o1 o2 : Cm) (hm : behindInMarks (cmA o2) c = false) (ha : PE X a (eE X κ B fa ma)) (hb : PE X b (eE X κ B fb mb)) (hc : PE X c (eE X κ B fc mc)) :
    PT X (.Compare a [cmA o1, cmA o2] [b, c] pos) (eT X κ B fun l st => ((ma l st).bind fun x st => (mb l st).bind fun y st => optB (cmpD st o1 x y) ((mc l st).bind fun z st => .ofOpt ((cmpD st o2 y z).map .bl) st) (.ok (.bl false) st)).bind fun x st => .ofOpt (truth st x) st) :=
  PT.imp (pt_chain (op_cm hu o1) (op_cm hu o2) ha hb hc hm) fun σ H Q ⟨ρ, l, st, a, q⟩ => ⟨ρ, l, st, a, by
    dsimp only at q
    rw [Res.bind_assoc] at q
    refine EndG.bind RB.back q fun d1 st1 ρ1 v1 H1 x1 s1 r1 q1 => ⟨ρ1, l, st1, a.go x1 s1, ?_⟩
    rw [Res.bind_assoc] at q1
    refine EndG.bind RB.back q1 fun d2 st2 ρ2 v2 H2 x2 s2 r2 q2 => ?_
    cases h : cmpD st2 o1 d1 d2 with
    | none => rw [h] at q2; exact q2.elim
    | some k =>
      rw [h] at q2
      refine cmp_rel s2 (r1.1.mono s1 x2) r2.1 h ⟨k, rfl, ?_⟩
      cases k with
      | true =>
        rw [if_pos rfl]
        refine ⟨ρ2, l, st2, (a.go x1 s1).go x2 s2, ?_⟩
        simp only [optB] at q2
        rw [Res.bind_assoc] at q2
        exact EndG.bind RB.back q2 fun d3 st3 ρ3 v3 H3 x3 s3 r3 q3 => cmp_endT s3 (r2.1.mono s2 x3) r3.1 q3
      | false =>
        rw [if_neg (by decide)]
        exact ⟨false, rfl, q2 ρ2 _ H2 (Ext.refl _ _) s2 rfl⟩⟩
theorem live_rel {K : Kit} {ρ : Rho} {H : Hp} {st : Store} {d e : D} {v : V} (s : Sim K ρ st H) (r : RelD K ρ H d v) (h : live st d = some e) : e = d ∧ ∀ n, d = .ref n → ρ[K.h + n]? ≠ some none := by
  unfold live at h
  split at h
  · rename_i n
    split at h
    · cases h
    · rename_i o hn hs
      cases h
      refine ⟨rfl, fun m em q => ?_⟩
      cases em
      rcases s.ob n _ hs with ⟨z, _⟩ | ⟨a, z, _⟩
      · exact hn z
      · rw [q] at z; cases z
    · cases h
  · rename_i hn
    cases h
    exact ⟨rfl, fun n e => (hn n e).elim⟩
theorem isNon_rel {K : Kit} {ρ : Rho} {H : Hp} {d : D} {v : V} (r : RelD K ρ H d v) (hd : ∀ n, d = .ref n → ρ[K.h + n]? ≠ some none) : decide (v = .non) = isNon d := by
  cases r with
  | dead e => exact (hd _ rfl e).elim
  | _ => first | rfl | simp [isNon]
theorem se_isn {k : Nat} {p : Pos} (ha : PE X a (eE X κ B fa ma)) :
    PE X (.Compare a [.Is] [.Constant .none k p] pos) (eE X κ B fr fun l st => (ma l st).bind fun x st => optR (live st x) fun x => .ok (.bl (isNon x)) st) :=
  PE.imp (pe_cmpR op_isN ha pe_non (nomark _)) fun σ H Q ⟨ρ, l, st, a, q⟩ => ⟨ρ, l, st, a, EndG.bind RE.back q fun d1 st1 ρ1 v1 H1 x1 s1 r1 q1 => by
    cases h : live st1 d1 with
    | none => rw [h] at q1; exact q1.elim
    | some d =>
      rw [h] at q1
      obtain ⟨rfl, h2⟩ := live_rel s1 r1.1 h
      exact ⟨rfl, by rw [isNon_rel r1.1 h2]; exact q1 ρ1 _ H1 (Ext.refl _ _) s1 ⟨.bl _, fun _ t => nomatch t⟩⟩⟩
theorem se_nisn {k : Nat} {p : Pos} (ha : PE X a (eE X κ B fa ma)) :
    PE X (.Compare a [.IsNot] [.Constant .none k p] pos) (eE X κ B fr fun l st => (ma l st).bind fun x st => optR (live st x) fun x => .ok (.bl (!isNon x)) st) :=
  PE.imp (pe_cmpR op_notN ha pe_non (nomark _)) fun σ H Q ⟨ρ, l, st, a, q⟩ => ⟨ρ, l, st, a, EndG.bind RE.back q fun d1 st1 ρ1 v1 H1 x1 s1 r1 q1 => by
    cases h : live st1 d1 with
    | none => rw [h] at q1; exact q1.elim
    | some d =>
      rw [h] at q1
      obtain ⟨rfl, h2⟩ := live_rel s1 r1.1 h
      exact ⟨rfl, by rw [isNon_rel r1.1 h2]; exact q1 ρ1 _ H1 (Ext.refl _ _) s1 ⟨.bl _, fun _ t => nomatch t⟩⟩⟩
theorem st_isn {k : Nat} {p : Pos} (ha : PE X a (eE X κ B fa ma)) :
    PT X (.Compare a [.Is] [.Constant .none k p] pos) (eT X κ B fun l st => ((ma l st).bind fun x st => optR (live st x) fun x => .ok (.bl (isNon x)) st).bind fun x st => .ofOpt (truth st x) st) :=
  PT.imp (pt_cmpR op_isN ha pe_non (nomark _)) fun σ H Q ⟨ρ, l, st, a, q⟩ => ⟨ρ, l, st, a, by
    dsimp only at q
    rw [Res.bind_assoc] at q
    refine EndG.bind RB.back q fun d1 st1 ρ1 v1 H1 x1 s1 r1 q1 => ?_
    cases h : live st1 d1 with
    | none => rw [h] at q1; exact q1.elim
    | some d =>
      rw [h] at q1
      obtain ⟨rfl, h2⟩ := live_rel s1 r1.1 h
      exact ⟨rfl, _, by rw [isNon_rel r1.1 h2], q1 ρ1 _ H1 (Ext.refl _ _) s1 rfl⟩⟩
theorem st_nisn {k : Nat} {p : Pos} (ha : PE X a (eE X κ B fa ma)) :
    PT X (.Compare a [.IsNot] [.Constant .none k p] pos) (eT X κ B fun l st => ((ma l st).bind fun x st => optR (live st x) fun x => .ok (.bl (!isNon x)) st).bind fun x st => .ofOpt (truth st x) st) :=
  PT.imp (pt_cmpR op_notN ha pe_non (nomark _)) fun σ H Q ⟨ρ, l, st, a, q⟩ => ⟨ρ, l, st, a, by
    dsimp only at q
    rw [Res.bind_assoc] at q
    refine EndG.bind RB.back q fun d1 st1 ρ1 v1 H1 x1 s1 r1 q1 => ?_
    cases h : live st1 d1 with
    | none => rw [h] at q1; exact q1.elim
    | some d =>
      rw [h] at q1
      obtain ⟨rfl, h2⟩ := live_rel s1 r1.1 h
      exact ⟨rfl, _, by rw [isNon_rel r1.1 h2], q1 ρ1 _ H1 (Ext.refl _ _) s1 rfl⟩⟩

/-! ### and, or, not, if -/
theorem se_and {rest : List Expr} (ha : PE X a (eE X κ B fa ma)) (hb : PE X (.BoolOp .And (b :: rest) pos) (eE X κ B fb mb)) :
    PE X (.BoolOp .And (a :: b :: rest) pos) (eE X κ B false fun l st => (ma l st).bind fun x st => optB (truth st x) (mb l st) (.ok x st)) :=
  PE.imp (pe_andT ha hb) fun σ H Q ⟨ρ, l, st, a, q⟩ => ⟨ρ, l, st, a, EndG.bind RE.back q fun d1 st1 ρ1 v1 H1 x1 s1 r1 q1 => by
    cases h : truth st1 d1 with
    | none => rw [h] at q1; exact q1.elim
    | some k =>
      rw [h] at q1
      refine ⟨k, truth_rel s1 r1.1 h, ?_⟩
      cases k with
      | true => exact ⟨ρ1, l, st1, a.go x1 s1, EndG.weak q1⟩
      | false => exact q1 ρ1 _ H1 (Ext.refl _ _) s1 ⟨r1.1, fun z => nomatch z⟩⟩
theorem se_or {rest : List Expr} (ha : PE X a (eE X κ B fa ma)) (hb : PE X (.BoolOp .Or (b :: rest) pos) (eE X κ B fb mb)) :
    PE X (.BoolOp .Or (a :: b :: rest) pos) (eE X κ B false fun l st => (ma l st).bind fun x st => optB (truth st x) (.ok x st) (mb l st)) :=
  PE.imp (pe_orT ha hb) fun σ H Q ⟨ρ, l, st, a, q⟩ => ⟨ρ, l, st, a, EndG.bind RE.back q fun d1 st1 ρ1 v1 H1 x1 s1 r1 q1 => by
    cases h : truth st1 d1 with
    | none => rw [h] at q1; exact q1.elim
    | some k =>
      rw [h] at q1
      refine ⟨k, truth_rel s1 r1.1 h, ?_⟩
      cases k with
      | false => exact ⟨ρ1, l, st1, a.go x1 s1, EndG.weak q1⟩
      | true => exact q1 ρ1 _ H1 (Ext.refl _ _) s1 ⟨r1.1, fun z => nomatch z⟩⟩
theorem se_not (ha : PE X a (eE X κ B fa ma)) : PE X (.UnaryOp .Not a pos) (eE X κ B fr fun l st => (ma l st).bind fun x st => .ofOpt ((truth st x).map fun b => .bl (!b)) st) :=
  PE.imp (pe_notT ha) fun σ H Q ⟨ρ, l, st, a, q⟩ => ⟨ρ, l, st, a, EndG.bind RE.back q fun d1 st1 ρ1 v1 H1 x1 s1 r1 q1 => by
    cases h : truth st1 d1 with
    | none => rw [h] at q1; exact q1.elim
    | some k =>
      rw [h] at q1
      exact ⟨k, truth_rel s1 r1.1 h, q1 ρ1 _ H1 (Ext.refl _ _) s1 ⟨.bl _, fun _ t => nomatch t⟩⟩⟩
/-- the truth of a value -/
theorem st_truth (ha : PE X a (eE X κ B fa ma)) (he : ∀ whole, isTrue a X.env whole = (do let v ← whole; standAt a.pos; holding [v] (truthy v))) :
    PT X a (eT X κ B fun l st => (ma l st).bind fun x st => .ofOpt (truth st x) st) :=
  PT.imp (pt_truth ha he) fun σ H Q ⟨ρ, l, st, a, q⟩ => ⟨ρ, l, st, a, EndG.bind RB.back q fun d1 st1 ρ1 v1 H1 x1 s1 r1 q1 => by
    cases h : truth st1 d1 with
    | none => rw [h] at q1; exact q1.elim
    | some k =>
      rw [h] at q1
      exact ⟨k, truth_rel s1 r1.1 h, q1 ρ1 _ H1 (Ext.refl _ _) s1 rfl⟩⟩
variable {na nb nc : Loc → Store → Res Bool}
theorem sw_and {rest : List Expr} (ha : PT X a (eT X κ B na)) (hb : PW X (.BoolOp .And (b :: rest) pos) (eT X κ B nb)) : PW X (.BoolOp .And (a :: b :: rest) pos) (eT X κ B fun l st => (na l st).bind fun k st => ifB k (nb l st) (.ok false st)) := by
  have h := pw_and ha hb
  refine ⟨fun wh pins s σ H Q I ⟨ρ, l, st, a, q⟩ => h.run wh pins s σ H Q I ⟨ρ, l, st, a, EndG.bind RB.back q fun k st1 ρ1 k' H1 x1 s1 r1 q1 => ?_⟩⟩
  cases r1
  cases k with
  | true => exact ⟨ρ1, l, st1, a.go x1 s1, q1⟩
  | false => exact q1 ρ1 _ H1 (Ext.refl _ _) s1 rfl
theorem sw_or {rest : List Expr} (ha : PT X a (eT X κ B na)) (hb : PW X (.BoolOp .Or (b :: rest) pos) (eT X κ B nb)) : PW X (.BoolOp .Or (a :: b :: rest) pos) (eT X κ B fun l st => (na l st).bind fun k st => ifB k (.ok true st) (nb l st)) := by
  have h := pw_or ha hb
  refine ⟨fun wh pins s σ H Q I ⟨ρ, l, st, a, q⟩ => h.run wh pins s σ H Q I ⟨ρ, l, st, a, EndG.bind RB.back q fun k st1 ρ1 k' H1 x1 s1 r1 q1 => ?_⟩⟩
  cases r1
  cases k with
  | false => exact ⟨ρ1, l, st1, a.go x1 s1, q1⟩
  | true => exact q1 ρ1 _ H1 (Ext.refl _ _) s1 rfl
theorem st_not (ha : PT X a (eT X κ B na)) : PT X (.UnaryOp .Not a pos) (eT X κ B fun l st => (na l st).bind fun k st => .ok (!k) st) :=
  PT.imp (pt_not ha) fun σ H Q ⟨ρ, l, st, a, q⟩ => ⟨ρ, l, st, a, EndG.bind RB.back q fun k st1 ρ1 k' H1 x1 s1 r1 q1 => by
    cases r1
    exact q1 ρ1 _ H1 (Ext.refl _ _) s1 rfl⟩
theorem se_ite (hc : PT X c (eT X κ B nc)) (ha : PE X a (eE X κ B fa ma)) (hb : PE X b (eE X κ B fb mb)) :
    PE X (.IfExp c a b pos) (eE X κ B (fa && fb) fun l st => (nc l st).bind fun k st => ifB k (ma l st) (mb l st)) :=
  PE.imp (pe_ifExp hc ha hb) fun σ H Q ⟨ρ, l, st, a, q⟩ => ⟨ρ, l, st, a, EndG.bind RE.back q fun k st1 ρ1 k' H1 x1 s1 r1 q1 => by
    cases r1
    cases k with
    | true => exact ⟨ρ1, l, st1, a.go x1 s1, EndG.weak2 (fun z => (Bool.and_eq_true_iff.mp z).1) q1⟩
    | false => exact ⟨ρ1, l, st1, a.go x1 s1, EndG.weak2 (fun z => (Bool.and_eq_true_iff.mp z).2) q1⟩⟩
end
end Pm

set_option Elab.async false
set_option linter.all false
set_option maxRecDepth 100000
set_option maxHeartbeats 2000000
/-! Ev7: subscripts, slices, isinstance. -/
namespace Pm
open PySem PySem.Spec PyProof.Rows L2
set_option autoImplicit false

/-! ### a[b] -/
def rIxD : R2 := fun x y H Q => ∃ a v, x = .ref a ∧ DGet H a y (some v) ∧ Q v H
theorem ix_dict {X : Cx} (hu : X.A.units + 1 < cLine) : IxR X rIxD := by
  intro value slice pins s σ H x y v u Q I rx ry h hs
  obtain ⟨a, z, rfl, g, q⟩ := h
  obtain rfl : v = Value.ref a := rx
  have hT := dict_typeIs I g
  unfold subscriptTail
  refine wpAny_bind ?_
  rw [getitemInPython_of_ne hT.not_modules]
  refine wpAny_bind (wpAny_specialOf hT PySem.F.slot_dict_getitem.lookup ?_)
  have hb2 : wpAny (model X.prog X.w) X.A (getItem (.ref a) u) (EP X pins σ Q) X.xe s := d_getItem hu I g ry fun w' s3 I3 rw' => ⟨z, H, I3, rw', q⟩
  have fin : wpAny (model X.prog X.w) X.A (subscripted slice false (.ref a) u) (fun r sc3 => wpAny (model X.prog X.w) X.A (letTemporaryGo value (.ref a) r >>= fun _ => pure r) (EP X pins σ Q) X.xe sc3) X.xe s := by
    rw [hs]
    exact wpAny_operating (wpAny_mono hb2 (fun r sc3 hc3 => wpAny_bind (wpAny_letTemporaryGo (wpAny_pure hc3))) fun _ _ x => x)
  first
    | exact wpAny_pure (wpAny_bind fin)
    | exact wpAny_bind (wpAny_pure (wpAny_bind fin))
    | exact wpAny_bind fin
def rIxA (K : PySem.W.Frag) : R2 := fun x y H Q => rIx K x y H Q ∨ rIxD x y H Q
theorem ix_all {X : Cx} (hu : X.A.units + 1 < cLine) : IxR X (rIxA X.K) := ix_seq.or (ix_dict hu)
section
variable {K : Kit} {ρ : Rho} {H : Hp} {st : Store} {d1 d2 d : D} {v1 v2 : V} {Q : VK}
theorem place_eq : place = ixN := rfl
theorem RelDs.atI {xs : List D} {vs : List V} {i : Int} {d : D} (r : RelDs K ρ H xs vs) (h : ((place xs.length i).bind fun j => xs[j]?) = some d) : ∃ v, L2.atI vs i = some v ∧ RelD K ρ H d v := by
  obtain ⟨j, h1, h2⟩ := Option.bind_eq_some_iff.mp h
  obtain ⟨v, h3, h4⟩ := r.get h2
  refine ⟨v, ?_, h4⟩
  unfold L2.atI
  rw [← r.length]
  rw [place_eq] at h1
  rw [h1]
  exact h3
theorem ix_rel (s : Sim K ρ st H) (r1 : RelD K ρ H d1 v1) (r2 : RelD K ρ H d2 v2) (h : ixD st d1 d2 = some d) (q : ∀ v, RelD K ρ H d v → Q v H) : rIxA K.K v1 v2 H Q := by
  unfold ixD at h
  split at h
  · rename_i x i
    split at h
    · rename_i hz
      cases r1; cases r2
      obtain ⟨j, h1, h2⟩ := Option.bind_eq_some_iff.mp h
      obtain ⟨c, h3, h4⟩ := Option.map_eq_some_iff.mp h2
      subst h4
      refine .inl (.inr (.inr ⟨strS x, i, c, rfl, rfl, by rw [strS_length, SL_eq]; exact hz, ?_, ?_⟩))
      · show (ixN (strS x).cps.toList.length i).bind _ = _
        rw [show (strS x).cps.toList = x from rfl, ← place_eq, h1]
        exact h3
      · exact q (.str ⟨#[c]⟩) (.str [c])
    · cases h
  · rename_i xs i
    cases r2
    cases r1 with
    | tup h1 h2 =>
      obtain ⟨v, h3, h4⟩ := h2.atI h
      exact .inl (.inr (.inl ⟨_, _, i, v, rfl, rfl, h1.sq, h3, q v h4⟩))
  · split at h
    · cases r2
      obtain ⟨a, vs, rfl, h1, h2⟩ := listOf_rel s r1 (by assumption)
      obtain ⟨v, h3, h4⟩ := h2.atI h
      exact .inl (.inl ⟨_, _, _, v, rfl, rfl, SqL.of h1, h3, q v h4⟩)
    · split at h
      · rename_i kvs k hd hk
        obtain ⟨a, vs, rfl, h1, h2⟩ := dictOf_rel s r1 hd
        have e := asKey_rel r2 hk
        subst e
        rcases lookK_rel (k := k) h2 with ⟨h3, _⟩ | ⟨d', v', h3, h4, h5⟩
        · rw [h3] at h; cases h
        · rw [h3] at h; cases h
          exact .inr ⟨a, v', rfl, by rw [← h4]; exact DGet.k h1, q v' h5⟩
      · cases h
/-- a key there -/
theorem dget_rel (s : Sim K ρ st H) (r1 : RelD K ρ H d1 v1) (r2 : RelD K ρ H d2 v2) {kvs : List (DKey × D)} {k : DKey} (hd : dictOf st d1 = some kvs) (hk : asKey d2 = some k) : ∃ a o, v1 = .ref a ∧ DGet H a v2 o ∧ ((lookK k kvs = none ∧ o = none) ∨ ∃ d v, lookK k kvs = some d ∧ o = some v ∧ RelD K ρ H d v) := by
  obtain ⟨a, vs, rfl, h1, h2⟩ := dictOf_rel s r1 hd
  have e := asKey_rel r2 hk
  subst e
  refine ⟨a, _, rfl, DGet.k h1, ?_⟩
  rcases lookK_rel (k := k) h2 with ⟨h3, h4⟩ | ⟨d', v', h3, h4, h5⟩
  · exact .inl ⟨h3, h4⟩
  · exact .inr ⟨d', v', h3, h4, h5⟩
end

/-! ### slices -/
theorem cut_eq {α : Type} (xs : List α) (lo hi : Option Int) : cut xs lo hi = (xs.drop (HT.sIx xs.length 0 lo)).take (HT.sIx xs.length xs.length hi - HT.sIx xs.length 0 lo) := by
  have h : ∀ n d (o : Option Int), cutIx n d o = HT.sIx n d o := fun n d o => by cases o <;> rfl
  unfold cut
  rw [h, h]
theorem cut_map {α β : Type} (f : α → β) (xs : List α) (lo hi : Option Int) : (cut xs lo hi).map f = cut (xs.map f) lo hi := by
  unfold cut
  rw [List.length_map, List.map_take, List.map_drop]
def rSlAll (K : PySem.W.Frag) : V → Option Int → Option Int → Hp → VK → Prop := fun x lo hi H Q => rSlL K x lo hi H Q ∨ rSlN K x lo hi H Q ∨ C8.rSlX x lo hi H Q
theorem sl_all {X : Cx} : SlR X (rSlAll X.K) := sl_list.or (sl_tupN.or C8.sl_txt)
section
variable {K : Kit} {ρ : Rho} {H : Hp} {st : Store} {d1 d : D} {v1 : V} {Q : VK} {lo hi : Option Int} {fr : Bool}
theorem RelDs.cut {xs : List D} {vs : List V} (r : RelDs K ρ H xs vs) : RelDs K ρ H (cut xs lo hi) (cutV vs lo hi) := by
  unfold cutV
  rw [cut_eq, ← r.length]
  exact (r.drop _).take _
theorem rel_ints : ∀ ns : List Int, RelDs K ρ H (ns.map .int) (ns.map V.int)
  | [] => .nil
  | n :: r => .cons (.int n) (rel_ints r)
theorem slice_eq (x : List Nat) : Txt.slice (strS x) lo hi = strS (Pm.cut x lo hi) := by
  rw [← C8.cutS_slice]
  unfold cutS
  rw [cut_eq]
  rfl
theorem sl_rel (s : Sim K ρ st H) (r1 : RelD K ρ H d1 v1) (h : slcD st d1 lo hi = some d) (k : Out K fr ρ H st d Q) : rSlAll K.K v1 lo hi H Q := by
  unfold slcD at h
  split at h
  · rename_i ns
    cases h; cases r1
    rename_i a h1
    refine .inl ⟨a, _, rfl, h1.sq, fun p hp => ?_⟩
    have e : cutV (ns.map V.int) lo hi = (Pm.cut ns lo hi).map V.int := by
      rw [cut_map]; unfold cutV; rw [cut_eq]
    rw [e]
    exact k.lst s hp (rel_ints _)
  · rename_i x
    split at h
    · rename_i hz
      cases h; cases r1
      refine .inr (.inr ⟨_, rfl, by rw [strS_length, SL_eq]; exact hz, ?_⟩)
      rw [slice_eq]
      exact k.flat s (.str _) rfl
    · cases h
  · rename_i xs
    cases h
    cases r1 with
    | @tup _ vs a h1 h2 =>
      refine .inr (.inl ⟨a, vs, rfl, h1.sq, fun hw => ?_, fun _ p o hp ho => k.tup s hp ho h2.cut⟩)
      have e : Pm.cut xs lo hi = xs := by
        rw [cut_eq, h2.length, hw.1, hw.2, ← h2.length]; simp
      rw [e] at k
      exact k.flat s (.tup h1 h2) rfl
  · obtain ⟨xs, h1, h2⟩ := Option.map_eq_some_iff.mp h
    subst h2
    obtain ⟨a, vs, rfl, h3, h4⟩ := listOf_rel s r1 h1
    exact .inl ⟨a, vs, rfl, SqL.of h3, fun p hp => k.lst s hp h4.cut⟩
end

section
variable {X : Cx} {κ : Kx} {B : L2.St → XW} {a b c : Expr} {fa fb fc fr : Bool} {ma mb mc : Loc → Store → Res D} {pos p2 : Pos}
theorem se_ix (hu : X.A.units + 64 < cLine) (hs : PlainIx b) (ha : PE X a (eE X κ B fa ma)) (hb : PE X b (eE X κ B fb mb)) :
    PE X (.Subscript a b pos) (eE X κ B false fun l st => (ma l st).bind fun x st => (mb l st).bind fun y st => .ofOpt (ixD st x y) st) :=
  PE.imp (pe_ix (ix_all (by omega)) ha hb hs) fun σ H Q ⟨ρ, l, st, a, q⟩ => ⟨ρ, l, st, a, EndG.bind RE.back q fun d1 st1 ρ1 v1 H1 x1 s1 r1 q1 =>
    ⟨ρ1, l, st1, a.go x1 s1, EndG.bind RE.back q1 fun d2 st2 ρ2 v2 H2 x2 s2 r2 q2 => by
      obtain ⟨d, e, k⟩ := EndG.opt q2
      exact ix_rel s2 (r1.1.mono s1 x2) r2.1 e fun v r => k ρ2 v H2 (Ext.refl _ _) s2 r fun z => nomatch z⟩⟩
theorem so_no : PO X none (eO X κ B fun _ st => .ok none st) := PO.imp po_none fun σ H Q ⟨ρ, l, st, a, q⟩ => q ρ none H (Ext.refl _ _) a.sim rfl
theorem so_yes (ha : PE X a (eE X κ B fa ma)) : PO X (some a) (eO X κ B fun l st => (ma l st).bind fun x st => asInt x fun i => .ok (some i) st) :=
  PO.imp (po_some ha) fun σ H Q ⟨ρ, l, st, a, q⟩ => ⟨ρ, l, st, a, EndG.bind RB.back q fun d1 st1 ρ1 v1 H1 x1 s1 r1 q1 => by
    cases d1 with
    | int i => obtain ⟨r1, _⟩ := r1; cases r1; exact ⟨i, rfl, q1 ρ1 _ H1 (Ext.refl _ _) s1 rfl⟩
    | _ => exact q1.elim⟩
variable {lo hi : Option Expr} {mlo mhi : Loc → Store → Res (Option Int)}
theorem se_slc (ha : PE X a (eE X κ B fa ma)) (hl : PO X lo (eO X κ B mlo)) (hh : PO X hi (eO X κ B mhi)) :
    PE X (.Subscript a (.Slice lo hi none p2) pos) (eE X κ B true fun l st => (ma l st).bind fun x st => (mlo l st).bind fun u st => (mhi l st).bind fun w st => .ofOpt (slcD st x u w) st) :=
  PE.imp (pe_slice sl_all ha hl hh) fun σ H Q ⟨ρ, l, st, a, q⟩ => ⟨ρ, l, st, a, EndG.bind RE.back q fun d1 st1 ρ1 v1 H1 x1 s1 r1 q1 =>
    ⟨ρ1, l, st1, a.go x1 s1, EndG.bind RE.back q1 fun u st2 ρ2 u' H2 x2 s2 r2 q2 => by
      cases r2
      exact ⟨ρ2, l, st2, (a.go x1 s1).go x2 s2, EndG.bind RE.back q2 fun w st3 ρ3 w' H3 x3 s3 r3 q3 => by
        cases r3
        obtain ⟨d, e, k⟩ := EndG.opt q3
        exact sl_rel s3 ((r1.1.mono s1 x2).mono s2 x3) e k⟩⟩⟩
end
end Pm

set_option Elab.async false
set_option linter.all false
set_option maxRecDepth 100000
set_option maxHeartbeats 4000000
/-! EvR: a tuple backwards. -/
namespace Pm
open PySem PySem.Spec PyProof.Rows L2
set_option autoImplicit false
section
variable {prog : Program} {w : World} {A : Around} {E : Value → Shared → Prop} {s : Shared}
theorem adjust_back (n : Nat) : Builtin.Slice.sliceAdjust none none (-1) (n : Int) = ((n : Int) - 1, -1) := rfl
theorem places_back (n : Nat) : Builtin.Slice.slicePlaces ((n : Int) - 1) (-1) (-1) = n := by
  unfold Builtin.Slice.slicePlaces
  have h1 : ¬ ((-1 : Int) > 0) := by omega
  simp only [h1, if_false]
  have e : ((n : Int) - 1 - -1 - 1) / (- -1) = (n : Int) - 1 := by
    have : (- -1 : Int) = 1 := rfl
    rw [this, Int.ediv_one]; omega
  rw [e]
  split <;> omega
theorem fm_congr {α β : Type} {f g : α → Option β} : ∀ l : List α, (∀ x, x ∈ l → f x = g x) → l.filterMap f = l.filterMap g
  | [], _ => rfl
  | x :: l, h => by
    rw [List.filterMap_cons, List.filterMap_cons, h x (List.mem_cons_self ..), fm_congr l fun y hy => h y (List.mem_cons_of_mem _ hy)]
theorem pick_back (xs : Array Value) : ((List.range xs.size).filterMap fun (m : Nat) => xs[(((xs.size : Int) - 1) + (m : Int) * -1).toNat]?).toArray = xs.toList.reverse.toArray := by
  congr 1
  have h : ∀ l : List Value, ((List.range l.length).filterMap fun (m : Nat) => l[(((l.length : Int) - 1) + (m : Int) * -1).toNat]?) = l.reverse := by
    intro l
    have h2 : ∀ m, m ∈ List.range l.length → l[(((l.length : Int) - 1) + (m : Int) * -1).toNat]? = l.reverse[m]? := fun m hm => by
      have hm := List.mem_range.mp hm
      rw [List.getElem?_reverse hm]
      congr 1
      omega
    rw [fm_congr _ h2]
    have e : ∀ l : List Value, (List.range l.length).filterMap (fun m => l[m]?) = l := by
      intro l
      induction l with
      | nil => rfl
      | cons x r ih =>
        rw [List.length_cons, List.range_succ_eq_map, List.filterMap_cons]
        simp only [List.getElem?_cons_zero, List.filterMap_map, Function.comp_def, List.getElem?_cons_succ]
        rw [ih]
    have := e l.reverse
    rw [List.length_reverse] at this
    rw [this]
  have h0 := h xs.toList
  rw [Array.length_toList] at h0
  simpa using h0
theorem sliceApplied_back {sl : Addr} {vl vu vs : Value} {n : Nat} {Q : Int × Int × Nat → Shared → Prop} (hs : s.heap.IsSliceOf sl vl vu vs) (pl : IsPart vl none) (pu : IsPart vu none) (ps : IsPart vs (some (-1)))
    (h : Q ((n : Int) - 1, -1, n) s) : wpAny (model prog w) A (Builtin.Slice.sliceApplied (.ref sl) (pure (n : Int))) Q E s := by
  obtain ⟨os, hos, hcs, hds⟩ := id hs
  unfold Builtin.Slice.sliceApplied Builtin.Slice.sliceFields
  refine wpAny_bind (wpAny_bind (wpAny_field hos hds (x := vl) rfl (wpAny_bind (wpAny_field hos hds (x := vu) rfl (wpAny_bind (wpAny_field hos hds (x := vs) rfl (wpAny_pure ?_)))))))
  refine wpAny_bind (HT.slicePart_ ps ?_)
  show wpAny _ _ (if ((-1 : Int) == 0) = true then _ else _) _ _ s
  rw [if_neg (by decide)]
  refine wpAny_bind (HT.slicePart_ pl (wpAny_bind (HT.slicePart_ pu (wpAny_bind (wpAny_pure ?_)))))
  show wpAny _ _ (match Builtin.Slice.sliceAdjust none none (-1) (n : Int) with | (lo, hi) => pure (lo, (-1 : Int), Builtin.Slice.slicePlaces lo hi (-1))) _ _ s
  rw [adjust_back n]
  show wpAny _ _ (pure ((n : Int) - 1, (-1 : Int), Builtin.Slice.slicePlaces ((n : Int) - 1) (-1) (-1))) _ _ s
  rw [places_back]
  exact wpAny_pure h
theorem getItem_tuple_back {t sl : Addr} {items : Array Value} {vl vu vs : Value} {Q : Value → Shared → Prop} (ht : IsTup s.heap t items) (hs : s.heap.IsSliceOf sl vl vu vs) (pl : IsPart vl none) (pu : IsPart vu none) (ps : IsPart vs (some (-1)))
    (h : Q (.ref s.heap.objs.size) { s with heap := s.heap.push { cls := .type "tuple", data := .seq items.toList.reverse.toArray } })
    (hsz : items.size ≤ sizeLine) : wpAny (model prog w) A (getItem (.ref t) (.ref sl)) Q E s := by
  have htake : sizeOk (.seq items.toList.reverse.toArray) := by
    show items.toList.reverse.toArray.size ≤ sizeLine
    rw [List.size_toArray, List.length_reverse, Array.length_toList]
    omega
  obtain ⟨os, hos, hcs, hds⟩ := id hs
  have hTs : s.TypeIs (.ref sl) "slice" := ⟨os, hos, hcs⟩
  unfold getItem
  try with_reducible refine wpAny_holding ?_
  first | refine wpAny_bind (wpAny_pure ?_) | skip
  refine wpAny_bind (wpAny_sequenceKey ht.typeIs (by decide) ?_)
  refine wpAny_bind (wpAny_callSpecial?_slot (name := Str.ofString "__getitem__") ht.typeIs PyProof.Rows.slot_tuple_getitem
    (wpAny_call_entry PyProof.Rows.slot_tuple_getitem ht.typeIs entry_tuple_getitem ?_ (args_tuple_getitem _ _)))
  show wpAny _ _ (Builtin.Tuple.tupleItemsOf (.ref t) >>= _) _ _ s
  refine wpAny_bind (tupleItemsOf_ ht ?_)
  refine wpAny_bind (wpAny_typeOf hTs ?_)
  rw [if_pos (by decide)]
  refine wpAny_bind (sliceApplied_back hs pl pu ps ?_)
  have hno : ¬ ((((items.size : Int) - 1) == 0 && (-1 : Int) == 1 && items.size == items.size) = true) := by
    intro q
    rw [Bool.and_eq_true, Bool.and_eq_true] at q
    exact absurd q.1.2 (by decide)
  show wpAny _ _ (if (((items.size : Int) - 1) == 0 && (-1 : Int) == 1 && items.size == items.size) = true then _ else _) _ _ s
  rw [if_neg hno, pick_back]
  first
    | exact wpAny_bind (m := Builtin.Tuple.tupleExact _) (wpAny_newObj_type (wpAny_pure ⟨_, rfl, wpAny_pure h⟩) htake)
    | exact wpAny_bind (m := Builtin.Tuple.tupleExact _) (wpAny_newObj_type (wpAny_bind (wpAny_pure (wpAny_pure ⟨_, rfl, wpAny_pure h⟩))) htake)
    | exact wpAny_bind (wpAny_bind (m := Builtin.Tuple.tupleExact _) (wpAny_newObj_type (wpAny_pure (wpAny_pure ⟨_, rfl, wpAny_pure h⟩)) htake))
    | exact wpAny_bind (wpAny_bind (m := Builtin.Tuple.tupleExact _) (wpAny_newObj_type (wpAny_pure ⟨_, rfl, wpAny_pure h⟩) htake))
end
section
variable {X : Cx}
def tRevN (K : PySem.W.Frag) (te : TE) : TE := fun σ H Q => te σ H fun x H1 => ∃ a xs, x = .ref a ∧ SqT K H1 a xs ∧ NewT Q H1 xs.reverse
theorem pe_revN {e : Expr} {te : TE} {k : Nat} {p1 p2 p3 pos : Pos} (he : PE X e te) : PE X (.Subscript e (.Slice none none (some (.UnaryOp .USub (.Constant (.int 1) k p1) p2)) p3) pos) (tRevN X.K te) := by
  refine ⟨fun pins s σ H Q I h => ?_⟩
  refine Subscript_ (thn (he.run pins s σ H _ I h) fun v s1 ⟨x, H1, I1, r1, q1⟩ => ?_)
  obtain ⟨a, xs, ex, hx, q⟩ := q1
  subst ex
  cases r1
  have hst : PO X (some (.UnaryOp .USub (.Constant (.int 1) k p1) p2)) (tPart (tUn (rU fun i => .int (-i)) (tC (.int 1)))) := po_some (pe_un un_neg pe_int)
  refine wpAny_Slice (thn (po_none.run pins s1 σ H1 (fun o H2 => o = none ∧ H2 = H1) I1 ⟨rfl, rfl⟩) fun vl s2 ⟨l, H2, I2, pl, el, e2⟩ => ?_)
  subst el e2
  refine thn (po_none.run pins s2 σ H2 (fun o H3 => o = none ∧ H3 = H2) I2 ⟨rfl, rfl⟩) fun vu s3 ⟨u, H3, I3, pu, eu, e3⟩ => ?_
  subst eu e3
  refine thn (hst.run pins s3 σ H3 (fun o H4 => o = some (-1) ∧ H4 = H3) I3 ⟨1, rfl, -1, rfl, rfl, rfl⟩) fun vs s4 ⟨o, H4, I4, ps, eo, e4⟩ => ?_
  subst eo e4
  have I5 : Inv X pins σ H4 { s4 with heap := s4.heap.push { cls := .type "slice", data := .fields #[vl, vu, vs] } } := I4.kept (t' := s4.toks) fun b ob q => Heap.get?_push_of_some _ q
  obtain ⟨its, r, ht, hz⟩ := I5.tuple hx
  have hlen := r.length
  show wpAny (model X.prog X.w) X.A (subscriptTail e (.Slice none none (some (.UnaryOp .USub (.Constant (.int 1) k p1) p2)) p3) (.ref a) (.ref s4.heap.objs.size)) (EP X pins σ Q) X.xe { s4 with heap := s4.heap.push { cls := .type "slice", data := .fields #[vl, vu, vs] } }
  refine tail_any (ops := [.ref a, .ref s4.heap.objs.size]) ht.typeIs (PyProof.Rows.slot_tuple_getitem.lookup) ?_ (by with_unfolding_all rfl)
  refine getItem_tuple_back ht (Heap.IsSliceOf.new _ vl vu vs) pl pu ps ?_ (by rw [List.size_toArray]; omega)
  have := newT_at (t' := s4.toks) I5 r.reverse (by rw [List.length_reverse]; omega) q
  simpa using this
end
section
variable {X : Cx} {κ : Kx} {B : L2.St → XW} {a : Expr} {fa fr : Bool} {ma : Loc → Store → Res D} {k : Nat} {p1 p2 p3 pos : Pos}
theorem RelDs.reverse' {K : Kit} {ρ : Rho} {H : Hp} : ∀ {xs : List D} {vs : List V}, RelDs K ρ H xs vs → RelDs K ρ H xs.reverse vs.reverse
  | _, _, .nil => .nil
  | _, _, .cons h r => by
    rw [List.reverse_cons, List.reverse_cons]
    exact (RelDs.reverse' r).append (.cons h .nil)
theorem se_revt (ha : PE X a (eE X κ B fa ma)) :
    PE X (.Subscript a (.Slice none none (some (.UnaryOp .USub (.Constant (.int 1) k p1) p2)) p3) pos) (eE X κ B fr fun l st => (ma l st).bind fun x st => .ofOpt (unD .revt x) st) :=
  PE.imp (pe_revN ha) fun σ H Q ⟨ρ, l, st, at0, q⟩ => ⟨ρ, l, st, at0, EndG.bind RE.back q fun d1 st1 ρ1 v1 H1 x1 s1 r1 q1 => by
    obtain ⟨d, e, k⟩ := EndG.opt q1
    obtain ⟨r1, _⟩ := r1
    unfold unD at e
    split at e
    · rename_i xs _
      cases e
      cases r1 with
      | tup g1 g2 => exact ⟨_, _, rfl, g1.sq, fun p o hp ho => Out.tup (fr := fr) k s1 hp ho (RelDs.reverse' g2)⟩
    · cases e⟩
end
end Pm

set_option Elab.async false
set_option linter.all false
set_option maxRecDepth 100000
set_option maxHeartbeats 2000000
/-! Ev8: isinstance, built-ins. -/
namespace Pm
open PySem PySem.Spec PyProof.Rows L2
set_option autoImplicit false

/-! ### isinstance -/
def tyN (st : Store) : D → Option String
  | .non => some "NoneType"
  | .bl _ => some "bool"
  | .int _ => some "int"
  | .str _ => some "str"
  | .tup _ => some "tuple"
  | .lst _ => some "list"
  | .dct _ => some "dict"
  | .ref n => match st[n]? with
    | some (.lst _) => some "list"
    | some (.dct _) => some "dict"
    | _ => none
  | _ => none
def tyNs : List String := ["NoneType", "bool", "int", "str", "tuple", "list", "dict"]
def tgN : Tg → Option String
  | .int => some "int" | .bool => some "bool" | .str => some "str" | .tuple => some "tuple" | .list => some "list" | .dict => some "dict" | .verr => some "ValueError" | .own _ => none
def isNm (n m : String) : Bool := n == m || (n == "bool" && m == "int")
theorem kit_names : (tyNs.all fun n => ["int", "bool", "str", "tuple", "list", "dict", "ValueError"].all fun m => kitB n m == some (isNm n m)) = true := by decide +kernel
theorem kit_nm {n m : String} (hn : n ∈ tyNs) (hm : m ∈ ["int", "bool", "str", "tuple", "list", "dict", "ValueError"]) : kitB n m = some (isNm n m) := by
  have h := List.all_eq_true.mp (List.all_eq_true.mp kit_names n hn) m hm
  exact eq_of_beq h
def tgV (κ : Kx) : Tg → V
  | .own c => .ref (κ.cl c)
  | t => .ty ((tgN t).getD "")
def tgU (κ : Kx) : Tg → Value
  | .own c => .ref (κ.cl c)
  | t => .type ((tgN t).getD "")
theorem tg_cls (κ : Kx) (t : Tg) : ClsV (tgV κ t) (tgU κ t) := by cases t <;> constructor

/-- what must be known of the own classes (so many) -/
structure Glo (κ : Kx) (K : PySem.W.Frag) (anc : Nat → List Nat) (ncl : Nat) : Prop where
  ownT : ∀ c, c < ncl → ∀ n, n ∈ tyNs → PySem.W.kitOne K (.type n) (.ref (κ.cl c)) = some false
  ownE : ∀ c, c < ncl → ∀ k, k < ncl → PySem.W.kitOne K (.ref (κ.cl c)) (.ref (κ.cl k)) = some ((anc c).contains k)
  verr : ∀ c, c < ncl → PySem.W.kitOne K (.ref (κ.cl c)) (.type "ValueError") = some true
  exc : ∀ c, c < ncl → ExcC K (κ.cl c)
  vown : ∀ c, c < ncl → PySem.W.kitOne K (.type "ValueError") (.ref (κ.cl c)) = some false

section
variable {K : Kit} {ρ : Rho} {H : Hp} {st : Store} {d d' : D} {v : V}
theorem ty_of (s : Sim K ρ st H) (r : RelD K ρ H d v) {n : String} (h : tyN st d = some n) : TyX K.K H v (.type n) ∧ n ∈ tyNs := by
  cases r with
  | non => cases h; exact ⟨.base .non, by decide⟩
  | bl b => cases h; exact ⟨.base (.bl b), by decide⟩
  | int i => cases h; exact ⟨.base (.int i), by decide⟩
  | str x => cases h; exact ⟨.base (.str _), by decide⟩
  | tup h1 h2 =>
    cases h
    rcases h1 with ⟨o, _, h1⟩ | ⟨o, its, n, _, h1, h2, _⟩
    · exact ⟨.fTuple h1, by decide⟩
    · exact ⟨.kTuple h1 h2, by decide⟩
  | itp h1 h2 => cases h
  | lst h1 h2 h3 => cases h; exact ⟨.base (.lst h1), by decide⟩
  | dct h1 h2 h3 => cases h; exact ⟨.base (.dK h1), by decide⟩
  | scr h1 => cases h
  | err h1 => cases h
  | errf h1 h2 h3 h4 => cases h
  | ver h1 => cases h
  | @ref m a e =>
    dsimp only [tyN] at h
    split at h
    · rename_i xs hs
      cases h
      obtain ⟨a, vs, e1, e2, e3⟩ := listOf_rel (d := .ref m) (xs := xs) s (.ref e) (by simp only [listOf, hs])
      cases e1
      exact ⟨.base (.lst e2), by decide⟩
    · rename_i xs hs
      cases h
      obtain ⟨a, vs, e1, e2, e3⟩ := dictOf_rel (d := .ref m) (xs := xs) s (.ref e) (by simp only [dictOf, hs])
      cases e1
      exact ⟨.base (.dK e2), by decide⟩
    · cases h
  | @dead m v e =>
    dsimp only [tyN] at h
    split at h
    · rename_i xs hs
      rcases s.ob m _ hs with ⟨q, _⟩ | ⟨b, e2, r2⟩
      · cases q
      · rw [e] at e2; cases e2
    · rename_i xs hs
      rcases s.ob m _ hs with ⟨q, _⟩ | ⟨b, e2, r2⟩
      · cases q
      · rw [e] at e2; cases e2
    · cases h
theorem isD_nm (anc : Nat → List Nat) {n m : String} {t : Tg} (h : tyN st d = some n) (ht : tgN t = some m) : isD st anc d t = isNm n m := by
  cases d with
  | ref k =>
    dsimp only [tyN] at h
    split at h
    · rename_i xs hs
      cases h
      cases t <;> cases ht <;> simp [isD, hs] <;> decide
    · rename_i xs hs
      cases h
      cases t <;> cases ht <;> simp [isD, hs] <;> decide
    · cases h
  | scr _ => cases h
  | itp _ => cases h
  | _ => cases h <;> cases t <;> cases ht <;> simp only [isD] <;> decide
theorem isD_own (anc : Nat → List Nat) {n : String} {c : Nat} (h : tyN st d = some n) : isD st anc d (.own c) = false := by
  cases d with
  | ref k =>
    dsimp only [tyN] at h
    split at h
    · rename_i xs hs; simp [isD, hs]
    · rename_i xs hs; simp [isD, hs]
    · cases h
  | err _ _ => cases h
  | ver => cases h
  | _ => rfl
def tgOk (ncl : Nat) : Tg → Bool
  | .own c => decide (c < ncl)
  | _ => true
theorem kit_one {κ : Kx} {K : PySem.W.Frag} {anc : Nat → List Nat} {ncl : Nat} (G : Glo κ K anc ncl) {n : String} (h : tyN st d = some n) (hn : n ∈ tyNs) {t : Tg} (ht : tgOk ncl t = true) : PySem.W.kitOne K (.type n) (tgU κ t) = some (isD st anc d t) := by
  cases t with
  | own c => rw [isD_own anc h]; exact G.ownT c (of_decide_eq_true ht) n hn
  | _ => rw [isD_nm anc h rfl]; exact kit_ty (kit_nm hn (by decide))
theorem kit_any {κ : Kx} {K : PySem.W.Frag} {anc : Nat → List Nat} {ncl : Nat} (G : Glo κ K anc ncl) {n : String} (h : tyN st d = some n) (hn : n ∈ tyNs) : ∀ ts : List Tg, ts.all (tgOk ncl) = true → PySem.W.kitAny K (.type n) (ts.map (tgU κ)) = some (ts.any (isD st anc d))
  | [], _ => rfl
  | t :: ts, ht => by
    simp only [List.all_cons, Bool.and_eq_true] at ht
    refine kitAny_cons (kit_one G h hn ht.1) (fun e => ?_) fun e => ?_
    · rw [List.any_cons, e, Bool.false_or]; exact kit_any G h hn ts ht.2
    · rw [List.any_cons, e, Bool.true_or]
theorem pair_cls (κ : Kx) : ∀ ts : List Tg, Paired ClsV (ts.map (tgV κ)) (ts.map (tgU κ))
  | [] => .nil
  | t :: ts => .cons (tg_cls κ t) (pair_cls κ ts)
end
/-- what is live and no error has a type's name -/
theorem ty_live {K : Kit} {ρ : Rho} {H : Hp} {st : Store} {d d' : D} {v : V} (s : Sim K ρ st H) (r : RelD K ρ H d v) (h : live st d = some d') (hsc : ∀ ns, d ≠ .scr ns) (hit : ∀ xs, d ≠ .itp xs) (her : ∀ c fs, d ≠ .err c fs) (hve : d ≠ .ver) : ∃ n, tyN st d = some n := by
  cases r with
  | @ref n a e =>
    dsimp only [live] at h
    split at h
    · cases h
    · rename_i o ho hs
      rcases s.ob n o hs with ⟨q, _⟩ | ⟨b, e2, r2⟩
      · exact (ho q).elim
      · cases o with
        | lst xs => exact ⟨_, by simp [tyN, hs]; rfl⟩
        | dct xs => exact ⟨_, by simp [tyN, hs]; rfl⟩
        | dead => exact r2.elim
        | ins c fs => exact r2.elim
    · cases h
  | @dead n v e =>
    dsimp only [live] at h
    split at h
    · cases h
    · rename_i o ho hs
      rcases s.ob n o hs with ⟨q, _⟩ | ⟨b, e2, r2⟩
      · exact (ho q).elim
      · rw [e] at e2; cases e2
    · cases h
  | scr h => exact (hsc _ rfl).elim
  | itp _ _ => exact (hit _ rfl).elim
  | err h => exact (her _ _ rfl).elim
  | errf h1 h2 h3 h4 => exact (her _ _ rfl).elim
  | ver h => exact (hve rfl).elim
  | _ => exact ⟨_, rfl⟩

/-! ### built-ins -/
def biU : Bi → Value
  | .len => .builtin "len" | .tuple => .type "tuple" | .list => .type "list" | .dict => .type "dict" | .int => .type "int" | .str => .type "str" | .abs => .builtin "abs" | .ord => .builtin "ord" | .all => .builtin "all"
  | .any => .builtin "any" | .repr => .builtin "repr" | .sorted => .builtin "sorted" | .max2 => .builtin "max" | .max => .builtin "max" | .min => .builtin "min" | .sum => .builtin "sum" | .bool => .type "bool" | .sset => .builtin "sorted" | .sitm => .builtin "sorted"
def biN : Bi → Str
  | .len => "len" | .tuple => "tuple" | .list => "list" | .dict => "dict" | .int => "int" | .str => "str" | .abs => "abs" | .ord => "ord" | .all => "all"
  | .any => "any" | .repr => "repr" | .sorted => "sorted" | .max2 => "max" | .max => "max" | .min => "min" | .sum => "sum" | .bool => "bool" | .sset => "sorted" | .sitm => "sorted"
theorem bi_boot : ∀ b : Bi, bootBuiltins (biN b) = some (biU b) := by intro b; cases b <;> rfl
end Pm

set_option Elab.async false
set_option linter.all false
set_option maxRecDepth 100000
set_option maxHeartbeats 2000000
/-! Ev9: shapes of arguments; isinstance and built-ins as readings. -/
namespace Pm
open PySem PySem.Spec PyProof.Rows L2
set_option autoImplicit false

/-! ### shapes -/
def notStar : Expr → Bool
  | .Starred _ _ => false
  | _ => true
theorem star_cons {e : Expr} (h : notStar e = true) (es : List Expr) (env : Env) : starEach (e :: es) env = (false, eval e env) :: starEach es env := by
  cases e <;> first | rfl | cases h
theorem star_any : ∀ {es : List Expr} (env : Env), es.all notStar = true → (starEach es env).any (·.1) = false
  | [], _, _ => rfl
  | e :: es, env, h => by
    simp only [List.all_cons, Bool.and_eq_true] at h
    rw [star_cons h.1, List.any_cons, star_any env h.2]; rfl
theorem back_any (pos : Pos) (l : List (Bool × Sem Value)) : (backTo pos l).any (·.1) = l.any (·.1) := by
  unfold backTo
  rw [List.any_map]; rfl
theorem back_plain {es : List Expr} (pos : Pos) (env : Env) (h : es.all notStar = true) : (backTo pos (starEach es env)).any (·.1) = false := by rw [back_any, star_any env h]
theorem back_all {es : List Expr} (pos : Pos) (env : Env) (h : es.all notStar = true) : (backTo pos (starEach es env)).all (fun x => !x.1) = true := by
  have := back_plain pos env h
  rw [List.all_eq_not_any_not]
  simpa using this
def baseOk : Expr → Bool
  | .Call (.Name _ _) [] [] _ => false
  | _ => true
theorem base_eq {o : Expr} (h : baseOk o = true) (attr : Str) (env : Env) (whole : Sem Value) : attributeBase o attr env whole = whole := by
  unfold attributeBase
  split
  · cases h
  · rfl
def plainIx : Expr → Bool
  | .Slice _ _ _ _ => false
  | _ => true
theorem plainIx_ok {b : Expr} (h : plainIx b = true) : PlainIx b := fun o i => by
  cases b <;> first | rfl | cases h
def noSet : Expr → Bool
  | .Set _ _ _ => false
  | _ => true
theorem noSet_in {b : Expr} (h : noSet b = true) (op : CmpOp) : behindInMarks op b = false := by
  cases b <;> first | rfl | cases h
theorem noSet_it {b : Expr} (h : noSet b = true) (env : Env) (x : Value) : foldedSetIterable b env x = pure x := by
  cases b <;> first | rfl | cases h
/-- whose test is its value's truth -/
def truePlain : Expr → Bool
  | .UnaryOp .Not _ _ => false
  | .BoolOp _ _ _ => false
  | .IfExp _ _ _ _ => false
  | .Compare _ _ _ _ => false
  | _ => true
theorem truePlain_ok {a : Expr} (h : truePlain a = true) (env : Env) (whole : Sem Value) : isTrue a env whole = (do let v ← whole; standAt a.pos; holding [v] (truthy v)) := by
  cases a with
  | UnaryOp op x p => cases op <;> first | rfl | cases h
  | BoolOp _ _ _ => cases h
  | IfExp _ _ _ _ => cases h
  | Compare _ _ _ _ => cases h
  | _ => rfl

section
variable {X : Cx} {κ : Kx} {B : L2.St → XW} {a b c : Expr} {fa fb fc fr : Bool} {ma mb mc : Loc → Store → Res D} {pos p2 p : Pos}
/-! ### isinstance -/
theorem liveT_live {st : Store} {d d' : D} (h : liveT st d = some d') : live st d = some d' ∧ (∀ ns, d ≠ .scr ns) ∧ (∀ xs, d ≠ .itp xs) ∧ (∀ c fs, d ≠ .err c fs) ∧ d ≠ .ver := by
  unfold liveT at h
  split at h
  · cases h
  · cases h
  · cases h
  · cases h
  · rename_i h1 h2 h3 h4
    exact ⟨h, fun ns e => h1 _ e, fun xs e => h2 _ e, fun c fs e => h3 _ _ e, h4⟩
def isEx1 : Tg → Bool
  | .own _ => true
  | .verr => true
  | _ => false
def ownB (anc : Nat → List Nat) (c : Nat) : Tg → Bool
  | .own k => (anc c).contains k
  | _ => true
/-- an error held as a value, of this class -/
def ErrV (K : PySem.W.Frag) (H : Hp) (x : V) (t : Value) : Prop := ∃ a, x = .ref a ∧ ((∃ C, t = .ref C ∧ ExcC K C ∧ (H a = some (ExO (.ref C) a) ∨ ∃ d fs, H a = some (exo a C (some d)) ∧ H d = some (exd d fs))) ∨ (t = .type "ValueError" ∧ H a = some (ExO (.type "ValueError") a)))
def rIsV (K : PySem.W.Frag) : List V → Hp → VK → Prop := fun xs H Q => ∃ (x c : V) (t u : Value) (b : Bool), xs = [x, c] ∧ ClsV c u ∧ ErrV K H x t ∧ PySem.W.kitOne K t u = some b ∧ Q (.bl b) H
theorem call_isV {X : Cx} : CallR X (.builtin "isinstance") (rIsV X.K) := by
  intro pins s σ H xs us Q I r h
  obtain ⟨x, c, t, u, b, rfl, k, ⟨a, rfl, ty⟩, e, q⟩ := h
  obtain ⟨u1, u2, rfl, r1, r2⟩ := vals2 r
  have e2 := k.eq r2
  subst e2
  obtain rfl : u1 = Value.ref a := r1
  rcases ty with ⟨C, rfl, ex, hx⟩ | ⟨rfl, hx⟩
  · have hcl : (PySem.W.clsIn X.K C).isSome = true := by
      have := ex.hd
      unfold PySem.W.hasDictIn at this
      cases hc : PySem.W.clsIn X.K C with
      | none => rw [hc] at this; cases this
      | some _ => rfl
    rcases hx with hx | ⟨d, fs, hx, hd⟩
    · obtain ⟨⟨oe, vs, ho, hz, hdat, _⟩, _, _⟩ := I.hok a _ hx
      obtain ⟨oc, od, oda, osl⟩ := oe
      obtain ⟨z1, z2⟩ := hz
      dsimp only at z1 z2 hdat
      subst z1 z2 hdat
      exact PySem.W.kia_one (PySem.W.kitx_exc (od := none) hcl ex.hg ex.hk ex.hs ex.ha ex.hn ex.ht ex.hm) I.kIn (show PySem.W.InstAt s.heap a _ C none from ⟨ho, rfl, rfl, trivial⟩) e (fun z => nomatch z) fun tk => ⟨.bl b, H, I.kept (t' := tk) fun _ _ z => z, rfl, q⟩
    · obtain ⟨t1, ho⟩ := exo_at I.hok hx
      obtain ⟨mA, hns, _⟩ := exd_at I.hok hd
      obtain ⟨odx, hod, _⟩ := lookIn_ns hns
      exact PySem.W.kia_one (PySem.W.kitx_exc (od := some odx) hcl ex.hg ex.hk ex.hs ex.ha ex.hn ex.ht ex.hm) I.kIn (show PySem.W.InstAt s.heap a _ C (some odx) from ⟨ho, rfl, rfl, hod⟩) e (fun z => nomatch z) fun tk => ⟨.bl b, H, I.kept (t' := tk) fun _ _ z => z, rfl, q⟩
  · obtain ⟨⟨oe, vs, ho, hz, hdat, _⟩, _, _⟩ := I.hok a _ hx
    exact PySem.W.kia_one (PySem.W.kitx_bexc PySem.F.attr_ValueError (by kernel_rfl) (by kernel_rfl) (by decide)) I.kIn (show PySem.W.KitAt a "ValueError" s.heap from ⟨oe, ho, hz.1⟩) e (fun z => nomatch z) fun tk => ⟨.bl b, H, I.kept (t' := tk) fun _ _ z => z, rfl, q⟩
theorem se_isi1 {anc : Nat → List Nat} {ncl : Nat} {T : Expr} {t : Tg} (G : Glo κ X.K anc ncl) (ht : tgOk ncl t = true) (hg : Gl X "isinstance") (hm : X.mg "isinstance" = none)
    (ns : notStar a = true) (nT : notStar T = true) (ha : PE X a (eE X κ B fa ma)) (hT : PE X T (tC (tgV κ t))) :
    PE X (.Call (.Name "isinstance" p) [a, T] [] pos) (eE X κ B fr fun l st => (ma l st).bind fun x st => optR (liveI ncl [t] st x) fun x => .ok (.bl ([t].any (isD st anc x))) st) :=
  PE.imp (pe_callB (call_isi.or call_isV) hg hm rfl (pa_cons ha (pa_cons hT pa_nil (star_cons nT [] _)) (star_cons ns _ _)) (he := star_cons ns _ _) (hpl := back_plain _ _ (by simp [nT]))) fun σ H Q ⟨ρ, l, st, at0, q⟩ =>
    ⟨ρ, l, st, at0, EndG.bind RE.back q fun d st1 ρ1 v H1 x1 s1 r1 q1 => by
      show rIsi X.K [v, tgV κ t] H1 Q ∨ rIsV X.K [v, tgV κ t] H1 Q
      have own : ∀ c, isEx1 t = true → c < ncl → PySem.W.kitOne X.K (.ref (κ.cl c)) (tgU κ t) = some (ownB anc c t) := fun c hm hc => by
        cases t with
        | own k => exact G.ownE c hc k (of_decide_eq_true ht)
        | verr => exact G.verr c hc
        | _ => cases hm
      have errCase : ∀ (c : Nat) (fs : List (List Nat × D)) , liveI ncl [t] st1 (.err c fs) = some (.err c fs) → isEx1 t = true ∧ c < ncl := fun c fs h => by
        unfold liveI at h
        cases t <;> simp at h <;> exact ⟨rfl, h⟩
      cases hl : liveI ncl [t] st1 d with
      | none => rw [hl] at q1; exact q1.elim
      | some d' =>
        rw [hl] at q1
        have q2 : Q (.bl ([t].any (isD st1 anc d'))) H1 := q1 ρ1 _ H1 (Ext.refl _ _) s1 ⟨.bl _, fun _ t => nomatch t⟩
        rw [List.any_cons, List.any_nil, Bool.or_false] at q2
        have hd' : (∃ c fs, d = .err c fs) ∨ d = .ver ∨ liveT st1 d = some d' := by
          cases d with
          | err c fs => exact .inl ⟨c, fs, rfl⟩
          | ver => exact .inr (.inl rfl)
          | _ => exact .inr (.inr hl)
        rcases hd' with ⟨c, fs, rfl⟩ | rfl | hl'
        · have e' : d' = .err c fs := by
            unfold liveI at hl
            cases t <;> simp at hl <;> exact hl.2.symm
          subst e'
          obtain ⟨h1, h2⟩ := errCase c fs hl
          have hk := own c h1 h2
          have e2 : isD st1 anc (.err c fs) t = ownB anc c t := by
            cases t <;> first | rfl | cases h1
          rw [e2] at q2
          obtain ⟨r1, _⟩ := r1
          cases r1 with
          | @err _ a g1 => exact .inr ⟨.ref a, tgV κ t, .ref (κ.cl c), tgU κ t, _, rfl, tg_cls κ t, ⟨a, rfl, .inl ⟨_, rfl, G.exc c h2, .inl g1⟩⟩, hk, q2⟩
          | @errf _ a dd f x vv fs' g1 g2 g3 g4 => exact .inr ⟨.ref a, tgV κ t, .ref (κ.cl c), tgU κ t, _, rfl, tg_cls κ t, ⟨a, rfl, .inl ⟨_, rfl, G.exc c h2, .inr ⟨dd, fs', g1, g2⟩⟩⟩, hk, q2⟩
        · have e' : d' = .ver ∧ isEx1 t = true := by
            unfold liveI at hl
            cases t <;> simp at hl <;> exact ⟨hl.symm, rfl⟩
          obtain ⟨rfl, h1⟩ := e'
          obtain ⟨r1, _⟩ := r1
          cases r1 with
          | @ver a g1 =>
            refine .inr ⟨.ref a, tgV κ t, .type "ValueError", tgU κ t, _, rfl, tg_cls κ t, ⟨a, rfl, .inr ⟨rfl, g1⟩⟩, ?_, q2⟩
            cases t with
            | own k => exact G.vown k (of_decide_eq_true ht)
            | verr => exact kit_ty (show kitB "ValueError" "ValueError" = some true by decide +kernel)
            | _ => cases h1
        · obtain ⟨h1, h2, h3, h4, h5⟩ := liveT_live hl'
          obtain ⟨n, hn⟩ := ty_live s1 r1.1 h1 h2 h3 h4 h5
          obtain ⟨ty, hin⟩ := ty_of s1 r1.1 hn
          obtain ⟨e, _⟩ := live_rel s1 r1.1 h1
          subst e
          exact .inl ⟨v, tgV κ t, .type n, tgU κ t, _, rfl, tg_cls κ t, ty, kit_one G hn hin ht, q2⟩⟩
/-- the error in hand is asked -/
theorem se_isx {anc : Nat → List Nat} {ncl : Nat} {T : Expr} {t : Tg} {x : Str} {px : Pos} {ae c i : Nat} (G : Glo κ X.K anc ncl) (hc : c < ncl) (ht : (match t with | .own k => decide (k < ncl) | .verr => true | _ => false) = true) (hg : Gl X "isinstance") (hm : X.mg "isinstance" = none)
    (hx : CallR X (.builtin "isinstance") (rIsE X.K (κ.cl c) ae)) (hv : PE X (.Name x px) (tVar i)) (hfx : (i, ae) ∈ κ.fx) (nT : notStar T = true) (hT : PE X T (tC (tgV κ t))) :
    PE X (.Call (.Name "isinstance" p) [.Name x px, T] [] pos) (eE X κ B fr fun l st => .ok (.bl (isE anc c t)) st) :=
  PE.imp (pe_callB hx hg hm rfl (pa_cons hv (pa_cons hT pa_nil (star_cons nT [] _)) (star_cons rfl _ _)) (he := star_cons rfl _ _) (hpl := back_plain _ _ (by simp [nT]))) fun σ H Q ⟨ρ, l, st, at0, q⟩ => by
    have q2 : Q (.bl (isE anc c t)) H := q ρ _ H (Ext.refl _ _) at0.sim ⟨.bl _, fun _ t => nomatch t⟩
    refine ⟨.ref ae, at0.loc.2.2 _ hfx, tgV κ t, tgU κ t, _, rfl, fun u ru => (tg_cls κ t).eq ru, ?_, q2⟩
    cases t with
    | own k => exact G.ownE c hc k (of_decide_eq_true ht)
    | verr => exact G.verr c hc
    | _ => cases ht
/-- a tuple of classes -/
def tTgs (κ : Kx) (ts : List Tg) : TA := fun _ H Q => Q (ts.map (tgV κ)) H
theorem pa_tgs_nil : PA X [] (tTgs κ []) := PA.imp pa_nil fun _ _ _ q => q
theorem pa_tgs_cons {T : Expr} {Ts : List Expr} {t : Tg} {ts : List Tg} (nT : notStar T = true) (hT : PE X T (tC (tgV κ t))) (hr : PA X Ts (tTgs κ ts)) : PA X (T :: Ts) (tTgs κ (t :: ts)) :=
  PA.imp (pa_cons hT hr (star_cons nT _ _)) fun _ _ _ q => q
theorem se_isiT {anc : Nat → List Nat} {ncl : Nat} {Ts : List Expr} {k : Nat} {ts : List Tg} {p3 : Pos} (G : Glo κ X.K anc ncl) (ht : ts.all (tgOk ncl) = true) (h2 : 2 ≤ ts.length) (hsz : ts.length ≤ 100) (hg : Gl X "isinstance") (hm : X.mg "isinstance" = none)
    (ns : notStar a = true) (ha : PE X a (eE X κ B fa ma)) (hT : PA X Ts (tTgs κ ts)) :
    PE X (.Call (.Name "isinstance" p) [a, .Tuple Ts k p3] [] pos) (eE X κ B fr fun l st => (ma l st).bind fun x st => optR (liveI ncl ts st x) fun x => .ok (.bl (ts.any (isD st anc x))) st) :=
  PE.imp (pe_callB call_isiT hg hm rfl (pa_cons ha (pa_cons (pe_tup hT) pa_nil (star_cons rfl [] _)) (star_cons ns _ _)) (he := star_cons ns _ _) (hpl := back_plain _ _ rfl)) fun σ H Q ⟨ρ, l, st, at0, q⟩ =>
    ⟨ρ, l, st, at0, EndG.bind RE.back q fun d st1 ρ1 v H1 x1 s1 r1 q1 => by
      refine ⟨by rw [List.length_map, SL_eq]; exact Nat.le_trans hsz (by decide), fun tp hp => ?_⟩
      show rIsiT X.K [v, .ref tp] (upd H1 tp (.tup (ts.map (tgV κ)))) Q
      cases hl0 : liveI ncl ts st1 d with
      | none => rw [hl0] at q1; exact q1.elim
      | some d' =>
        rw [hl0] at q1
        have hl : liveT st1 d = some d' := by
          match ts, h2 with
          | _ :: _ :: _, _ => cases d <;> first | exact hl0 | (simp [liveI] at hl0)
        obtain ⟨h1, h2, h3, h4, h5⟩ := liveT_live hl
        have x2 : Ext κ.h ρ1 H1 ρ1 (upd H1 tp (.tup (ts.map (tgV κ)))) := ext_new hp
        have s2 : Sim (Cx.kit X κ) ρ1 st1 (upd H1 tp (.tup (ts.map (tgV κ)))) := sim_new s1 hp
        have r2 := r1.1.mono s1 x2
        have q2 : Q (.bl (ts.any (isD st1 anc d'))) (upd H1 tp (.tup (ts.map (tgV κ)))) := q1 ρ1 _ _ x2 s2 ⟨.bl _, fun _ t => nomatch t⟩
        obtain ⟨n, hn⟩ := ty_live s2 r2 h1 h2 h3 h4 h5
        obtain ⟨ty, hin⟩ := ty_of s2 r2 hn
        obtain ⟨e, _⟩ := live_rel s2 r2 h1
        subst e
        exact ⟨v, tp, _, .type n, ts.map (tgU κ), _, rfl, upd_same, pair_cls κ ts, ty, kit_any G hn hin ts ht, q2⟩⟩
end
end Pm

set_option Elab.async false
set_option linter.all false
set_option maxRecDepth 100000
set_option maxHeartbeats 2000000
/-! Ev10: built-ins as readings. -/
namespace Pm
open PySem PySem.Spec PyProof.Rows L2
set_option autoImplicit false

def rBi (K : PySem.W.Frag) : Bi → List V → Hp → VK → Prop
  | .len => fun xs H Q => (∃ x n, xs = [x] ∧ LenV K x H n ∧ Q (.int n) H) ∨ (∃ a kvs, xs = [V.ref a] ∧ H a = some (.dK kvs) ∧ Q (.int kvs.length) H)
  | .tuple => rTupN K
  | .list => fun xs H Q => (∃ p ys, xs = [.ref p] ∧ (SqL K H p ys ∨ SqT K H p ys) ∧ ∀ l, H l = none → Q (.ref l) (upd H l (.lst ys))) ∨ rListD xs H Q
  | .int => fun xs H Q => ((∃ i, xs = [.int i] ∧ Q (.int i) H) ∨ ∃ k, xs = [.bl k] ∧ Q (.int (if k then 1 else 0)) H) ∨ ∃ a n, xs = [.str a] ∧ PySem.intText? a = some n ∧ a.length ≤ 640 ∧ Q (.int n) H
  | .str => fun xs H Q => ∃ i, xs = [.int i] ∧ i.natAbs.log2 < 1920 ∧ Q (.str (toString i)) H
  | .abs => fun xs H Q => ∃ i, xs = [.int i] ∧ Q (.int (if i < 0 then -i else i)) H
  | .ord => fun xs H Q => ∃ x, xs = [.str x] ∧ x.length = 1 ∧ Q (.int (x.cps.getD 0 0 : Nat)) H
  | .all => rAll K
  | .any => rAny K
  | .max => rMax K
  | .sum => rSum K
  | .max2 => fun xs H Q => ∃ i j, xs = [.int i, .int j] ∧ Q (.int (if j > i then j else i)) H
  | .bool => fun xs H Q => (∃ i, xs = [.int i] ∧ Q (.bl (i != 0)) H) ∨ ∃ k, xs = [.bl k] ∧ Q (.bl k) H
  | _ => fun _ _ _ => False
/-- which want a calm place -/
def biHot : Bi → Bool
  | .list => true | .all => true | .any => true | .max => true | .sum => true | .max2 => true | .repr => true
  | _ => false
theorem call_bi {X : Cx} : ∀ b : Bi, (biHot b = true → X.calm = true) → CallR X (biU b) (rBi X.K b)
  | .len, _ => call_len.or call_lenD
  | .tuple, _ => call_tupleN
  | .list, h => call_list_of.or (call_list_dK (h rfl))
  | .int, _ => call_int1.or call_int_str
  | .str, _ => call_str_int
  | .abs, _ => call_abs
  | .ord, _ => call_ord
  | .all, h => cr_all (h rfl)
  | .any, h => cr_any (h rfl)
  | .max, h => cr_max (h rfl)
  | .sum, h => cr_sum (h rfl)
  | .max2, h => call_max2 (h rfl)
  | .bool, _ => call_bool1
  | .dict, _ => fun _ _ _ _ _ _ _ _ _ q => q.elim
  | .repr, _ => fun _ _ _ _ _ _ _ _ _ q => q.elim
  | .sorted, _ => fun _ _ _ _ _ _ _ _ _ q => q.elim
  | .min, _ => fun _ _ _ _ _ _ _ _ _ q => q.elim
  | .sset, _ => fun _ _ _ _ _ _ _ _ _ q => q.elim
  | .sitm, _ => fun _ _ _ _ _ _ _ _ _ q => q.elim

section
variable {K : Kit} {ρ : Rho} {H : Hp} {st : Store}
theorem bools_rel : ∀ {xs : List D} {vs : List V} {bs : List Bool}, RelDs K ρ H xs vs → boolsOf xs = some bs → vs = bs.map V.bl
  | _, _, bs, .nil, h => by cases h; rfl
  | _, _, bs, .cons (d := d) h r, e => by
    cases d <;> simp only [boolsOf] at e <;> try cases e
    obtain ⟨bs', h1, h2⟩ := Option.map_eq_some_iff.mp e
    subst h2
    cases h
    rw [bools_rel r h1]; rfl
theorem ints_rel : ∀ {xs : List D} {vs : List V} {bs : List Int}, RelDs K ρ H xs vs → intsOf xs = some bs → vs = bs.map V.int
  | _, _, bs, .nil, h => by cases h; rfl
  | _, _, bs, .cons (d := d) h r, e => by
    cases d <;> simp only [intsOf] at e <;> try cases e
    obtain ⟨bs', h1, h2⟩ := Option.map_eq_some_iff.mp e
    subst h2
    cases h
    rw [ints_rel r h1]; rfl
theorem strs_rel : ∀ {xs : List D} {vs : List V} {bs : List (List Nat)}, RelDs K ρ H xs vs → strsOf xs = some bs → vs = (bs.map strS).map V.str
  | _, _, bs, .nil, h => by cases h; rfl
  | _, _, bs, .cons (d := d) h r, e => by
    cases d <;> simp only [strsOf] at e <;> try cases e
    obtain ⟨bs', h1, h2⟩ := Option.map_eq_some_iff.mp e
    subst h2
    cases h
    rw [strs_rel r h1]; rfl
theorem lists_rel (s : Sim K ρ st H) {d : D} {vs : List V} {xs : List D} (r : RelDs K ρ H [d] vs) (h : listOf st d = some xs) : ∃ a ws, vs = [.ref a] ∧ H a = some (.lst ws) ∧ RelDs K ρ H xs ws := by
  cases r with
  | cons r1 r2 =>
    cases r2
    obtain ⟨a, ws, rfl, h1, h2⟩ := listOf_rel s r1 h
    exact ⟨a, ws, rfl, h1, h2⟩
theorem keys_rel : ∀ {xs : List (DKey × D)} {vs : List (Key × V)}, RelKs K ρ H xs vs → RelDs K ρ H (xs.map fun p => keyD p.1) (vs.map fun kv => kV kv.1)
  | _, _, .nil => .nil
  | _, _, .cons (k := k) _ r => by
    refine .cons ?_ (keys_rel r)
    cases k with
    | i n => exact .int n
    | s x => exact .str x
theorem max_fold : ∀ (r : List Int) (i : Int), (r.foldl (fun a b => if a < b then b else a) i ∈ i :: r) ∧ ∀ y ∈ i :: r, y ≤ r.foldl (fun a b => if a < b then b else a) i
  | [], i => ⟨by simp, fun y hy => by simp at hy; simp [hy]⟩
  | j :: r, i => by
    rw [List.foldl_cons]
    obtain ⟨h1, h2⟩ := max_fold r (if i < j then j else i)
    refine ⟨?_, fun y hy => ?_⟩
    · rcases List.mem_cons.mp h1 with e | e
      · rw [e]; split <;> simp
      · exact List.mem_cons_of_mem _ (List.mem_cons_of_mem _ e)
    · have h3 := h2 _ (List.mem_cons_self ..)
      rcases List.mem_cons.mp hy with e | e
      · subst e; exact Int.le_trans (by split <;> omega) h3
      · rcases List.mem_cons.mp e with e | e
        · subst e; exact Int.le_trans (by split <;> omega) h3
        · exact h2 _ (List.mem_cons_of_mem _ e)
theorem int_text (i : Int) : Str.ofString (toString i) = strS (intText i) := by
  rw [Str.ofString_eq_toList]
  rfl
variable {Q : VK} {fr : Bool} {P : Par}
theorem bi_rel (s : Sim K ρ st H) {b : Bi} {ds : List D} {vs : List V} {d : D} (r : RelDs K ρ H ds vs) (h : biD P st b ds = some d) (hb : b ≠ .sorted ∧ b ≠ .repr ∧ b ≠ .dict ∧ b ≠ .min ∧ b ≠ .sset ∧ b ≠ .sitm) (k : Out K fr ρ H st d Q) : rBi K.K b vs H Q := by
  unfold biD at h
  split at h
  · -- len text
    rename_i x
    split at h
    · rename_i hz
      cases h; cases r with
      | cons r1 r2 =>
        cases r1; cases r2
        exact .inl ⟨_, x.length, rfl, ⟨by rw [strS_length, SL_eq]; exact hz, (strS_length x).symm⟩, k.flat s (.int _) rfl⟩
    · cases h
  · rename_i x
    cases h; cases r with
    | cons r1 r2 =>
      cases r2
      cases r1 with
      | tup h1 h2 => exact .inl ⟨_, x.length, rfl, .inr ⟨_, h1.sq, h2.length⟩, k.flat s (.int _) rfl⟩
  · rename_i e _ _
    split at h
    · rename_i xs hx
      cases h
      obtain ⟨a, ws, rfl, h1, h2⟩ := lists_rel s r hx
      exact .inl ⟨_, xs.length, rfl, .inl ⟨_, SqL.of h1, h2.length⟩, k.flat s (.int _) rfl⟩
    · obtain ⟨kvs, h1, h2⟩ := Option.map_eq_some_iff.mp h
      subst h2
      cases r with
      | cons r1 r2 =>
        cases r2
        obtain ⟨a, ws, rfl, h3, h4⟩ := dictOf_rel s r1 h1
        exact .inr ⟨a, ws, rfl, h3, by rw [← h4.length]; exact k.flat s (.int _) rfl⟩
  · rename_i x
    cases h; cases r with
    | cons r1 r2 =>
      cases r2
      cases r1 with
      | tup h1 h2 => exact ⟨_, _, rfl, .inr ⟨h1.sq, k.flat s (.tup h1 h2) rfl⟩⟩
  · obtain ⟨xs, h1, h2⟩ := Option.map_eq_some_iff.mp h
    subst h2
    obtain ⟨a, ws, rfl, h3, h4⟩ := lists_rel s r h1
    exact ⟨a, ws, rfl, .inl ⟨SqL.of h3, fun l o hl ho => k.tup s hl ho h4⟩⟩
  · rename_i x
    cases h; cases r with
    | cons r1 r2 =>
      cases r2
      cases r1 with
      | tup h1 h2 => exact .inl ⟨_, _, rfl, .inr h1.sq, fun l hl => k.lst s hl h2⟩
  · split at h
    · rename_i xs hx
      cases h
      obtain ⟨a, ws, rfl, h3, h4⟩ := lists_rel s r hx
      exact .inl ⟨a, ws, rfl, .inl (SqL.of h3), fun l hl => k.lst s hl h4⟩
    · obtain ⟨kvs, h1, h2⟩ := Option.map_eq_some_iff.mp h
      subst h2
      cases r with
      | cons r1 r2 =>
        cases r2
        obtain ⟨a, ws, rfl, h3, h4⟩ := dictOf_rel s r1 h1
        exact .inr ⟨a, ws, rfl, h3, fun l hl => k.lst s hl (keys_rel h4)⟩
  · rename_i i
    cases h; cases r with
    | cons r1 r2 => cases r1; cases r2; exact .inl (.inl ⟨i, rfl, k.flat s (.int _) rfl⟩)
  · rename_i b
    cases h; cases r with
    | cons r1 r2 => cases r1; cases r2; exact .inl (.inr ⟨b, rfl, k.flat s (.int _) rfl⟩)
  · rename_i x
    split at h
    · rename_i hz
      simp only [isDigits, Bool.and_eq_true, Bool.not_eq_true', decide_eq_true_eq] at hz
      cases h; cases r with
      | cons r1 r2 =>
        cases r1; cases r2
        have e : PySem.intText? (strS x) = some ((NumText.digitsVal x : Nat) : Int) := SX.int_S hz.1.2 (fun e => by rw [e] at hz; simp at hz) (by omega)
        have e2 : NumText.digitsVal x = digitsVal x := by
          unfold NumText.digitsVal digitsVal
          congr 1
          funext a c
          rw [Nat.mul_comm]
        refine .inr ⟨_, _, rfl, e, by rw [strS_length]; omega, ?_⟩
        rw [e2]
        exact k.flat s (.int _) rfl
    · cases h
  · rename_i i
    split at h
    · rename_i hz
      cases h; cases r with
      | cons r1 r2 =>
        cases r1; cases r2
        refine ⟨i, rfl, hz, ?_⟩
        rw [show ((toString i : String) : Str) = strS (intText i) from int_text i]
        exact k.flat s (.str _) rfl
    · cases h
  · rename_i i
    cases h; cases r with
    | cons r1 r2 => cases r1; cases r2; exact ⟨i, rfl, k.flat s (.int _) rfl⟩
  · rename_i c
    cases h; cases r with
    | cons r1 r2 => cases r1; cases r2; exact ⟨_, rfl, rfl, k.flat s (.int _) rfl⟩
  · obtain ⟨bs, h1, h2⟩ := Option.map_eq_some_iff.mp h
    obtain ⟨xs, h3, h4⟩ := Option.bind_eq_some_iff.mp h1
    subst h2
    obtain ⟨a, ws, rfl, h5, h6⟩ := lists_rel s r h3
    rw [bools_rel h6 h4] at h5
    exact ⟨a, bs, rfl, SqL.of h5, k.flat s (.bl _) rfl⟩
  · obtain ⟨bs, h1, h2⟩ := Option.map_eq_some_iff.mp h
    obtain ⟨xs, h3, h4⟩ := Option.bind_eq_some_iff.mp h1
    subst h2
    obtain ⟨a, ws, rfl, h5, h6⟩ := lists_rel s r h3
    rw [bools_rel h6 h4] at h5
    exact ⟨a, bs, rfl, SqL.of h5, k.flat s (.bl _) rfl⟩
  · exact (hb.2.1 rfl).elim
  · exact (hb.2.2.1 rfl).elim
  · exact (hb.2.2.1 rfl).elim
  · exact (hb.1 rfl).elim
  · exact (hb.2.2.2.2.1 rfl).elim
  · exact (hb.2.2.2.2.2 rfl).elim
  · obtain ⟨xs, h1, h2⟩ := Option.bind_eq_some_iff.mp h
    obtain ⟨is, h3, h4⟩ := Option.bind_eq_some_iff.mp h2
    split at h4
    · cases h4
    · rename_i i r'
      cases h4
      obtain ⟨a, ws, rfl, h5, h6⟩ := lists_rel s r h1
      rw [ints_rel h6 h3] at h5
      refine ⟨a, _, rfl, SqL.of h5, by simp, fun m hm hy => ?_⟩
      obtain ⟨g1, g2⟩ := max_fold r' i
      have e : m = r'.foldl (fun a b => if a < b then b else a) i := Int.le_antisymm (g2 m hm) (hy _ g1)
      rw [e]
      exact k.flat s (.int _) rfl
  · obtain ⟨xs, h1, h2⟩ := Option.bind_eq_some_iff.mp h
    obtain ⟨is, h3, h4⟩ := Option.map_eq_some_iff.mp h2
    subst h4
    obtain ⟨a, ws, rfl, h5, h6⟩ := lists_rel s r h1
    rw [ints_rel h6 h3] at h5
    exact ⟨a, _, rfl, SqL.of h5, k.flat s (.int _) rfl⟩
  · rename_i i j
    cases h; cases r with
    | cons r1 r2 =>
      cases r2 with
      | cons r2 r3 => cases r1; cases r2; cases r3; exact ⟨i, j, rfl, k.flat s (.int _) rfl⟩
  · rename_i b
    cases h; cases r with
    | cons r1 r2 => cases r1; cases r2; exact .inr ⟨b, rfl, k.flat s (.bl _) rfl⟩
  · cases h
end
end Pm

set_option Elab.async false
set_option linter.all false
set_option maxRecDepth 100000
set_option maxHeartbeats 2000000
/-! Ev11: built-ins called; methods; the store written. -/
namespace Pm
open PySem PySem.Spec PyProof.Rows L2
set_option autoImplicit false

/-! ### the store is written -/
section
variable {K : Kit} {ρ : Rho} {H : Hp} {st : Store} {n : Nat} {a : Addr} {o u : HO}
theorem ext_upd (s : Sim K ρ st H) (hn : ρ[K.h + n]? = some (some a)) (hu : H a = some u) (ho : Calm o) : Ext K.h ρ H ρ (upd H a o) where
  hid := fun m b hm e => ⟨e, fun v z => by
    have hb : b ≠ a := fun y => by
      have := s.inj (K.h + n) m a hn (by rw [y] at e; exact e)
      omega
    rw [upd_ne hb]; exact z⟩
  len := Nat.le_refl _
  old := fun _ _ => .inl rfl
  new := fun n a hn e => (by rw [List.getElem?_eq_none hn] at e; exact nomatch e)
  keep := fun b v e hb _ => by
    have : b ≠ a := fun z => hb (mem_rho.mpr ⟨K.h + n, by rw [z]; exact hn⟩)
    rw [upd_ne this]; exact e
  dom := fun b e => by
    by_cases h : b = a
    · subst h
      obtain ⟨ps, z⟩ := e _ upd_same
      exact (ho ps z).elim
    · exact fun o q => e o (by rw [upd_ne h]; exact q)
theorem tab_upd (t : LamX.Tabs K.T H) (hu : H a = some u) (hc : ∀ ps, u ≠ .tbl ps) (hx : ∀ φ, u ≠ .ext φ) : LamX.Tabs K.T (upd H a o) := fun p hp => by
  obtain ⟨ps, h1, h2, h3⟩ := t p hp
  have n1 : p.1 ≠ a := fun z => by rw [z, hu] at h1; exact hc ps (Option.some.inj h1)
  refine ⟨ps, by rw [upd_ne n1]; exact h1, h2, fun pos cv hcv => ?_⟩
  obtain ⟨c, e1, e2⟩ := h3 pos cv hcv
  have n2 : c ≠ a := fun z => by rw [z, hu] at e2; exact hx _ (Option.some.inj e2)
  exact ⟨c, e1, by rw [upd_ne n2]; exact e2⟩
theorem sim_upd (s : Sim K ρ st H) (hn : ρ[K.h + n]? = some (some a)) (hu : H a = some u) (hm0 : mutO u = true) (hc : ∀ ps, u ≠ .tbl ps) (hx : ∀ φ, u ≠ .ext φ) (ho : Calm o) {ob : Ob} (hob : RelOb K ρ (upd H a o) ob a) : Sim K ρ (st.set n ob) (upd H a o) where
  len := by rw [List.length_set]; exact s.len
  inj := s.inj
  ob := fun m x e => by
    have x0 : Ext K.h ρ H ρ (upd H a o) := ext_upd s hn hu ho
    by_cases hm : n = m
    · subst hm
      have hl : n < st.length := by have := (List.getElem?_eq_some_iff.mp hn).1; rw [s.len] at this; omega
      rw [List.getElem?_set_self hl] at e
      cases e
      exact .inr ⟨a, hn, hob⟩
    · rw [List.getElem?_set_ne hm] at e
      rcases s.ob m x e with q | ⟨b, e1, r⟩
      · exact .inl q
      · refine .inr ⟨b, e1, ?_⟩
        have hb : b ≠ a := fun z => hm (by have := s.inj (K.h + n) (K.h + m) a hn (by rw [z] at e1; exact e1); omega)
        cases x with
        | lst ds =>
          obtain ⟨vs, h1, h2⟩ := r
          exact ⟨vs, by rw [upd_ne hb]; exact h1, RelDs.mono s x0 h2⟩
        | dct ds =>
          obtain ⟨vs, h1, h2⟩ := r
          exact ⟨vs, by rw [upd_ne hb]; exact h1, RelKs.mono s x0 h2⟩
        | dead => exact r
        | ins _ _ => exact r
  hd := fun m b hm e => by
    obtain ⟨v, h1, h2⟩ := s.hd m b hm e
    have hb : b ≠ a := fun z => by
      have := s.inj (K.h + n) m a hn (by rw [z] at e; exact e)
      omega
    exact ⟨v, by rw [upd_ne hb]; exact h1, h2⟩
  cd := fun q hq => by
    obtain ⟨h1, h2⟩ := s.cd q hq
    have hb : q.1 ≠ a := fun z => by
      obtain ⟨φ, h2⟩ := h2
      rw [z, hu, h2] at h1
      exact hx φ (Option.some.inj h1)
    exact ⟨by rw [upd_ne hb]; exact h1, h2⟩
  tab := tab_upd s.tab hu hc hx
theorem ref_lst (s : Sim K ρ st H) {v : V} (r : RelD K ρ H (.ref n) v) {xs : List D} (h : st[n]? = some (.lst xs)) : ∃ a vs, v = .ref a ∧ ρ[K.h + n]? = some (some a) ∧ H a = some (.lst vs) ∧ RelDs K ρ H xs vs := by
  cases r with
  | ref e =>
    rcases s.ob n _ h with ⟨q, _⟩ | ⟨b, e2, r2⟩
    · cases q
    · rw [e] at e2; cases e2
      obtain ⟨vs, h1, h2⟩ := r2
      exact ⟨_, vs, rfl, e, h1, h2⟩
  | dead e =>
    rcases s.ob n _ h with ⟨q, _⟩ | ⟨b, e2, r2⟩
    · cases q
    · rw [e] at e2; cases e2
theorem ref_dct (s : Sim K ρ st H) {v : V} (r : RelD K ρ H (.ref n) v) {xs : List (DKey × D)} (h : st[n]? = some (.dct xs)) : ∃ a vs, v = .ref a ∧ ρ[K.h + n]? = some (some a) ∧ H a = some (.dK vs) ∧ RelKs K ρ H xs vs := by
  cases r with
  | ref e =>
    rcases s.ob n _ h with ⟨q, _⟩ | ⟨b, e2, r2⟩
    · cases q
    · rw [e] at e2; cases e2
      obtain ⟨vs, h1, h2⟩ := r2
      exact ⟨_, vs, rfl, e, h1, h2⟩
  | dead e =>
    rcases s.ob n _ h with ⟨q, _⟩ | ⟨b, e2, r2⟩
    · cases q
    · rw [e] at e2; cases e2
/-- a list of the store gets new items -/
theorem set_lst (s : Sim K ρ st H) (hn : ρ[K.h + n]? = some (some a)) {vs ws : List V} {ys : List D} (hu : H a = some (.lst vs)) (r : RelDs K ρ H ys ws) : Sim K ρ (st.set n (.lst ys)) (upd H a (.lst ws)) :=
  sim_upd s hn hu rfl nofun nofun (by intro ps z; cases z) ⟨ws, upd_same, r.mono s (ext_upd s hn hu (by intro ps z; cases z))⟩
theorem set_dct (s : Sim K ρ st H) (hn : ρ[K.h + n]? = some (some a)) {vs ws : List (Key × V)} {ys : List (DKey × D)} (hu : H a = some (.dK vs)) (r : RelKs K ρ H ys ws) : Sim K ρ (st.set n (.dct ys)) (upd H a (.dK ws)) :=
  sim_upd s hn hu rfl nofun nofun (by intro ps z; cases z) ⟨ws, upd_same, r.mono s (ext_upd s hn hu (by intro ps z; cases z))⟩
end

/-! ### built-ins called -/
section
variable {X : Cx} {κ : Kx} {B : L2.St → XW} {e : Expr} {es : List Expr} {fr : Bool} {ms : Loc → Store → Res (List D)} {pos p : Pos} {P : Par}
theorem se_bi (b : Bi) (hok : b ≠ .sorted ∧ b ≠ .repr ∧ b ≠ .dict ∧ b ≠ .min ∧ b ≠ .sset ∧ b ≠ .sitm) (hh : biHot b = true → X.calm = true) (hg : Gl X (biN b)) (hm : X.mg (biN b) = none) (ns : (e :: es).all notStar = true) (ha : PA X (e :: es) (eA X κ B ms)) :
    PE X (.Call (.Name (biN b) p) (e :: es) [] pos) (eE X κ B fr fun l st => (ms l st).bind fun ds st => .ofOpt (biD P st b ds) st) := by
  have ns' : notStar e = true ∧ es.all notStar = true := by simpa using ns
  have hn : biN b ≠ "__name__" := by cases b <;> decide
  have hdb : (biN b == ("__debug__" : Str)) = false := by cases b <;> decide
  have hrule : PE X (.Call (.Name (biN b) p) (e :: es) [] pos) (tCB (rBi X.K b) (eA X κ B ms)) := by
    have hc := call_bi (X := X) b hh
    have hv := bi_boot b
    cases hb : biU b with
    | builtin id => rw [hb] at hc hv; exact pe_callB hc hg hm hv ha hn hdb (star_cons ns'.1 _ _) (back_plain _ _ ns'.2)
    | type T => rw [hb] at hc hv; exact pe_callTy hc hg hm hv ha hn hdb (star_cons ns'.1 _ _) (back_plain _ _ ns'.2)
    | _ => cases b <;> cases hb
  refine PE.imp hrule fun σ H Q ⟨ρ, l, st, at0, q⟩ => ⟨ρ, l, st, at0, ?_⟩
  have hq : EndG (Cx.kit X κ) (B σ) (RE (Cx.kit X κ) fr) ρ H ((ms l st).bind fun ds st => .ofOpt (biD P st b ds) st) Q := q
  cases hms : ms l st with
  | bad => rw [hms] at hq; exact hq
  | exc c fs st1 => rw [hms] at hq; exact hq
  | ok ds st1 =>
    rw [hms] at hq
    intro ρ1 vs H1 x1 s1 r1
    have q1 := EndG.mono RE.back (show EndG (Cx.kit X κ) (B σ) (RE (Cx.kit X κ) fr) ρ H (Res.ofOpt (biD P st1 b ds) st1) Q from hq) x1
    obtain ⟨d, e1, k⟩ := EndG.opt q1
    exact bi_rel s1 r1 e1 hok k
end
end Pm

set_option Elab.async false
set_option linter.all false
set_option maxRecDepth 100000
set_option maxHeartbeats 2000000
/-! Ev12: methods of built-in types. -/
namespace Pm
open PySem PySem.Spec PyProof.Rows L2 PySem.StrLaws
set_option autoImplicit false

/-! ### texts -/
theorem joinL_eq (sep : List Nat) : ∀ xs : List (List Nat), TL.joinL sep xs = joinT sep xs
  | [] => rfl
  | [_] => rfl
  | x :: y :: r => by
    show x ++ (sep ++ TL.joinL sep (y :: r)) = x ++ sep ++ joinT sep (y :: r)
    rw [joinL_eq sep (y :: r), List.append_assoc]
theorem join_eqS (sep : List Nat) (xs : List (List Nat)) : Txt.join (strS sep) (xs.map strS) = strS (joinT sep xs) := by
  rw [← joinL_eq]; exact SX.join_S sep xs
theorem splitC_ne (c : Nat) : ∀ l : List Nat, splitC c l ≠ []
  | [] => by simp [splitC]
  | a :: r => by
    unfold splitC
    split
    · simp
    · split <;> simp
theorem spl_one (c : Nat) : ∀ (l acc : List Nat), TL.spl [c] 0 acc l = match splitC c l with
    | [] => []
    | p :: ps => (acc ++ p) :: ps
  | [], acc => by simp [TL.spl, splitC]
  | a :: r, acc => by
    have hp : TL.pre [c] (a :: r) = (c == a) := by simp [TL.pre]; exact Bool.beq_comm ..
    unfold TL.spl
    rw [hp]
    by_cases h : a = c
    · subst h
      simp only [beq_self_eq_true, if_true, splitC, List.append_nil]
      rw [show [a].length - 1 = 0 from rfl, spl_one a r []]
      have := splitC_ne a r
      cases hs : splitC a r with
      | nil => exact (this hs).elim
      | cons p ps => simp
    · have h2 : (c == a) = false := beq_eq_false_iff_ne.mpr fun e => h e.symm
      simp only [h2, splitC, if_neg h]
      rw [if_neg (by decide), spl_one c r (acc ++ [a])]
      have := splitC_ne c r
      cases hs : splitC c r with
      | nil => exact (this hs).elim
      | cons p ps => simp
theorem split_eqS (c : Nat) (hc : c < 256) (x : List Nat) : Txt.split (strS x) (strS [c]) = (splitC c x).map strS := by
  have h := SX.split_S (a := x) (b := [c]) (by simp) (by simp [hc])
  have e : TL.spl [c] 0 [] x = splitC c x := by
    rw [spl_one]
    cases hs : splitC c x with
    | nil => exact (splitC_ne c x hs).elim
    | cons p ps => simp
  rw [e] at h
  exact h
theorem replC_eq (c : Nat) (z : List Nat) : ∀ l : List Nat, replL [c] z l = replC c z l
  | [] => by rw [replL_nil]; rfl
  | a :: r => by
    by_cases h : a = c
    · subst h
      rw [replL_hit (by simp) (by simp), show replC a z (a :: r) = z ++ replC a z r by simp [replC]]
      rw [← replC_eq a z r]; simp
    · rw [replL_miss (by simpa using h), show replC c z (a :: r) = a :: replC c z r by simp [replC, h]]
      rw [replC_eq c z r]
theorem replace_eqS (c : Nat) (z x : List Nat) : Txt.replace (strS x) (strS [c]) (strS z) = strS (replC c z x) := by
  have h := replace_list (x := strS x) (y := strS [c]) (z := strS z) (by show 1 ≤ (strS [c]).length; rw [strS_length]; simp)
  have h2 : (Txt.replace (strS x) (strS [c]) (strS z)).cps.toList = replC c z x := by
    rw [h]; exact replC_eq c z x
  apply TL.ext_tl
  exact h2

/-! ### list.count of a bool; dict.get -/
def eb (k : Bool) : Value → Bool
  | .bool b => b == k
  | _ => false
def rCntB (K : PySem.W.Frag) : V → List V → Hp → VK → Prop := fun x xs H Q => ∃ (p : Addr) (bs : List Bool) (k : Bool), x = .ref p ∧ xs = [.bl k] ∧ SqL K H p (bs.map V.bl) ∧ Q (.int (bs.count k : Nat)) H
theorem bools_of_vals : ∀ {bs : List Bool} {us : List Value}, Vals (bs.map V.bl) us → us = bs.map Value.bool
  | [], _, .nil => rfl
  | _ :: _, _, .cons r t => by
    rw [bools_of_vals t]
    have : _ = Value.bool _ := r
    rw [this]; rfl
theorem mt_bcount {X : Cx} : MtR X "list.count" (rCntB X.K) := by
  intro pins s σ H x xs v us Q I rx rxs h
  obtain ⟨p, bs, k, rfl, rfl, hs, q⟩ := h
  cases rx
  obtain ⟨u, rfl, ru⟩ := rxs.one
  obtain rfl : u = Value.bool k := ru
  obtain ⟨itl, rv, ⟨⟨cls, dd, data, sl⟩, n, hob, hc, hdnn, hd⟩, hlen⟩ := I.list hs
  simp only at hc hd
  subst hc hd
  have hi := bools_of_vals rv
  subst hi
  refine call_meets PySem.F.slot_list_count ⟨_, hob, rfl⟩ PySem.F.entry_list_count (PySem.F.args_list_count_2 _ _)
    (SeqAt.list_countAt p (bs.map Value.bool).toArray n dd sl (.bool k) (eb k)) ⟨hob, fun y hy => ?_, ?_⟩
  · have hy' : y ∈ bs.map Value.bool := by simpa using hy
    obtain ⟨b, _, rfl⟩ := List.mem_map.mp hy'
    exact eqAt_V (y := .bl b) (x := .bl k) rfl rfl rfl rfl
  · have ec : (bs.map Value.bool).toArray.toList.countP (eb k) = bs.count k := by
      rw [List.toList_toArray, List.countP_map]
      rfl
    refine ⟨.int (bs.count k : Nat), H, I.tok _, ⟨s.toks, ?_⟩, q⟩
    show Value.int (((bs.map Value.bool).toArray.toList.countP (eb k) : Nat) : Int) s.toks = Value.int ((bs.count k : Nat) : Int) s.toks
    rw [ec]
def rDGet : V → List V → Hp → VK → Prop := fun x xs H Q => ∃ a y d o, x = .ref a ∧ xs = [y, d] ∧ DGet H a y o ∧ Q (o.getD d) H
theorem mt_dget {X : Cx} (hu : X.A.units + 1 < cLine) : MtR X "dict.get" rDGet := by
  intro pins s σ H x xs v us Q I rx rxs h
  obtain ⟨a, y, d, o, rfl, rfl, g, q⟩ := h
  obtain rfl : v = Value.ref a := rx
  cases rxs with
  | cons r1 r2 =>
    cases r2 with
    | cons r2 r3 =>
      cases r3
      exact d_get2 hu I g r1 r2 fun w' s' I' r' => ⟨o.getD d, H, I', r', q⟩

/-! ### all of them -/
def rMt (K : PySem.W.Frag) : Mt → V → List V → Hp → VK → Prop
  | .append => rAppend
  | .extend => rExtend
  | .join => fun x xs H Q => ∃ a p, ∃ ys : List Str, x = .str a ∧ xs = [.ref p] ∧ (SqL K H p (ys.map V.str) ∨ SqT K H p (ys.map V.str)) ∧ (ys.map (·.length)).sum + ys.length * a.length ≤ 16777216 ∧ Q (.str (Txt.join a ys)) H
  | .split => fun x xs H Q => ∃ a b, x = .str a ∧ xs = [.str b] ∧ (b.length == 0) = false ∧ a.length + 2 ≤ sizeLine ∧ rNewStrs (Txt.split a b) H Q
  | .upper => fun x xs H Q => ∃ a, x = .str a ∧ xs = [] ∧ a.length ≤ 5592405 ∧ Q (.str (Txt.upper a)) H
  | .index => rIndex K
  | .count => rCntB K
  | .get => rDGet
  | .pop => rPopAt
  | _ => fun _ _ _ _ => False
def mtI : Mt → String
  | .append => "list.append" | .extend => "list.extend" | .join => "str.join" | .split => "str.split" | .upper => "str.upper" | .index => "list.index" | .count => "list.count" | .get => "dict.get" | .pop => "list.pop"
  | _ => ""
def mtN : Mt → Str
  | .append => "append" | .extend => "extend" | .join => "join" | .split => "split" | .upper => "upper" | .index => "index" | .count => "count" | .get => "get"
  | .replace => "replace" | .replace1 => "replace" | .items => "items" | .pop => "pop"
def mkT : Mk → String
  | .str => "str" | .list => "list" | .dict => "dict"
def mtHas : Mt → Bool
  | .replace => false | .replace1 => false | .items => false
  | _ => true
theorem mt_all {X : Cx} (hu : X.A.units + 64 < cLine) : ∀ m : Mt, mtHas m = true → MtR X (mtI m) (rMt X.K m)
  | .append, _ => mt_append
  | .extend, _ => mt_extend
  | .join, _ => mt_join
  | .split, _ => mt_split
  | .upper, _ => mt_upper
  | .index, _ => mt_index
  | .count, _ => mt_bcount
  | .get, _ => mt_dget (by omega)
  | .pop, _ => mt_popAt
theorem mk_attrs : ∀ k : Mk, PlainAttrs (mkT k)
  | .str => PySem.F.plainAttrs_str
  | .list => PySem.F.plainAttrs_list
  | .dict => PySem.F.plainAttrs_dict
theorem mt_slot : ∀ m : Mt, mtHas m = true → Slot (mkT (mtK m)) (mtN m) (mtI m)
  | .append, _ => PySem.F.slot_list_append
  | .extend, _ => PySem.F.slot_list_extend
  | .join, _ => PySem.F.slot_str_join
  | .split, _ => PySem.F.slot_str_split
  | .upper, _ => PySem.F.slot_str_upper
  | .index, _ => PySem.F.slot_list_index
  | .count, _ => PySem.F.slot_list_count
  | .get, _ => PySem.F.slot_dict_get
  | .pop, _ => PySem.F.slot_list_pop
theorem mt_type : ∀ m : Mt, mtHas m = true → typeOf (.builtin (mtI m)) = pure (.type "method_descriptor")
  | .append, _ => PySem.F.type_list_append
  | .extend, _ => PySem.F.type_list_extend
  | .join, _ => PySem.F.type_str_join
  | .split, _ => PySem.F.type_str_split
  | .upper, _ => PySem.F.type_str_upper
  | .index, _ => PySem.F.type_list_index
  | .count, _ => PySem.F.type_list_count
  | .get, _ => PySem.F.type_dict_get
  | .pop, _ => PySem.F.type_list_pop

section
variable {K : Kit} {ρ : Rho} {H : Hp} {st st' : Store} {x d : D} {v : V} {ds : List D} {vs : List V} {Q : VK} {fr : Bool} {P : Par}
theorem mtOk_rel (s : Sim K ρ st H) (r : RelD K ρ H x v) {m : Mt} (h : mtOk m st x = true) : tyV K.K (mkT (mtK m)) v H := by
  unfold mtOk at h
  cases hm : mtK m with
  | str =>
    rw [hm] at h
    dsimp only at h
    split at h
    · cases r; rfl
    · cases h
  | list =>
    rw [hm] at h
    obtain ⟨xs, hx⟩ := Option.isSome_iff_exists.mp h
    obtain ⟨a, ws, rfl, h1, h2⟩ := listOf_rel s r hx
    exact .inl ⟨rfl, ws, SqL.of h1⟩
  | dict =>
    rw [hm] at h
    obtain ⟨xs, hx⟩ := Option.isSome_iff_exists.mp h
    obtain ⟨a, ws, rfl, h1, h2⟩ := dictOf_rel s r hx
    exact .inr (.inr (.inl ⟨rfl, .inl ⟨ws, h1⟩⟩))
/-- what must be handed on, the store written or not -/
def Out2 (K : Kit) (fr : Bool) (ρ : Rho) (H : Hp) (st : Store) (d : D) (Q : VK) : Prop :=
  ∀ ρ' v H', Ext K.h ρ H ρ' H' → Sim K ρ' st H' → RelD K ρ' H' d v → (fr = true → d.tmp = true → Fresh K ρ' st H H' d v) → Q v H'
theorem newstrs (xs : List (List Nat)) : RelDs K ρ H (xs.map .str) ((xs.map strS).map V.str) := by
  induction xs with
  | nil => exact .nil
  | cons x r ih => exact .cons (.str x) ih
theorem idx_bool {bs : List Bool} {b : Bool} (h : b ∈ bs) : (bs.map V.bl)[bs.idxOf b]? = some (.bl b) ∧ ∀ (m : Nat) (z : V), m < bs.idxOf b → (bs.map V.bl)[m]? = some z → eqV z (.bl b) = false := by
  refine ⟨?_, fun m z hm hz => ?_⟩
  · rw [List.getElem?_map]
    have hl : bs.idxOf b < bs.length := List.idxOf_lt_length_of_mem h
    rw [List.getElem?_eq_getElem hl, List.getElem_idxOf hl]; rfl
  · rw [List.getElem?_map] at hz
    obtain ⟨c, h1, h2⟩ := Option.map_eq_some_iff.mp hz
    subst h2
    obtain ⟨hl, e⟩ := List.getElem?_eq_some_iff.mp h1
    have := List.not_of_lt_findIdx (p := (· == b)) (xs := bs) (i := m) hm
    simp only [e] at this
    simpa [eqV] using this
theorem place_seq {n : Nat} {i : Int} {j : Nat} (h : place n i = some j) : seqIndex? i n = some j ∧ j < n ∧ -(n : Int) ≤ i ∧ i < n := by
  unfold place at h
  unfold seqIndex?
  split at h
  · rename_i h0
    split at h
    · rename_i h1
      cases h
      have e : (if i < 0 then i + (n : Int) else i) = i := if_neg (by omega)
      refine ⟨?_, by omega, by omega, h1⟩
      simp only [e]
      rw [if_pos (by simp; omega)]
    · cases h
  · rename_i h0
    split at h
    · rename_i h1
      cases h
      have e : (if i < 0 then i + (n : Int) else i) = i + n := if_pos (by omega)
      refine ⟨?_, by omega, by omega, by omega⟩
      simp only [e]
      rw [if_pos (by simp; omega)]
    · cases h
theorem RelDs.eraseIdx : ∀ {xs : List D} {ws : List V} (j : Nat), RelDs K ρ H xs ws → RelDs K ρ H (xs.eraseIdx j) (ws.eraseIdx j)
  | _, _, _, .nil => .nil
  | _, _, 0, .cons h r => r
  | _, _, j + 1, .cons h r => .cons h (RelDs.eraseIdx j r)
theorem mt_rel (s : Sim K ρ st H) (r : RelD K ρ H x v) (rs : RelDs K ρ H ds vs) {m : Mt} (hm : mtHas m = true) (hfr : m = .get ∨ m = .pop → fr = false) (h : mtD P m x ds st = some (d, st')) (k : Out2 K fr ρ H st' d Q) : rMt K.K m v vs H Q := by
  unfold mtD at h
  split at h
  · -- append
    split at h
    · rename_i n d1 _ xs hs
      split at h
      · rename_i hz
        cases h
        obtain ⟨a, ws, rfl, h1, h2, h3⟩ := ref_lst s r hs
        cases rs with
        | cons r1 r2 =>
          cases r2
          refine ⟨a, ws, _, rfl, rfl, h2, by rw [← h3.length, SL_eq]; exact hz, ?_⟩
          exact k ρ .non _ (ext_upd s h1 h2 (by intro ps z; cases z)) (set_lst s h1 h2 (h3.append (.cons r1 .nil))) .non fun _ t => nomatch t
      · cases h
    · cases h
  · -- extend
    split at h
    · rename_i n d1 _ _ xs ys hs hy
      split at h
      · rename_i hz
        cases h
        obtain ⟨a, ws, rfl, h1, h2, h3⟩ := ref_lst s r hs
        obtain ⟨b, us, rfl, h5, h6⟩ := lists_rel s rs hy
        refine ⟨a, b, ws, us, rfl, rfl, h2, h5, by rw [← h3.length, ← h6.length, SL_eq]; exact hz, ?_⟩
        exact k ρ .non _ (ext_upd s h1 h2 (by intro ps z; cases z)) (set_lst s h1 h2 (h3.append h6)) .non fun _ t => nomatch t
      · cases h
    · cases h
  · -- join
    rename_i sep d1
    obtain ⟨xs, h1, h2⟩ := Option.bind_eq_some_iff.mp h
    obtain ⟨ys, h3, h4⟩ := Option.bind_eq_some_iff.mp h1
    split at h2
    · rename_i hz
      cases h2
      cases r
      obtain ⟨a, ws, rfl, h5, h6⟩ := lists_rel s rs h3
      rw [strs_rel h6 h4] at h5
      refine ⟨_, a, xs.map strS, rfl, rfl, .inl (SqL.of h5), ?_, ?_⟩
      · rw [List.map_map, List.length_map, strS_length]
        have : (xs.map ((fun x => x.length) ∘ strS)) = xs.map List.length := List.map_congr_left fun x _ => strS_length x
        rw [this]; exact hz
      · rw [join_eqS]
        exact k ρ _ H (Ext.refl _ _) s (.str _) fun _ t => nomatch t
    · cases h2
  · -- split
    rename_i x' c
    split at h
    · rename_i hz
      cases h
      cases r
      cases rs with
      | cons r1 r2 =>
        cases r1; cases r2
        refine ⟨_, _, rfl, rfl, rfl, by rw [strS_length, SL_eq]; exact hz.1, fun p hp => ?_⟩
        rw [split_eqS c hz.2]
        exact k ρ _ _ (ext_new hp) (sim_new s hp) (new_lst s hp (newstrs _)) fun _ _ => Fresh.lst s hp (newstrs _)
    · cases h
  · -- pop
    split at h
    · rename_i n i _ xs hs
      split at h
      · rename_i hz
        obtain ⟨j, h1, h2⟩ := Option.bind_eq_some_iff.mp h
        obtain ⟨y, h3, h4⟩ := Option.map_eq_some_iff.mp h2
        cases h4
        obtain ⟨a, ws, rfl, g1, g2, g3⟩ := ref_lst s r hs
        obtain ⟨p1, p2, p3, p4⟩ := place_seq h1
        have hl := g3.length
        obtain ⟨w, q1, q2⟩ := g3.get h3
        have hS : SL = 16777216 := rfl
        cases rs with
        | cons r1 r2 =>
          cases r1; cases r2
          refine ⟨a, ws, i, j, w, rfl, rfl, g2, by omega, by omega, by rw [← hl]; exact p1, q1, ?_⟩
          have x := ext_upd s g1 g2 (show Calm (HO.lst (ws.eraseIdx j)) by intro ps z; cases z)
          exact k ρ w _ x (set_lst s g1 g2 (g3.eraseIdx j)) (q2.mono s x) fun hf => by rw [hfr (.inr rfl)] at hf; cases hf
      · cases h
    · cases h
  · cases hm
  · cases hm
  · -- upper
    rename_i x'
    split at h
    · rename_i hz
      cases h
      cases r
      cases rs
      refine ⟨_, rfl, rfl, by rw [strS_length]; omega, ?_⟩
      have e : Txt.upper (strS x') = strS (x'.map fun c => if 97 ≤ c ∧ c ≤ 122 then c - 32 else c) := SX.upper_S hz.2
      rw [e]
      exact k ρ _ H (Ext.refl _ _) s (.str _) fun _ t => nomatch t
    · cases h
  · -- index
    rename_i d1 b
    obtain ⟨xs, h1, h2⟩ := Option.bind_eq_some_iff.mp h
    obtain ⟨bs, h3, h4⟩ := Option.bind_eq_some_iff.mp h2
    split at h4
    · rename_i hin
      cases h4
      obtain ⟨a, ws, rfl, h5, h6⟩ := listOf_rel s r h1
      rw [bools_rel h6 h3] at h5
      cases rs with
      | cons r1 r2 =>
        cases r1; cases r2
        obtain ⟨g1, g2⟩ := idx_bool hin
        exact ⟨a, _, .bl b, _, .bl b, rfl, rfl, SqL.of h5, rfl, by simp [flatV], g1, by simp [eqV], g2, k ρ _ H (Ext.refl _ _) s (.int _) fun _ t => nomatch t⟩
    · cases h4
  · -- count
    rename_i d1 b
    obtain ⟨xs, h1, h2⟩ := Option.bind_eq_some_iff.mp h
    obtain ⟨bs, h3, h4⟩ := Option.map_eq_some_iff.mp h2
    cases h4
    obtain ⟨a, ws, rfl, h5, h6⟩ := listOf_rel s r h1
    rw [bools_rel h6 h3] at h5
    cases rs with
    | cons r1 r2 =>
      cases r1; cases r2
      exact ⟨a, bs, b, rfl, rfl, SqL.of h5, k ρ _ H (Ext.refl _ _) s (.int _) fun _ t => nomatch t⟩
  · -- get
    rename_i d1 kd e
    obtain ⟨kvs, h1, h2⟩ := Option.bind_eq_some_iff.mp h
    obtain ⟨kk, h3, h4⟩ := Option.map_eq_some_iff.mp h2
    cases h4
    cases rs with
    | cons r1 r2 =>
      cases r2 with
      | cons r2 r3 =>
        cases r3
        obtain ⟨a, o, rfl, g, ho⟩ := dget_rel s r r1 h1 h3
        refine ⟨a, _, _, o, rfl, rfl, g, ?_⟩
        rcases ho with ⟨e1, rfl⟩ | ⟨d2, v2, e1, rfl, r5⟩
        · rw [e1] at k
          exact k ρ _ H (Ext.refl _ _) s r2 fun hf => by rw [hfr (.inl rfl)] at hf; cases hf
        · rw [e1] at k
          exact k ρ _ H (Ext.refl _ _) s r5 fun hf => by rw [hfr (.inl rfl)] at hf; cases hf
  · cases hm
  · cases h
end
end Pm

set_option Elab.async false
set_option linter.all false
set_option maxRecDepth 100000
set_option maxHeartbeats 2000000
/-! Ev13: methods, calls, what is walked. -/
namespace Pm
open PySem PySem.Spec PyProof.Rows L2
set_option autoImplicit false

theorem EndG.pair {K : Kit} {B : XW} {fr : Bool} {ρ : Rho} {H : Hp} {o : Option (D × Store)} {Q : VK} (h : EndG K B (RE K fr) ρ H (Res.ofPair o) Q) : ∃ d st, o = some (d, st) ∧ Out2 K fr ρ H st d Q := by
  cases o with
  | none => exact h.elim
  | some p => exact ⟨p.1, p.2, rfl, fun ρ' v H' x s r f => h ρ' v H' x s ⟨r, f⟩⟩

section
variable {X : Cx} {κ : Kx} {B : L2.St → XW} {e o : Expr} {es : List Expr} {fo fr : Bool} {mo : Loc → Store → Res D} {ms : Loc → Store → Res (List D)} {pos p apos cpos : Pos} {P : Par}
theorem se_mt (hu : X.A.units + 64 < cLine) (m : Mt) (hm : mtHas m = true) (hfr : m = .get ∨ m = .pop → fr = false) (hb : baseOk o = true) (hl : (apos.endLine == cpos.line) = true) (ns : (e :: es).all notStar = true) (hn : (e :: es).length < 30)
    (ho : PE X o (eE X κ B fo mo)) (ha : PA X (e :: es) (eA X κ B ms)) :
    PE X (.Call (.Attribute o (mtN m) apos) (e :: es) [] cpos) (eE X κ B fr fun l st => (mo l st).bind fun x st => ifB (mtOk m st x) ((ms l st).bind fun ds st => .ofPair (mtD P m x ds st)) .bad) := by
  have ns' : notStar e = true ∧ es.all notStar = true := by simpa using ns
  have hfew : ((backTo cpos (starEach (e :: es) X.env)).all (fun x => !x.1) && (backToKw cpos (keywordEach [] X.env)).all (fun x => x.1.isSome)
      && decide ((e :: es).length + ([] : List Keyword).length + (if ([] : List Keyword).isEmpty then 0 else 1) < 30)) = true := by
    rw [back_all cpos X.env ns]
    simp only [Bool.true_and, Bool.and_eq_true, decide_eq_true_eq]
    exact ⟨rfl, by simpa using hn⟩
  refine PE.imp (pe_bm (mk_attrs _) (mt_slot m hm) (mt_type m hm) (mt_all hu m hm) ho ha (base_eq hb _ _ _) hfew hl (star_cons ns'.1 _ _) (back_plain _ _ ns'.2)) fun σ H Q ⟨ρ, l, st, at0, q⟩ => ⟨ρ, l, st, at0, EndG.bind RE.back q fun x st1 ρ1 v H1 x1 s1 r1 q1 => ?_⟩
  cases hok : mtOk m st1 x with
  | false => rw [hok] at q1; exact q1.elim
  | true =>
    rw [hok] at q1
    refine ⟨mtOk_rel s1 r1.1 hok, ρ1, l, st1, at0.go x1 s1, EndG.bind RE.back q1 fun ds st2 ρ2 vs H2 x2 s2 r2 q2 => ?_⟩
    obtain ⟨d, st3, e1, k⟩ := EndG.pair q2
    exact mt_rel s2 (r1.1.mono s1 x2) r2 hm hfr e1 k
theorem se_mt0 (hu : X.A.units + 64 < cLine) (m : Mt) (hm : mtHas m = true) (hfr : m = .get ∨ m = .pop → fr = false) (hb : baseOk o = true) (hl : (apos.endLine == cpos.line) = true)
    (ho : PE X o (eE X κ B fo mo)) :
    PE X (.Call (.Attribute o (mtN m) apos) [] [] cpos) (eE X κ B fr fun l st => (mo l st).bind fun x st => ifB (mtOk m st x) ((Res.ok [] st).bind fun ds st => .ofPair (mtD P m x ds st)) .bad) := by
  refine PE.imp (pe_bm0 (mk_attrs _) (mt_slot m hm) (mt_type m hm) (mt_all hu m hm) ho (base_eq hb _ _ _) hl) fun σ H Q ⟨ρ, l, st, at0, q⟩ => ⟨ρ, l, st, at0, EndG.bind RE.back q fun x st1 ρ1 v H1 x1 s1 r1 q1 => ?_⟩
  cases hok : mtOk m st1 x with
  | false => rw [hok] at q1; exact q1.elim
  | true =>
    rw [hok] at q1
    refine ⟨mtOk_rel s1 r1.1 hok, ?_⟩
    obtain ⟨d, st3, e1, k⟩ := EndG.pair q1
    exact mt_rel s1 r1.1 .nil hm hfr e1 k
end

/-! ### calls -/
abbrev BX (κ : Kx) (E : XK) : XW := fun c dx H => E (.ref (κ.cl c)) dx H
abbrev BXs (κ : Kx) (E : L2.St → XK) : L2.St → XW := fun σ => BX κ (E σ)
/-! ### what is walked -/
/-- the new list of a comprehension is hidden: no one but the comprehension writes it -/
abbrev Kit.up (K : Kit) : Kit := ⟨{ K.toKx with h := K.h + 1, en := [] }, K.K⟩
section
variable {K : Kit} {ρ : Rho} {H : Hp} {st : Store} {p : Addr} {o : HO}
theorem tN_hide {a : Addr} {vs : List V} (hp : H p = none) (h : TN K.K H a vs) : TN K.K (upd H p o) a vs := by
  rcases h with ⟨u, d, h⟩ | h
  · exact .inl ⟨u, d, by rw [upd_ne (ne_of_none h hp)]; exact h⟩
  · exact .inr h
theorem sqT_hide {a : Addr} {vs : List V} (hp : H p = none) (h : SqT K.K H a vs) : SqT K.K (upd H p o) a vs := by
  rcases h with (h | ⟨u, h⟩) | h
  · exact .inl (.inl (by rw [upd_ne (ne_of_none h hp)]; exact h))
  · exact .inl (.inr ⟨u, by rw [upd_ne (ne_of_none h hp)]; exact h⟩)
  · exact .inr h
theorem mem_up {a : Addr} {u : HO} (hp : H p = none) (h : H a = some u) (n : some a ∉ ρ) : some a ∉ some p :: ρ := by
  simp only [List.mem_cons, not_or]
  exact ⟨fun z => ne_of_none h hp (Option.some.inj z), n⟩
theorem at_up (n : Nat) : (some p :: ρ : Rho)[K.up.h + n]? = ρ[K.h + n]? := by
  show (some p :: ρ : Rho)[K.h + 1 + n]? = _
  rw [show K.h + 1 + n = (K.h + n) + 1 by omega, List.getElem?_cons_succ]
mutual
theorem RelD.hide (hp : H p = none) : ∀ {d : D} {v : V}, RelD K ρ H d v → RelD K.up (some p :: ρ) (upd H p o) d v
  | _, _, .non => .non
  | _, _, .bl b => .bl b
  | _, _, .int i => .int i
  | _, _, .str y => .str y
  | _, _, .tup h r => .tup (tN_hide hp h) (RelDs.hide hp r)
  | _, _, .itp h r => .itp (sqT_hide hp h) (RelDs.hide hp r)
  | _, _, .lst h n r => .lst (by rw [upd_ne (ne_of_none h hp)]; exact h) (mem_up hp h n) (RelDs.hide hp r)
  | _, _, .dct h n r => .dct (by rw [upd_ne (ne_of_none h hp)]; exact h) (mem_up hp h n) (RelKs.hide hp r)
  | _, _, .err h => .err (by rw [upd_ne (ne_of_none h hp)]; exact h)
  | _, _, .errf h1 h2 h3 r => .errf (by rw [upd_ne (ne_of_none h1 hp)]; exact h1) (by rw [upd_ne (ne_of_none h2 hp)]; exact h2) h3 (RelD.hide hp r)
  | _, _, .ver h => .ver (by rw [upd_ne (ne_of_none h hp)]; exact h)
  | _, _, .scr h => by
    rcases h with ⟨u, h⟩ | h
    · exact .scr (.inl ⟨u, by rw [upd_ne (ne_of_none h hp)]; exact h⟩)
    · exact .scr (.inr h)
  | _, _, .ref h => .ref ((at_up _).trans h)
  | _, _, .dead h => .dead ((at_up _).trans h)
theorem RelDs.hide (hp : H p = none) : ∀ {ds : List D} {vs : List V}, RelDs K ρ H ds vs → RelDs K.up (some p :: ρ) (upd H p o) ds vs
  | _, _, .nil => .nil
  | _, _, .cons h r => .cons (RelD.hide hp h) (RelDs.hide hp r)
theorem RelKs.hide (hp : H p = none) : ∀ {ds : List (DKey × D)} {vs : List (Key × V)}, RelKs K ρ H ds vs → RelKs K.up (some p :: ρ) (upd H p o) ds vs
  | _, _, .nil => .nil
  | _, _, .cons h r => .cons (RelD.hide hp h) (RelKs.hide hp r)
end
mutual
theorem RelD.show : ∀ {d : D} {v : V}, RelD K.up (some p :: ρ) H d v → RelD K ρ H d v
  | _, _, .non => .non
  | _, _, .bl b => .bl b
  | _, _, .int i => .int i
  | _, _, .str y => .str y
  | _, _, .tup h r => .tup h (RelDs.show r)
  | _, _, .itp h r => .itp h (RelDs.show r)
  | _, _, .lst h n r => .lst h (fun m => n (List.mem_cons_of_mem _ m)) (RelDs.show r)
  | _, _, .dct h n r => .dct h (fun m => n (List.mem_cons_of_mem _ m)) (RelKs.show r)
  | _, _, .err h => .err h
  | _, _, .errf h1 h2 h3 r => .errf h1 h2 h3 (RelD.show r)
  | _, _, .ver h => .ver h
  | _, _, .scr h => .scr h
  | _, _, .ref h => .ref ((at_up (K := K) (p := p) _).symm.trans h)
  | _, _, .dead h => .dead ((at_up (K := K) (p := p) _).symm.trans h)
theorem RelDs.show : ∀ {ds : List D} {vs : List V}, RelDs K.up (some p :: ρ) H ds vs → RelDs K ρ H ds vs
  | _, _, .nil => .nil
  | _, _, .cons h r => .cons (RelD.show h) (RelDs.show r)
theorem RelKs.show : ∀ {ds : List (DKey × D)} {vs : List (Key × V)}, RelKs K.up (some p :: ρ) H ds vs → RelKs K ρ H ds vs
  | _, _, .nil => .nil
  | _, _, .cons h r => .cons (RelD.show h) (RelKs.show r)
end
theorem RelOb.hide (hp : H p = none) {ob : Ob} {a : Addr} (r : RelOb K ρ H ob a) : RelOb K.up (some p :: ρ) (upd H p o) ob a := by
  cases ob with
  | lst ds => obtain ⟨vs, h1, h2⟩ := r; exact ⟨vs, by rw [upd_ne (ne_of_none h1 hp)]; exact h1, h2.hide hp⟩
  | dct ds => obtain ⟨vs, h1, h2⟩ := r; exact ⟨vs, by rw [upd_ne (ne_of_none h1 hp)]; exact h1, h2.hide hp⟩
  | dead => exact r
  | ins _ _ => exact r
theorem RelOb.show {ob : Ob} {a : Addr} (r : RelOb K.up (some p :: ρ) H ob a) : RelOb K ρ H ob a := by
  cases ob with
  | lst ds => obtain ⟨vs, h1, h2⟩ := r; exact ⟨vs, h1, h2.show⟩
  | dct ds => obtain ⟨vs, h1, h2⟩ := r; exact ⟨vs, h1, h2.show⟩
  | dead => exact r
  | ins _ _ => exact r
theorem sim_hide (s : Sim K ρ st H) (hp : H p = none) (ho : mutO o = true) : Sim K.up (some p :: ρ) st (upd H p o) where
  len := by show ρ.length + 1 = K.h + 1 + st.length; rw [s.len]; omega
  inj := fun n m a h1 h2 => by
    cases n with
    | zero =>
      cases m with
      | zero => rfl
      | succ m =>
        simp only [List.getElem?_cons_zero, List.getElem?_cons_succ] at h1 h2
        cases h1
        exact (new_free s hp (mem_rho.mpr ⟨m, h2⟩)).elim
    | succ n =>
      cases m with
      | zero =>
        simp only [List.getElem?_cons_zero, List.getElem?_cons_succ] at h1 h2
        cases h2
        exact (new_free s hp (mem_rho.mpr ⟨n, h1⟩)).elim
      | succ m =>
        simp only [List.getElem?_cons_succ] at h1 h2
        rw [s.inj n m a h1 h2]
  ob := fun n u e => by
    rcases s.ob n u e with ⟨q, e1⟩ | ⟨a, e1, r⟩
    · exact .inl ⟨q, (at_up n).trans e1⟩
    · exact .inr ⟨a, (at_up n).trans e1, r.hide hp⟩
  hd := fun n a hn e => by
    cases n with
    | zero =>
      simp only [List.getElem?_cons_zero] at e
      cases e
      exact ⟨o, upd_same, ho⟩
    | succ n =>
      simp only [List.getElem?_cons_succ] at e
      obtain ⟨u, h1, h2⟩ := s.hd n a (by have : n + 1 < K.h + 1 := hn; omega) e
      exact ⟨u, by rw [upd_ne (ne_of_none h1 hp)]; exact h1, h2⟩
  cd := fun q hq => let ⟨h1, h2⟩ := s.cd q hq; ⟨by rw [upd_ne (ne_of_none h1 hp)]; exact h1, h2⟩
  tab := s.tab.ext fun b u e => by rw [upd_ne (ne_of_none e hp)]; exact e
theorem sim_show (s : Sim K.up (some p :: ρ) st H) : Sim K ρ st H where
  len := by have : ρ.length + 1 = K.h + 1 + st.length := s.len; omega
  inj := fun n m a h1 h2 => by
    have := s.inj (n + 1) (m + 1) a (by simpa using h1) (by simpa using h2)
    omega
  ob := fun n u e => by
    rcases s.ob n u e with ⟨q, e1⟩ | ⟨a, e1, r⟩
    · exact .inl ⟨q, (at_up (K := K) (p := p) n).symm.trans e1⟩
    · exact .inr ⟨a, (at_up (K := K) (p := p) n).symm.trans e1, r.show⟩
  hd := fun n a hn e => s.hd (n + 1) a (by show n + 1 < K.h + 1; omega) (by simpa using e)
  cd := s.cd
  tab := s.tab
/-- later, perhaps with one thing more hidden -/
structure Later (K : Kit) (ρ : Rho) (H : Hp) (κ' : Kx) (ρ' : Rho) (H' : Hp) : Prop where
  rel : ∀ d v, RelD K ρ H d v → RelD ⟨κ', K.K⟩ ρ' H' d v
  keep : ∀ a o, H a = some o → some a ∉ ρ → Calm o → H' a = some o ∧ some a ∉ ρ'
theorem Later.rels {κ' : Kx} {ρ' : Rho} {H' : Hp} (y : Later K ρ H κ' ρ' H') : ∀ {ds : List D} {vs : List V}, RelDs K ρ H ds vs → RelDs ⟨κ', K.K⟩ ρ' H' ds vs
  | _, _, .nil => .nil
  | _, _, .cons h r => .cons (y.rel _ _ h) (y.rels r)
theorem Later.sqT {κ' : Kx} {ρ' : Rho} {H' : Hp} (s : Sim K ρ st H) (y : Later K ρ H κ' ρ' H') {a : Addr} {vs : List V} (h : SqT K.K H a vs) : SqT K.K H' a vs := by
  rcases h with (h | ⟨o, h⟩) | h
  · exact .inl (.inl (y.keep _ _ h (s.nolive h rfl) nofun).1)
  · exact .inl (.inr ⟨o, (y.keep _ _ h (s.nolive h rfl) nofun).1⟩)
  · exact .inr h
theorem Later.of_ext {ρ' : Rho} {H' : Hp} (s : Sim K ρ st H) (x : Ext K.h ρ H ρ' H') : Later K ρ H K.toKx ρ' H' where
  rel := fun d v r => r.mono s x
  keep := fun a o h n c => ⟨x.keep a o h n c, x.stay h c n⟩
mutual
theorem RelD.go {ρ' : Rho} {H' : Hp} (s : Sim K ρ st H) (x : Ext K.h ρ H ρ' H') (hp : H p = none) : ∀ {d : D} {v : V}, RelD K ρ H d v → RelD K.up (some p :: ρ') H' d v
  | _, _, .non => .non
  | _, _, .bl b => .bl b
  | _, _, .int i => .int i
  | _, _, .str y => .str y
  | _, _, .tup h r => .tup (tN_mono s x h) (RelDs.go s x hp r)
  | _, _, .itp h r => .itp (sqT_mono s x h) (RelDs.go s x hp r)
  | _, _, .lst h n r => .lst (x.keep _ _ h n nofun) (mem_up hp h (x.stay h nofun n)) (RelDs.go s x hp r)
  | _, _, .dct h n r => .dct (x.keep _ _ h n nofun) (mem_up hp h (x.stay h nofun n)) (RelKs.go s x hp r)
  | _, _, .err h => .err (x.keep _ _ h (s.nolive h rfl) (fun ps z => nomatch (show HO.ext _ = HO.tbl ps from z)))
  | _, _, .errf h1 h2 h3 r => .errf (x.keep _ _ h1 (s.nolive h1 rfl) (fun ps z => nomatch (show HO.ext _ = HO.tbl ps from z))) (x.keep _ _ h2 (s.nolive h2 rfl) (fun ps z => nomatch (show HO.ext _ = HO.tbl ps from z))) h3 (RelD.go s x hp r)
  | _, _, .ver h => .ver (x.keep _ _ h (s.nolive h rfl) (fun ps z => nomatch (show HO.ext _ = HO.tbl ps from z)))
  | _, _, .scr h => by
    rcases h with ⟨u, h⟩ | h
    · exact .scr (.inl ⟨u, x.keep _ _ h (s.nolive h rfl) nofun⟩)
    · exact .scr (.inr h)
  | _, _, @RelD.ref _ _ _ n a h => by
    rcases x.old (K.h + n) (List.getElem?_eq_some_iff.mp h).1 with q | q
    · exact .ref ((at_up _).trans (q.trans h))
    · exact .dead ((at_up _).trans q)
  | _, _, @RelD.dead _ _ _ n v h => by
    rcases x.old (K.h + n) (List.getElem?_eq_some_iff.mp h).1 with q | q
    · exact .dead ((at_up _).trans (q.trans h))
    · exact .dead ((at_up _).trans q)
theorem RelDs.go {ρ' : Rho} {H' : Hp} (s : Sim K ρ st H) (x : Ext K.h ρ H ρ' H') (hp : H p = none) : ∀ {ds : List D} {vs : List V}, RelDs K ρ H ds vs → RelDs K.up (some p :: ρ') H' ds vs
  | _, _, .nil => .nil
  | _, _, .cons h r => .cons (RelD.go s x hp h) (RelDs.go s x hp r)
theorem RelKs.go {ρ' : Rho} {H' : Hp} (s : Sim K ρ st H) (x : Ext K.h ρ H ρ' H') (hp : H p = none) : ∀ {ds : List (DKey × D)} {vs : List (Key × V)}, RelKs K ρ H ds vs → RelKs K.up (some p :: ρ') H' ds vs
  | _, _, .nil => .nil
  | _, _, .cons h r => .cons (RelD.go s x hp h) (RelKs.go s x hp r)
end
theorem Later.of_go {ρ' : Rho} {H' : Hp} (s : Sim K ρ st H) (x : Ext K.h ρ H ρ' H') (hp : H p = none) : Later K ρ H K.up.toKx (some p :: ρ') H' where
  rel := fun d v r => r.go s x hp
  keep := fun a o h n c => ⟨x.keep a o h n c, mem_up hp h (x.stay h c n)⟩
/-- from within a block to the outside -/
theorem ext_out {ρ1 : Rho} {H1 : Hp} (x : Ext K.up.h (some p :: ρ) H (some p :: ρ1) H1) : Ext K.h ρ H ρ1 H1 where
  len := by have := x.len; simpa using this
  old := fun n hn => by have := x.old (n + 1) (by simpa using hn); simpa using this
  new := fun n a hn e => x.new (n + 1) a (by simpa using hn) (by simpa using e)
  keep := fun a u e hn hc => by
    by_cases h : a = p
    · subst h
      exact (x.hid 0 a (by show 0 < K.h + 1; omega) rfl).2 u e
    · exact x.keep a u e (by simp only [List.mem_cons, not_or]; exact ⟨fun z => h (Option.some.inj z), hn⟩) hc
  dom := x.dom
  hid := fun n a hn e => by
    have := x.hid (n + 1) a (by show n + 1 < K.h + 1; omega) (by simpa using e)
    simpa using this
theorem up_cons {ρ1 : Rho} {H1 : Hp} (x : Ext K.up.h (some p :: ρ) H ρ1 H1) : ∃ ρ2, ρ1 = some p :: ρ2 := by
  have h := (x.hid 0 p (by show 0 < K.h + 1; omega) rfl).1
  cases ρ1 with
  | nil => cases h
  | cons a r => simp only [List.getElem?_cons_zero] at h; cases h; exact ⟨r, rfl⟩
/-- the hidden list gets a new content -/
theorem RelDs.hidw {n : Nat} (s : Sim K ρ st H) (hp : ρ[n]? = some (some p)) {u : HO} (hu : H p = some u) (hm : mutO u = true) (ho : Calm o) : (∀ {ds : List D} {vs : List V}, RelDs K ρ H ds vs → RelDs K ρ (upd H p o) ds vs) ∧ (∀ {ds : List (DKey × D)} {vs : List (Key × V)}, RelKs K ρ H ds vs → RelKs K ρ (upd H p o) ds vs) := by
  have x0 : Ext 0 ρ H ρ (upd H p o) := {
    len := Nat.le_refl _
    old := fun _ _ => .inl rfl
    new := fun n a hn e => (by rw [List.getElem?_eq_none hn] at e; exact nomatch e)
    keep := fun b v e hb _ => by
      have : b ≠ p := fun z => hb (mem_rho.mpr ⟨n, by rw [z]; exact hp⟩)
      rw [upd_ne this]; exact e
    dom := fun b e => by
      by_cases h : b = p
      · subst h
        obtain ⟨ps, z⟩ := e _ upd_same
        exact (ho ps z).elim
      · exact fun o q => e o (by rw [upd_ne h]; exact q)
    hid := fun n a hn => absurd hn (Nat.not_lt_zero _) }
  exact ⟨fun r => RelDs.monoN (fun h m => s.nolive h m) x0 r, fun r => RelKs.monoN (fun h m => s.nolive h m) x0 r⟩
/-- what is hidden is written -/
theorem sim_hid {n : Nat} {u : HO} (s : Sim K ρ st H) (hn : n < K.h) (hp : ρ[n]? = some (some p)) (hu : H p = some u) (hm : mutO u = true) (hc : ∀ ps, u ≠ .tbl ps) (ho : mutO o = true) : Sim K ρ st (upd H p o) where
  len := s.len
  inj := s.inj
  ob := fun m x e => by
    have x0 := RelDs.hidw (o := o) s hp hu hm (fun ps z => by rw [z] at ho; cases ho)
    rcases s.ob m x e with q | ⟨b, e1, r⟩
    · exact .inl q
    · have hb : b ≠ p := fun z => by
        have := s.inj (K.h + m) n p (by rw [z] at e1; exact e1) hp
        omega
      refine .inr ⟨b, e1, ?_⟩
      cases x with
      | lst ds => obtain ⟨vs, h1, h2⟩ := r; exact ⟨vs, by rw [upd_ne hb]; exact h1, x0.1 h2⟩
      | dct ds => obtain ⟨vs, h1, h2⟩ := r; exact ⟨vs, by rw [upd_ne hb]; exact h1, x0.2 h2⟩
      | dead => exact r
      | ins _ _ => exact r
  hd := fun m b hm' e => by
    by_cases hb : b = p
    · subst hb; exact ⟨o, upd_same, ho⟩
    · obtain ⟨v, h1, h2⟩ := s.hd m b hm' e
      exact ⟨v, by rw [upd_ne hb]; exact h1, h2⟩
  cd := fun q hq => by
    obtain ⟨h1, h2⟩ := s.cd q hq
    have hb : q.1 ≠ p := fun z => by
      obtain ⟨φ, h2⟩ := h2
      rw [z, hu, h2] at h1
      cases h1
      cases hm
    exact ⟨by rw [upd_ne hb]; exact h1, h2⟩
  tab := fun q hq => by
    obtain ⟨ps, h1, h2, h3⟩ := s.tab q hq
    have n1 : q.1 ≠ p := fun z => by rw [z, hu] at h1; exact hc ps (Option.some.inj h1)
    refine ⟨ps, by rw [upd_ne n1]; exact h1, h2, fun pos cv hcv => ?_⟩
    obtain ⟨c, e1, e2⟩ := h3 pos cv hcv
    have n2 : c ≠ p := fun z => by
      rw [z, hu] at e2
      have := Option.some.inj e2
      subst this
      unfold LamX.CodeO at hm
      cases hm
    exact ⟨c, e1, by rw [upd_ne n2]; exact e2⟩
end
/-- an iterator feeds these items -/
def Feeds (K : Kit) (ρ : Rho) (H : Hp) (J : L2.It) (xs : List D) : Prop := ∀ κ' ρ' st H', Later K ρ H κ' ρ' H' → Sim ⟨κ', K.K⟩ ρ' st H' → ∀ i : Nat,
  (∀ d, xs[i]? = some d → J.go i H' ∧ ∀ v H'', J.yld i H' v H'' → Ext κ'.h ρ' H' ρ' H'' ∧ Sim ⟨κ', K.K⟩ ρ' st H'' ∧ RelD ⟨κ', K.K⟩ ρ' H'' d v) ∧ (xs[i]? = none → J.stop i H')
def RI (K : Kit) : Rho → Store → Hp → Hp → List D → L2.It → Prop := fun ρ' _ _ H' xs J => Feeds K ρ' H' J xs
theorem RI.back {K : Kit} : Back (RI K) := fun _ _ _ _ _ _ _ _ h => h
def tI (K : Kit) (B : L2.St → XW) (m : Loc → Store → Res (List D)) : TI := fun σ H R => ∃ ρ l st, At K ρ H l σ st ∧ EndG K (B σ) (RI K) ρ H (m l st) R
section
variable {K : Kit} {ρ : Rho} {H : Hp} {st : Store}
theorem feeds_list {a : Addr} {xs : List D} {vs : List V} (s : Sim K ρ st H) (h : H a = some (.lst vs)) (n : some a ∉ ρ) (r : RelDs K ρ H xs vs) : Feeds K ρ H (Itl K.K a) xs := fun κ' ρ' st' H' x s' i => by
  have h' : H' a = some (.lst vs) := (x.keep _ _ h n nofun).1
  have r' := x.rels r
  refine ⟨fun d hd => ?_, fun hn => ?_⟩
  · obtain ⟨v, h1, h2⟩ := r'.get hd
    refine ⟨⟨vs, v, SqL.of h', h1⟩, fun w H'' hy => ?_⟩
    obtain ⟨rfl, hy⟩ := hy
    have e := hy vs (SqL.of h')
    rw [h1] at e
    cases e
    exact ⟨Ext.refl _ _, s', h2⟩
  · exact ⟨vs, SqL.of h', by rw [← r.length]; exact List.getElem?_eq_none_iff.mp hn⟩
theorem feeds_tup {a : Addr} {xs : List D} {vs : List V} (s : Sim K ρ st H) (h : SqT K.K H a vs) (r : RelDs K ρ H xs vs) : Feeds K ρ H (Itt K.K a) xs := fun κ' ρ' st' H' x s' i => by
  have h' : SqT K.K H' a vs := x.sqT s h
  have r' := x.rels r
  refine ⟨fun d hd => ?_, fun hn => ?_⟩
  · obtain ⟨v, h1, h2⟩ := r'.get hd
    refine ⟨⟨vs, v, h', h1⟩, fun w H'' hy => ?_⟩
    obtain ⟨rfl, hy⟩ := hy
    have e := hy vs h'
    rw [h1] at e
    cases e
    exact ⟨Ext.refl _ _, s', h2⟩
  · exact ⟨vs, h', by rw [← r.length]; exact List.getElem?_eq_none_iff.mp hn⟩
theorem feeds_str (x : List Nat) : Feeds K ρ H (Its (strS x)) (x.map fun c => .str [c]) := fun κ' ρ' st' H' _ s' i => by
  refine ⟨fun d hd => ?_, fun hn => ?_⟩
  · rw [List.getElem?_map] at hd
    obtain ⟨c, h1, h2⟩ := Option.map_eq_some_iff.mp hd
    subst h2
    have hl : i < x.length := (List.getElem?_eq_some_iff.mp h1).1
    refine ⟨by show i < (strS x).cps.size; simpa [strS] using hl, fun w H'' hy => ?_⟩
    obtain ⟨rfl, c', h3, rfl⟩ := hy
    have h4 : (strS x).cps[i]? = x[i]? := by simp [strS]
    rw [h4, h1] at h3
    cases h3
    exact ⟨Ext.refl _ _, s', .str [c]⟩
  · have : x.length ≤ i := by simpa using List.getElem?_eq_none_iff.mp hn
    show (strS x).cps.size ≤ i
    simpa [strS] using this
theorem range_get (a b : Int) (i : Nat) : (rangeD a b)[i]? = if i < (b - a).toNat then some (.int (a + (i : Int))) else none := by
  unfold rangeD
  rw [List.getElem?_map]
  by_cases h : i < (b - a).toNat
  · rw [if_pos h, List.getElem?_range h]; rfl
  · rw [if_neg h, List.getElem?_eq_none (by simpa using h)]; rfl
theorem feeds_rng (a b : Int) : Feeds K ρ H (Itr a (b - a).toNat) (rangeD a b) := fun κ' ρ' st' H' _ s' i => by
  rw [range_get]
  by_cases h : i < (b - a).toNat
  · rw [if_pos h]
    refine ⟨fun d hd => ?_, fun hn => (nomatch hn)⟩
    cases hd
    exact ⟨h, fun v H'' hy => by obtain ⟨rfl, rfl⟩ := hy; exact ⟨Ext.refl _ _, s', .int _⟩⟩
  · rw [if_neg h]
    refine ⟨fun d hd => ?_, fun _ => Nat.le_of_not_lt h⟩
    cases hd
theorem feeds_zip {a b : Addr} {xs ys : List D} {vs ws : List V} (s : Sim K ρ st H) (h : H a = some (.lst vs)) (n : some a ∉ ρ) (r : RelDs K ρ H xs vs) (h2 : H b = some (.lst ws)) (n2 : some b ∉ ρ) (r2 : RelDs K ρ H ys ws) :
    Feeds K ρ H (Itz K.K a b) ((xs.zip ys).map fun p => .itp [p.1, p.2]) := fun κ' ρ' st' H' x s' i => by
  have h' : H' a = some (.lst vs) := (x.keep _ _ h n nofun).1
  have h2' : H' b = some (.lst ws) := (x.keep _ _ h2 n2 nofun).1
  have r' := x.rels r
  have r2' := x.rels r2
  refine ⟨fun d hd => ?_, fun hn => ?_⟩
  · rw [List.getElem?_map] at hd
    obtain ⟨p, e1, e2⟩ := Option.map_eq_some_iff.mp hd
    subst e2
    rw [List.getElem?_zip_eq_some] at e1
    obtain ⟨v, g1, g2⟩ := r'.get e1.1
    obtain ⟨w, g3, g4⟩ := r2'.get e1.2
    refine ⟨⟨vs, ws, v, w, SqL.of h', SqL.of h2', g1, g3⟩, fun u H'' hy => ?_⟩
    obtain ⟨q, v', w', rfl, hp, rfl, hy1, hy2⟩ := hy
    have e3 := hy1 vs (SqL.of h')
    have e4 := hy2 ws (SqL.of h2')
    rw [g1] at e3; rw [g3] at e4
    cases e3; cases e4
    exact ⟨ext_new hp, sim_new s' hp, new_itp s' hp (.cons g2 (.cons g4 .nil))⟩
  · rw [List.getElem?_map, Option.map_eq_none_iff, List.getElem?_eq_none_iff, List.length_zip] at hn
    exact ⟨vs, ws, SqL.of h', SqL.of h2', by rw [← r.length, ← r2.length]; omega⟩
theorem feeds_zipT {a b : Addr} {xs ys : List D} {vs ws : List V} (s : Sim K ρ st H) (h : SqT K.K H a vs) (r : RelDs K ρ H xs vs) (h2 : SqT K.K H b ws) (r2 : RelDs K ρ H ys ws) :
    Feeds K ρ H (RZ.ItzT K.K a b) ((xs.zip ys).map fun p => .itp [p.1, p.2]) := fun κ' ρ' st' H' x s' i => by
  have h' := x.sqT s h
  have h2' := x.sqT s h2
  have r' := x.rels r
  have r2' := x.rels r2
  refine ⟨fun d hd => ?_, fun hn => ?_⟩
  · rw [List.getElem?_map] at hd
    obtain ⟨p, e1, e2⟩ := Option.map_eq_some_iff.mp hd
    subst e2
    rw [List.getElem?_zip_eq_some] at e1
    obtain ⟨v, g1, g2⟩ := r'.get e1.1
    obtain ⟨w, g3, g4⟩ := r2'.get e1.2
    refine ⟨⟨vs, ws, v, w, h', h2', g1, g3⟩, fun u H'' hy => ?_⟩
    obtain ⟨q, v', w', rfl, hp, rfl, hy1, hy2⟩ := hy
    have e3 := hy1 vs h'
    have e4 := hy2 ws h2'
    rw [g1] at e3; rw [g3] at e4
    cases e3; cases e4
    exact ⟨ext_new hp, sim_new s' hp, new_itp s' hp (.cons g2 (.cons g4 .nil))⟩
  · rw [List.getElem?_map, Option.map_eq_none_iff, List.getElem?_eq_none_iff, List.length_zip] at hn
    exact ⟨vs, ws, h', h2', by rw [← r.length, ← r2.length]; omega⟩
end
end Pm

set_option Elab.async false
set_option linter.all false
set_option maxRecDepth 100000
set_option maxHeartbeats 2000000
/-! Ev14: what is walked (rules); targets; comprehensions. -/
namespace Pm
open PySem PySem.Spec PyProof.Rows L2
set_option autoImplicit false

/-! ### walked: a list, a tuple, a text -/
def iAny (K : PySem.W.Frag) (tl : TE) : TI := fun σ H R => tl σ H fun x Ha => (∃ a, x = .ref a ∧ (∃ xs, SqL K Ha a xs) ∧ R (Itl K a) Ha) ∨ (∃ a, x = .ref a ∧ (∃ xs, SqT K Ha a xs) ∧ R (Itt K a) Ha) ∨ (∃ y, x = .str y ∧ R (Its y) Ha)
theorem pi_any {X : Cx} {tg l : Expr} {tl : TE} (hl : PE X l tl) : PI X tg l (iAny X.K tl) := by
  refine ⟨fun pins s σ H R I h => ?_⟩
  refine thn (hl.run pins s σ H _ I h) fun v sa ⟨x, Ha, Ia, r1, q1⟩ => ?_
  rcases q1 with ⟨a, e, ⟨xs, hq⟩, q⟩ | ⟨a, e, ⟨xs, hq⟩, q⟩ | ⟨y, e, q⟩
  · subst e
    cases r1
    obtain ⟨itl, rv, p, hz⟩ := Ia.list hq
    refine wpAny_pyIter_list p.isList ?_
    refine ⟨sa.heap.objs.size, [sa.heap.objs.size], _, _, Ha, rfl, Ia.kept (t' := sa.toks) fun b o e => Heap.get?_push_of_some _ e, turn_list a _, ⟨_, Heap.get?_push_size _ rfl, rfl, rfl⟩, fun b hb => ?_, q⟩
    have e : b = sa.heap.objs.size := by simpa using hb
    subst e
    exact Ia.fpOk (Nat.le_refl _) (Ia.hok.fresh (Nat.le_refl _))
  · subst e
    cases r1
    obtain ⟨itl, rv, p, hz⟩ := Ia.tuple hq
    refine wpAny_pyIter_tuple (show sa.heap.IsTuple a itl.toArray from p) ?_
    refine ⟨sa.heap.objs.size, [sa.heap.objs.size], _, _, Ha, rfl, Ia.kept (t' := sa.toks) fun b o e => Heap.get?_push_of_some _ e, turn_tuple a _, ⟨_, Heap.get?_push_size _ rfl, rfl, rfl⟩, fun b hb => ?_, q⟩
    have e : b = sa.heap.objs.size := by simpa using hb
    subst e
    exact Ia.fpOk (Nat.le_refl _) (Ia.hok.fresh (Nat.le_refl _))
  · subst e
    obtain ⟨t, rfl⟩ := r1
    cases ha : y.cps.all (· < 128)
    · exact wpAny_pyIter_wide ha (pi_one (tk := sa.toks) Ia _ (turn_str _ y t "str_iterator" (.inr rfl)) ⟨_, Heap.get?_push_size _ rfl, rfl, rfl⟩ q)
    · exact wpAny_pyIter_ascii ha (pi_one (tk := sa.toks) Ia _ (turn_str _ y t "str_ascii_iterator" (.inl rfl)) ⟨_, Heap.get?_push_size _ rfl, rfl, rfl⟩ q)

theorem PI.imp {X : Cx} {tg e : Expr} {w w' : TI} (h : PI X tg e w) (k : ∀ σ H R, w' σ H R → w σ H R) : PI X tg e w' := ⟨fun pins s σ H R I q => h.run pins s σ H R I (k σ H R q)⟩

section
variable {X : Cx} {κ : Kx} {B : L2.St → XW} {tg a b : Expr} {fa fb : Bool} {ma mb : Loc → Store → Res D} {pos p : Pos}
abbrev eI (X : Cx) (κ : Kx) (B : L2.St → XW) (m : Loc → Store → Res (List D)) : TI := tI (Cx.kit X κ) B m
theorem EndG.optI {K : Kit} {B : XW} {ρ : Rho} {H : Hp} {st : Store} {o : Option (List D)} {R : L2.It → Hp → Prop} (h : EndG K B (RI K) ρ H (Res.ofOpt o st) R) (s : Sim K ρ st H) : ∃ xs, o = some xs ∧ ∀ J, Feeds K ρ H J xs → R J H := by
  cases o with
  | none => exact h.elim
  | some xs => exact ⟨xs, rfl, fun J f => h ρ J H (Ext.refl _ _) s f⟩
theorem si_seq (ha : PE X a (eE X κ B fa ma)) : PI X tg a (eI X κ B fun l st => (ma l st).bind fun x st => .ofOpt (seqOf st x) st) :=
  PI.imp (pi_any ha) fun σ H R ⟨ρ, l, st, at0, q⟩ => ⟨ρ, l, st, at0, EndG.bind RI.back q fun d st1 ρ1 v H1 x1 s1 r1 q1 => by
    obtain ⟨xs, e, k⟩ := EndG.optI q1 s1
    obtain ⟨r, _⟩ := r1
    unfold seqOf at e
    split at e
    · cases e
      cases r with
      | tup h1 h2 => exact .inr (.inl ⟨_, rfl, ⟨_, h1.sq⟩, k _ (feeds_tup s1 h1.sq h2)⟩)
    · cases e
      cases r
      exact .inr (.inr ⟨_, rfl, k _ (feeds_str _)⟩)
    · cases e
      cases r with
      | lst h1 h2 h3 => exact .inl ⟨_, rfl, ⟨_, SqL.of h1⟩, k _ (feeds_list s1 h1 h2 h3)⟩
    · cases e⟩
theorem si_rng (hg : Gl X "range") (hm : X.mg "range" = none) (ns : notStar a = true) (ha : PE X a (eE X κ B fa ma)) :
    PI X tg (.Call (.Name "range" p) [a] [] pos) (eI X κ B fun l st => (ma l st).bind fun x st => asInt x fun j => .ofOpt (rngD 0 j) st) :=
  PI.imp (pi_range1 hg hm (pa_cons ha pa_nil (star_cons ns _ _)) (star_cons ns _ _)) fun σ H R ⟨ρ, l, st, at0, q⟩ => ⟨ρ, l, st, at0, EndG.bind RI.back q fun d st1 ρ1 v H1 x1 s1 r1 q1 => by
    obtain ⟨r, _⟩ := r1
    cases d with
    | int j =>
      cases r
      obtain ⟨xs, e, k⟩ := EndG.optI (show EndG _ _ _ _ _ (Res.ofOpt (rngD 0 j) st1) R from q1) s1
      unfold rngD at e
      split at e
      · rename_i hz
        cases e
        have h := k _ (feeds_rng 0 j)
        rw [Int.sub_zero] at h
        exact ⟨j, rfl, hz.2.2.1, hz.2.2.2, h⟩
      · cases e
    | _ => exact q1.elim⟩
theorem si_rng2 (hg : Gl X "range") (hm : X.mg "range" = none) (na : notStar a = true) (nb : notStar b = true) (ha : PE X a (eE X κ B fa ma)) (hb : PE X b (eE X κ B fb mb)) :
    PI X tg (.Call (.Name "range" p) [a, b] [] pos) (eI X κ B fun l st => (ma l st).bind fun x st => (mb l st).bind fun y st => asInt x fun i => asInt y fun j => .ofOpt (rngD i j) st) :=
  PI.imp (pi_range2 hg hm (pa_cons ha (pa_cons hb pa_nil (star_cons nb _ _)) (star_cons na _ _)) (by rw [star_cons na, star_cons nb]; rfl) (star_cons nb _ _)) fun σ H R ⟨ρ, l, st, at0, q⟩ => ⟨ρ, l, st, at0, EndG.bind RI.back q fun d st1 ρ1 v H1 x1 s1 r1 q1 =>
    ⟨ρ1, l, st1, at0.go x1 s1, EndG.bind RI.back q1 fun d2 st2 ρ2 v2 H2 x2 s2 r2 q2 => by
    have r1' := r1.1.mono s1 x2
    obtain ⟨r2, _⟩ := r2
    cases d with
    | int i =>
      cases d2 with
      | int j =>
        cases r1'; cases r2
        obtain ⟨xs, e, k⟩ := EndG.optI (show EndG _ _ _ _ _ (Res.ofOpt (rngD i j) st2) R from q2) s2
        unfold rngD at e
        split at e
        · rename_i hz
          cases e
          exact ⟨i, j, rfl, hz, k _ (feeds_rng i j)⟩
        · cases e
      | _ => exact q2.elim
    | _ => exact q2.elim⟩⟩
theorem si_zip {elts : List Expr} {kk : Nat} {tpos : Pos} (hg : Gl X "zip") (hm : X.mg "zip" = none) (na : notStar a = true) (nb : notStar b = true) (ha : PE X a (eE X κ B fa ma)) (hb : PE X b (eE X κ B fb mb)) :
    PI X (.Tuple elts kk tpos) (.Call (.Name "zip" p) [a, b] [] pos) (eI X κ B fun l st => (ma l st).bind fun x st => (mb l st).bind fun y st => .ofOpt (zipD x y) st) :=
  PI.imp (RZ.pi_zipA hg hm (pa_cons ha (pa_cons hb pa_nil (star_cons nb _ _)) (star_cons na _ _)) (star_cons na _ _) (back_plain _ _ (by simp [nb]))) fun σ H R ⟨ρ, l, st, at0, q⟩ => ⟨ρ, l, st, at0, EndG.bind RI.back q fun d st1 ρ1 v H1 x1 s1 r1 q1 =>
    ⟨ρ1, l, st1, at0.go x1 s1, EndG.bind RI.back q1 fun d2 st2 ρ2 v2 H2 x2 s2 r2 q2 => by
    have r1' := r1.1.mono s1 x2
    obtain ⟨r2, _⟩ := r2
    obtain ⟨xs, e, k⟩ := EndG.optI q2 s2
    unfold zipD at e
    split at e
    · cases e
      cases r1' with
      | tup h1 h2 =>
        cases r2 with
        | tup h3 h4 => exact ⟨_, _, _, _, rfl, .inr ⟨h1.sq, h3.sq, k _ (feeds_zipT s2 h1.sq h2 h3.sq h4)⟩⟩
    · cases e
      cases r1' with
      | lst h1 n1 h2 =>
        cases r2 with
        | lst h3 n3 h4 => exact ⟨_, _, _, _, rfl, .inl ⟨SqL.of h1, SqL.of h3, k _ (feeds_zip s2 h1 n1 h2 h3 n3 h4)⟩⟩
    · cases e⟩⟩
theorem feeds_enum {K : Kit} {ρ : Rho} {H : Hp} {st : Store} {a : Addr} {xs : List D} {vs : List V} (s : Sim K ρ st H) (h : H a = some (.lst vs)) (n : some a ∉ ρ) (r : RelDs K ρ H xs vs) :
    Feeds K ρ H (Ite K.K a) ((xs.zipIdx).map fun p => .itp [.int p.2, p.1]) := fun κ' ρ' st' H' x s' i => by
  have h' : H' a = some (.lst vs) := (x.keep _ _ h n nofun).1
  have r' := x.rels r
  refine ⟨fun d hd => ?_, fun hn => ?_⟩
  · rw [List.getElem?_map] at hd
    obtain ⟨p, e1, e2⟩ := Option.map_eq_some_iff.mp hd
    subst e2
    rw [List.getElem?_zipIdx] at e1
    obtain ⟨d', e3, e4⟩ := Option.map_eq_some_iff.mp e1
    subst e4
    obtain ⟨v, g1, g2⟩ := r'.get e3
    refine ⟨⟨vs, v, SqL.of h', g1⟩, fun u H'' hy => ?_⟩
    obtain ⟨q, v', rfl, hp, rfl, hy⟩ := hy
    have e3 := hy vs (SqL.of h')
    rw [g1] at e3
    cases e3
    refine ⟨ext_new hp, sim_new s' hp, new_itp s' hp (.cons ?_ (.cons g2 .nil))⟩
    simp only [Nat.zero_add]
    exact .int _
  · rw [List.getElem?_map, Option.map_eq_none_iff, List.getElem?_eq_none_iff, List.length_zipIdx] at hn
    exact ⟨vs, SqL.of h', by rw [← r.length]; omega⟩
theorem si_enm {elts : List Expr} {kk : Nat} {tpos : Pos} (hg : Gl X "enumerate") (hm : X.mg "enumerate" = none) (na : notStar a = true) (ha : PE X a (eE X κ B fa ma)) :
    PI X (.Tuple elts kk tpos) (.Call (.Name "enumerate" p) [a] [] pos) (eI X κ B fun l st => (ma l st).bind fun x st => .ofOpt (enmD x) st) :=
  PI.imp (pi_enum hg hm (pa_cons ha pa_nil (star_cons na _ _)) (star_cons na _ _)) fun σ H R ⟨ρ, l, st, at0, q⟩ => ⟨ρ, l, st, at0, EndG.bind RI.back q fun d st1 ρ1 v H1 x1 s1 r1 q1 => by
    obtain ⟨r, _⟩ := r1
    obtain ⟨xs, e, k⟩ := EndG.optI q1 s1
    unfold enmD at e
    split at e
    · cases e
      cases r with
      | lst h1 h2 h3 => exact ⟨_, _, rfl, SqL.of h1, k _ (feeds_enum s1 h1 h2 h3)⟩
    · cases e⟩
end

/-! ### targets -/
def slotsT : T → List Nat
  | .nm i => [i]
  | .tp is => is
def RelLe (K : Kit) (ρ : Rho) (H : Hp) (ex : List Nat) (l : Loc) (σ : L2.St) : Prop :=
  l.length = σ.length ∧ (∀ (i : Nat) (d : D), i ∉ ex → l[i]? = some (some d) → ∃ v, σ[i]? = some (some v) ∧ RelD K ρ H d v) ∧ ∀ p ∈ K.fx, p.1 ∉ ex → σ[p.1]? = some (some (.ref p.2))
def gT (K : Kit) (t : T) : TG := fun v σ H Q => ∃ ρ l st d l', Sim K ρ st H ∧ RelLe K ρ H (slotsT t) l σ ∧ RelD K ρ H d v ∧ setT t d l = some l' ∧
  ∀ σ', RelL K ρ H l' σ' → (∀ j, j ∉ slotsT t → σ'[j]? = σ[j]?) → σ'.length = σ.length → Q σ' H
theorem PG.imp {X : Cx} {tg : Expr} {g g' : TG} (h : PG X tg g) (k : ∀ v σ H Q, g' v σ H Q → g v σ H Q) : PG X tg g' := ⟨fun pins s σ H v u Q I r q => h.run pins s σ H v u Q I r (k v σ H Q q)⟩
theorem RelLe.set {K : Kit} {ρ : Rho} {H : Hp} {i : Nat} {r : List Nat} {l : Loc} {σ : L2.St} {d : D} {v : V} (h : RelLe K ρ H (i :: r) l σ) (hd : RelD K ρ H d v) (hi : i < l.length) (hf : i ∉ K.fx.map (·.1)) : RelLe K ρ H r (l.set i (some d)) (σ.set i (some v)) := by
  refine ⟨by rw [List.length_set, List.length_set]; exact h.1, fun j e hj he => ?_, fun p hp hr => ?b⟩
  case b =>
    have hpi : i ≠ p.1 := fun z => hf (by rw [z]; exact List.mem_map_of_mem hp)
    rw [List.getElem?_set_ne hpi]
    exact h.2.2 p hp (by simp only [List.mem_cons, not_or]; exact ⟨fun z => hpi z.symm, hr⟩)
  by_cases hij : i = j
  · subst hij
    rw [List.getElem?_set_self hi] at he
    cases he
    exact ⟨v, by rw [List.getElem?_set_self (by rw [← h.1]; exact hi)], hd⟩
  · rw [List.getElem?_set_ne hij] at he
    obtain ⟨w, h1, h2⟩ := h.2.1 j e (by simp only [List.mem_cons, not_or]; exact ⟨fun z => hij z.symm, hj⟩) he
    exact ⟨w, by rw [List.getElem?_set_ne hij]; exact h1, h2⟩
theorem RelLe.nil {K : Kit} {ρ : Rho} {H : Hp} {l : Loc} {σ : L2.St} (h : RelLe K ρ H [] l σ) : RelL K ρ H l σ := ⟨h.1, fun i d e => h.2.1 i d (by simp) e, fun p hp => h.2.2 p hp (by simp)⟩
theorem RelL.ex {K : Kit} {ρ : Rho} {H : Hp} {l : Loc} {σ : L2.St} (h : RelL K ρ H l σ) (ex : List Nat) : RelLe K ρ H ex l σ := ⟨h.1, fun i d _ e => h.2.1 i d e, fun p hp _ => h.2.2 p hp⟩
def setV (σ : L2.St) (ps : List (Nat × V)) : L2.St := ps.foldl (fun σ p => σ.set p.1 (some p.2)) σ
theorem setV_length : ∀ (ps : List (Nat × V)) (σ : L2.St), (setV σ ps).length = σ.length
  | [], _ => rfl
  | p :: r, σ => by show (setV (σ.set p.1 (some p.2)) r).length = _; rw [setV_length r, List.length_set]
theorem setV_other : ∀ (ps : List (Nat × V)) (σ : L2.St) (j : Nat), j ∉ ps.map (·.1) → (setV σ ps)[j]? = σ[j]?
  | [], _, _, _ => rfl
  | p :: r, σ, j, h => by
    simp only [List.map_cons, List.mem_cons, not_or] at h
    show (setV (σ.set p.1 (some p.2)) r)[j]? = _
    rw [setV_other r _ j h.2, List.getElem?_set_ne (fun z => h.1 z.symm)]
theorem sets_rel {K : Kit} {ρ : Rho} {H : Hp} : ∀ {is : List Nat} {ds : List D} {vs : List V} {l : Loc} {σ : L2.St}, RelLe K ρ H is l σ → RelDs K ρ H ds vs → is.length = ds.length → (is.all fun i => decide (i < l.length)) = true → (∀ i ∈ is, i ∉ K.fx.map (·.1)) →
    RelL K ρ H ((is.zip ds).foldl (fun l p => l.set p.1 (some p.2)) l) (setV σ (is.zip vs))
  | [], [], _, l, σ, h, .nil, _, _, _ => h.nil
  | i :: is, d :: ds, _, l, σ, h, .cons r1 r2, hl, ha, hf => by
    simp only [List.all_cons, Bool.and_eq_true, decide_eq_true_eq] at ha
    have := sets_rel (h.set r1 ha.1 (hf i (by simp))) r2 (by simpa using hl) (by rw [List.length_set]; exact ha.2) fun j hj => hf j (List.mem_cons_of_mem _ hj)
    exact this
def gNs (is : List Nat) : TGs := fun vs σ H Q => vs.length = is.length ∧ Q (setV σ (is.zip vs)) H
section
variable {X : Cx} {pos : Pos}
/-- a name that may be stored -/
def Stores (X : Cx) (i : Nat) (x : Str) : Prop := X.N[i]? = some x ∧ L2.Loc X.env.scope x ∧ (X.fn x = true ∨ X.env.scope.names.lookup x = some .local)
theorem pgs_ns (hN : X.N.Nodup) : ∀ {es : List Expr} {is : List Nat}, Paired (fun e i => ∃ x p, e = Expr.Name x p ∧ Stores X i x) es is → PGs X es (gNs is)
  | [], [], .nil => by
    have h := pgs_nil (X := X)
    exact ⟨fun pins s σ H vs us Q I r ⟨h1, h2⟩ => h.run pins s σ H vs us Q I r ⟨List.eq_nil_of_length_eq_zero h1, by
      have : vs = [] := List.eq_nil_of_length_eq_zero h1
      subst this
      exact h2⟩⟩
  | e :: es, i :: is, .cons ⟨x, p, he, h1, h2, h3⟩ r => by
    subst he
    have h := pgs_cons (pg_name (pos := p) hN h1 h2 h3) (pgs_ns hN r)
    refine ⟨fun pins s σ H vs us Q I rv ⟨hl, hq⟩ => h.run pins s σ H vs us Q I rv ?_⟩
    cases vs with
    | nil => cases hl
    | cons v vr => exact ⟨v, vr, rfl, by simpa using hl, hq⟩
theorem assign_plain {X : Cx} : ∀ {es : List Expr} {is : List Nat}, Paired (fun e i => ∃ x p, e = Expr.Name x p ∧ Stores X i x) es is → (assignEach es X.env).length = is.length ∧ (assignEach es X.env).findIdx? (·.1) = none
  | [], [], .nil => ⟨rfl, rfl⟩
  | e :: es, i :: is, .cons ⟨x, p, he, _⟩ r => by
    subst he
    obtain ⟨h1, h2⟩ := assign_plain r
    have e1 : assignEach (.Name x p :: es) X.env = (false, assign (.Name x p) X.env) :: assignEach es X.env := rfl
    rw [e1]
    refine ⟨by rw [List.length_cons, List.length_cons, h1], ?_⟩
    rw [List.findIdx?_cons, h2]; rfl
variable {κ : Kx}
theorem sg_nm {i : Nat} {x : Str} (hN : X.N.Nodup) (hf : i ∉ κ.fx.map (·.1)) (h : Stores X i x) : PG X (.Name x pos) (gT (Cx.kit X κ) (.nm i)) :=
  PG.imp (pg_name hN h.1 h.2.1 h.2.2) fun v σ H Q ⟨ρ, l, st, d, l', s, hl, r, e, k⟩ => by
    simp only [setT] at e
    split at e
    · rename_i hi
      cases e
      exact k _ (hl.set r hi hf).nil (fun j hj => List.getElem?_set_ne fun z => hj (by simp [slotsT, z])) (List.length_set ..)
    · cases e
theorem PG.or {X : Cx} {e : Expr} {t t' : TG} (h : PG X e t) (h' : PG X e t') : PG X e (fun v σ H Q => t v σ H Q ∨ t' v σ H Q) :=
  ⟨fun pins s σ H v u Q I r q => q.elim (h.run pins s σ H v u Q I r) (h'.run pins s σ H v u Q I r)⟩
theorem sg_tp {es : List Expr} {is : List Nat} {kk : Nat} (hc : X.calm = true) (hN : X.N.Nodup) (hf : ∀ i ∈ is, i ∉ κ.fx.map (·.1)) (h : Paired (fun e i => ∃ x p, e = Expr.Name x p ∧ Stores X i x) es is) : PG X (.Tuple es kk pos) (gT (Cx.kit X κ) (.tp is)) :=
  PG.imp (PG.or (pg_tup hc (pgs_ns hN h) (assign_plain h).1 (assign_plain h).2) (pg_unl hc (pgs_ns hN h) (assign_plain h).1 (assign_plain h).2)) fun v σ H Q ⟨ρ, l, st, d, l', s, hl, r, e, k⟩ => by
    have go : ∀ (ds : List D) (vs : List V), RelDs (Cx.kit X κ) ρ H ds vs → (if is.length = ds.length ∧ (is.all fun i => decide (i < l.length)) = true then some ((is.zip ds).foldl (fun l p => l.set p.1 (some p.2)) l) else none) = some l' →
        vs.length = is.length ∧ vs.length = is.length ∧ Q (setV σ (is.zip vs)) H := fun ds vs h2 e => by
      split at e
      · rename_i hz
        cases e
        have hlen : vs.length = is.length := by rw [← h2.length, hz.1]
        refine ⟨hlen, hlen, k _ (sets_rel hl h2 hz.1 hz.2 hf) (fun j hj => setV_other _ _ j ?_) (setV_length _ _)⟩
        rw [List.map_fst_zip (by omega)]
        exact hj
      · cases e
    cases d with
    | tup ds =>
      cases r with
      | @tup _ vs a h1 h2 =>
        obtain ⟨g1, g2, g3⟩ := go ds vs h2 e
        exact .inl ⟨a, vs, rfl, h1.sq, g1, g2, g3⟩
    | itp ds =>
      cases r with
      | @itp _ vs a h1 h2 =>
        obtain ⟨g1, g2, g3⟩ := go ds vs h2 e
        exact .inl ⟨a, vs, rfl, h1, g1, g2, g3⟩
    | lst ds =>
      cases r with
      | @lst _ vs a h1 h3 h2 =>
        obtain ⟨g1, g2, g3⟩ := go ds vs h2 e
        exact .inr ⟨a, vs, rfl, SqL.of h1, g1, g2, g3⟩
    | _ => simp only [setT] at e; cases e
end
end Pm

set_option Elab.async false
set_option linter.all false
set_option maxRecDepth 100000
set_option maxHeartbeats 2000000
/-! Ev15: list comprehensions. -/
namespace Pm
open PySem PySem.Spec PyProof.Rows L2
set_option autoImplicit false

theorem wipe_in {σ : L2.St} {j : Nat} : ∀ {vs : List Nat}, j ∈ vs → (wipe σ vs)[j]? = if j < σ.length then some none else none
  | [], h => by cases h
  | v :: vs, h => by
    show ((wipe σ vs).set v none)[j]? = _
    by_cases e : v = j
    · subst e
      rw [List.getElem?_set]
      simp [wipe_length]
    · rw [List.getElem?_set_ne e]
      rcases List.mem_cons.mp h with z | z
      · exact (e z.symm).elim
      · exact wipe_in z
theorem wipe_eq {σ σ2 : L2.St} {vs : List Nat} (hl : σ2.length = σ.length) (h : ∀ j, j ∉ vs → σ2[j]? = σ[j]?) : wipe σ2 vs = wipe σ vs := by
  apply List.ext_getElem?
  intro j
  by_cases hj : j ∈ vs
  · rw [wipe_in hj, wipe_in hj, hl]
  · rw [wipe_out hj, wipe_out hj, h j hj]

theorem compL_cons (t : T) (tst : Loc → Store → Res Bool) (elt : Loc → Store → Res D) (l : Loc) (x : D) (xs : List D) (st : Store) :
    compL t tst elt l (x :: xs) st = optR (setT t x l) fun l' => (tst l' st).bind fun b st => ifB b ((elt l' st).bind fun d st => (compL t tst elt l xs st).bind fun ds st => .ok (d :: ds) st) (compL t tst elt l xs st) := rfl

section
variable {X : Cx} {κ : Kx} {B : L2.St → XW}
abbrev Kx.up (κ : Kx) : Kx := { κ with h := κ.h + 1, en := [] }
def B0 : L2.St → XW := fun _ _ _ _ => False
theorem lc_read {own : List (Str × Nat)} {t : T} {fe : Bool} {mi : Loc → Store → Res (List D)} {mc : Loc → Store → Res Bool} {me : Loc → Store → Res D} (hs1 : ∀ i ∈ own.map (·.2), i ∈ slotsT t) (hs2 : ∀ i ∈ slotsT t, i ∈ own.map (·.2)) :
    ∀ σ H Q, eE X κ B false (fun l st => (mi l st).bind fun xs st => ((compL t mc me l xs st).calm).bind fun ds st => sized ds (.lst ds) st) σ H Q → tLc (eI X κ B mi) (gT (Cx.kit X κ.up) t) (eT X κ.up B0 mc) (eE X κ.up B0 fe me) (own.map (·.2)) σ H Q :=
  fun σ H Q ⟨ρ, l, st, at0, q⟩ => ⟨ρ, l, st, at0, EndG.bind RE.back q fun xs st1 ρ1 J H1 x1 s1 f1 q1 => fun p hp => by
    have at1 := at0.go x1 s1
    cases hE : compL t mc me l xs st1 with
    | bad => rw [hE] at q1; exact q1.elim
    | exc c fs st2 => rw [hE] at q1; exact q1.elim
    | ok dsF stF =>
      rw [hE] at q1
      simp only [Res.calm, Res.bind, sized] at q1
      have hz : dsF.length ≤ SL := by
        by_cases hz : dsF.length ≤ SL
        · exact hz
        · rw [if_neg hz] at q1; exact q1.elim
      rw [if_pos hz] at q1
      refine ⟨fun i m H' => m = xs.length - i ∧ i ≤ xs.length ∧ ∃ ρ' st' done rest vs, Ext κ.h ρ1 H1 ρ' H' ∧ Sim (Cx.kit X κ.up) (some p :: ρ') st' H' ∧ H' p = some (.lst vs) ∧ RelDs (Cx.kit X κ.up) (some p :: ρ') H' done vs ∧ compL t mc me l (xs.drop i) st' = .ok rest stF ∧ dsF = done ++ rest,
        ⟨xs.length, by simp, Nat.zero_le _, ρ1, st1, [], dsF, [], ext_new hp, sim_hide s1 hp rfl, upd_same, .nil, by simpa using hE, rfl⟩, ?_⟩
      rintro i m H' ⟨rfl, hi, ρ', st', done, rest, vs, x, s, hpv, r, hcomp, hds⟩
      have f := f1 κ.up (some p :: ρ') st' H' (Later.of_go s1 x hp) s i
      by_cases hlt : i < xs.length
      · have hd : xs[i]? = some xs[i] := List.getElem?_eq_getElem hlt
        rw [List.drop_eq_getElem_cons hlt, compL_cons] at hcomp
        refine .inr ⟨(f.1 _ hd).1, _, fun H'' w => ⟨xs.length - (i + 1), by omega, w⟩, fun x0 H2 hy => ?_⟩
        obtain ⟨x2, s2, r2⟩ := (f.1 _ hd).2 x0 H2 hy
        cases hset : setT t xs[i] l with
        | none => rw [hset] at hcomp; cases hcomp
        | some l' =>
          rw [hset] at hcomp
          simp only [optR] at hcomp
          have xo2 : Ext κ.h ρ1 H1 ρ' H2 := x.trans (ext_out (K := Cx.kit X κ) x2)
          refine ⟨some p :: ρ', l, st', xs[i], l', s2, ⟨by rw [wipe_length]; exact at1.loc.1, fun j d hj e => ?_, fun q hq hnq => ?_⟩, r2, hset, fun σ2 rl hoth hlen => ⟨wipe_eq (by rw [hlen, wipe_length]) fun j hj => ?_, ?_⟩⟩
          · obtain ⟨v, e1, e2⟩ := at1.loc.2.1 j d e
            exact ⟨v, by rw [wipe_out fun z => hj (hs1 j z)]; exact e1, e2.go s1 xo2 hp⟩
          · rw [wipe_out fun z => hnq (hs1 _ z)]
            exact at1.loc.2.2 q hq
          · rw [hoth j fun z => hj (hs2 j z), wipe_out hj]
          · refine ⟨some p :: ρ', l', st', ⟨s2, rl, fun _ h => nomatch h⟩, ?_⟩
            have hp2 : H2 p = some (.lst vs) := (x2.hid 0 p (Nat.succ_pos _) rfl).2 _ hpv
            cases hmc : mc l' st' with
            | bad => rw [hmc] at hcomp; cases hcomp
            | exc c fs st2 => rw [hmc] at hcomp; cases hcomp
            | ok b st2 =>
              rw [hmc] at hcomp
              simp only [Res.bind] at hcomp
              intro ρ3 b' H3 x3 s3 e3
              cases e3
              obtain ⟨ρ3', rfl⟩ := up_cons (K := Cx.kit X κ) x3
              have hp3 : H3 p = some (.lst vs) := (x3.hid 0 p (Nat.succ_pos _) rfl).2 _ hp2
              have r3 := (r.mono s x2).mono s2 x3
              have xo3 := xo2.trans (ext_out (K := Cx.kit X κ) x3)
              cases b with
              | false =>
                rw [if_neg (by decide)]
                simp only [ifB] at hcomp
                exact ⟨rfl, by omega, ρ3', st2, done, rest, vs, xo3, s3, hp3, r3, hcomp, hds⟩
              | true =>
                rw [if_pos rfl]
                simp only [ifB] at hcomp
                have at3 : At (Cx.kit X κ.up) (some p :: ρ3') H3 l' σ2 st2 := ⟨s3, rl.mono s2 x3, fun _ h => nomatch h⟩
                refine ⟨some p :: ρ3', l', st2, at3, ?_⟩
                cases hme : me l' st2 with
                | bad => rw [hme] at hcomp; cases hcomp
                | exc c fs st3 => rw [hme] at hcomp; cases hcomp
                | ok d st3 =>
                  rw [hme] at hcomp
                  simp only [Res.bind] at hcomp
                  intro ρ4 y H4 x4 s4 r4
                  obtain ⟨ρ4', rfl⟩ := up_cons (K := Cx.kit X κ) x4
                  have hp4 : H4 p = some (.lst vs) := (x4.hid 0 p (Nat.succ_pos _) rfl).2 _ hp3
                  have xo4 := xo3.trans (ext_out (K := Cx.kit X κ) x4)
                  cases hrest : compL t mc me l (xs.drop (i + 1)) st3 with
                  | bad => rw [hrest] at hcomp; cases hcomp
                  | exc c fs st4 => rw [hrest] at hcomp; cases hcomp
                  | ok rest' st4 =>
                    rw [hrest] at hcomp
                    simp only [Res.ok.injEq] at hcomp
                    obtain ⟨rfl, rfl⟩ := hcomp
                    have hlen : vs.length < SL := by
                      have h1 := r.length
                      have h2 : dsF.length = done.length + (rest'.length + 1) := by rw [hds, List.length_append, List.length_cons]
                      omega
                    refine ⟨vs, hp4, by rw [SL_eq]; exact hlen, rfl, by omega, ρ4', st3, done ++ [d], rest', vs ++ [y], ?_, ?_, upd_same, ?_, hrest, by rw [hds]; simp⟩
                    · exact {
                        len := xo4.len
                        old := xo4.old
                        new := xo4.new
                        keep := fun a u e hn hcl => by rw [upd_ne (ne_of_none e hp)]; exact xo4.keep a u e hn hcl
                        dom := fun a e => by
                          by_cases ha : a = p
                          · rw [ha]; exact Free.of hp
                          · exact xo4.dom a fun o q => e o (by rw [upd_ne ha]; exact q)
                        hid := fun n a hn e => ⟨(xo4.hid n a hn e).1, fun u z => by rw [upd_ne (ne_of_none z hp)]; exact (xo4.hid n a hn e).2 u z⟩ }
                    · exact sim_hid (n := 0) s4 (Nat.succ_pos _) rfl hp4 rfl nofun rfl
                    · exact (RelDs.hidw (n := 0) s4 rfl hp4 rfl (by intro ps z; cases z)).1 ((r3.mono s3 x4).append (.cons r4.1 .nil))
      · have e : i = xs.length := by omega
        subst e
        rw [List.drop_length] at hcomp
        cases hcomp
        rw [List.append_nil] at hds
        subst hds
        refine .inl ⟨f.2 (List.getElem?_eq_none (Nat.le_refl _)), ?_⟩
        have hnp : some p ∉ ρ' := fun hm => by
          obtain ⟨n, e⟩ := mem_rho.mp hm
          have := s.inj 0 (n + 1) p rfl (by simpa using e)
          omega
        exact q1 ρ' (.ref p) H' x (sim_show (K := Cx.kit X κ) s) ⟨.lst hpv hnp (RelDs.show (K := Cx.kit X κ) r), fun z => nomatch z⟩⟩
theorem se_lc {elt tg iter : Expr} {ifs : List Expr} {scope : Scope} {own : List (Str × Nat)} {pos : Pos} {t : T} {fe : Bool} {mi : Loc → Store → Res (List D)} {mc : Loc → Store → Res Bool} {me : Loc → Store → Res D}
    (hc : X.calm = true) (hN : X.N.Nodup) (hi : PI X tg iter (eI X κ B mi)) (ok : BlkOk X.N X.env.scope scope own) (hs1 : ∀ i ∈ own.map (·.2), i ∈ slotsT t) (hs2 : ∀ i ∈ slotsT t, i ∈ own.map (·.2))
    (hg : ∀ (s : Shared) (H : Hp) (C : Addr) (cl : List (Str × Addr)) (fp : List Addr), PG (X.blk s H scope (compEnvC scope cl C X.env) fp) tg (gT (Cx.kit X κ.up) t))
    (ht : ∀ (s : Shared) (H : Hp) (C : Addr) (cl : List (Str × Addr)) (fp : List Addr), PTs (X.blk s H scope (compEnvC scope cl C X.env) fp) ifs (eT X κ.up B0 mc))
    (he : ∀ (s : Shared) (H : Hp) (C : Addr) (cl : List (Str × Addr)) (fp : List Addr), PE (X.blk s H scope (compEnvC scope cl C X.env) fp) elt (eE X κ.up B0 fe me)) (hs : noSet iter = true) :
    PE X (.ListComp elt [⟨tg, iter, ifs, 0⟩] scope pos) (eE X κ B false fun l st => (mi l st).bind fun xs st => ((compL t mc me l xs st).calm).bind fun ds st => sized ds (.lst ds) st) :=
  PE.imp (pe_lc hc hN hi ok hg ht he (noSet_it hs _)) (lc_read hs1 hs2)
theorem sp_setLc {i : Nat} {y : Str} {py : Pos} {elt tg iter : Expr} {ifs : List Expr} {scope : Scope} {own : List (Str × Nat)} {pos spos : Pos} {t : T} {fe : Bool} {mi : Loc → Store → Res (List D)} {mc : Loc → Store → Res Bool} {me : Loc → Store → Res D}
    (hc : X.calm = true) (hN : X.N.Nodup) (hy : X.N[i]? = some y) (hyl : X.env.scope.names.lookup y = some .local) (hsw : swapsWith (.ListComp elt [⟨tg, iter, ifs, 0⟩] scope pos) (some (.Name y py)) spos.line X.env = pure true)
    (hi : PI X tg iter (eI X κ B mi)) (ok : BlkOk X.N X.env.scope scope own) (hs1 : ∀ i ∈ own.map (·.2), i ∈ slotsT t) (hs2 : ∀ i ∈ slotsT t, i ∈ own.map (·.2))
    (hg : ∀ (s : Shared) (H : Hp) (C : Addr) (cl : List (Str × Addr)) (fp : List Addr), PG (X.blk s H scope (compEnvC scope cl C X.env) fp) tg (gT (Cx.kit X κ.up) t))
    (ht : ∀ (s : Shared) (H : Hp) (C : Addr) (cl : List (Str × Addr)) (fp : List Addr), PTs (X.blk s H scope (compEnvC scope cl C X.env) fp) ifs (eT X κ.up B0 mc))
    (he : ∀ (s : Shared) (H : Hp) (C : Addr) (cl : List (Str × Addr)) (fp : List Addr), PE (X.blk s H scope (compEnvC scope cl C X.env) fp) elt (eE X κ.up B0 fe me)) (hs : noSet iter = true) :
    PS X (.Assign [.Name y py] (.ListComp elt [⟨tg, iter, ifs, 0⟩] scope pos) spos) (tAsg (eE X κ B false fun l st => (mi l st).bind fun xs st => ((compL t mc me l xs st).calm).bind fun ds st => sized ds (.lst ds) st) (gName i)) := by
  have h := ps_setLc (spos := spos) (py := py) hc hN hy hyl hsw hi ok hg ht he (noSet_it hs _)
  exact ⟨fun pins s σ H D I q => h.run pins s σ H D I (lc_read hs1 hs2 σ H _ q)⟩
end
end Pm

set_option Elab.async false
set_option linter.all false
set_option maxRecDepth 100000
set_option maxHeartbeats 2000000
/-! Ev16: statements. -/
namespace Pm
open PySem PySem.Spec PyProof.Rows L2
set_option autoImplicit false

def EndS (K : Kit) (B : XW) (ρ : Rho) (H : Hp) (r : Res Flow) (D : Ends) : Prop := match r with
  | .ok (.nx l) st => ∀ ρ' σ' H', Ext K.h ρ H ρ' H' → At K ρ' H' l σ' st → D.nx σ' H'
  | .ok (.rt d) st => ∀ ρ' v H', Ext K.h ρ H ρ' H' → Sim K ρ' st H' → RelD K ρ' H' d v → D.rt v H'
  | .ok (.bk l) st => ∀ ρ' σ' H', Ext K.h ρ H ρ' H' → At K ρ' H' l σ' st → D.bk σ' H'
  | .ok (.ct l) st => ∀ ρ' σ' H', Ext K.h ρ H ρ' H' → At K ρ' H' l σ' st → D.ct σ' H'
  | .exc c fs st => ∀ ρ' H' dx, Ext K.h ρ H ρ' H' → Sim K ρ' st H' → XOk fs dx H' → B c dx H'
  | .bad => False
def tS (K : Kit) (B : L2.St → XW) (m : Loc → Store → Res Flow) : TS := fun D σ H => ∃ ρ l st, At K ρ H l σ st ∧ EndS K (B σ) ρ H (m l st) D
abbrev eS (X : Cx) (κ : Kx) (B : L2.St → XW) (m : Loc → Store → Res Flow) : TS := tS (Cx.kit X κ) B m
section
variable {α β : Type} {K : Kit} {B : XW} {R : Rho → Store → Hp → Hp → α → β → Prop} {ρ ρ1 : Rho} {H H1 : Hp} {st : Store} {D : Ends}
theorem EndS.mono {r : Res Flow} (h : EndS K B ρ H r D) (x : Ext K.h ρ H ρ1 H1) : EndS K B ρ1 H1 r D := by
  cases r with
  | ok f st' =>
    cases f with
    | nx l => exact fun ρ' σ' H' y a => h ρ' σ' H' (x.trans y) a
    | rt d => exact fun ρ' v H' y s r => h ρ' v H' (x.trans y) s r
    | bk l => exact fun ρ' σ' H' y a => h ρ' σ' H' (x.trans y) a
    | ct l => exact fun ρ' σ' H' y a => h ρ' σ' H' (x.trans y) a
  | exc c fs st' => exact fun ρ' H' dx y s q => h ρ' H' dx (x.trans y) s q
  | bad => exact h
theorem EndS.bind {r : Res α} {f : α → Store → Res Flow} {Q1 : β → Hp → Prop} (h : EndS K B ρ H (r.bind f) D)
    (k : ∀ a st1 ρ1 b H1, Ext K.h ρ H ρ1 H1 → Sim K ρ1 st1 H1 → R ρ1 st1 H H1 a b → EndS K B ρ1 H1 (f a st1) D → Q1 b H1) : EndG K B R ρ H r Q1 := by
  cases r with
  | ok a st' => exact fun ρ' b H' x s q => k a st' ρ' b H' x s q (EndS.mono h x)
  | exc c fs st' => exact h
  | bad => exact h
theorem EndS.imp {r : Res Flow} {D' : Ends} (h : EndS K B ρ H r D) (h1 : ∀ σ H, D.nx σ H → D'.nx σ H) (h2 : ∀ v H, D.rt v H → D'.rt v H) (h3 : ∀ σ H, D.bk σ H → D'.bk σ H) (h4 : ∀ σ H, D.ct σ H → D'.ct σ H) : EndS K B ρ H r D' := by
  cases r with
  | ok f st' =>
    cases f with
    | nx l => exact fun ρ' σ' H' y a => h1 _ _ (h ρ' σ' H' y a)
    | rt d => exact fun ρ' v H' y s r => h2 _ _ (h ρ' v H' y s r)
    | bk l => exact fun ρ' σ' H' y a => h3 _ _ (h ρ' σ' H' y a)
    | ct l => exact fun ρ' σ' H' y a => h4 _ _ (h ρ' σ' H' y a)
  | exc c fs st' => exact h
  | bad => exact h
end
theorem PS.imp {X : Cx} {s : Stmt} {t t' : TS} (h : PS X s t) (k : ∀ D σ H, t' D σ H → t D σ H) : PS X s t' := ⟨fun pins s σ H D I q => h.run pins s σ H D I (k D σ H q)⟩
theorem PSs.imp {X : Cx} {s : List Stmt} {t t' : TS} (h : PSs X s t) (k : ∀ D σ H, t' D σ H → t D σ H) : PSs X s t' := ⟨fun pins s σ H D I q => h.run pins s σ H D I (k D σ H q)⟩

/-! ### shapes -/
def notComp : Expr → Bool
  | .ListComp _ _ _ _ => false
  | .SetComp _ _ _ _ => false
  | .DictComp _ _ _ _ _ => false
  | _ => true
theorem notComp_sw {e : Expr} (h : notComp e = true) (t : Option Expr) (n : Nat) (env : Env) : swapsWith e t n env = pure false := by
  cases e <;> first | rfl | cases h
/-- a comprehension, stored under a local of the same line, is stored within -/
def swLc (sc scope : Scope) (y : Str) (py pos : Pos) : Bool := decide (sc.names.lookup y = some .local) && py.line == pos.line && !(scope.names.any fun (n, k) => n == y && (k == .local || k == .cell))
theorem swLc_ok {elt : Expr} {gs : List Comprehension} {scope : Scope} {pos py : Pos} {y : Str} {l : Nat} {env : Env} (hk : env.scope.kind = .function) (h : swLc env.scope scope y py pos = true) : swapsWith (.ListComp elt gs scope pos) (some (.Name y py)) l env = pure true := by
  unfold swLc at h
  simp only [Bool.and_eq_true, decide_eq_true_eq, Bool.not_eq_true'] at h
  exact sw_true hk h.1.1 h.1.2 h.2

section
variable {X : Cx} {κ : Kx} {B : L2.St → XW} {e c : Expr} {es : List Expr} {fe : Bool} {me : Loc → Store → Res D} {mc : Loc → Store → Res Bool} {ms : Loc → Store → Res (List D)} {ma mb : Loc → Store → Res Flow} {pos : Pos} {a b : List Stmt}
theorem sp_pass : PS X (.Pass pos) (eS X κ B fun l st => .ok (.nx l) st) :=
  PS.imp ps_pass fun D σ H ⟨ρ, l, st, at0, q⟩ => q ρ σ H (Ext.refl _ _) at0
theorem sp_ex (h : notComp e = true) (he : PE X e (eE X κ B fe me)) : PS X (.Expr e pos) (eS X κ B fun l st => (me l st).bind fun _ st => .ok (.nx l) st) :=
  PS.imp (ps_expr he (notComp_sw h _ _ _)) fun D σ H ⟨ρ, l, st, at0, q⟩ => ⟨ρ, l, st, at0, EndS.bind q fun d st1 ρ1 v H1 x1 s1 r1 q1 => q1 ρ1 σ H1 (Ext.refl _ _) (at0.go x1 s1)⟩
theorem sp_ret (he : PE X e (eE X κ B fe me)) : PS X (.Return (some e) pos) (eS X κ B fun l st => (me l st).bind fun d st => .ok (.rt d) st) :=
  PS.imp (ps_ret he) fun D σ H ⟨ρ, l, st, at0, q⟩ => ⟨ρ, l, st, at0, EndS.bind q fun d st1 ρ1 v H1 x1 s1 r1 q1 => q1 ρ1 v H1 (Ext.refl _ _) s1 r1.1⟩
theorem sp_retn : PS X (.Return none pos) (eS X κ B fun _ st => .ok (.rt .non) st) :=
  PS.imp ps_retN fun D σ H ⟨ρ, l, st, at0, q⟩ => q ρ .non H (Ext.refl _ _) at0.sim .non
theorem ss_nil : PSs X [] (eS X κ B fun l st => .ok (.nx l) st) :=
  PSs.imp pss_nil fun D σ H ⟨ρ, l, st, at0, q⟩ => q ρ σ H (Ext.refl _ _) at0
theorem go_end {K : Kit} {Bx : XW} {B : L2.St → XW} {ρ : Rho} {H : Hp} {r : Res Flow} {k : Loc → Store → Res Flow} {D : Ends} (hB : ∀ σ, B σ = Bx) (h : EndS K Bx ρ H (r.bind fun f st => f.go (fun l => k l st) st) D) :
    EndS K Bx ρ H r { D with nx := tS K B k D } := by
  cases r with
  | ok f st' =>
    cases f with
    | nx l => exact fun ρ' σ' H' y at1 => ⟨ρ', l, st', at1, by rw [hB]; exact EndS.mono (show EndS K Bx ρ H (k l st') D from h) y⟩
    | rt d => exact h
    | bk l => exact h
    | ct l => exact h
  | exc c fs st' => exact h
  | bad => exact h
theorem ss_cons {s : Stmt} {ss : List Stmt} (hB : ∀ σ σ', B σ = B σ') (h1 : PS X s (eS X κ B ma)) (h2 : PSs X ss (eS X κ B mb)) : PSs X (s :: ss) (eS X κ B fun l st => (ma l st).bind fun f st => f.go (fun l => mb l st) st) :=
  PSs.imp (pss_cons h1 h2) fun D σ H ⟨ρ, l, st, at0, q⟩ => ⟨ρ, l, st, at0, go_end (fun σ' => hB σ' σ) q⟩
theorem sp_iff (hc : PT X c (eT X κ B mc)) (ha : PSs X a (eS X κ B ma)) (hb : PSs X b (eS X κ B mb)) : PS X (.If c a b pos) (eS X κ B fun l st => (mc l st).bind fun k st => ifB k (ma l st) (mb l st)) :=
  PS.imp (ps_if hc ha hb) fun D σ H ⟨ρ, l, st, at0, q⟩ => ⟨ρ, l, st, at0, EndS.bind q fun k st1 ρ1 k' H1 x1 s1 r1 q1 => by
    cases r1
    cases k with
    | true => exact ⟨ρ1, l, st1, at0.go x1 s1, q1⟩
    | false => exact ⟨ρ1, l, st1, at0.go x1 s1, q1⟩⟩
/-! ### stores -/
theorem set_end {K : Kit} {B : XW} {ρ : Rho} {H : Hp} {st : Store} {t : T} {d : D} {v : V} {l : Loc} {σ : L2.St} {D : Ends} (at1 : At K ρ H l σ st) (r : RelD K ρ H d v) (q : EndS K B ρ H (Res.ofOpt ((setT t d l).map .nx) st) D) : gT K t v σ H D.nx := by
  cases h : setT t d l with
  | none => rw [h] at q; exact q.elim
  | some l' =>
    rw [h] at q
    exact ⟨ρ, l, st, d, l', at1.sim, at1.loc.ex _, r, h, fun σ' rl _ _ => q ρ σ' H (Ext.refl _ _) ⟨at1.sim, rl, at1.en⟩⟩
theorem sp_asg {t : T} {tg : Expr} (hg : PG X tg (gT (Cx.kit X κ) t)) (he : PE X e (eE X κ B fe me)) (hs : swapsWithSole [tg] e pos.line X.env = pure false) (hw : swappedStores [tg] e X.env = pure none) (h1 : (assignEach [tg] X.env).map (·.2) = [assign tg X.env]) :
    PS X (.Assign [tg] e pos) (eS X κ B fun l st => (me l st).bind fun d st => .ofOpt ((setT t d l).map .nx) st) :=
  PS.imp (ps_asg he hg hs hw h1) fun D σ H ⟨ρ, l, st, at0, q⟩ => ⟨ρ, l, st, at0, EndS.bind q fun d st1 ρ1 v H1 x1 s1 r1 q1 => set_end (at0.go x1 s1) r1.1 q1⟩
theorem gN_end {K : Kit} {B : XW} {ρ : Rho} {H : Hp} {st : Store} {i : Nat} {d : D} {v : V} {l : Loc} {σ : L2.St} {D : Ends} (hf : i ∉ K.fx.map (·.1)) (at1 : At K ρ H l σ st) (r : RelD K ρ H d v) (q : EndS K B ρ H (Res.ofOpt ((setT (.nm i) d l).map .nx) st) D) : D.nx (σ.set i (some v)) H := by
  by_cases hi : i < l.length
  · have e : setT (.nm i) d l = some (l.set i (some d)) := by simp only [setT]; rw [if_pos hi]
    rw [e] at q
    exact q ρ _ H (Ext.refl _ _) ⟨at1.sim, ((at1.loc.ex [i]).set r hi hf).nil, at1.en⟩
  · have e : setT (.nm i) d l = none := by simp only [setT]; rw [if_neg hi]
    rw [e] at q
    exact q.elim
theorem sp_set {i : Nat} {x : Str} {px : Pos} (hf : i ∉ κ.fx.map (·.1)) (hN : X.N.Nodup) (h : Stores X i x) (he : PE X e (eE X κ B fe me)) (hs : swapsWith e (some (.Name x px)) pos.line X.env = pure false) :
    PS X (.Assign [.Name x px] e pos) (eS X κ B fun l st => (me l st).bind fun d st => .ofOpt ((setT (.nm i) d l).map .nx) st) :=
  PS.imp (ps_set hN h.1 h.2.1 he hs h.2.2) fun D σ H ⟨ρ, l, st, at0, q⟩ => ⟨ρ, l, st, at0, EndS.bind q fun d st1 ρ1 v H1 x1 s1 r1 q1 => gN_end hf (at0.go x1 s1) r1.1 q1⟩
/-- a comprehension stored within -/
theorem sp_lc {i : Nat} {s : Stmt} (hf : i ∉ κ.fx.map (·.1)) (h : PS X s (tAsg (eE X κ B fe me) (gName i))) : PS X s (eS X κ B fun l st => (me l st).bind fun d st => .ofOpt ((setT (.nm i) d l).map .nx) st) :=
  PS.imp h fun D σ H ⟨ρ, l, st, at0, q⟩ => ⟨ρ, l, st, at0, EndS.bind q fun d st1 ρ1 v H1 x1 s1 r1 q1 => gN_end hf (at0.go x1 s1) r1.1 q1⟩
end
end Pm

set_option Elab.async false
set_option linter.all false
set_option maxRecDepth 100000
set_option maxHeartbeats 2000000
/-! Ev17: swapped stores, items, loops, raise. -/
namespace Pm
open PySem PySem.Spec PyProof.Rows L2
set_option autoImplicit false

/-! ### which stores are swapped -/
inductive Sw where
  | no | yes (names : List Str) | bad
def isStar : Expr → Bool
  | .Starred .. => true
  | _ => false
def swp (sc : Scope) (ts vs : List Expr) : Sw :=
  if !(ts.length == 2 || ts.length == 3) || vs.length != ts.length then .no else
  if vs.any (fun | .Starred .. => true | _ => false) then .no else
  let line := (ts.head?.map (·.pos.line)).getD 0
  let names := ts.filterMap fun
    | .Name id pos => if sc.names.lookup id == some .local && pos.line == line then some id else none
    | _ => none
  if names.length != ts.length || names.eraseDups.length != names.length then .no else
  if vs.all (foldedForSure 8) then .no else
  if vs.all (constantsAlone 8) then .bad else .yes names
theorem swp_no {env : Env} {ts vs : List Expr} {k k2 : Nat} {p p2 : Pos} (hk : env.scope.kind = .function) (h : swp env.scope ts vs = .no) : swappedStores [.Tuple ts k p] (.Tuple vs k2 p2) env = pure none := by
  have hb : env.blockKind = .function := by unfold Env.blockKind; rw [hk]; rfl
  unfold swappedStores
  unfold swp at h
  simp only [hb] at h ⊢
  split at h
  · rename_i h1
    exact if_pos (by simpa using h1)
  · rename_i h1
    refine (if_neg (by simpa using h1)).trans ?_
    split at h
    · rename_i h2
      exact if_pos h2
    · rename_i h2
      refine (if_neg h2).trans ?_
      split at h
      · rename_i h3
        exact if_pos (by exact h3)
      · rename_i h3
        refine (if_neg (by exact h3)).trans ?_
        split at h
        · rename_i h4
          exact if_pos h4
        · split at h <;> cases h
theorem swp_yes {env : Env} {ts vs : List Expr} {k k2 : Nat} {p p2 : Pos} {ns : List Str} (hk : env.scope.kind = .function) (h : swp env.scope ts vs = .yes ns) : swappedStores [.Tuple ts k p] (.Tuple vs k2 p2) env = pure (some ns) := by
  have hb : env.blockKind = .function := by unfold Env.blockKind; rw [hk]; rfl
  unfold swappedStores
  unfold swp at h
  simp only [hb] at h ⊢
  split at h
  · cases h
  · rename_i h1
    refine (if_neg (by simpa using h1)).trans ?_
    split at h
    · cases h
    · rename_i h2
      refine (if_neg h2).trans ?_
      split at h
      · cases h
      · rename_i h3
        refine (if_neg (by exact h3)).trans ?_
        split at h
        · cases h
        · rename_i h4
          refine (if_neg h4).trans ?_
          split at h
          · cases h
          · rename_i h5
            refine (if_neg h5).trans ?_
            cases h
            rfl
theorem swp_other {tg e : Expr} (h : (match tg, e with
    | .Tuple _ _ _, .Tuple _ _ _ => false
    | .List _ _, .Tuple _ _ _ => false
    | _, _ => true) = true) (env : Env) : swappedStores [tg] e env = pure none := by
  unfold swappedStores
  cases tg <;> cases e <;> first | rfl | cases h

theorem notComp_sole {e : Expr} (h : notComp e = true) (t : Expr) (n : Nat) (env : Env) : swapsWithSole [t] e n env = pure false := by
  unfold swapsWithSole
  exact notComp_sw h _ _ _
section
variable {X : Cx} {κ : Kx} {B : L2.St → XW} {e c o i : Expr} {es : List Expr} {fe fo fi : Bool} {me mo mi : Loc → Store → Res D} {mc : Loc → Store → Res Bool} {ms mI : Loc → Store → Res (List D)} {mb : Loc → Store → Res Flow} {pos : Pos} {body : List Stmt}
/-! ### a, b = x, y swapped -/
theorem par_end {K : Kit} {B : XW} {ρ : Rho} {H : Hp} {st : Store} {is : List Nat} {ds : List D} {vs : List V} {l : Loc} {σ : L2.St} {D : Ends} (hf : ∀ i ∈ is, i ∉ K.fx.map (·.1)) (at1 : At K ρ H l σ st) (r : RelDs K ρ H ds vs) (q : EndS K B ρ H (Res.ofOpt ((setT (.tp is) (.tup ds) l).map .nx) st) D) : vs.length = is.length ∧ D.nx (setV σ (is.zip vs)) H := by
  by_cases hz : is.length = ds.length ∧ (is.all fun i => decide (i < l.length)) = true
  · have e : setT (.tp is) (.tup ds) l = some ((is.zip ds).foldl (fun l p => l.set p.1 (some p.2)) l) := by simp only [setT]; rw [if_pos hz]
    rw [e] at q
    exact ⟨by rw [← r.length, hz.1], q ρ _ H (Ext.refl _ _) ⟨at1.sim, sets_rel (at1.loc.ex is) r hz.1 hz.2 hf, at1.en⟩⟩
  · have e : setT (.tp is) (.tup ds) l = none := by simp only [setT]; rw [if_neg hz]
    rw [e] at q
    exact q.elim
theorem sp_par2 {i j : Nat} {x y : Str} {a b : Expr} {px py pt pt2 : Pos} {kt k2 : Nat} (hf : ∀ n ∈ [i, j], n ∉ κ.fx.map (·.1)) (hc : X.calm = true) (hN : X.N.Nodup) (hi : X.N[i]? = some x) (hj : X.N[j]? = some y) (hij : i ≠ j)
    (hx : X.env.scope.names.lookup x = some .local) (hy : X.env.scope.names.lookup y = some .local) (ha : PA X [a, b] (eA X κ B ms)) (hk : X.env.scope.kind = .function)
    (hw : swp X.env.scope [.Name x px, .Name y py] [a, b] = .yes [x, y]) :
    PS X (.Assign [.Tuple [.Name x px, .Name y py] kt pt] (.Tuple [a, b] k2 pt2) pos) (eS X κ B fun l st => (ms l st).bind fun ds st => .ofOpt ((setT (.tp [i, j]) (.tup ds) l).map .nx) st) :=
  PS.imp (ps_par hc hN hi hj hij hx hy ha (swp_yes hk hw) rfl) fun D σ H ⟨ρ, l, st, at0, q⟩ => ⟨ρ, l, st, at0, EndS.bind q fun ds st1 ρ1 vs H1 x1 s1 r1 q1 => by
    obtain ⟨h1, h2⟩ := par_end hf (at0.go x1 s1) r1 q1
    match vs, h1 with
    | [v, w], _ => exact ⟨v, w, rfl, h2⟩⟩
theorem sp_par3 {i j k : Nat} {x y z : Str} {a b c : Expr} {px py pz pt pt2 : Pos} {kt k2 : Nat} (hf : ∀ n ∈ [i, j, k], n ∉ κ.fx.map (·.1)) (hc : X.calm = true) (hN : X.N.Nodup) (hi : X.N[i]? = some x) (hj : X.N[j]? = some y) (hk' : X.N[k]? = some z) (hij : i ≠ j) (hil : i ≠ k) (hjl : j ≠ k)
    (hx : X.env.scope.names.lookup x = some .local) (hy : X.env.scope.names.lookup y = some .local) (hz : X.env.scope.names.lookup z = some .local) (ha : PA X [a, b, c] (eA X κ B ms)) (hk : X.env.scope.kind = .function)
    (hw : swp X.env.scope [.Name x px, .Name y py, .Name z pz] [a, b, c] = .yes [x, y, z]) :
    PS X (.Assign [.Tuple [.Name x px, .Name y py, .Name z pz] kt pt] (.Tuple [a, b, c] k2 pt2) pos) (eS X κ B fun l st => (ms l st).bind fun ds st => .ofOpt ((setT (.tp [i, j, k]) (.tup ds) l).map .nx) st) :=
  PS.imp (ps_par3 hc hN hi hj hk' hij hil hjl hx hy hz ha (swp_yes hk hw) rfl) fun D σ H ⟨ρ, l, st, at0, q⟩ => ⟨ρ, l, st, at0, EndS.bind q fun ds st1 ρ1 vs H1 x1 s1 r1 q1 => by
    obtain ⟨h1, h2⟩ := par_end hf (at0.go x1 s1) r1 q1
    match vs, h1 with
    | [v, w, u], _ => exact ⟨v, w, u, rfl, h2⟩⟩
/-! ### x op= e -/
def rAug (o : Op) : TIp := match o with
  | .add => ipI fun i j => i + j
  | .sub => ipI fun i j => i - j
  | _ => fun _ _ _ _ => False
theorem ip_aug : ∀ o : Op, PIp X (opA o) (rAug o)
  | .add => ip_add
  | .sub => ip_sub
  | .mul => fun _ _ _ _ _ _ _ _ _ _ _ _ h => h.elim
  | .fdiv => fun _ _ _ _ _ _ _ _ _ _ _ _ h => h.elim
  | .mod => fun _ _ _ _ _ _ _ _ _ _ _ _ h => h.elim
  | .pow => fun _ _ _ _ _ _ _ _ _ _ _ _ h => h.elim
  | .shl => fun _ _ _ _ _ _ _ _ _ _ _ _ h => h.elim
theorem sp_aug {i : Nat} {x : Str} {px : Pos} (op : Op) (hf : i ∉ κ.fx.map (·.1)) (hN : X.N.Nodup) (h : Stores X i x) (he : PE X e (eE X κ B fe me)) :
    PS X (.AugAssign (.Name x px) (opA op) e pos) (eS X κ B fun l st => optR (l[i]?) fun o => optR o fun x => (me l st).bind fun y st => .ofOpt ((augD op x y).map fun d => .nx (l.set i (some d))) st) :=
  PS.imp (ps_aug hN h.1 h.2.1 he (ip_aug op) h.2.2) fun D σ H ⟨ρ, l, st, at0, q⟩ => by
    dsimp only at q
    cases hl : l[i]? with
    | none => rw [hl] at q; exact q.elim
    | some o =>
      cases o with
      | none => rw [hl] at q; exact q.elim
      | some d =>
        rw [hl] at q
        obtain ⟨v, e1, r⟩ := at0.loc.2.1 i d hl
        refine ⟨v, e1, ρ, l, st, at0, EndS.bind (show EndS (Cx.kit X κ) (B σ) ρ H ((me l st).bind fun y st => Res.ofOpt ((augD op d y).map fun d => .nx (l.set i (some d))) st) D from q) fun d2 st1 ρ1 v2 H1 x1 s1 r1 q1 => ?_⟩
        have r' := r.mono at0.sim x1
        have hi : i < l.length := (List.getElem?_eq_some_iff.mp hl).1
        have at1 := at0.go x1 s1
        cases ha : augD op d d2 with
        | none => rw [ha] at q1; exact q1.elim
        | some d3 =>
          rw [ha] at q1
          have fin : RelD (Cx.kit X κ) ρ1 H1 d3 = RelD (Cx.kit X κ) ρ1 H1 d3 := rfl
          cases op with
          | add =>
            obtain ⟨a, b, m, rfl, rfl, e2, rfl⟩ := ints2_rel (st := st1) r' r1.1 ha
            cases e2
            exact ⟨a, b, rfl, rfl, q1 ρ1 _ H1 (Ext.refl _ _) ⟨s1, ((at1.loc.ex [i]).set (.int _) hi hf).nil, at1.en⟩⟩
          | sub =>
            obtain ⟨a, b, m, rfl, rfl, e2, rfl⟩ := ints2_rel (st := st1) r' r1.1 ha
            cases e2
            exact ⟨a, b, rfl, rfl, q1 ρ1 _ H1 (Ext.refl _ _) ⟨s1, ((at1.loc.ex [i]).set (.int _) hi hf).nil, at1.en⟩⟩
          | _ => cases ha
/-! ### o[i] = e -/
theorem set_all (hu : X.A.units + 1 < cLine) : PSet X (fun o i v H Q => rSetL o i v H Q ∨ rSetD o i v H Q) := by
  intro pins s σ H o i v ov iv u Q I ro ri rv h
  rcases h with h | h
  · exact set_list pins s σ H o i v ov iv u Q I ro ri rv h
  · exact set_dict hu pins s σ H o i v ov iv u Q I ro ri rv h
theorem putK_rel {K : Kit} {ρ : Rho} {H : Hp} {k : DKey} {d : D} {v : V} (r : RelD K ρ H d v) {xs : List (DKey × D)} {vs : List (Key × V)} (h : RelKs K ρ H xs vs) : RelKs K ρ H (Pm.putK k d xs) (L2.putK vs (keyK k) v) := by
  have hdec : ∀ a : DKey, decide (keyK a = keyK k) = decide (a = k) := fun a => by
    by_cases e : a = k
    · subst e; simp
    · rw [decide_eq_false e, decide_eq_false fun z => e (keyK_inj z)]
  have hany : ∀ {xs : List (DKey × D)} {vs : List (Key × V)}, RelKs K ρ H xs vs → (vs.any fun kv => decide (kv.1 = keyK k)) = xs.any fun p => decide (p.1 = k) := by
    intro xs vs h
    induction xs generalizing vs with
    | nil => cases h; rfl
    | cons p xs ih =>
      cases h with
      | cons h1 h2 => rw [List.any_cons, List.any_cons, ih h2, hdec]
  have hmap : ∀ {xs : List (DKey × D)} {vs : List (Key × V)}, RelKs K ρ H xs vs → RelKs K ρ H (xs.map fun p => if p.1 = k then (p.1, d) else p) (vs.map fun kv => if kv.1 = keyK k then (kv.1, v) else kv) := by
    intro xs vs h
    induction xs generalizing vs with
    | nil => cases h; exact .nil
    | cons p xs ih =>
      cases h with
      | @cons a d' _ v' _ h1 h2 =>
        rw [List.map_cons, List.map_cons]
        by_cases e : a = k
        · subst e
          rw [if_pos rfl, if_pos rfl]
          exact .cons r (ih h2)
        · rw [if_neg e, if_neg fun z => e (keyK_inj z)]
          exact .cons h1 (ih h2)
  have happ : ∀ {xs : List (DKey × D)} {vs : List (Key × V)}, RelKs K ρ H xs vs → RelKs K ρ H (xs ++ [(k, d)]) (vs ++ [(keyK k, v)]) := by
    intro xs vs h
    induction xs generalizing vs with
    | nil => cases h; exact .cons r .nil
    | cons p xs ih =>
      cases h with
      | cons h1 h2 => exact .cons h1 (ih h2)
  unfold Pm.putK L2.putK
  rw [hany h]
  split
  · exact hmap h
  · exact happ h
theorem sp_sub {p : Pos} (hu : X.A.units + 1 < cLine) (hn : notComp e = true) (hix : plainIx i = true) (ho : PE X o (eE X κ B fo mo)) (hi : PE X i (eE X κ B fi mi)) (he : PE X e (eE X κ B fe me)) :
    PS X (.Assign [.Subscript o i p] e pos) (eS X κ B fun l st => (me l st).bind fun d st => (mo l st).bind fun x st => (mi l st).bind fun k st => subD x k d l st) := by
  have hg : PG X (.Subscript o i p) (gSub (eE X κ B fo mo) (eE X κ B fi mi) fun o i v H Q => rSetL o i v H Q ∨ rSetD o i v H Q) := pg_sub ho hi (set_all hu) (by intro v; cases i <;> first | rfl | cases hix)
  refine PS.imp (ps_asg he hg (notComp_sole hn _ _ _) (swp_other rfl _) rfl) fun D σ H ⟨ρ, l, st, at0, q⟩ => ⟨ρ, l, st, at0, EndS.bind q fun d st1 ρ1 v H1 x1 s1 r1 q1 =>
    ⟨ρ1, l, st1, at0.go x1 s1, EndS.bind q1 fun x st2 ρ2 vx H2 x2 s2 r2 q2 => ⟨ρ2, l, st2, (at0.go x1 s1).go x2 s2, EndS.bind q2 fun k st3 ρ3 vk H3 x3 s3 r3 q3 => ?_⟩⟩⟩
  have rd := (r1.1.mono s1 x2).mono s2 x3
  have rx := r2.1.mono s2 x3
  have rk := r3.1
  have at3 := ((at0.go x1 s1).go x2 s2).go x3 s3
  unfold subD at q3
  split at q3
  · rename_i n
    split at q3
    · rename_i xs hs
      obtain ⟨a, ws, rfl, h1, h2, h3⟩ := ref_lst s3 rx hs
      cases k with
      | int k =>
        cases rk
        simp only [asInt] at q3
        cases hp : place xs.length k with
        | none => rw [hp] at q3; exact q3.elim
        | some j =>
          rw [hp] at q3
          refine .inl ⟨a, ws, k, j, rfl, rfl, h2, by rw [← place_eq, ← h3.length]; exact hp, ?_⟩
          have hs' := set_lst s3 h1 h2 (h3.set rd j)
          exact q3 ρ3 σ _ (ext_upd s3 h1 h2 (by intro ps z; cases z)) ⟨hs', at3.loc.mono s3 (ext_upd s3 h1 h2 (by intro ps z; cases z)), fun p hp => (at3.en p hp).trans (ext_upd s3 h1 h2 (by intro ps z; cases z))⟩
      | _ => exact q3.elim
    · rename_i kvs hs
      obtain ⟨a, ws, rfl, h1, h2, h3⟩ := ref_dct s3 rx hs
      cases hk : asKey k with
      | none => rw [hk] at q3; exact q3.elim
      | some kk =>
        rw [hk] at q3
        simp only [optR] at q3
        split at q3
        · rename_i hz
          have e := asKey_rel rk hk
          subst e
          have hs' := set_dct s3 h1 h2 (putK_rel (k := kk) rd h3)
          refine .inr ⟨a, _, rfl, DPut.k h2 (by rw [← h3.length, SL_eq]; exact hz), ?_⟩
          exact q3 ρ3 σ _ (ext_upd s3 h1 h2 (by intro ps z; cases z)) ⟨hs', at3.loc.mono s3 (ext_upd s3 h1 h2 (by intro ps z; cases z)), fun p hp => (at3.en p hp).trans (ext_upd s3 h1 h2 (by intro ps z; cases z))⟩
        · exact q3.elim
    · exact q3.elim
  · exact q3.elim
end
end Pm

set_option Elab.async false
set_option linter.all false
set_option maxRecDepth 100000
set_option maxHeartbeats 2000000
/-! Ev18: loops, raise. -/
namespace Pm
open PySem PySem.Spec PyProof.Rows L2
set_option autoImplicit false

theorem turn_end {K : Kit} {Bx : XW} {B : L2.St → XW} {ρ : Rho} {H : Hp} {r : Res Flow} {k : Loc → Store → Res Flow} {D : Ends} (hB : ∀ σ, B σ = Bx) (h : EndS K Bx ρ H (r.bind fun f st => f.turn (fun l => k l st) st) D) :
    EndS K Bx ρ H r { D with nx := fun σ H => tS K B k D σ H, ct := fun σ H => tS K B k D σ H, bk := D.nx } := by
  cases r with
  | ok f st' =>
    cases f with
    | nx l => exact fun ρ' σ' H' y at1 => ⟨ρ', l, st', at1, by rw [hB]; exact EndS.mono (show EndS K Bx ρ H (k l st') D from h) y⟩
    | ct l => exact fun ρ' σ' H' y at1 => ⟨ρ', l, st', at1, by rw [hB]; exact EndS.mono (show EndS K Bx ρ H (k l st') D from h) y⟩
    | rt d => exact h
    | bk l => exact h
  | exc c fs st' => exact h
  | bad => exact h
theorem forL_cons (t : T) (body : Loc → Store → Res Flow) (x : D) (xs : List D) (l : Loc) (st : Store) :
    forL t body (x :: xs) l st = optR (setT t x l) fun l' => (body l' st).bind fun f st => f.turn (fun l => forL t body xs l st) st := rfl
theorem whlL_succ (tst : Loc → Store → Res Bool) (body : Loc → Store → Res Flow) (n : Nat) (l : Loc) (st : Store) :
    whlL tst body (n + 1) l st = (tst l st).bind fun b st => ifB b ((body l st).bind fun f st => f.turn (fun l => whlL tst body n l st) st) (.ok (.nx l) st) := rfl

section
variable {X : Cx} {κ : Kx} {B : L2.St → XW} {c : Expr} {mc : Loc → Store → Res Bool} {mI : Loc → Store → Res (List D)} {mb : Loc → Store → Res Flow} {pos : Pos} {body : List Stmt}
theorem sp_for {t : T} {tg iter : Expr} (hB : ∀ σ σ', B σ = B σ') (hp : PassesOwn (model X.prog X.w) X.A X.env X.xe) (hc : X.calm = true) (hi : PI X tg iter (eI X κ B mI)) (hg : PG X tg (gT (Cx.kit X κ) t)) (hb : PSs X body (eS X κ B mb)) (hs : noSet iter = true) :
    PS X (.For tg iter body [] pos) (eS X κ B fun l st => (mI l st).bind fun xs st => forL t mb xs l st) :=
  PS.imp (ps_for hp hc hi hg hb (noSet_it hs _)) fun D σ0 H ⟨ρ, l, st, at0, q⟩ => ⟨ρ, l, st, at0, EndS.bind q fun xs st1 ρ1 J H1 x1 s1 f1 q1 => by
    refine ⟨fun i m σ H' => m = xs.length - i ∧ i ≤ xs.length ∧ ∃ ρ' l' st', Ext κ.h ρ1 H1 ρ' H' ∧ At (Cx.kit X κ) ρ' H' l' σ st' ∧ EndS (Cx.kit X κ) (B σ0) ρ' H' (forL t mb (xs.drop i) l' st') D,
      ⟨xs.length, by simp, Nat.zero_le _, ρ1, l, st1, Ext.refl _ _, at0.go x1 s1, by simpa using q1⟩, ?_⟩
    rintro i m σ H' ⟨rfl, hi, ρ', l', st', x, at1, e⟩
    have f := f1 κ ρ' st' H' (Later.of_ext s1 x) at1.sim i
    by_cases hlt : i < xs.length
    · rw [List.drop_eq_getElem_cons hlt, forL_cons] at e
      refine .inr ⟨(f.1 _ (List.getElem?_eq_getElem hlt)).1, fun σ' H'' => tS (Cx.kit X κ) B (fun l st => forL t mb (xs.drop (i + 1)) l st) D σ' H'' ∧ ∃ ρ'' l'' st'', Ext κ.h ρ1 H1 ρ'' H'' ∧ At (Cx.kit X κ) ρ'' H'' l'' σ' st'' ∧ EndS (Cx.kit X κ) (B σ0) ρ'' H'' (forL t mb (xs.drop (i + 1)) l'' st'') D, fun σ' H'' w => ?_, fun x0 H2 hy => ?_⟩
      · obtain ⟨_, ρ'', l'', st'', x', at', e'⟩ := w
        exact ⟨xs.length - (i + 1), by omega, rfl, by omega, ρ'', l'', st'', x', at', e'⟩
      · obtain ⟨x2, s2, r2⟩ := (f.1 _ (List.getElem?_eq_getElem hlt)).2 x0 H2 hy
        cases hset : setT t xs[i] l' with
        | none => rw [hset] at e; exact e.elim
        | some l2 =>
          rw [hset] at e
          have e2 : EndS (Cx.kit X κ) (B σ0) ρ' H2 ((mb l2 st').bind fun f st => f.turn (fun l => forL t mb (xs.drop (i + 1)) l st) st) D := EndS.mono e x2
          refine ⟨ρ', l', st', xs[i], l2, s2, (at1.loc.mono at1.sim x2).ex _, r2, hset, fun σ' rl _ _ => ⟨ρ', l2, st', ⟨s2, rl, fun p hp => (at1.en p hp).trans x2⟩, ?_⟩⟩
          have xx := x.trans x2
          have e3 : EndS (Cx.kit X κ) (B σ') ρ' H2 ((mb l2 st').bind fun f st => f.turn (fun l => forL t mb (xs.drop (i + 1)) l st) st) D := by rw [hB σ' σ0]; exact e2
          cases hr : mb l2 st' with
          | bad => rw [hr] at e3; exact e3
          | exc c fs st2 => rw [hr] at e3; exact e3
          | ok f st2 =>
            rw [hr] at e3
            have go : ∀ l3, EndS (Cx.kit X κ) (B σ') ρ' H2 (forL t mb (xs.drop (i + 1)) l3 st2) D → ∀ ρ'' σ'' H'', Ext κ.h ρ' H2 ρ'' H'' → At (Cx.kit X κ) ρ'' H'' l3 σ'' st2 →
                (tS (Cx.kit X κ) B (fun l st => forL t mb (xs.drop (i + 1)) l st) D σ'' H'' ∧ ∃ ρ'' l'' st'', Ext κ.h ρ1 H1 ρ'' H'' ∧ At (Cx.kit X κ) ρ'' H'' l'' σ'' st'' ∧ EndS (Cx.kit X κ) (B σ0) ρ'' H'' (forL t mb (xs.drop (i + 1)) l'' st'') D) := fun l3 z ρ'' σ'' H'' y a => by
              have z' := EndS.mono z y
              exact ⟨⟨ρ'', l3, st2, a, by rw [hB σ'' σ']; exact z'⟩, ρ'', l3, st2, xx.trans y, a, by rw [hB σ0 σ']; exact z'⟩
            cases f with
            | nx l3 => exact go l3 e3
            | ct l3 => exact go l3 e3
            | rt d => exact e3
            | bk l3 => exact e3
    · have ee : i = xs.length := by omega
      subst ee
      rw [List.drop_length] at e
      exact .inl ⟨f.2 (List.getElem?_eq_none (Nat.le_refl _)), e ρ' σ H' (Ext.refl _ _) at1⟩⟩
theorem sp_whl {n : Nat} (hB : ∀ σ σ', B σ = B σ') (hp : PassesOwn (model X.prog X.w) X.A X.env X.xe) (hc : PT X c (eT X κ B mc)) (hb : PSs X body (eS X κ B mb)) :
    PS X (.While c body [] pos) (eS X κ B fun l st => whlL mc mb n l st) :=
  PS.imp (ps_while hp hc hb) fun D σ0 H ⟨ρ, l, st, at0, q⟩ => by
    refine ⟨fun m σ H' => ∃ ρ' l' st', At (Cx.kit X κ) ρ' H' l' σ st' ∧ EndS (Cx.kit X κ) (B σ0) ρ' H' (whlL mc mb m l' st') D, ⟨n, ρ, l, st, at0, q⟩, ?_⟩
    rintro m σ H' ⟨ρ', l', st', at1, e⟩
    cases m with
    | zero => exact e.elim
    | succ m =>
      rw [whlL_succ] at e
      refine ⟨ρ', l', st', at1, ?_⟩
      rw [hB σ σ0]
      refine EndS.bind e fun b st2 ρ2 b' H2 x2 s2 r2 e2 => ?_
      cases r2
      have at2 := at1.go x2 s2
      cases b with
      | false =>
        rw [if_neg (by decide)]
        exact e2 ρ2 σ H2 (Ext.refl _ _) at2
      | true =>
        rw [if_pos rfl]
        refine ⟨fun σ' H'' => ∃ ρ' l' st', At (Cx.kit X κ) ρ' H'' l' σ' st' ∧ EndS (Cx.kit X κ) (B σ0) ρ' H'' (whlL mc mb m l' st') D, fun σ' H'' w => ⟨m, Nat.lt_succ_self _, w⟩, ρ2, l', st2, at2, ?_⟩
        have e3 : EndS (Cx.kit X κ) (B σ) ρ2 H2 ((mb l' st2).bind fun f st => f.turn (fun l => whlL mc mb m l st) st) D := by rw [hB σ σ0]; exact e2
        cases hr : mb l' st2 with
        | bad => rw [hr] at e3; exact e3
        | exc c fs st3 => rw [hr] at e3; exact e3
        | ok f st3 =>
          rw [hr] at e3
          have go : ∀ l3, EndS (Cx.kit X κ) (B σ) ρ2 H2 (whlL mc mb m l3 st3) D → ∀ ρ'' σ'' H'', Ext κ.h ρ2 H2 ρ'' H'' → At (Cx.kit X κ) ρ'' H'' l3 σ'' st3 →
              ∃ ρ' l' st', At (Cx.kit X κ) ρ' H'' l' σ'' st' ∧ EndS (Cx.kit X κ) (B σ0) ρ' H'' (whlL mc mb m l' st') D := fun l3 z ρ'' σ'' H'' y a =>
            ⟨ρ'', l3, st3, a, by rw [hB σ0 σ]; exact EndS.mono z y⟩
          cases f with
          | nx l3 => exact go l3 e3
          | ct l3 => exact go l3 e3
          | rt d => exact e3
          | bk l3 => exact e3
/-! ### raise C() -/
theorem pmk_own0 {C : Addr} {bmB : List Value} {Bs newId initId : String} {x : Str} {p : Pos} (F : ExcBaseFacts Bs newId initId bmB) (q : PySem.W.excIn X.K C bmB newId = true) (gC : X.mg x = some (.ref C))
    (kC : PySem.W.keepIn X.K (.ref C) = true) (r : Raises X (.ref C)) (hg : Gl X x) (hdb : (x == ("__debug__" : Str)) = false) : PMk X (.Call (.Name x p) [] [] pos) (fun _ H Q => Q (.ref C) none H) := by
  intro pins s σ H Q I h
  refine wpAny_Call_Name_kw (ld_glob I hg gC ?_ hdb)
  refine PySem.W.callWith_K0 I.kIn kC ?_
  show wpAny _ _ (call (.ref C) []) _ _ _
  obtain ⟨hp1, g1, d1, tk1, os1⟩ := s
  obtain ⟨bm, N, nm, qn, bs, hdct, sn, sub, ab, col, dd, k0, k1, k2, k3, k5, mN, hC, hN, hni, T⟩ := exc_obj I.kIn q
  refine wpAny_call_exc_subT F T hC hN hni (fun h' e hm => ?_) (Nat.zero_le _)
  exact mk_of I hm r h (I.hok.gone hm.new)
theorem sp_rse {C : Nat} {bmB : List Value} {Bs newId initId : String} {x : Str} {p p2 : Pos} {W : WX} (F : ExcBaseFacts Bs newId initId bmB) (q : PySem.W.excIn X.K (κ.cl C) bmB newId = true) (gC : X.mg x = some (.ref (κ.cl C)))
    (kC : PySem.W.keepIn X.K (.ref (κ.cl C)) = true) (r : Raises X (.ref (κ.cl C))) (hg : Gl X x) (hdb : (x == ("__debug__" : Str)) = false) (hc : X.calm = true) (tk : Takes X W) (hW : ∀ σ c d H, B σ c d H → W (.ref (κ.cl c)) d σ H) :
    PS X (.Raise (some (.Call (.Name x p) [] [] p2)) none pos) (eS X κ B fun _ st => .exc C [] st) :=
  PS.imp (ps_raise hc tk (pmk_own0 F q gC kC r hg hdb)) fun D σ H ⟨ρ, l, st, at0, q⟩ => hW σ C none H (q ρ H none (Ext.refl _ _) at0.sim ⟨rfl, rfl⟩)
end
end Pm

set_option Elab.async false
set_option linter.all false
set_option maxRecDepth 100000
set_option maxHeartbeats 2000000
/-! Ev19: another frame; try. -/
namespace Pm
open PySem PySem.Spec PyProof.Rows L2
set_option autoImplicit false

/-! ### the frame's other facts are nothing to the data -/
section
variable {κ κ' : Kx} {F : PySem.W.Frag} {ρ : Rho} {H : Hp} {st : Store}
theorem hh_h (hh : κ.key = κ'.key) : κ.h = κ'.h := congrArg Prod.fst hh
theorem hh_c (hh : κ.key = κ'.key) : κ.cl = κ'.cl := congrArg Prod.snd hh
mutual
theorem RelD.kit (hh : κ.key = κ'.key) : ∀ {d : D} {v : V}, RelD ⟨κ, F⟩ ρ H d v → RelD ⟨κ', F⟩ ρ H d v
  | _, _, .non => .non
  | _, _, .bl b => .bl b
  | _, _, .int i => .int i
  | _, _, .str y => .str y
  | _, _, .tup h r => .tup h (RelDs.kit hh r)
  | _, _, .itp h r => .itp h (RelDs.kit hh r)
  | _, _, .lst h n r => .lst h n (RelDs.kit hh r)
  | _, _, .dct h n r => .dct h n (RelKs.kit hh r)
  | _, _, @RelD.err _ _ _ c a h => .err (show H a = some (ExO (.ref (κ'.cl c)) a) by rw [← hh_c hh]; exact h)
  | _, _, @RelD.errf _ _ _ c a d f x v fs h1 h2 h3 r => .errf (show H a = some (exo a (κ'.cl c) (some d)) by rw [← hh_c hh]; exact h1) h2 h3 (RelD.kit hh r)
  | _, _, .ver h => .ver h
  | _, _, .scr h => .scr h
  | _, _, @RelD.ref _ _ _ n a h => .ref (show ρ[κ'.h + n]? = _ by rw [← hh_h hh]; exact h)
  | _, _, @RelD.dead _ _ _ n v h => .dead (show ρ[κ'.h + n]? = _ by rw [← hh_h hh]; exact h)
theorem RelDs.kit (hh : κ.key = κ'.key) : ∀ {ds : List D} {vs : List V}, RelDs ⟨κ, F⟩ ρ H ds vs → RelDs ⟨κ', F⟩ ρ H ds vs
  | _, _, .nil => .nil
  | _, _, .cons h r => .cons (RelD.kit hh h) (RelDs.kit hh r)
theorem RelKs.kit (hh : κ.key = κ'.key) : ∀ {ds : List (DKey × D)} {vs : List (Key × V)}, RelKs ⟨κ, F⟩ ρ H ds vs → RelKs ⟨κ', F⟩ ρ H ds vs
  | _, _, .nil => .nil
  | _, _, .cons h r => .cons (RelD.kit hh h) (RelKs.kit hh r)
end
theorem RelOb.kit (hh : κ.key = κ'.key) {ob : Ob} {a : Addr} (r : RelOb ⟨κ, F⟩ ρ H ob a) : RelOb ⟨κ', F⟩ ρ H ob a := by
  cases ob with
  | lst ds => obtain ⟨vs, h1, h2⟩ := r; exact ⟨vs, h1, h2.kit hh⟩
  | dct ds => obtain ⟨vs, h1, h2⟩ := r; exact ⟨vs, h1, h2.kit hh⟩
  | dead => exact r
  | ins _ _ => exact r
theorem Sim.kit (hh : κ.key = κ'.key) (hT : κ'.T = κ.T) (s : Sim ⟨κ, F⟩ ρ st H) (hc : ∀ p ∈ κ'.cd, H p.1 = some p.2 ∧ ∃ φ, p.2 = HO.ext φ) : Sim ⟨κ', F⟩ ρ st H where
  len := by have := s.len; rw [this]; show κ.h + _ = κ'.h + _; rw [hh_h hh]
  inj := s.inj
  ob := fun n o e => by
    rcases s.ob n o e with ⟨q, e1⟩ | ⟨a, e1, r⟩
    · exact .inl ⟨q, show ρ[κ'.h + n]? = _ by rw [← hh_h hh]; exact e1⟩
    · exact .inr ⟨a, (show ρ[κ'.h + n]? = _ by rw [← hh_h hh]; exact e1), r.kit hh⟩
  hd := fun n a hn e => s.hd n a (show n < κ.h by rw [hh_h hh]; exact hn) e
  tab := by show LamX.Tabs κ'.T H; rw [hT]; exact s.tab
  cd := hc
end

section
variable {X : Cx} {κ : Kx} {c i : Nat} {x n : Str} {body suite : List Stmt} {b₀ : Stmt} {np pos pos' : Pos} {mb : Loc → Store → Res Flow} {mh : Nat → Loc → Store → Res Flow} {Wout : WX} {P : Par}
abbrev Kx.put (κ : Kx) (i : Nat) (a : Addr) : Kx := { κ with fx := (i, a) :: κ.fx }
theorem clear_rel {K : Kit} {ρ : Rho} {H : Hp} {l : Loc} {σ : L2.St} {i : Nat} {a : Addr} {κ : Kx} {F : PySem.W.Frag} (hf : i ∉ κ.fx.map (·.1)) (r : RelL ⟨κ.put i a, F⟩ ρ H l σ) : RelL ⟨κ, F⟩ ρ H (l.set i none) (σ.set i none) := by
  refine ⟨by rw [List.length_set, List.length_set]; exact r.1, fun j d e => ?_, fun p hp => ?_⟩
  · by_cases hij : i = j
    · subst hij
      rw [List.getElem?_set] at e
      simp at e
    · rw [List.getElem?_set_ne hij] at e
      obtain ⟨v, h1, h2⟩ := r.2.1 j d e
      exact ⟨v, by rw [List.getElem?_set_ne hij]; exact h1, h2.kit (κ := κ.put i a) (κ' := κ) rfl⟩
  · have hpi : i ≠ p.1 := fun z => hf (by rw [z]; exact List.mem_map_of_mem hp)
    rw [List.getElem?_set_ne hpi]
    exact r.2.2 p (List.mem_cons_of_mem _ hp)
theorem put_rel {ρ : Rho} {H : Hp} {l : Loc} {σ : L2.St} {i : Nat} {a : Addr} {κ : Kx} {F : PySem.W.Frag} (hi : i < σ.length) (hf : i ∉ κ.fx.map (·.1)) (r : RelL ⟨κ, F⟩ ρ H l σ) : RelL ⟨κ.put i a, F⟩ ρ H (l.set i none) (σ.set i (some (.ref a))) := by
  refine ⟨by rw [List.length_set, List.length_set]; exact r.1, fun j d e => ?_, fun p hp => ?_⟩
  · by_cases hij : i = j
    · subst hij
      rw [List.getElem?_set] at e
      simp at e
    · rw [List.getElem?_set_ne hij] at e
      obtain ⟨v, h1, h2⟩ := r.2.1 j d e
      exact ⟨v, by rw [List.getElem?_set_ne hij]; exact h1, h2.kit (κ := κ) (κ' := κ.put i a) rfl⟩
  · rcases List.mem_cons.mp hp with e | e
    · subst e
      exact List.getElem?_set_self hi
    · have hpi : i ≠ p.1 := fun z => hf (by rw [z]; exact List.mem_map_of_mem e)
      rw [List.getElem?_set_ne hpi]
      exact r.2.2 p e
theorem sp_try (hs : X.stack = X.env :: X.outer) (hf : X.env.frame = some X.env.locals) (hN : X.N.Nodup) (hi : X.N[i]? = some n) (hln : X.env.kindOf n = some .local) (hc : Names X x (.ref (κ.cl c))) (tk : Takes X Wout)
    (hfx : i ∉ κ.fx.map (·.1)) (hex : ∀ k, k < P.ncl → PySem.W.exmOne X.K (.ref (κ.cl k)) (.ref (κ.cl c)) = some ((P.anc k).contains c))
    (hb : ∀ (W : WX) (pn : List (Addr × Obj)) (xe : Value → Shared → Prop), Takes (X.tr pn xe) W → PassesOwn (model X.prog X.w) X.A X.env xe → PSs (X.tr pn xe) body (eS X κ (BXs κ (WE W)) mb))
    (hsu : ∀ (a : Addr) (oe : Obj) (k : Nat) (pn : List (Addr × Obj)), k < P.ncl → Zc (.ref (κ.cl k)) none oe → (∃ vs, oe.data = .fields vs) → PSs (X.suite a ((a, oe) :: pn)) (b₀ :: suite) (eS X (κ.put i a) B0 (mh k))) :
    PS X (.Try body [.ExceptHandler (some (.Name x np)) (some n) (b₀ :: suite) pos'] [] [] pos)
      (eS X κ (BXs κ (WE Wout)) fun l st => (mb l st).tried (P.catches c) fun k st => ((mh k (l.set i none) st).calm).bind fun f st => f.out i st) := by
  have hrule := ps_try_as (pos := pos) (pos' := pos') (np := np) (tb := fun W => eS X κ (BXs κ (WE W)) mb) (ts := fun a cls d D σ H => ∃ k, k < P.ncl ∧ cls = .ref (κ.cl k) ∧ d = none ∧ eS X (κ.put i a) B0 (mh k) D σ H) hs hf hN hi hln hc tk hb (suite := suite) (b₀ := b₀) fun a oe cls d pn hz hv => ⟨fun pins s σ H D I ⟨k, hk, e1, e2, h⟩ => by
    subst e1 e2
    exact (hsu a oe k pn hk hz hv).run pins s σ H D I h⟩
  refine ⟨fun pins s σ H D I ⟨ρ, l, st, at0, q⟩ => hrule.run pins s σ H D I ⟨ρ, l, st, at0, ?_⟩⟩
  · dsimp only at q
    have hil : i < σ.length := by rw [I.len]; exact (List.getElem?_eq_some_iff.mp hi).1
    cases hr : mb l st with
    | bad => rw [hr] at q; exact q
    | ok f st1 => rw [hr] at q; cases f <;> exact q
    | exc k fs st1 =>
      rw [hr] at q
      intro ρ' H' dx x1 s1 hx
      obtain ⟨hfs, hdx⟩ := hx
      subst hdx
      simp only [Res.tried] at q
      cases hca : P.catches c k with
      | none => rw [hca] at q; exact q.elim
      | some b =>
        rw [hca] at q
        unfold Par.catches at hca
        split at hca
        · rename_i hk
          cases hca
          refine ⟨_, hex k hk, fun hbt a hn => ⟨k, hk, rfl, rfl, ρ', l.set i none, st1, ⟨s1.kit (κ := κ) (κ' := κ.put i a) rfl rfl s1.cd, put_rel hil hfx (at0.go x1 s1).loc, (at0.go x1 s1).en⟩, ?_⟩, fun hbf => ?_⟩
          · rw [hbt] at q
            have q' := EndS.mono (show EndS (Cx.kit X κ) (BXs κ (WE Wout) σ) ρ H (((mh k (l.set i none) st1).calm).bind fun f st => f.out i st) D from q) x1
            cases hm : mh k (l.set i none) st1 with
            | bad => rw [hm] at q'; exact q'
            | exc k2 fs2 st2 => rw [hm] at q'; exact q'.elim
            | ok f st2 =>
              rw [hm] at q'
              cases f with
              | nx l2 => exact fun ρ2 σ2 H2 x2 a2 => q' ρ2 _ H2 x2 ⟨a2.sim.kit (κ := κ.put i a) (κ' := κ) rfl rfl a2.sim.cd, clear_rel (K := Cx.kit X κ) hfx a2.loc, a2.en⟩
              | rt d => exact fun ρ2 v H2 x2 s2 r2 => q' ρ2 v H2 x2 (s2.kit (κ := κ.put i a) (κ' := κ) rfl rfl s2.cd) (r2.kit (κ := κ.put i a) (κ' := κ) rfl)
              | bk l2 => exact q'.elim
              | ct l2 => exact q'.elim
          · rw [hbf] at q
            exact q ρ' H' none x1 s1 ⟨hfs, rfl⟩
        · cases hca
end
end Pm

set_option Elab.async false
set_option linter.all false
set_option maxRecDepth 100000
set_option maxHeartbeats 2000000
/-! Ev20: a lambda handed to a def; the def calls it. -/
namespace Pm
open PySem PySem.Spec PyProof.Rows L2 LamX
set_option autoImplicit false

/-- room for so many calls, and nothing is being shown -/
structure RoomG (k : Nat) (A : Around) : Prop where
  r : Room k A
  g : A.guards = some []
theorem RoomG.mono {j k : Nat} {A : Around} (x : RoomG k A) (h : j ≤ k) : RoomG j A := ⟨x.r.mono h, x.g⟩
theorem RoomG.deeper {k : Nat} {A : Around} (x : RoomG (k + 1) A) (env : Env) : RoomG k (A.deeper env) := ⟨x.r.deeper env, x.g⟩
/-! ### the call of what was handed -/
section
variable {X : Cx} {s s1 : Shared} {σ : L2.St} {H HZ : Hp} {pins : List (Addr × Obj)}
/-- x(), in the def that got the lambda; what goes out may tell of the def's slots -/
theorem act_at {CXg : CXT} {Ex1 : XK} {Ng : List Str} {qg : Str} {sg : Scope} {g f c' : Addr} {cdg pm ctv : Value} {params : Arguments} {body : Expr} {scope : Scope} {k i : Nat} {a : Str} {pn : List (Addr × Obj)} {xe : Value → Shared → Prop} {W : WX} {t : XK → TE} {p1 pb2 : Pos}
    (I : L2.Inv X pins σ H s) (L : LamS X.env.scope scope) (hf : s.heap.get? f = some (PySem.W.kla_obj "<lambda>" (X.env.qual ++ "<lambda>") params body scope (cloFrom X.env.cells scope.names []) pm c' ctv)) (hfn : H f = none) (hfr : f ∉ frs X.stack)
    (hbnd : bindArgs (PySem.W.kla_fn "<lambda>" (X.env.qual ++ "<lambda>") params body scope (cloFrom X.env.cells scope.names []) pm (.ref c') ctv) ⟨[], []⟩ = pure [])
    (tk : Takes ((cxOf CXg X.prog X.w X.K X.mg X.base Ng qg sg g cdg X.A X.stack s H Ex1).tr pn xe) W) (hr : RoomG (k + 1) (X.A.deeper (envOfC qg sg s.heap.objs.size g cdg)))
    (hbod : ∀ (A : Around) (outer : List Env) (s : Shared) (H : Hp) (E : XK), RoomG k (A.deeper (lamEnv X scope s.heap.objs.size f c')) → PE (lamCx X A outer s H E scope f c') body (t E))
    (hN : Ng[i]? = some a) (hv : Vis sg a) (hd : (a == ("__debug__" : Str)) = false) (hcd : (a == ("__classdict__" : Str)) = false) :
    PE ((cxOf CXg X.prog X.w X.K X.mg X.base Ng qg sg g cdg X.A X.stack s H Ex1).tr pn xe) (.Call (.Name a p1) [] [] pb2)
      (fun σZ HZ Q => σZ[i]? = some (some (.ref f)) ∧ HZ c' = some (CodeO c' (X.env.qual ++ "<lambda>")) ∧ t (WE W σZ) σ HZ Q) := by
  refine ⟨fun pinsZ sZ σZ HZ Q IZ h => ?_⟩
  obtain ⟨hs, hc, ht⟩ := h
  refine wpAny_Call_Name_kw (thn ((pe_var (pos := p1) (i := i) hN hv hd hcd).run pinsZ sZ σZ HZ (fun v H1 => v = .ref f ∧ H1 = HZ) IZ ⟨.ref f, hs, rfl, rfl⟩) fun u s1 ⟨v, H1, I1, r1, ev, eH⟩ => ?_)
  subst ev
  rw [eH] at I1
  obtain rfl : u = Value.ref f := r1
  have ofd : s1.heap.get? f = some (PySem.W.kla_obj "<lambda>" (X.env.qual ++ "<lambda>") params body scope (cloFrom X.env.cells scope.names []) pm c' ctv) := I1.base.keep f _ hf hfn hfr (fun z => nomatch (show f ∈ ([] : List Addr) from z))
  refine PySem.W.callWith_F0 ⟨_, _, _, _, ofd⟩ ?_
  obtain ⟨⟨oc, vs, t0, hoc, hdc, hvc⟩, _, _⟩ := I1.hok c' _ hc
  have hx : PassesAt (L2.CX X.prog X.w) ((cxOf CXg X.prog X.w X.K X.mg X.base Ng qg sg g cdg X.A X.stack s H Ex1).tr pn xe) σZ (WE W σZ) := passAt tk σZ
  have rcd : codeAny (model X.prog X.w) (X.A.deeper (envOfC qg sg s.heap.objs.size g cdg)) (.call (.ref f) ⟨[], []⟩) (CR (L2.CX X.prog X.w) (envOfC qg sg s.heap.objs.size g cdg :: X.stack) X.prog X.w HZ s1 Q (WE W σZ)) s1 := by
    refine PySem.W.kla_callFunE hr.r.depth ofd rfl L.co L.gen rfl ⟨c', oc, vs, t0, rfl, hoc, hdc, hvc⟩ ?_
    rw [hbnd]
    refine wpAny_pure (wpAny_newFunctionEnv (fun y hy => (L.own y hy).2) (fun y hy => absurd hy (by simp)) (fun hp1 hns hsb1 => ⟨I1.nolimit.fresh _ hsb1, ?_⟩) L.kind)
    change codeAny _ _ (.expr body (lamEnv X scope s1.heap.objs.size f c')) _ _
    have kps : ∀ b o, s1.heap.get? b = some o → hp1.get? b = some o := fun b o e => hsb1.extBut b o (Nat.ne_of_lt (Heap.lt_size e)) (Heap.get?_push_of_some _ e)
    have J : L2.Inv (lamCx X (X.A.deeper (envOfC qg sg s.heap.objs.size g cdg)) (envOfC qg sg s.heap.objs.size g cdg :: X.stack) s1 HZ (WE W σZ) scope f c') [] σ HZ { s1 with heap := hp1, toks := s1.toks + ([] : List (Str × Value)).length } :=
      lam_start2 I L I1.env0 hr.r.hd I1.base hns kps
    refine PySem.W.kla_codeExpr (wpAny_mono ((hbod _ _ s1 HZ (WE W σZ) (hr.deeper _)).run [] _ _ HZ Q J ht) (fun v s' hq => ?_) fun e s' hq => hq)
    obtain ⟨w', H', J', rv, q⟩ := hq
    exact ⟨w', H', J'.os, J'.bare, J'.base, J'.hok, rv, q⟩
  refine wpAny_call (codeAny_mono rcd fun r s' hq => ?_)
  · cases r with
    | error e => exact hx pinsZ HZ s1 e s' I1 hq
    | ok fl =>
      cases fl with
      | ret u => exact I1.after hq
      | next => exact False.elim hq
      | brk => exact False.elim hq
      | cont => exact False.elim hq
end

/-! ### x(lambda: body) -/
abbrev cxG (X : Cx) (Ng : List Str) (x : Str) (sg : Scope) (g : Addr) (cdg : Value) (s : Shared) (H : Hp) : Cx := cxOf C8.CX0 X.prog X.w X.K X.mg X.base Ng x sg g cdg X.A X.stack s H C8.E0
def Gives (kk : Nat) (X : Cx) (Ng : List Str) (x : Str) (sg : Scope) (g : Addr) (cdg : Value) (bg : List Stmt) (a q : Str) (TT : (XK → Hp → VK → Prop) → Hp → VK → Prop) : Prop :=
  ∀ (f c' : Addr) (s : Shared) (H : Hp) (Q : VK) (t : XK → Hp → VK → Prop),
    (∀ (W : WX) (pn : List (Addr × Obj)) (xe : Value → Shared → Prop) (p1 pb2 : Pos), Takes ((cxG X Ng x sg g cdg s H).tr pn xe) W →
      PE ((cxG X Ng x sg g cdg s H).tr pn xe) (.Call (.Name a p1) [] [] pb2) (fun σZ HZ Q => σZ[0]? = some (some (.ref f)) ∧ HZ c' = some (CodeO c' q) ∧ t (WE W σZ) HZ Q)) →
    H c' = some (CodeO c' q) → RoomG kk (X.A.deeper (envOfC x sg s.heap.objs.size g cdg)) → TT t H Q → ∃ u, PSs (cxG X Ng x sg g cdg s H).nox bg u ∧ u { nx := fun _ H' => Q .non H', rt := Q } (L2.start Ng [.ref f]) H
section
variable {X : Cx}
theorem lam_call {T : List (Addr × Str)} {TT : (XK → Hp → VK → Prop) → Hp → VK → Prop} {x a : Str} {g c P : Addr} {k : Nat} {pg : Arguments} {bg : List Stmt} {sg : Scope} {dV kV doc pm cdv ct oc : Value} {an od : Option Addr} {ols : Array (Option Value)} {Ng : List Str}
    {params : Arguments} {body : Expr} {scope : Scope} {t : XK → TE} {p lps ps0 : Pos} (hg : Gl X x) (hm : X.mg x = some (.ref g)) (hkp : PySem.W.keepIn X.K (.ref g) = true)
    (lkk : X.K.lookup g = some ⟨oc, od, .func (PySem.W.fnOf x x pg bg sg dV kV doc pm an cdv ct), ols⟩) (hcx : PySem.W.codeIn X.K cdv x = true) (hb : L2.Binds X.K (PySem.W.fnOf x x pg bg sg dV kV doc pm an cdv ct) [a] []) (Sg : FnScope Ng [a] sg) (hNg : Ng[0]? = some a) (hva : Vis sg a)
    (hG : Gives (k + 1) X Ng x sg g cdv bg a (X.env.qual ++ "<lambda>") TT)
    (tbb : TabB X.base X.mg c P) (hcode : X.env.code = .ref c) (hmt : (P, X.env.qual ++ "<lambda>") ∈ T) (hu : ∀ p ∈ T, p.1 = P → p.2 = X.env.qual ++ "<lambda>") (hr : RoomG (k + 2) X.A) (L : LamS X.env.scope scope) (hdef : defaultsOf params X.env = ([], []))
    (hbnd : ∀ (q : Str) (cl : List (Str × Addr)) (pm cv ctv : Value), bindArgs (PySem.W.kla_fn "<lambda>" q params body scope cl pm cv ctv) ⟨[], []⟩ = pure [])
    (hbod : ∀ (A : Around) (outer : List Env) (s : Shared) (H : Hp) (E : XK) (f c' : Addr), RoomG k (A.deeper (lamEnv X scope s.heap.objs.size f c')) → PE (lamCx X A outer s H E scope f c') body (t E))
    (hdb : (x == ("__debug__" : Str)) = false) (hd : (a == ("__debug__" : Str)) = false) (hcd : (a == ("__classdict__" : Str)) = false) :
    PE X (.Call (.Name x p) [.Lambda params body scope lps] [] ps0) (tLam T TT t) := by
  refine ⟨fun pins s σ H Q I ⟨hT, h⟩ => ?_⟩
  refine wpAny_Call_Name_kw (ld_glob I hg hm ?_ hdb)
  refine PySem.W.callWith_K (h₀ := X.base) I.ok.mod.kin hkp ?_ (by rfl) (by rfl)
  show wpAny _ _ (spliced ((false, eval (.Lambda params body scope lps) X.env) :: backTo ps0 (starEach [] X.env))) _ _ s
  refine Calls.spliced_cons (lam_make2 I tbb hcode hmt hu hT hdef (L.has I.ok) fun f c' pm' ctv H1 s' I1 eN T1 hf hfn hfr hco => ?_)
  refine Calls.spliced_nil ⟨I1.kIn, ?_⟩
  have rcd : codeAny (model X.prog X.w) X.A (.call (.ref g) ⟨[.ref f], []⟩) (CR C8.CX0 X.stack X.prog X.w H1 s' Q C8.E0) s' := by
    refine run_ofS (N := Ng) (ps := [a]) (us := [.ref f]) (vs := [.ref f]) lkk hcx Sg hr.r I1.env0 (hb s' [.ref f] I1.kIn rfl) (.cons rfl .nil) rfl fun hr' => ?_
    obtain ⟨t', ht', hq'⟩ := hG f c' s' H1 Q (fun E H' Q' => t E σ H' Q') (fun W pn xe p1 pb2 tk => act_at (i := 0) I1 L hf hfn hfr (hbnd _ _ _ _ _) tk ⟨hr', hr.g⟩ (fun A outer s H E hr2 => hbod A outer s H E f c' hr2) hNg hva hd hcd) hco ⟨hr', hr.g⟩ (h H1 eN T1)
    exact ⟨t', ht'.nox, hq'⟩
  refine wpAny_call (codeAny_mono rcd fun r s2 hq => ?_)
  cases r with
  | error e => exact (show False from hq).elim
  | ok fl =>
    cases fl with
    | ret u => exact I1.after hq
    | next => exact False.elim hq
    | brk => exact False.elim hq
    | cont => exact False.elim hq

variable {κ : Kx} {B : L2.St → XW}
/-- what the def is handed, as the evaluator tells it -/
def TTD (κ : Kx) (K : PySem.W.Frag) (mc : M → Store → Res D) : (XK → Hp → VK → Prop) → Hp → VK → Prop := fun tl H Q => ∃ ρ st th, Sim ⟨κ, K⟩ ρ st H ∧
  (∀ ρ2 st2 H2 E Q2, Ext κ.h ρ H ρ2 H2 → Sim ⟨κ, K⟩ ρ2 st2 H2 → EndG ⟨κ, K⟩ (BX κ E) (RE ⟨κ, K⟩ false) ρ2 H2 (th st2) Q2 → tl E H2 Q2) ∧
  EndG ⟨κ, K⟩ (fun _ _ _ => False) (RE ⟨κ, K⟩ false) ρ H (mc th st) Q
theorem ext_tab {K : Kit} {ρ : Rho} {st : Store} {H H1 : Hp} (s : Sim K ρ st H) (e : ExtN H H1) : Ext K.h ρ H ρ H1 where
  len := Nat.le_refl _
  old := fun _ _ => .inl rfl
  new := fun n a hn e => (by rw [List.getElem?_eq_none hn] at e; exact nomatch e)
  keep := fun a o h _ c => e a o h c
  dom := fun a f o h => by
    cases o with
    | tbl ps => exact ⟨ps, rfl⟩
    | _ => exact (f.no (e a _ h nofun) nofun).elim
  hid := fun n a hn h => ⟨h, fun o ho => by
    obtain ⟨u, h1, h2⟩ := s.hd n a hn h
    rw [h1] at ho
    cases ho
    exact e a _ h1 fun ps z => by rw [z] at h2; cases h2⟩
theorem sim_tab {K : Kit} {ρ : Rho} {st : Store} {H H1 : Hp} (s : Sim K ρ st H) (e : ExtN H H1) (t : Tabs K.T H1) : Sim K ρ st H1 where
  len := s.len
  inj := s.inj
  ob := fun n o h => by
    have x := ext_tab s e
    rcases s.ob n o h with q | ⟨a, e1, r⟩
    · exact .inl q
    · refine .inr ⟨a, e1, ?_⟩
      cases o with
      | lst ds => obtain ⟨vs, h1, h2⟩ := r; exact ⟨vs, e a _ h1 nofun, RelDs.mono s x h2⟩
      | dct ds => obtain ⟨vs, h1, h2⟩ := r; exact ⟨vs, e a _ h1 nofun, RelKs.mono s x h2⟩
      | dead => exact r
      | ins _ _ => exact r
  hd := fun n a hn h => by
    obtain ⟨u, h1, h2⟩ := s.hd n a hn h
    exact ⟨u, e a _ h1 (fun ps z => by rw [z] at h2; cases h2), h2⟩
  cd := fun p hp => by
    obtain ⟨h1, φ, h2⟩ := s.cd p hp
    exact ⟨e _ _ h1 (fun ps z => by rw [h2] at z; cases z), φ, h2⟩
  tab := t
/-- the end of a run where nothing goes out -/
theorem EndG.calm {α β : Type} {K : Kit} {B B' : XW} {R : Rho → Store → Hp → Hp → α → β → Prop} {ρ : Rho} {H : Hp} {r : Res α} {Q : β → Hp → Prop} (h : EndG K B R ρ H r.calm Q) : EndG K B' R ρ H r.calm Q := by
  cases r with
  | ok a st => exact h
  | exc c fs st => exact h.elim
  | bad => exact h
/-- the reading of x(lambda: ..) -/
theorem thk_read {T : List (Addr × Str)} {mc : M → Store → Res D} {mb : Loc → Store → Res D} (hT : κ.T = T) {fb : Bool} :
    ∀ σ H Q, eE X κ B false (fun l st => (mc (mb l) st).calm) σ H Q → tLam T (TTD κ X.K fun th st => (mc th st).calm) (fun E => tE ⟨κ, X.K⟩ (fun _ => BX κ E) fb mb) σ H Q := by
  subst hT
  intro σ H Q ⟨ρ, l, st, at0, q⟩
  refine ⟨at0.sim.tab, fun H1 e t => ⟨ρ, st, mb l, sim_tab at0.sim e t, fun ρ2 st2 H2 E Q2 x s2 q2 => ?_, EndG.calm (EndG.mono RE.back q (ext_tab at0.sim e))⟩⟩
  have x1 : Ext κ.h ρ H ρ2 H2 := (ext_tab at0.sim e).trans x
  exact ⟨ρ2, l, st2, at0.go x1 s2, EndG.weak q2⟩
/-- the call of what was handed, in the def -/
theorem frc_read {t : XK → Hp → VK → Prop} {th : M} {W : WX} {f c' : Addr} {q : Str} {ρ0 : Rho} {H0 : Hp} {κ0 : Kx} {F : PySem.W.Frag} (h0 : (0, f) ∈ κ.fx) (hc : (c', CodeO c' q) ∈ κ.cd) (hh : κ0.h = κ.h) (hT : κ0.T = κ.T) (hcl : κ0.cl = κ.cl) (hcd0 : κ0.cd = []) (hen : (ρ0, H0) ∈ κ.en)
    (h : ∀ ρ2 st2 H2 E Q2, Ext κ.h ρ0 H0 ρ2 H2 → Sim ⟨κ0, F⟩ ρ2 st2 H2 → EndG ⟨κ0, F⟩ (BX κ0 E) (RE ⟨κ0, F⟩ false) ρ2 H2 (th st2) Q2 → t E H2 Q2) :
    ∀ (σ : L2.St) (H : Hp) (Q : VK), (∃ ρ l st, At ⟨κ, F⟩ ρ H l σ st ∧ EndG ⟨κ, F⟩ (BX κ (WE W σ)) (RE ⟨κ, F⟩ false) ρ H (th st) Q) → σ[0]? = some (some (.ref f)) ∧ H c' = some (CodeO c' q) ∧ t (WE W σ) H Q := by
  intro σ H Q ⟨ρ, l, st, at0, e⟩
  have hk : κ0.key = κ.key := by show (κ0.h, κ0.cl) = (κ.h, κ.cl); rw [hh, hcl]
  have x : Ext κ.h ρ0 H0 ρ H := at0.en _ hen
  have hcd : ∀ {ρ' : Rho} {H' : Hp}, Ext κ.h ρ H ρ' H' → ∀ p ∈ κ.cd, H' p.1 = some p.2 ∧ ∃ φ, p.2 = HO.ext φ := fun {ρ' H'} y p hp => by
    obtain ⟨h1, φ, h2⟩ := at0.sim.cd p hp
    exact ⟨y.keep _ _ h1 (at0.sim.nolive h1 (by rw [h2]; rfl)) (by rw [h2]; intro ps z; cases z), φ, h2⟩
  have s0 : Sim ⟨κ0, F⟩ ρ st H := at0.sim.kit (κ := κ) (κ' := κ0) hk.symm hT (by rw [hcd0]; exact fun p hp => nomatch hp)
  refine ⟨at0.loc.2.2 _ h0, (at0.sim.cd _ hc).1, h ρ st H _ Q x s0 ?_⟩
  have hB : BX κ0 (WE W σ) = BX κ (WE W σ) := by unfold BX; rw [hcl]
  rw [hB]
  cases hr : th st with
  | bad => rw [hr] at e; exact e
  | ok d st' =>
    rw [hr] at e
    exact fun ρ' v H' y s r => e ρ' v H' (by rw [← hh]; exact y) (s.kit (κ := κ0) (κ' := κ) hk hT.symm (hcd (by rw [← hh]; exact y))) ⟨r.1.kit (κ := κ0) (κ' := κ) hk, fun z => nomatch z⟩
  | exc c fs st' =>
    rw [hr] at e
    exact fun ρ' H' dx y s z => e ρ' H' dx (by rw [← hh]; exact y) (s.kit (κ := κ0) (κ' := κ) hk hT.symm (hcd (by rw [← hh]; exact y))) z
end
end Pm

set_option Elab.async false
set_option linter.all false
set_option maxRecDepth 100000
set_option maxHeartbeats 2000000
/-! Ev21: into the store, out of it. -/
namespace Pm
open PySem PySem.Spec PyProof.Rows L2
set_option autoImplicit false

section
variable {K : Kit} {ρ : Rho} {st : Store} {H : Hp} {a : Addr} {o : HO} {ob : Ob}
theorem ext_box (h0 : H a = none) : Ext K.h ρ H (ρ ++ [some a]) (upd H a o) where
  len := by simp
  old := fun n hn => .inl (List.getElem?_append_left hn)
  new := fun n b hn e => by
    rw [List.getElem?_append_right hn] at e
    cases hm : n - ρ.length with
    | zero => rw [hm] at e; simp at e; subst e; exact Free.of h0
    | succ m => rw [hm] at e; simp at e
  keep := fun b u e _ _ => by rw [upd_ne (ne_of_none e h0)]; exact e
  dom := fun b f => by
    by_cases h : b = a
    · subst h; exact Free.of h0
    · exact fun u q => f u (by rw [upd_ne h]; exact q)
  hid := fun n b _ e => ⟨by rw [List.getElem?_append_left (List.getElem?_eq_some_iff.mp e).1]; exact e, fun u z => by rw [upd_ne (ne_of_none z h0)]; exact z⟩
theorem sim_box (s : Sim K ρ st H) (h0 : H a = none) (hob : RelOb K (ρ ++ [some a]) (upd H a o) ob a) : Sim K (ρ ++ [some a]) (st ++ [ob]) (upd H a o) where
  len := by rw [List.length_append, List.length_append, s.len]; simp; omega
  inj := fun n m b h1 h2 => by
    have key : ∀ n, (ρ ++ [some a])[n]? = some (some b) → (n < ρ.length ∧ ρ[n]? = some (some b)) ∨ (n = ρ.length ∧ b = a) := fun n h => by
      by_cases hn : n < ρ.length
      · rw [List.getElem?_append_left hn] at h; exact .inl ⟨hn, h⟩
      · rw [List.getElem?_append_right (Nat.le_of_not_lt hn)] at h
        cases hm : n - ρ.length with
        | zero => rw [hm] at h; simp at h; exact .inr ⟨by omega, h.symm⟩
        | succ m => rw [hm] at h; simp at h
    rcases key n h1 with ⟨_, e1⟩ | ⟨e1, z1⟩
    · rcases key m h2 with ⟨_, e2⟩ | ⟨e2, z2⟩
      · exact s.inj n m b e1 e2
      · subst z2; exact (new_free s h0 (mem_rho.mpr ⟨n, e1⟩)).elim
    · rcases key m h2 with ⟨_, e2⟩ | ⟨e2, z2⟩
      · subst z1; exact (new_free s h0 (mem_rho.mpr ⟨m, e2⟩)).elim
      · omega
  ob := fun n u e => by
    have x : Ext K.h ρ H (ρ ++ [some a]) (upd H a o) := ext_box h0
    by_cases hn : n < st.length
    · rw [List.getElem?_append_left hn] at e
      have hl : K.h + n < ρ.length := by rw [s.len]; omega
      rcases s.ob n u e with ⟨q, e1⟩ | ⟨b, e1, r⟩
      · exact .inl ⟨q, by rw [List.getElem?_append_left hl]; exact e1⟩
      · refine .inr ⟨b, by rw [List.getElem?_append_left hl]; exact e1, ?_⟩
        cases u with
        | lst ds => obtain ⟨vs, h1, h2⟩ := r; exact ⟨vs, by rw [upd_ne (ne_of_none h1 h0)]; exact h1, RelDs.mono s x h2⟩
        | dct ds => obtain ⟨vs, h1, h2⟩ := r; exact ⟨vs, by rw [upd_ne (ne_of_none h1 h0)]; exact h1, RelKs.mono s x h2⟩
        | dead => exact r
        | ins _ _ => exact r
    · rw [List.getElem?_append_right (Nat.le_of_not_lt hn)] at e
      cases hm : n - st.length with
      | zero =>
        rw [hm] at e
        simp at e
        subst e
        refine .inr ⟨a, ?_, hob⟩
        have : K.h + n = ρ.length := by rw [s.len]; omega
        rw [this, List.getElem?_append_right (Nat.le_refl _)]
        simp
      | succ m => rw [hm] at e; simp at e
  hd := fun n b hn e => by
    have hl : n < ρ.length := by rw [s.len]; omega
    rw [List.getElem?_append_left hl] at e
    obtain ⟨u, h1, h2⟩ := s.hd n b hn e
    exact ⟨u, by rw [upd_ne (ne_of_none h1 h0)]; exact h1, h2⟩
  tab := s.tab.ext fun b u e => by rw [upd_ne (ne_of_none e h0)]; exact e
  cd := fun q hq => let ⟨h1, h2⟩ := s.cd q hq; ⟨by rw [upd_ne (ne_of_none h1 h0)]; exact h1, h2⟩
theorem ext_more {ρ' : Rho} {H' : Hp} (x : Ext K.h ρ H ρ' H') (hf : Free H a) : Ext K.h ρ H (ρ' ++ [some a]) H' where
  len := Nat.le_trans x.len (by simp)
  old := fun n hn => by rw [List.getElem?_append_left (Nat.lt_of_lt_of_le hn x.len)]; exact x.old n hn
  new := fun n b hn e => by
    by_cases hl : n < ρ'.length
    · rw [List.getElem?_append_left hl] at e; exact x.new n b hn e
    · rw [List.getElem?_append_right (Nat.le_of_not_lt hl)] at e
      cases hm : n - ρ'.length with
      | zero => rw [hm] at e; simp at e; subst e; exact hf
      | succ m => rw [hm] at e; simp at e
  keep := x.keep
  dom := x.dom
  hid := fun n b hn e => by
    obtain ⟨h1, h2⟩ := x.hid n b hn e
    exact ⟨by rw [List.getElem?_append_left (List.getElem?_eq_some_iff.mp h1).1]; exact h1, h2⟩
theorem at_box (s : Sim K ρ st H) : (ρ ++ [some a])[K.h + st.length]? = some (some a) := by
  rw [← s.len, List.getElem?_append_right (Nat.le_refl _)]
  simp
end
section
variable {X : Cx} {κ : Kx} {B : L2.St → XW} {e : Expr} {m : Loc → Store → Res D} {i : Nat}
theorem se_box (h : PE X e (eE X κ B true m)) : PE X e (eE X κ B false fun l st => (m l st).bind fun x st => boxD x st) :=
  PE.imp h fun σ H Q ⟨ρ, l, st, at0, q⟩ => ⟨ρ, l, st, at0, by
    dsimp only at q
    cases hr : m l st with
    | bad => rw [hr] at q; exact q
    | exc c fs st1 => rw [hr] at q; exact q
    | ok d st1 =>
      rw [hr] at q
      intro ρ' v H' x s r
      cases d with
      | lst xs =>
        obtain ⟨a, H0, rfl, hf, h0, s0, ⟨ds, vs, e1, rfl, rs⟩ | ⟨ds, vs, e1, _⟩⟩ := r.2 rfl rfl
        · cases e1
          exact q (ρ' ++ [some a]) (.ref a) _ (ext_more x hf) (sim_box s0 h0 ⟨vs, upd_same, rs.mono s0 (ext_box h0)⟩) ⟨.ref (at_box s0), fun z => nomatch z⟩
        · cases e1
      | dct xs =>
        obtain ⟨a, H0, rfl, hf, h0, s0, ⟨ds, vs, e1, _⟩ | ⟨ds, vs, e1, rfl, rs⟩⟩ := r.2 rfl rfl
        · cases e1
        · cases e1
          exact q (ρ' ++ [some a]) (.ref a) _ (ext_more x hf) (sim_box s0 h0 ⟨vs, upd_same, rs.mono s0 (ext_box h0)⟩) ⟨.ref (at_box s0), fun z => nomatch z⟩
      | _ => exact q.elim⟩
end

/-! ### out of the store -/
section
variable {K : Kit} {ρ : Rho} {st : Store} {H : Hp} {a : Addr} {n : Nat}
theorem ext_frz (hn : ρ[K.h + n]? = some (some a)) : Ext K.h ρ H (ρ.set (K.h + n) none) H where
  len := by simp
  old := fun m _ => by
    by_cases h : K.h + n = m
    · subst h; exact .inr (List.getElem?_set_self (List.getElem?_eq_some_iff.mp hn).1)
    · exact .inl (List.getElem?_set_ne h)
  new := fun m b hm e => by rw [List.getElem?_eq_none (by simpa using hm)] at e; exact nomatch e
  keep := fun _ _ e _ _ => e
  dom := fun _ e => e
  hid := fun m b hm e => ⟨by rw [List.getElem?_set_ne (by omega)]; exact e, fun _ z => z⟩
theorem sim_frz (s : Sim K ρ st H) (hn : ρ[K.h + n]? = some (some a)) : Sim K (ρ.set (K.h + n) none) (st.set n .dead) H where
  len := by rw [List.length_set, List.length_set]; exact s.len
  inj := fun i j b h1 h2 => by
    have key : ∀ i, (ρ.set (K.h + n) none)[i]? = some (some b) → ρ[i]? = some (some b) := fun i h => by
      by_cases hi : K.h + n = i
      · subst hi; rw [List.getElem?_set_self (List.getElem?_eq_some_iff.mp hn).1] at h; cases h
      · rw [List.getElem?_set_ne hi] at h; exact h
    exact s.inj i j b (key i h1) (key j h2)
  ob := fun m u e => by
    have x : Ext K.h ρ H (ρ.set (K.h + n) none) H := ext_frz hn
    by_cases hm : n = m
    · subst hm
      have hl : n < st.length := by have := (List.getElem?_eq_some_iff.mp hn).1; rw [s.len] at this; omega
      rw [List.getElem?_set_self hl] at e
      cases e
      exact .inl ⟨rfl, List.getElem?_set_self (List.getElem?_eq_some_iff.mp hn).1⟩
    · rw [List.getElem?_set_ne hm] at e
      rcases s.ob m u e with ⟨q, e1⟩ | ⟨b, e1, r⟩
      · exact .inl ⟨q, by rw [List.getElem?_set_ne (by omega)]; exact e1⟩
      · refine .inr ⟨b, by rw [List.getElem?_set_ne (by omega)]; exact e1, ?_⟩
        cases u with
        | lst ds => obtain ⟨vs, h1, h2⟩ := r; exact ⟨vs, h1, RelDs.mono s x h2⟩
        | dct ds => obtain ⟨vs, h1, h2⟩ := r; exact ⟨vs, h1, RelKs.mono s x h2⟩
        | dead => exact r
        | ins _ _ => exact r
  hd := fun m b hm e => s.hd m b hm (by rw [List.getElem?_set_ne (by omega)] at e; exact e)
  tab := s.tab
  cd := s.cd
theorem frz_out (s : Sim K ρ st H) (hn : ρ[K.h + n]? = some (some a)) : some a ∉ ρ.set (K.h + n) none := fun hm => by
  obtain ⟨i, e⟩ := mem_rho.mp hm
  by_cases hi : K.h + n = i
  · subst hi; rw [List.getElem?_set_self (List.getElem?_eq_some_iff.mp hn).1] at e; cases e
  · rw [List.getElem?_set_ne hi] at e
    exact hi (s.inj _ _ a hn e)
end
section
variable {X : Cx} {κ : Kx} {B : L2.St → XW} {e : Expr} {i : Nat}
theorem se_frz (h : PE X e (tVar i)) : PE X e (eE X κ B false fun l st => frzD (l[i]?) st) :=
  PE.imp h fun σ H Q ⟨ρ, l, st, at0, q⟩ => by
    dsimp only at q
    unfold frzD at q
    split at q
    · rename_i n hl
      obtain ⟨v, e1, r⟩ := at0.loc.2.1 i _ hl
      refine ⟨v, e1, ?_⟩
      split at q
      · rename_i xs hs
        obtain ⟨a, vs, rfl, h1, h2, h3⟩ := ref_lst at0.sim r hs
        exact q _ _ H (ext_frz h1) (sim_frz at0.sim h1) ⟨.lst h2 (frz_out at0.sim h1) (h3.mono at0.sim (ext_frz h1)), fun z => nomatch z⟩
      · rename_i xs hs
        obtain ⟨a, vs, rfl, h1, h2, h3⟩ := ref_dct at0.sim r hs
        exact q _ _ H (ext_frz h1) (sim_frz at0.sim h1) ⟨.dct h2 (frz_out at0.sim h1) (h3.mono at0.sim (ext_frz h1)), fun z => nomatch z⟩
      · exact q.elim
    · exact q.elim
end
end Pm

set_option Elab.async false
set_option linter.all false
set_option maxRecDepth 100000
set_option maxHeartbeats 2000000
/-! Ev22: dict displays. -/
namespace Pm
open PySem PySem.Spec PyProof.Rows L2
set_option autoImplicit false

def RPs (K : Kit) (ks : List DKey) : Rho → Store → Hp → Hp → List D → List (V × V) → Prop := fun ρ' _ _ H' ds ps => ks.length = ds.length ∧ ∃ vs, RelDs K ρ' H' ds vs ∧ ps = (ks.zip vs).map fun p => (kV (keyK p.1), p.2)
theorem RPs.back {K : Kit} {ks : List DKey} : Back (RPs K ks) := fun _ _ _ _ _ _ _ _ h => h
structure SD (X : Cx) (κ : Kx) (B : L2.St → XW) (pos : Pos) (keys : List (Option Expr)) (values : List Expr) (ks : List DKey) (ms : Loc → Store → Res (List D)) : Prop where
  ex : ∃ trs, PPs X pos keys values trs ∧ ∀ σ H Q, (∃ ρ l st, At (Cx.kit X κ) ρ H l σ st ∧ EndG (Cx.kit X κ) (B σ) (RPs (Cx.kit X κ) ks) ρ H (ms l st) Q) → tPairs trs σ H Q
  len : keys.length = values.length ∧ keys.length = ks.length ∧ keys.all (·.isSome) = true
section
variable {X : Cx} {κ : Kx} {B : L2.St → XW} {k v : Expr} {fv : Bool} {m : Loc → Store → Res D} {ms : Loc → Store → Res (List D)} {pos : Pos} {keys : List (Option Expr)} {values : List Expr} {kk : DKey} {ks : List DKey}
theorem sd_nil : SD X κ B pos [] [] [] (fun _ st => .ok [] st) := ⟨⟨[], pps_nil, fun σ H Q ⟨ρ, l, st, at0, q⟩ => q ρ [] H (Ext.refl _ _) at0.sim ⟨rfl, [], .nil, rfl⟩⟩, rfl, rfl, rfl⟩
theorem sd_cons (hk : PE X k (tC (kV (keyK kk)))) (hv : PE X v (eE X κ B fv m)) (hr : SD X κ B pos keys values ks ms) : SD X κ B pos (some k :: keys) (v :: values) (kk :: ks) (fun l st => (m l st).bind fun d st => (ms l st).bind fun ds st => .ok (d :: ds) st) := by
  obtain ⟨⟨trs, h1, h2⟩, h3, h4, h5⟩ := hr
  refine ⟨⟨_, pps_cons hk hv h1, fun σ H Q ⟨ρ, l, st, at0, q⟩ => ?_⟩, by simp [h3], by simp [h4], by simp [h5]⟩
  refine ⟨ρ, l, st, at0, EndG.bind RPs.back q fun d st1 ρ1 y H1 x1 s1 r1 q1 => h2 σ H1 _ ⟨ρ1, l, st1, at0.go x1 s1, EndG.bind RPs.back q1 fun ds st2 ρ2 ps H2 x2 s2 r2 q2 => ?_⟩⟩
  obtain ⟨hl, vs, rs, rfl⟩ := r2
  exact q2 ρ2 _ H2 (Ext.refl _ _) s2 ⟨by simp [hl], y :: vs, .cons (r1.1.mono s1 x2) rs, rfl⟩
theorem RelL.hide {K : Kit} {ρ : Rho} {H : Hp} {p : Addr} {o : HO} {l : Loc} {σ : L2.St} (hp : H p = none) (r : RelL K ρ H l σ) : RelL K.up (some p :: ρ) (upd H p o) l σ :=
  ⟨r.1, fun i d e => let ⟨v, h1, h2⟩ := r.2.1 i d e; ⟨v, h1, h2.hide hp⟩, r.2.2⟩
theorem merge_rel {K : Kit} {ρ : Rho} {H : Hp} : ∀ {ks : List DKey} {ds : List D} {vs : List V} {a : List (DKey × D)} {b : List (Key × V)}, RelKs K ρ H a b → RelDs K ρ H ds vs →
    RelKs K ρ H ((ks.zip ds).foldl (fun a p => Pm.putK p.1 p.2 a) a) (((ks.zip vs).map fun p => (keyK p.1, p.2)).foldl (fun acc kv => L2.putK acc kv.1 kv.2) b)
  | [], _, _, _, _, h, _ => by simpa using h
  | k :: ks, _, _, _, _, h, .nil => by simpa using h
  | k :: ks, _, _, _, _, h, .cons r1 r2 => merge_rel (ks := ks) (putK_rel r1 h) r2
theorem se_dic (h0 : keys ≠ []) (h15 : keys.length ≤ 15) (h : SD X κ.up B pos keys values ks ms) :
    PE X (.Dict keys values pos) (eE X κ B false fun l st => (ms l st).bind fun ds st => if ks.length = ds.length ∧ ds.length ≤ 15 then .ok (.dct (mergeD ks ds)) st else .bad) := by
  obtain ⟨⟨trs, h1, h2⟩, h3, h4, h5⟩ := h
  refine PE.imp (pe_disp h1 h5 h3 h0 h15) fun σ H Q ⟨ρ, l, st, at0, q⟩ => fun p hp => h2 σ _ _ ⟨some p :: ρ, l, st, ⟨sim_hide at0.sim hp rfl, at0.loc.hide hp, fun _ z => nomatch z⟩, ?_⟩
  have q : EndG (Cx.kit X κ) (B σ) (RE (Cx.kit X κ) false) ρ H ((ms l st).bind fun ds st => if ks.length = ds.length ∧ ds.length ≤ 15 then .ok (.dct (mergeD ks ds)) st else .bad) Q := q
  cases hr : ms l st with
  | bad => rw [hr] at q; exact q
  | exc c fs st1 =>
    rw [hr] at q
    intro ρ2 H2 dx x s z
    obtain ⟨ρ2', rfl⟩ := up_cons (K := Cx.kit X κ) x
    exact q ρ2' H2 dx ((ext_new hp).trans (ext_out (K := Cx.kit X κ) x)) (sim_show (K := Cx.kit X κ) s) z
  | ok ds st1 =>
    rw [hr] at q
    simp only [Res.bind] at q
    intro ρ2 ps H2 x s z
    obtain ⟨ρ2', rfl⟩ := up_cons (K := Cx.kit X κ) x
    obtain ⟨hl, vs, rs, rfl⟩ := z
    have hlen := rs.length
    have hds : ds.length ≤ 15 := by rw [← hl, ← h4]; exact h15
    rw [if_pos ⟨hl, hds⟩] at q
    have hp2 : H2 p = some (.dK []) := (x.hid 0 p (Nat.succ_pos _) rfl).2 _ upd_same
    refine ⟨hp2, (ks.zip vs).map fun p => (keyK p.1, p.2), by simp, by rw [List.length_map, List.length_zip]; omega, ?_⟩
    have s2 : Sim (Cx.kit X κ).up (some p :: ρ2') st1 (upd H2 p (.dK (mergeK [] ((ks.zip vs).map fun p => (keyK p.1, p.2))))) := sim_hid (n := 0) s (Nat.succ_pos _) rfl hp2 rfl nofun rfl
    have xo : Ext κ.h ρ H ρ2' H2 := (ext_new hp).trans (ext_out (K := Cx.kit X κ) x)
    have x3 : Ext κ.h ρ H ρ2' (upd H2 p (.dK (mergeK [] ((ks.zip vs).map fun p => (keyK p.1, p.2))))) := {
      len := xo.len
      old := xo.old
      new := xo.new
      keep := fun a u e hn hcl => by rw [upd_ne (ne_of_none e hp)]; exact xo.keep a u e hn hcl
      dom := fun a e => by
        by_cases ha : a = p
        · rw [ha]; exact Free.of hp
        · exact xo.dom a fun o q => e o (by rw [upd_ne ha]; exact q)
      hid := fun n a hn e => ⟨(xo.hid n a hn e).1, fun u z => by rw [upd_ne (ne_of_none z hp)]; exact (xo.hid n a hn e).2 u z⟩ }
    have hnp : some p ∉ ρ2' := fun hm => by
      obtain ⟨n, e⟩ := mem_rho.mp hm
      have := s.inj 0 (n + 1) p rfl (by simpa using e)
      omega
    refine q ρ2' (.ref p) _ x3 (sim_show (K := Cx.kit X κ) s2) ⟨.dct upd_same hnp ?_, fun z => nomatch z⟩
    have rs2 : RelDs (Cx.kit X κ) ρ2' (upd H2 p (.dK (mergeK [] ((ks.zip vs).map fun p => (keyK p.1, p.2))))) ds vs := RelDs.show (K := Cx.kit X κ) ((RelDs.hidw (n := 0) s rfl hp2 rfl (by intro ps z; cases z)).1 rs)
    exact merge_rel .nil rs2
theorem se_dic0 : PE X (.Dict [] [] pos) (eE X κ B true fun l st => (Res.ok [] st).bind fun ds st => if ([] : List DKey).length = ds.length ∧ ds.length ≤ 15 then .ok (.dct (mergeD [] ds)) st else .bad) :=
  PE.imp pe_dnewK fun σ H Q ⟨ρ, l, st, at0, q⟩ => fun p hp =>
    (show EndG (Cx.kit X κ) (B σ) (RE (Cx.kit X κ) true) ρ H (Res.ok (.dct []) st) Q from q) ρ (.ref p) _ (ext_new hp) (sim_new at0.sim hp) ⟨.dct upd_same (new_free at0.sim hp) .nil, fun _ _ => Fresh.dct at0.sim hp .nil⟩
end
end Pm

set_option Elab.async false
set_option linter.all false
set_option maxRecDepth 100000
set_option maxHeartbeats 2000000
/-! EvB: a comprehension's list, put into the store. -/
namespace Pm
open PySem PySem.Spec PyProof.Rows L2
set_option autoImplicit false

theorem bind_assocR {α β γ : Type} (r : Res α) (f : α → Store → Res β) (g : β → Store → Res γ) : (r.bind f).bind g = r.bind fun a st => (f a st).bind g := by
  cases r <;> rfl
section
variable {K : Kit} {ρ : Rho} {H : Hp} {st : Store} {p : Addr}
theorem at_turn (n : Nat) (hl : K.h + n < ρ.length) : (some p :: ρ)[(K.up).h + n]? = (ρ ++ [some p])[K.h + n]? := by
  have e : (K.up).h + n = (K.h + n) + 1 := by show K.h + 1 + n = _; omega
  rw [e, List.getElem?_cons_succ, List.getElem?_append_left hl]
theorem in_turn {n : Nat} {o : Option Addr} (h : (some p :: ρ)[(K.up).h + n]? = some o) : (ρ ++ [some p])[K.h + n]? = some o := by
  have e : (K.up).h + n = (K.h + n) + 1 := by show K.h + 1 + n = _; omega
  rw [e, List.getElem?_cons_succ] at h
  rw [List.getElem?_append_left (List.getElem?_eq_some_iff.mp h).1]
  exact h
theorem not_turn {a : Addr} (h : some a ∉ some p :: ρ) : some a ∉ ρ ++ [some p] := fun m => by
  rcases List.mem_append.mp m with e | e
  · exact h (List.mem_cons_of_mem _ e)
  · exact h (by rw [List.mem_singleton.mp e]; exact List.mem_cons_self ..)
mutual
theorem RelD.turn : ∀ {d : D} {v : V}, RelD K.up (some p :: ρ) H d v → RelD K (ρ ++ [some p]) H d v
  | _, _, .non => .non
  | _, _, .bl b => .bl b
  | _, _, .int i => .int i
  | _, _, .str y => .str y
  | _, _, .tup h r => .tup h (RelDs.turn r)
  | _, _, .itp h r => .itp h (RelDs.turn r)
  | _, _, .err h => .err h
  | _, _, .errf h1 h2 h3 r => .errf h1 h2 h3 (RelD.turn r)
  | _, _, .ver h => .ver h
  | _, _, .lst h n r => .lst h (not_turn n) (RelDs.turn r)
  | _, _, .dct h n r => .dct h (not_turn n) (RelKs.turn r)
  | _, _, .scr h => .scr h
  | _, _, .ref e => .ref (in_turn e)
  | _, _, .dead e => .dead (in_turn e)
theorem RelDs.turn : ∀ {ds : List D} {vs : List V}, RelDs K.up (some p :: ρ) H ds vs → RelDs K (ρ ++ [some p]) H ds vs
  | _, _, .nil => .nil
  | _, _, .cons h r => .cons (RelD.turn h) (RelDs.turn r)
theorem RelKs.turn : ∀ {ds : List (DKey × D)} {vs : List (Key × V)}, RelKs K.up (some p :: ρ) H ds vs → RelKs K (ρ ++ [some p]) H ds vs
  | _, _, .nil => .nil
  | _, _, .cons h r => .cons (RelD.turn h) (RelKs.turn r)
end
theorem RelOb.turn {ob : Ob} {a : Addr} (r : RelOb K.up (some p :: ρ) H ob a) : RelOb K (ρ ++ [some p]) H ob a := by
  cases ob with
  | lst ds => obtain ⟨vs, h1, h2⟩ := r; exact ⟨vs, h1, h2.turn⟩
  | dct ds => obtain ⟨vs, h1, h2⟩ := r; exact ⟨vs, h1, h2.turn⟩
  | dead => exact r
  | ins _ _ => exact r
/-- what is hidden stands in the store -/
theorem sim_turn {ds : List D} {vs : List V} (s : Sim K.up (some p :: ρ) st H) (hp : H p = some (.lst vs)) (r : RelDs K.up (some p :: ρ) H ds vs) : Sim K (ρ ++ [some p]) (st ++ [.lst ds]) H where
  len := by
    have : ρ.length + 1 = K.h + 1 + st.length := s.len
    rw [List.length_append, List.length_append]; simp; omega
  inj := fun n m b h1 h2 => by
    have hn : some p ∉ ρ := fun hm => by
      obtain ⟨n, e⟩ := mem_rho.mp hm
      have := s.inj 0 (n + 1) p rfl (by simpa using e)
      omega
    have key : ∀ n, (ρ ++ [some p])[n]? = some (some b) → (n < ρ.length ∧ ρ[n]? = some (some b)) ∨ (n = ρ.length ∧ b = p) := fun n h => by
      by_cases hn : n < ρ.length
      · rw [List.getElem?_append_left hn] at h; exact .inl ⟨hn, h⟩
      · rw [List.getElem?_append_right (Nat.le_of_not_lt hn)] at h
        cases hm : n - ρ.length with
        | zero => rw [hm] at h; simp at h; exact .inr ⟨by omega, h.symm⟩
        | succ m => rw [hm] at h; simp at h
    rcases key n h1 with ⟨_, e1⟩ | ⟨e1, z1⟩
    · rcases key m h2 with ⟨_, e2⟩ | ⟨e2, z2⟩
      · have := s.inj (n + 1) (m + 1) b (by simpa using e1) (by simpa using e2)
        omega
      · subst z2; exact (hn (mem_rho.mpr ⟨n, e1⟩)).elim
    · rcases key m h2 with ⟨_, e2⟩ | ⟨e2, z2⟩
      · subst z1; exact (hn (mem_rho.mpr ⟨m, e2⟩)).elim
      · omega
  ob := fun n u e => by
    have hl : ρ.length + 1 = K.h + 1 + st.length := s.len
    by_cases hn : n < st.length
    · rw [List.getElem?_append_left hn] at e
      rcases s.ob n u e with ⟨q, e1⟩ | ⟨b, e1, r⟩
      · exact .inl ⟨q, in_turn e1⟩
      · exact .inr ⟨b, in_turn e1, r.turn⟩
    · rw [List.getElem?_append_right (Nat.le_of_not_lt hn)] at e
      cases hm : n - st.length with
      | zero =>
        rw [hm] at e
        simp at e
        subst e
        refine .inr ⟨p, ?_, vs, hp, r.turn⟩
        have : K.h + n = ρ.length := by omega
        rw [this, List.getElem?_append_right (Nat.le_refl _)]
        simp
      | succ m => rw [hm] at e; simp at e
  hd := fun n b hn e => by
    have hl : ρ.length + 1 = K.h + 1 + st.length := s.len
    have hn2 : n < ρ.length := by omega
    rw [List.getElem?_append_left hn2] at e
    exact s.hd (n + 1) b (by show n + 1 < K.h + 1; omega) (by simpa using e)
  tab := s.tab
  cd := s.cd
end
theorem EndG.assoc {K : Kit} {B : XW} {α β γ δ : Type} {R : Rho → Store → Hp → Hp → γ → δ → Prop} {ρ : Rho} {H : Hp} {r : Res α} {f : α → Store → Res β} {g : β → Store → Res γ} {Q : δ → Hp → Prop} (q : EndG K B R ρ H ((r.bind f).bind g) Q) : EndG K B R ρ H (r.bind fun a st => (f a st).bind g) Q := by
  rw [← bind_assocR]; exact q
section
variable {X : Cx} {κ : Kx} {B : L2.St → XW}
theorem lc_readB {own : List (Str × Nat)} {t : T} {fe : Bool} {mi : Loc → Store → Res (List D)} {mc : Loc → Store → Res Bool} {me : Loc → Store → Res D} (hs1 : ∀ i ∈ own.map (·.2), i ∈ slotsT t) (hs2 : ∀ i ∈ slotsT t, i ∈ own.map (·.2)) :
    ∀ σ H Q, eE X κ B false (fun l st => ((mi l st).bind fun xs st => ((compL t mc me l xs st).calm).bind fun ds st => sized ds (.lst ds) st).bind fun x st => boxD x st) σ H Q → tLc (eI X κ B mi) (gT (Cx.kit X κ.up) t) (eT X κ.up B0 mc) (eE X κ.up B0 fe me) (own.map (·.2)) σ H Q :=
  fun σ H Q ⟨ρ, l, st, at0, q⟩ => ⟨ρ, l, st, at0, EndG.bind RE.back (EndG.assoc q) fun xs st1 ρ1 J H1 x1 s1 f1 q1 => fun p hp => by
    have at1 := at0.go x1 s1
    cases hE : compL t mc me l xs st1 with
    | bad => rw [hE] at q1; exact q1.elim
    | exc c fs st2 => rw [hE] at q1; exact q1.elim
    | ok dsF stF =>
      rw [hE] at q1
      simp only [Res.calm, Res.bind] at q1
      have hz : dsF.length ≤ SL := by
        by_cases hz : dsF.length ≤ SL
        · exact hz
        · unfold sized at q1; rw [if_neg hz] at q1; exact q1.elim
      unfold sized at q1
      rw [if_pos hz] at q1
      refine ⟨fun i m H' => m = xs.length - i ∧ i ≤ xs.length ∧ ∃ ρ' st' done rest vs, Ext κ.h ρ1 H1 ρ' H' ∧ Sim (Cx.kit X κ.up) (some p :: ρ') st' H' ∧ H' p = some (.lst vs) ∧ RelDs (Cx.kit X κ.up) (some p :: ρ') H' done vs ∧ compL t mc me l (xs.drop i) st' = .ok rest stF ∧ dsF = done ++ rest,
        ⟨xs.length, by simp, Nat.zero_le _, ρ1, st1, [], dsF, [], ext_new hp, sim_hide s1 hp rfl, upd_same, .nil, by simpa using hE, rfl⟩, ?_⟩
      rintro i m H' ⟨rfl, hi, ρ', st', done, rest, vs, x, s, hpv, r, hcomp, hds⟩
      have f := f1 κ.up (some p :: ρ') st' H' (Later.of_go s1 x hp) s i
      by_cases hlt : i < xs.length
      · have hd : xs[i]? = some xs[i] := List.getElem?_eq_getElem hlt
        rw [List.drop_eq_getElem_cons hlt, compL_cons] at hcomp
        refine .inr ⟨(f.1 _ hd).1, _, fun H'' w => ⟨xs.length - (i + 1), by omega, w⟩, fun x0 H2 hy => ?_⟩
        obtain ⟨x2, s2, r2⟩ := (f.1 _ hd).2 x0 H2 hy
        cases hset : setT t xs[i] l with
        | none => rw [hset] at hcomp; cases hcomp
        | some l' =>
          rw [hset] at hcomp
          simp only [optR] at hcomp
          have xo2 : Ext κ.h ρ1 H1 ρ' H2 := x.trans (ext_out (K := Cx.kit X κ) x2)
          refine ⟨some p :: ρ', l, st', xs[i], l', s2, ⟨by rw [wipe_length]; exact at1.loc.1, fun j d hj e => ?_, fun q hq hnq => ?_⟩, r2, hset, fun σ2 rl hoth hlen => ⟨wipe_eq (by rw [hlen, wipe_length]) fun j hj => ?_, ?_⟩⟩
          · obtain ⟨v, e1, e2⟩ := at1.loc.2.1 j d e
            exact ⟨v, by rw [wipe_out fun z => hj (hs1 j z)]; exact e1, e2.go s1 xo2 hp⟩
          · rw [wipe_out fun z => hnq (hs1 _ z)]
            exact at1.loc.2.2 q hq
          · rw [hoth j fun z => hj (hs2 j z), wipe_out hj]
          · refine ⟨some p :: ρ', l', st', ⟨s2, rl, fun _ h => nomatch h⟩, ?_⟩
            have hp2 : H2 p = some (.lst vs) := (x2.hid 0 p (Nat.succ_pos _) rfl).2 _ hpv
            cases hmc : mc l' st' with
            | bad => rw [hmc] at hcomp; cases hcomp
            | exc c fs st2 => rw [hmc] at hcomp; cases hcomp
            | ok b st2 =>
              rw [hmc] at hcomp
              simp only [Res.bind] at hcomp
              intro ρ3 b' H3 x3 s3 e3
              cases e3
              obtain ⟨ρ3', rfl⟩ := up_cons (K := Cx.kit X κ) x3
              have hp3 : H3 p = some (.lst vs) := (x3.hid 0 p (Nat.succ_pos _) rfl).2 _ hp2
              have r3 := (r.mono s x2).mono s2 x3
              have xo3 := xo2.trans (ext_out (K := Cx.kit X κ) x3)
              cases b with
              | false =>
                rw [if_neg (by decide)]
                simp only [ifB] at hcomp
                exact ⟨rfl, by omega, ρ3', st2, done, rest, vs, xo3, s3, hp3, r3, hcomp, hds⟩
              | true =>
                rw [if_pos rfl]
                simp only [ifB] at hcomp
                have at3 : At (Cx.kit X κ.up) (some p :: ρ3') H3 l' σ2 st2 := ⟨s3, rl.mono s2 x3, fun _ h => nomatch h⟩
                refine ⟨some p :: ρ3', l', st2, at3, ?_⟩
                cases hme : me l' st2 with
                | bad => rw [hme] at hcomp; cases hcomp
                | exc c fs st3 => rw [hme] at hcomp; cases hcomp
                | ok d st3 =>
                  rw [hme] at hcomp
                  simp only [Res.bind] at hcomp
                  intro ρ4 y H4 x4 s4 r4
                  obtain ⟨ρ4', rfl⟩ := up_cons (K := Cx.kit X κ) x4
                  have hp4 : H4 p = some (.lst vs) := (x4.hid 0 p (Nat.succ_pos _) rfl).2 _ hp3
                  have xo4 := xo3.trans (ext_out (K := Cx.kit X κ) x4)
                  cases hrest : compL t mc me l (xs.drop (i + 1)) st3 with
                  | bad => rw [hrest] at hcomp; cases hcomp
                  | exc c fs st4 => rw [hrest] at hcomp; cases hcomp
                  | ok rest' st4 =>
                    rw [hrest] at hcomp
                    simp only [Res.ok.injEq] at hcomp
                    obtain ⟨rfl, rfl⟩ := hcomp
                    have hlen : vs.length < SL := by
                      have h1 := r.length
                      have h2 : dsF.length = done.length + (rest'.length + 1) := by rw [hds, List.length_append, List.length_cons]
                      omega
                    refine ⟨vs, hp4, by rw [SL_eq]; exact hlen, rfl, by omega, ρ4', st3, done ++ [d], rest', vs ++ [y], ?_, ?_, upd_same, ?_, hrest, by rw [hds]; simp⟩
                    · exact {
                        len := xo4.len
                        old := xo4.old
                        new := xo4.new
                        keep := fun a u e hn hcl => by rw [upd_ne (ne_of_none e hp)]; exact xo4.keep a u e hn hcl
                        dom := fun a e => by
                          by_cases ha : a = p
                          · rw [ha]; exact Free.of hp
                          · exact xo4.dom a fun o q => e o (by rw [upd_ne ha]; exact q)
                        hid := fun n a hn e => ⟨(xo4.hid n a hn e).1, fun u z => by rw [upd_ne (ne_of_none z hp)]; exact (xo4.hid n a hn e).2 u z⟩ }
                    · exact sim_hid (n := 0) s4 (Nat.succ_pos _) rfl hp4 rfl nofun rfl
                    · exact (RelDs.hidw (n := 0) s4 rfl hp4 rfl (by intro ps z; cases z)).1 ((r3.mono s3 x4).append (.cons r4.1 .nil))
      · have e : i = xs.length := by omega
        subst e
        rw [List.drop_length] at hcomp
        cases hcomp
        rw [List.append_nil] at hds
        subst hds
        refine .inl ⟨f.2 (List.getElem?_eq_none (Nat.le_refl _)), ?_⟩
        have hnp : some p ∉ ρ' := fun hm => by
          obtain ⟨n, e⟩ := mem_rho.mp hm
          have := s.inj 0 (n + 1) p rfl (by simpa using e)
          omega
        exact q1 (ρ' ++ [some p]) (.ref p) H' (ext_more x (Free.of hp)) (sim_turn (K := Cx.kit X κ) s hpv r) ⟨.ref (at_box (sim_show (K := Cx.kit X κ) s)), fun z => nomatch z⟩⟩
theorem sp_setLcB {i : Nat} {y : Str} {py : Pos} {elt tg iter : Expr} {ifs : List Expr} {scope : Scope} {own : List (Str × Nat)} {pos spos : Pos} {t : T} {fe : Bool} {mi : Loc → Store → Res (List D)} {mc : Loc → Store → Res Bool} {me : Loc → Store → Res D}
    (hc : X.calm = true) (hN : X.N.Nodup) (hy : X.N[i]? = some y) (hyl : X.env.scope.names.lookup y = some .local) (hsw : swapsWith (.ListComp elt [⟨tg, iter, ifs, 0⟩] scope pos) (some (.Name y py)) spos.line X.env = pure true)
    (hi : PI X tg iter (eI X κ B mi)) (ok : BlkOk X.N X.env.scope scope own) (hs1 : ∀ i ∈ own.map (·.2), i ∈ slotsT t) (hs2 : ∀ i ∈ slotsT t, i ∈ own.map (·.2))
    (hg : ∀ (s : Shared) (H : Hp) (C : Addr) (cl : List (Str × Addr)) (fp : List Addr), PG (X.blk s H scope (compEnvC scope cl C X.env) fp) tg (gT (Cx.kit X κ.up) t))
    (ht : ∀ (s : Shared) (H : Hp) (C : Addr) (cl : List (Str × Addr)) (fp : List Addr), PTs (X.blk s H scope (compEnvC scope cl C X.env) fp) ifs (eT X κ.up B0 mc))
    (he : ∀ (s : Shared) (H : Hp) (C : Addr) (cl : List (Str × Addr)) (fp : List Addr), PE (X.blk s H scope (compEnvC scope cl C X.env) fp) elt (eE X κ.up B0 fe me)) (hs : noSet iter = true) :
    PS X (.Assign [.Name y py] (.ListComp elt [⟨tg, iter, ifs, 0⟩] scope pos) spos) (tAsg (eE X κ B false fun l st => ((mi l st).bind fun xs st => ((compL t mc me l xs st).calm).bind fun ds st => sized ds (.lst ds) st).bind fun x st => boxD x st) (gName i)) := by
  have h := ps_setLc (spos := spos) (py := py) hc hN hy hyl hsw hi ok hg ht he (noSet_it hs _)
  exact ⟨fun pins s σ H D I q => h.run pins s σ H D I (lc_readB hs1 hs2 σ H _ q)⟩
end
end Pm

set_option Elab.async false
set_option linter.all false
set_option maxRecDepth 100000
set_option maxHeartbeats 4000000
/-! EvG: calls of defs where nothing is being shown (repr asks that). -/
namespace Pm
open PySem PySem.Spec PyProof.Rows L2 LamX
set_option autoImplicit false

/-- what a def keeps, called where nothing is being shown -/
structure FnG (P : Program) (w : World) (K : PySem.W.Frag) (mg : Str → Option Value) (base : Heap) (CX : CXT) (k : Nat) (f : Addr) (fd : FuncData) (ps : List Str) (sp : Sp) : Prop where
  len : ∀ vs H Q E, sp vs H Q E → vs.length = ps.length
  run : ∀ (A : Around) (out : List Env) (s : Shared) (H : Hp) (ar : Args) (us : List Value) (vs : List V) (Q : VK) (E : XK), RoomG k A → Env0 P w K mg base A out s H → BindsTo s fd ar (ps.zip us) → Vals vs us → sp vs H Q E → codeAny (model P w) A (.call (.ref f) ar) (CR CX out P w H s Q E) s
section
variable {X : Cx} {CX : CXT} {k : Nat} {f : Addr} {fd : FuncData} {ps : List Str} {sp : Sp} {E : L2.St → XK} {x : Str} {p pos : Pos} {e : Expr} {es : List Expr} {t : TA}
theorem callee {pn : List (Addr × Obj)} {σ : L2.St} {H : Hp} {s : Shared} {Q : VK} {us : List Value} {vs : List V} (F : FnG X.prog X.w X.K X.mg X.base CX k f fd ps sp) (room : RoomG k X.A) (bd : Binds X.K fd ps []) (out : PassesAt CX X σ (E σ))
    (I : L2.Inv X pn σ H s) (rv : Vals vs us) (hsp : sp vs H Q (E σ)) : wpAny (model X.prog X.w) X.A (call (.ref f) us) (EP X pn σ Q) X.xe s := by
  have len : us.length = ps.length := (Paired.length rv).symm.trans (F.len vs H Q (E σ) hsp)
  have b0 := bd s us I.kIn ((congrArg List.length (List.append_nil us)).trans len)
  rw [List.append_nil us] at b0
  have run := F.run X.A X.stack s H ⟨us, []⟩ us vs Q (E σ) room I.env0 b0 rv hsp
  exact wpAny_call (codeAny_mono run fun out1 s1 z => match out1, z with
    | .error er, z => out pn H s er s1 I z
    | .ok (.ret u), z => I.after z
    | .ok .next, z => z.elim
    | .ok .brk, z => z.elim
    | .ok .cont, z => z.elim)
theorem pe_callG (F : FnG X.prog X.w X.K X.mg X.base CX k f fd ps sp) (room : RoomG k X.A) (gl : Gl X x) (hm : X.mg x = some (.ref f)) (kp : PySem.W.keepIn X.K (.ref f) = true) (bd : Binds X.K fd ps []) (out : ∀ σ, PassesAt CX X σ (E σ))
    (args : PA X (e :: es) t) (db : (x == ("__debug__" : Str)) = false) (st : starEach (e :: es) X.env = (false, eval e X.env) :: starEach es X.env) (pl : (backTo pos (starEach es X.env)).any (·.1) = false) :
    PE X (.Call (.Name x p) (e :: es) [] pos) (tCallS sp E t) :=
  ⟨fun pn s σ H Q I h => wpAny_Call_Name_kw (ld_glob I gl hm (PySem.W.callWith_K (h₀ := X.base) I.ok.mod.kin kp (thn (args.run pos pn s σ H _ I h) fun us sa ⟨vs, Ha, Ia, rv, q⟩ => ⟨Ia.kIn, callee F room bd (out σ) Ia rv q⟩) st pl) db)⟩
end
section
variable {CX : CXT} {P : Program} {w : World} {K : PySem.W.Frag} {mg : Str → Option Value} {base : Heap} {k : Nat} {f : Addr} {name qual : Str} {params : Arguments} {body : List Stmt} {scope : Scope} {dV kV doc pm cdv ct oc : Value} {an od : Option Addr}
  {osl : Array (Option Value)} {N ps : List Str} {sp : Sp}
theorem fn_ofG (at0 : K.lookup f = some ⟨oc, od, .func (PySem.W.fnOf name qual params body scope dV kV doc pm an cdv ct), osl⟩) (cd : PySem.W.codeIn K cdv qual = true) (S : FnScope N ps scope) (len : ∀ vs H Q E, sp vs H Q E → vs.length = ps.length)
    (bdy : ∀ (A : Around) (out : List Env) (s : Shared) (H : Hp) (vs : List V) (Q : VK) (E : XK), RoomG k (A.deeper (envOfC qual scope s.heap.objs.size f cdv)) → sp vs H Q E →
      ∃ t, PSs (cxOf CX P w K mg base N qual scope f cdv A out s H E) body t ∧ t { nx := fun _ H' => Q .non H', rt := Q } (L2.start N vs) H) :
    FnG P w K mg base CX (k + 1) f (PySem.W.fnOf name qual params body scope dV kV doc pm an cdv ct) ps sp :=
  ⟨len, fun A out s H ar us vs Q E room e0 hb rv h => run_ofS at0 cd S room.r e0 hb rv (len vs H Q E h) fun r1 => bdy A out s H vs Q E ⟨r1, room.g⟩ h⟩
theorem FnG.of (F : FnOk P w K mg base CX k f (PySem.W.fnOf name qual params body scope dV kV doc pm an cdv ct) ps sp) : FnG P w K mg base CX k f (PySem.W.fnOf name qual params body scope dV kV doc pm an cdv ct) ps sp :=
  ⟨F.len, fun A out s H ar us vs Q E room e0 hb rv h => F.run A out s H ar us vs Q E room.r e0 hb rv h⟩
end
end Pm

set_option Elab.async false
set_option linter.all false
set_option maxRecDepth 100000
set_option maxHeartbeats 4000000
/-! EvH: a def that begins with a token out; the law's call. -/
namespace Pm
open PySem PySem.Spec PyProof.Rows L2 LamX
set_option autoImplicit false

theorem fn_ofTG {CX : CXT} {P : Program} {w : World} {K : PySem.W.Frag} {mg : Str → Option Value} {base : Heap} {k : Nat} {f : Addr} {name qual : Str} {params : Arguments} {body : List Stmt} {scope : Scope} {dV kV doc pm cdv ct oc : Value} {an od : Option Addr}
    {osl : Array (Option Value)} {N ps : List Str} {sp : Sp} (at0 : K.lookup f = some ⟨oc, od, .func (PySem.W.fnOf name qual params body scope dV kV doc pm an cdv ct), osl⟩) (cd : PySem.W.codeIn K cdv qual = true) (S : FnScope N ps scope)
    (nc : ∀ y ∈ scope.names, y.2 ≠ .cell) (p1 : 1 ≤ ps.length) (len : ∀ vs H Q E, sp vs H Q E → vs.length = ps.length)
    (bdy : ∀ (A : Around) (out : List Env) (s : Shared) (H : Hp) (vs : List V) (Q : VK) (E : XK), RoomG k (A.deeper (envOfC qual scope s.heap.objs.size f cdv)) → sp vs H Q E →
      ∃ t, PSsT (cxOf CX P w K mg base N qual scope f cdv A out s H E) body t ∧ t { nx := fun _ H' => Q .non H', rt := Q } (L2.start N vs) H) :
    FnG P w K mg base CX (k + 1) f (PySem.W.fnOf name qual params body scope dV kV doc pm an cdv ct) ps sp := by
  refine ⟨len, fun A out s H ar us vs Q E room e0 hb rv hsp => ?_⟩
  have lv := len vs H Q E hsp
  have lu : us.length = ps.length := (Paired.length rv).symm.trans lv
  have old : ∀ b o, base.get? b = some o → s.heap.get? b = some o := fun b o e => (e0.bs b o e).1
  have KX : K.In s.heap := e0.mod.kin.keeps old
  have isLoc : ∀ y ∈ ps.zip us, scope.names.lookup y.1 = some .local := by
    rintro ⟨n, v⟩ hy
    rcases S.par n (List.of_mem_zip hy).1 with q | q
    · exact q
    · exact absurd rfl (nc _ (PySem.mem_of_lookup q))
  have lz : (ps.zip us).length = ps.length := by rw [List.length_zip, lu, Nat.min_self]
  refine codeAny_call_function room.r.depth (KX _ _ at0) rfl S.co S.gen rfl (PySem.W.codeRec_of KX cd) (hb _ _ _ _ ?_)
  refine wpAny_newFunctionEnv nc isLoc (fun hp ns sb => ?_) S.kind
  have kept : ∀ b o, s.heap.get? b = some o → hp.get? b = some o := fun b o e => sb.extBut b o (Nat.ne_of_lt (Heap.lt_size e)) (Heap.get?_push_of_some _ e)
  have cl0 : cellsFrom (s.heap.objs.size + 1) scope.names [] = [] := cells_none _ _ _ nc
  have kl : ∀ y ∈ ps.zip us, (envOfC qual scope s.heap.objs.size f cdv).kindOf y.1 = some .local := fun y hy => by
    first
    | exact isLoc y hy
    | (simp only [Env.kindOf]; exact isLoc y hy)
    | (unfold Env.kindOf; rw [if_pos S.kind]; exact isLoc y hy)
    | simpa [Env.kindOf, envOfC, newEnv, S.kind] using isLoc y hy
  have slots0 : (bindL (envOfC qual scope s.heap.objs.size f cdv).kindOf (ps.zip us) fun _ => none) = fun x => (ps.zip us).reverse.lookup x := by
    funext y
    rw [bindL_loc _ _ kl y]
    cases (ps.zip us).reverse.lookup y <;> rfl
  have ic : InCallC s s.heap.objs.size (bindL (envOfC qual scope s.heap.objs.size f cdv).kindOf (ps.zip us) fun _ => none) (cellsFrom (s.heap.objs.size + 1) scope.names [])
      (bindC (envOfC qual scope s.heap.objs.size f cdv).kindOf (ps.zip us) fun _ => none) ({ s with heap := hp, toks := s.toks + (ps.zip us).length } : Shared) := by
    rw [slots0, cl0]
    exact ⟨⟨⟨_, _, rfl⟩, ns, kept, Nat.le_refl _⟩, fun n c hc => absurd hc (by simp), .nil, fun n c hc => absurd hc (by simp)⟩
  have envE : newEnv scope s.heap.objs.size mainGlobals [] (qual ++ ".<locals>.") (some f) cdv none builtinsNs = envOfC qual scope s.heap.objs.size f cdv := by
    unfold envOfC
    rw [cl0] <;> rfl
  have tok1 : 1 ≤ ({ s with heap := hp, toks := s.toks + (ps.zip us).length } : Shared).toks := show 1 ≤ s.toks + (ps.zip us).length by omega
  show ({ s with heap := hp, toks := s.toks + (ps.zip us).length } : Shared).heap.NoLimit ∧ codeAny (model P w) A (.func body (newEnv scope s.heap.objs.size mainGlobals [] (qual ++ ".<locals>.") (some f) cdv none builtinsNs)) _ ({ s with heap := hp, toks := s.toks + (ps.zip us).length } : Shared)
  rw [envE]
  generalize ({ s with heap := hp, toks := s.toks + (ps.zip us).length } : Shared) = sb1 at ic tok1 ⊢
  refine ⟨(e0.mod.nolimit.keeps old).keeps ic.toInCall.keep, codeAny_func ?_⟩
  obtain ⟨t, ht, hq⟩ := bdy A out s H vs Q E (room.deeper _) hsp
  have J0 : L2.Inv (cxOf CX P w K mg base N qual scope f cdv A out s H E) [] (L2.start N vs) H sb1 := inv_start S room.r.hd e0 lv rv ic
  refine wpAny_mono (ht [] sb1 (L2.start N vs) H _ tok1 J0 hq) (fun fl s2 z => ?_) fun _ _ z => z
  cases fl with
  | ret u =>
    obtain ⟨v, σ2, H2, J, ru, q⟩ := z
    exact ⟨v, H2, J.os, J.bare, J.base, J.hok, ru, q⟩
  | next =>
    obtain ⟨σ2, H2, J, q⟩ := z
    exact ⟨V.non, H2, J.os, J.bare, J.base, J.hok, rfl, q⟩
  | brk => exact z.elim fun _ z => z.elim fun _ z => z.2.elim
  | cont => exact z.elim fun _ z => z.elim fun _ z => z.2.elim
end Pm

set_option Elab.async false
set_option linter.all false
set_option maxRecDepth 100000
set_option maxHeartbeats 4000000
/-! EvI: the end of a law row, its def called where nothing is being shown. -/
namespace Pm
open PySem PySem.Spec PyProof.Rows L2 LamX
set_option autoImplicit false

/-- the places of the tables -/
abbrev tabsOf (cs : List (Addr × Addr)) : List Addr := cs.map (·.2)
/-- the table of modules stands -/
def SysB (b : Heap) : Prop := ∃ mm, b.Ns sysModules mm
theorem law_callG {P : Program} {w : World} {K : PySem.W.Frag} {mg mb : Str → Option Value} {CX : CXT} {k : Nat} {fa a : Addr} {cs : List (Addr × Addr)} {fd : FuncData} {x : Str} {sp : Sp} {s1 : Shared} {vs : List Value} {ns : List Int}
    (KX : K.In s1.heap) (Gn : s1.heap.Ns mainGlobals mg) (Bn : s1.heap.Ns builtinsNs mb) (Bb : ∀ x : Str, x ≠ "__name__" → mb x = bootBuiltins x) (lim : s1.heap.NoLimit) (g0 : s1.gens = #[])
    (tabs : ∀ p ∈ cs, s1.heap.get? p.2 = some { cls := .none, data := .fields #[] }) (offK : ∀ p ∈ cs, K.lookup p.2 = none) (code : ∀ p ∈ cs, PySem.W.CodeHd s1.heap p.1 p.2)
    (bmain : ∃ (bm : Addr) (ob : Obj), mg "__builtins__" = some (.ref bm) ∧ bm ≠ builtinsNs ∧ s1.heap.get? bm = some ob ∧ ob.cls = .type "module" ∧ ob.dict = some builtinsNs ∧ ob.data = .plain)
    (hobj : s1.heap.get? a = some { cls := .type "list", data := .seq vs.toArray }) (hi : IntsAre vs ns) (hl : ns.length ≤ sizeLine) (room : Room k callerA)
    (hsy : SysB s1.heap) (F : ∀ base : Heap, K.In base → base.Ns mainGlobals mg → SysB base → (∀ p ∈ cs, TabB base mg p.1 p.2) → FnG P w K mg base CX k fa fd [x] sp) (bnd : ∀ (s : Shared) (u : Value), BindsTo s fd ⟨[u], []⟩ [(x, u)])
    (hsp : ∀ H : Hp, (∀ p ∈ cs, H p.2 = some (.tbl #[])) → SqL K H a (ns.map V.int) → sp [.ref a] H (fun v _ => v = .bl true) fun _ _ _ => False) (hCX : ∀ H e s2, CX [] H s1 (fun _ _ _ => False) e s2 → False) :
    codeAny (model P w) callerA (.call (.ref fa) ⟨[.ref a], []⟩) (fun r s2 => r = .ok (.ret (.bool true)) ∧ OldK s1.heap s2.heap ∧ s2.os = s1.os ∧ AllBare s2.gens) s1 := by
  have rv := vals_ints hi
  have lv := hi.length
  have isTab : ∀ b : Addr, b ∈ tabsOf cs → s1.heap.get? b = some { cls := .none, data := .fields #[] } := by
    intro b hb
    obtain ⟨p, hp, rfl⟩ := List.mem_map.mp hb
    exact tabs p hp
  have scrOff : a ∉ tabsOf cs := fun z => by
    have q := (isTab a z).symm.trans hobj
    cases congrArg Obj.data (Option.some.inj q)
  have inTab : ∀ p ∈ cs, p.2 ∈ tabsOf cs := fun p hp => List.mem_map.mpr ⟨p, hp, rfl⟩
  -- the run from a heap in which nothing but the script and the tables may be told of
  have go : ∀ H : Hp, (∀ p ∈ cs, H p.2 = some (.tbl #[])) → (∀ b, H b = none ∨ b ∈ tabsOf cs ∨ ∃ o xs, H b = some (.frz o (.lst xs))) → SqL K H a (ns.map V.int) → HOk P w H s1.heap → (∀ b, H b ≠ none → b = a ∨ b ∈ tabsOf cs) → (H a ≠ none → K.lookup a = none) →
      codeAny (model P w) callerA (.call (.ref fa) ⟨[.ref a], []⟩) (fun r s2 => r = .ok (.ret (.bool true)) ∧ OldK s1.heap s2.heap ∧ s2.os = s1.os ∧ AllBare s2.gens) s1 := by
    intro H hT hO hS ok only offA
    have bare_at : ∀ {b : Addr} {o : Obj}, s1.heap.get? b = some o → (∀ vs n, o.data ≠ .seq vs n) → o.data ≠ .fields #[] → H b = none := by
      intro b o e n1 n2
      cases q : H b with
      | none => rfl
      | some u =>
        exfalso
        rcases only b (by rw [q]; exact Option.some_ne_none u) with z | z
        · rw [z, hobj] at e
          cases e
          exact n1 _ _ rfl
        · rw [isTab b z] at e
          cases e
          exact n2 rfl
    have below : ∀ {b : Addr} {o : Obj}, s1.heap.get? b = some o → H b = none → (hidT s1.heap H).get? b = some o := fun e n => hidT_get e n
    have noDict : ∀ {b : Addr} {o : Obj} {es : Array DictEntry} {ep : Nat}, s1.heap.get? b = some o → o.data = .dict es ep → H b = none := fun {b o es ep} e d =>
      bare_at e (fun vs n z => by rw [d] at z; cases z) (fun z => by rw [d] at z; cases z)
    have names : ∀ {b : Addr} {m : Str → Option Value}, s1.heap.Ns b m → (hidT s1.heap H).Ns b m := fun {b m} ⟨o, es, ep, e, d, r⟩ => ⟨o, es, ep, below e (noDict e d), d, r⟩
    have KB : K.In (hidT s1.heap H) := by
      intro b o e
      refine below (KX b o e) ?_
      cases q : H b with
      | none => rfl
      | some u =>
        exfalso
        have nn : H b ≠ none := by rw [q]; exact Option.some_ne_none u
        rcases only b nn with z | z
        · subst z
          rw [offA nn] at e
          cases e
        · obtain ⟨p, hp, ep⟩ := List.mem_map.mp z
          rw [← ep, offK p hp] at e
          cases e
    have MB : L2.Mod K mg (hidT s1.heap H) := ⟨KB, names Gn, ⟨mb, names Bn, Bb⟩, let ⟨mc, m1, m2⟩ := lim; ⟨mc, names m1, m2⟩⟩
    have TB : ∀ p ∈ cs, TabB (hidT s1.heap H) mg p.1 p.2 := by
      intro p hp
      have tp := tabs p hp
      refine ⟨?_, ?_, fun z => ?_⟩
      · obtain ⟨o, us, file, tf, flags, tg, inF, text, tt, e1, r1, r2, r3, r4, r5, r6, r7, r8, ne⟩ := code p hp
        refine ⟨o, us, file, tf, flags, tg, inF, text, tt, below e1 (bare_at e1 (fun vs n z => by rw [r2] at z; cases z) fun z => ?_), r1, r2, r3, r4, r5, r6, r7, r8, ne⟩
        rw [r2] at z
        cases z
        simp at r3
      · obtain ⟨bm, ob, b1, b2, b3, b4, b5, b6⟩ := bmain
        have m1 : bm ≠ mainGlobals := fun q => by
          obtain ⟨o, es, ep, e, d, _⟩ := Gn
          rw [q, e] at b3
          cases b3
          rw [d] at b6
          cases b6
        have m2 : bm ≠ p.2 := fun q => by
          rw [q, tp] at b3
          cases b3
          cases b6
        exact ⟨bm, ob, b1, b2, m1, m2, below b3 (bare_at b3 (fun vs n z => by rw [b6] at z; cases z) fun z => by rw [b6] at z; cases z), b4, b5, b6⟩
      · obtain ⟨o, es, ep, e, d, _⟩ := Gn
        rw [z, tp] at e
        cases e
        cases d
    have ev0 : Env0 P w K mg (hidT s1.heap H) callerA [] s1 H := ⟨rfl, MB, fun b o e => of_hidT e, Nat.le_of_eq (hidT_size _ _), trivial, fun b hb => absurd (show b ∈ ([] : List Addr) from hb) (by simp), ok, .of_eq g0⟩
    have run := (F _ KB (names Gn) (let ⟨mm, hm⟩ := hsy; ⟨mm, names hm⟩) TB).run callerA [] s1 H ⟨[.ref a], []⟩ [.ref a] [.ref a] _ _ ⟨room, rfl⟩ ev0 (bnd s1 (.ref a)) (.cons rfl .nil) (hsp H hT hS)
    refine codeAny_mono run fun r s2 z => ?_
    match r, z with
    | .error e, z => exact (hCX H e s2 z).elim
    | .ok .next, z => exact z.elim
    | .ok .brk, z => exact z.elim
    | .ok .cont, z => exact z.elim
    | .ok (.ret u), z =>
      obtain ⟨v, H2, os, bare, un, ok2, ru, q⟩ := z
      have q0 : v = .bl true := q
      subst q0
      obtain rfl : u = Value.bool true := ru
      have stays : ∀ b o, b ∉ tabsOf cs → s1.heap.get? b = some o → s2.heap.get? b = some o := by
        intro b o nb e
        cases hb : H b with
        | none => exact un.keep b o e hb (fun z => absurd (show b ∈ ([] : List Addr) from z) (by simp)) (by simp)
        | some u =>
          rcases hO b with z | z | ⟨ob, xs, z⟩
          · rw [hb] at z; cases z
          · exact absurd z nb
          · obtain ⟨f1, _⟩ := ok b _ z
            obtain ⟨f2, _⟩ := ok2 b _ (un.frzs b ob _ z)
            rw [e] at f1
            cases f1
            exact f2
      have grow : ∀ p ∈ cs, ∃ more : Array Value, s2.heap.get? p.2 = some { cls := .none, data := .fields more } := fun p hp => by
        obtain ⟨more, z⟩ := un.tbls p.2 #[] (hT p hp)
        exact ⟨_, ok2 p.2 _ z⟩
      refine ⟨rfl, ⟨fun b o e => ?_, fun b o e => ?_⟩, os, bare⟩
      · by_cases hb : b ∈ tabsOf cs
        · obtain ⟨p, hp, rfl⟩ := List.mem_map.mp hb
          obtain ⟨more, hm⟩ := grow p hp
          rw [tabs p hp] at e
          cases e
          exact .inr (.inl ⟨((code p hp).tab (tabs p hp)).isCodeTable, rfl, #[], more, rfl, by rw [Array.empty_append]; exact hm⟩)
        · exact .inl (stays b o hb e)
      · by_cases hb : b ∈ tabsOf cs
        · obtain ⟨p, hp, rfl⟩ := List.mem_map.mp hb
          obtain ⟨more, hm⟩ := grow p hp
          exact ⟨_, hm⟩
        · exact ⟨o, stays b o hb e⟩
  cases hk : K.lookup a with
  | some o =>
    have e := KX a o hk
    rw [hobj] at e
    cases e
    refine go (fun b => if b ∈ tabsOf cs then some (.tbl #[]) else none) (fun p hp => if_pos (inTab p hp)) (fun b => ?_) (.inr ⟨_, vs.toArray, _, hk, rfl, rfl, rfl, by rw [List.size_toArray, lv]; exact hl, by simpa using rv⟩) (fun b u z => ?_) (fun b z => ?_) fun z => absurd (show (if a ∈ tabsOf cs then some (HO.tbl #[]) else none) = none from if_neg scrOff) z
    · by_cases hb : b ∈ tabsOf cs
      · exact .inr (.inl hb)
      · exact .inl (if_neg hb)
    · by_cases hb : b ∈ tabsOf cs
      · have e := (if_pos hb).symm.trans z
        cases e
        exact isTab b hb
      · have e := (if_neg hb).symm.trans z
        cases e
    · by_cases hb : b ∈ tabsOf cs
      · exact .inr hb
      · exact absurd (if_neg hb) z
  | none =>
    refine go (fun b => if b = a then some (.frz { cls := .type "list", data := .seq vs.toArray } (.lst (ns.map V.int))) else if b ∈ tabsOf cs then some (.tbl #[]) else none)
      (fun p hp => (if_neg (show ¬ p.2 = a from fun z => scrOff (by rw [← z]; exact inTab p hp))).trans (if_pos (inTab p hp))) (fun b => ?_) (.inl (.inr ⟨{ cls := .type "list", data := .seq vs.toArray }, if_pos rfl⟩)) (fun b u z => ?_) (fun b z => ?_) fun _ => hk
    · by_cases hb : b = a
      · exact .inr (.inr ⟨_, _, if_pos hb⟩)
      · by_cases h2 : b ∈ tabsOf cs
        · exact .inr (.inl h2)
        · exact .inl ((if_neg hb).trans (if_neg h2))
    · by_cases hb : b = a
      · have e := (if_pos hb).symm.trans z
        cases e
        rw [hb]
        exact ⟨hobj, by rw [List.length_map]; exact hl, vs, _, rv, hobj⟩
      · have e := (if_neg hb).symm.trans z
        by_cases h2 : b ∈ tabsOf cs
        · have e2 := (if_pos h2).symm.trans e
          cases e2
          exact isTab b h2
        · have e2 := (if_neg h2).symm.trans e
          cases e2
    · by_cases hb : b = a
      · exact .inl hb
      · by_cases h2 : b ∈ tabsOf cs
        · exact .inr h2
        · exact absurd ((if_neg hb).trans (if_neg h2)) z
/-- what is known of the law's promise at the head's heap -/
def LawG (l : PySem.W.OpenLaw) (w : World) (K : PySem.W.Frag) (CX : CXT) (k n : Nat) (x : Str) (mg : Str → Option Value) (fa : Addr) (h : Heap) : Prop :=
  ∃ (fd : FuncData) (cs : List (Addr × Addr)) (sp : Sp), (∀ p ∈ cs, h.get? p.2 = some { cls := .none, data := .fields #[] }) ∧ (∀ p ∈ cs, K.lookup p.2 = none) ∧ (∀ p ∈ cs, PySem.W.CodeHd h p.1 p.2) ∧ (∀ (s : Shared) (u : Value), BindsTo s fd ⟨[u], []⟩ [(x, u)]) ∧
    (∀ (H : Hp) (a : Addr) (ns : List Int), ns.length ≤ n → (∀ z ∈ ns, Builtin.Int.intBits z ≤ 1048576) → (∀ p ∈ cs, H p.2 = some (.tbl #[])) → SqL K H a (ns.map V.int) → sp [.ref a] H (fun v _ => v = .bl true) fun _ _ _ => False) ∧
    ∀ base : Heap, K.In base → base.Ns mainGlobals mg → SysB base → (∀ p ∈ cs, TabB base mg p.1 p.2) → FnG l.prog w K mg base CX k fa fd [x] sp
theorem walk_G {l : PySem.W.OpenLaw} {n k : Nat} {q : Program} {loose : List Str} {XP : (Str → Option Value) → Heap → Prop} {YP : World → Heap → Prop} {d : DefRec} {CX : World → CXT} {x : Str}
    (hn : l.most = some n) (hn2 : n ≤ sizeLine) (df : d.params.defaults = []) (hseer : importsNone q = true) (room : Room k callerA)
    (F : ∀ (w : World) (mg : Str → Option Value) (fa : Addr) (h : Heap), YP w h → h.Ns mainGlobals mg → mg d.name = some (.ref fa) → ∃ K : PySem.W.Frag, K.In h ∧ LawG l w K (CX w) k n x mg fa h)
    (hCX : ∀ (w : World) (H : Hp) (s : Shared) (e : Value) (s2 : Shared), CX w [] H s (fun _ _ _ => False) e s2 → False) :
    PySem.W.WalkO q loose XP YP l.row.toRowW d [] (fun f vs => PySem.call f vs) :=
  Att.attach_callB hn df fun w s0 s1 mg mb fa o pm cd doc a vs ns G Y ho hd hcd hmg hobj hints hlen hbits hg => by
    obtain ⟨K, KX, fd, cs, sp, hT, nT, C, hb, hsp, hF⟩ := F w mg fa _ Y G.T.g hmg
    exact law_callG KX G.T.g G.T.b G.T.builtins G.T.nolimit hg hT nT C G.T.bmain hobj hints (Nat.le_trans hlen hn2) room (let ⟨mm, hm, _⟩ := (G.T.seer hseer).mods; ⟨mm, hm⟩) hF hb (fun H hH hS => hsp H a ns hlen hbits hH hS) fun H e s2 => hCX w H s1 e s2
end Pm

set_option Elab.async false
set_option linter.all false
set_option maxRecDepth 100000
set_option maxHeartbeats 4000000
/-! EvF: f-strings; what repr shows. -/
namespace Pm
open PySem PySem.Spec PyProof.Rows L2 LamX
set_option autoImplicit false

/-- a text of codes -/
def RS : Rho → Store → Hp → Hp → List Nat → Str → Prop := fun _ _ _ _ x y => y = strS x
theorem RS.back : Back RS := fun _ _ _ _ _ _ _ _ h => h
section
variable {X : Cx} {κ : Kx} {B : L2.St → XW} {pos : Pos}
/-- the parts of an f-string -/
def FmOk (X : Cx) (κ : Kx) (B : L2.St → XW) (xs : List Expr) (m : List Nat → Loc → Store → Res (List Nat)) : Prop :=
  ∃ ts, PJ X xs ts ∧ ∀ acc σ H Q ρ l st, At (Cx.kit X κ) ρ H l σ st → EndG (Cx.kit X κ) (B σ) RS ρ H (m acc l st) Q → tJs ts (strS acc) σ H Q
theorem fm_nil : FmOk X κ B [] (fun acc _ st => .ok acc st) :=
  ⟨[], .nil, fun acc σ H Q ρ l st a q => q ρ _ H (Ext.refl _ _) a.sim rfl⟩
theorem fm_cons {e : Expr} {es : List Expr} {fe : Bool} {te : TE} {me : Loc → Store → Res D} {mr : List Nat → Loc → Store → Res (List Nat)} (he : PE X e te)
    (ht : ∀ σ H Q, eE X κ B fe me σ H (fun x H1 => (∃ y : Str, x = .str y ∧ y.length ≤ sizeLine ∧ Q (.str y) H1) ∨ ∃ i : Int, x = .int i ∧ i.natAbs.log2 < 1920 ∧ Q (.str (toString i)) H1) → te σ H Q) (hr : FmOk X κ B es mr) :
    FmOk X κ B (e :: es) (fun acc l st => (me l st).bind fun d st => optR (fmt1 d) fun y => ifB (decide (acc.length + y.length ≤ SL)) (mr (acc ++ y) l st) .bad) := by
  obtain ⟨ts, pj, k⟩ := hr
  refine ⟨te :: ts, .cons he pj, fun acc σ H Q ρ l st a q => ?_⟩
  refine ht σ H _ ⟨ρ, l, st, a, EndG.bind RS.back q fun d st1 ρ1 v H1 x1 s1 r1 q1 => ?_⟩
  obtain ⟨r1, _⟩ := r1
  have fin : ∀ y : List Nat, EndG (Cx.kit X κ) (B σ) RS ρ1 H1 (ifB (decide (acc.length + y.length ≤ SL)) (mr (acc ++ y) l st1) .bad) Q →
      (strS acc ++ strS y).length ≤ sizeLine ∧ tJs ts (strS acc ++ strS y) σ H1 Q := fun y q2 => by
    by_cases hz : acc.length + y.length ≤ SL
    · rw [decide_eq_true hz] at q2
      have e2 : (acc ++ y).length ≤ SL := by rw [List.length_append]; exact hz
      refine ⟨by rw [strS_append, strS_length]; exact e2, ?_⟩
      rw [strS_append]
      exact k _ σ H1 Q ρ1 l st1 (a.go x1 s1) q2
    · rw [decide_eq_false hz] at q2
      exact q2.elim
  cases d with
  | str x =>
    cases r1
    have q2 : EndG (Cx.kit X κ) (B σ) RS ρ1 H1 (optR (if x.length ≤ SL then some x else none) fun y => ifB (decide (acc.length + y.length ≤ SL)) (mr (acc ++ y) l st1) .bad) Q := q1
    by_cases hx : x.length ≤ SL
    · rw [if_pos hx] at q2
      obtain ⟨z1, z2⟩ := fin x q2
      exact .inl ⟨_, rfl, by rw [strS_length]; exact hx, _, rfl, z1, z2⟩
    · rw [if_neg hx] at q2
      exact q2.elim
  | int i =>
    cases r1
    have q2 : EndG (Cx.kit X κ) (B σ) RS ρ1 H1 (optR (if i.natAbs.log2 < 1920 then some (intText i) else none) fun y => ifB (decide (acc.length + y.length ≤ SL)) (mr (acc ++ y) l st1) .bad) Q := q1
    by_cases hx : i.natAbs.log2 < 1920
    · rw [if_pos hx] at q2
      obtain ⟨z1, z2⟩ := fin (intText i) q2
      refine .inr ⟨i, rfl, hx, Str.ofString (toString i), rfl, ?_⟩
      rw [int_text]
      exact ⟨z1, z2⟩
    · rw [if_neg hx] at q2
      exact q2.elim
  | _ => exact q1.elim
/-- {e} -/
theorem fm_fv {e : Expr} {es : List Expr} {fe : Bool} {me : Loc → Store → Res D} {mr : List Nat → Loc → Store → Res (List Nat)} (he : PE X e (eE X κ B fe me)) (hr : FmOk X κ B es mr) :
    FmOk X κ B (.FormattedValue e (-1) none pos :: es) (fun acc l st => (me l st).bind fun d st => optR (fmt1 d) fun y => ifB (decide (acc.length + y.length ≤ SL)) (mr (acc ++ y) l st) .bad) :=
  fm_cons (fe := fe) (pe_fmt he) (fun σ H Q h => h) hr
/-- a written part -/
theorem fm_str {e : Expr} {es : List Expr} {fe : Bool} {s : List Nat} {mr : List Nat → Loc → Store → Res (List Nat)} (he : PE X e (eE X κ B fe fun _ st => .ok (.str s) st)) (hr : FmOk X κ B es mr) :
    FmOk X κ B (e :: es) (fun acc l st => (Res.ok (.str s) st).bind fun d st => optR (fmt1 d) fun y => ifB (decide (acc.length + y.length ≤ SL)) (mr (acc ++ y) l st) .bad) := by
  refine fm_cons (fe := fe) (me := fun _ st => .ok (.str s) st) he (fun σ H Q h => ?_) hr
  obtain ⟨ρ, l, st, a, q⟩ := h
  refine ⟨ρ, l, st, a, fun ρ' v H' x1 s1 r1 => ?_⟩
  rcases q ρ' v H' x1 s1 r1 with ⟨y, rfl, _, h⟩ | ⟨i, rfl, _, _⟩
  · exact h
  · obtain ⟨r1, _⟩ := r1
    cases r1
/-- f'..' -/
theorem se_fmt {v1 v2 : Expr} {rest : List Expr} {m : List Nat → Loc → Store → Res (List Nat)} {fr : Bool} (h : FmOk X κ B (v1 :: v2 :: rest) m) :
    PE X (.JoinedStr (v1 :: v2 :: rest) pos) (eE X κ B fr fun l st => (m [] l st).bind fun x st => .ok (.str x) st) := by
  obtain ⟨ts, pj, k⟩ := h
  refine PE.imp (pe_joined pj) fun σ H Q ⟨ρ, l, st, a, q⟩ => ?_
  refine k [] σ H _ ρ l st a (EndG.bind RE.back q fun x st1 ρ1 y H1 x1 s1 r1 q1 => ?_)
  have r2 : y = strS x := r1
  subst r2
  exact q1 ρ1 _ H1 (Ext.refl _ _) s1 ⟨.str _, fun _ t => nomatch t⟩
end

/-! ### what repr shows -/
mutual
def toQ : D → PyData
  | .non => .none
  | .bl b => .bool b
  | .int i => .int i
  | .str x => .str (strS x)
  | .tup xs => .tuple (toQs xs)
  | .lst xs => .list (toQs xs)
  | .dct [(.s x, .int i)] => .dict [(.str (strS x), .int i)]
  | .dct _ => .dict []
  | _ => .none
def toQs : List D → List PyData
  | [] => []
  | x :: xs => toQ x :: toQs xs
end
/-- what the evaluator shows is what is shown -/
def RpOk (P : Par) : Prop := ∀ d : D, d.shows = true → strS (P.rp d) = (toQ d).shown
mutual
/-- data within the heap, empty dicts too -/
inductive Dq (K : PySem.W.Frag) (H : Hp) : V → PyData → Prop
  | non : Dq K H .non .none
  | bl (b : Bool) : Dq K H (.bl b) (.bool b)
  | int (i : Int) : Dq K H (.int i) (.int i)
  | str (x : Str) : Dq K H (.str x) (.str x)
  | lst {a : Addr} {xs : List V} {ds : List PyData} : H a = some (.lst xs) → DqAll K H xs ds → Dq K H (.ref a) (.list ds)
  | tup {a : Addr} {xs : List V} {ds : List PyData} : SqT K H a xs → DqAll K H xs ds → Dq K H (.ref a) (.tuple ds)
  | dct {a : Addr} : H a = some (.dK []) → Dq K H (.ref a) (.dict [])
  | dct1 {a : Addr} {x : Str} {i : Int} : H a = some (.dK [(.inr x, .int i)]) → Dq K H (.ref a) (.dict [(.str x, .int i)])
inductive DqAll (K : PySem.W.Frag) (H : Hp) : List V → List PyData → Prop
  | nil : DqAll K H [] []
  | cons {v : V} {vs : List V} {d : PyData} {ds : List PyData} : Dq K H v d → DqAll K H vs ds → DqAll K H (v :: vs) (d :: ds)
end
section
variable {X : Cx} {pins : List (Addr × Obj)} {σ : L2.St} {H : Hp} {s : Shared}
/-- nothing of ours is the modules' table -/
theorem no_sys (hsy : SysB X.base) (I : L2.Inv X pins σ H s) : H sysModules = none := by
  obtain ⟨mm, o, es, ep, e, _⟩ := hsy
  exact (I.bs _ _ e).2
mutual
theorem Dq.reads (hsy : SysB X.base) (I : L2.Inv X pins σ H s) : ∀ (d : PyData) (v : V) (u : Value), Dq X.K H v d → RelV v u → ∃ as, Reads s.heap u d as ∧ sysModules ∉ as
  | .none, _, _, h, r => by
    cases h
    cases r
    exact ⟨_, Reads.none, by simp⟩
  | .bool b, _, _, h, r => by
    cases h
    cases r
    exact ⟨_, Reads.bool b, by simp⟩
  | .int i, _, _, h, r => by
    cases h
    obtain ⟨t, rfl⟩ := r
    exact ⟨_, Reads.int i t, by simp⟩
  | .str x, _, _, h, r => by
    cases h
    obtain ⟨t, rfl⟩ := r
    exact ⟨_, Reads.str x t, by simp⟩
  | .list ds, _, _, h, r => by
    cases h with
    | lst hs ha =>
      rename_i a xs
      cases r
      obtain ⟨its, rv, ⟨o, n, ho, hc, _, hd⟩, _⟩ := I.list (.inl (.inl hs))
      obtain ⟨as, hr, hm⟩ := Dq.readsAll hsy I ds _ its ha rv
      refine ⟨_, Reads.list ho hc hd hr, fun z => ?_⟩
      rcases List.mem_cons.mp z with e | e
      · rw [← e, no_sys hsy I] at hs; cases hs
      · exact hm e
  | .tuple ds, _, _, h, r => by
    cases h with
    | tup hs ha =>
      cases r
      obtain ⟨its, rv, ⟨o, ho, hc, n, hd⟩, _⟩ := I.tuple hs
      obtain ⟨as, hr, hm⟩ := Dq.readsAll hsy I ds _ its ha rv
      exact ⟨_, Reads.tuple ho hc hd hr, hm⟩
  | .dict kvs, _, _, h, r => by
    cases h with
    | dct hs =>
      cases r
      obtain ⟨_, hz, vs, kv, hdo⟩ := I.hok _ _ hs
      cases kv
      obtain ⟨o, es, ep, ho, ex, hd, _, pr, _⟩ := hdo
      have e0 : es.toList = [] := by cases hp : es.toList with
        | nil => rfl
        | cons a b => rw [hp] at pr; cases pr
      refine ⟨_, Reads.dict (as := []) (bs := []) ho ex.1 hd (by rw [e0]; exact .nil) (by rw [e0]; exact .nil), fun z => ?_⟩
      simp only [List.append_nil, List.mem_singleton] at z
      rw [z] at hz
      simp at hz
    | @dct1 a x i hs =>
      cases r
      obtain ⟨_, hz, vs, kv, hdo⟩ := I.hok _ _ hs
      cases kv with
      | @cons _ q _ vs' h1 h2 =>
        cases h2
        obtain ⟨k, u⟩ := q
        obtain ⟨e1, t, e2⟩ := h1
        have e1' : Sum.inr x = k := e1
        have e2' : u = Value.int i t := e2
        subst e1' e2'
        obtain ⟨o, es, ep, ho, ex, hd, _, pr, _⟩ := hdo
        cases hp : es.toList with
        | nil => rw [hp] at pr; cases pr
        | cons en rest =>
          rw [hp] at pr
          cases pr with
          | cons g1 g2 g3 =>
            cases g3
            obtain ⟨tk, hk⟩ := keyIs_rel (show keyIs (.inr x) en.key = true from g1)
            refine ⟨_, Reads.dict (kvs := [(.str x, .int i)]) ho ex.1 hd (by rw [hp]; exact .cons (by show Reads _ en.key _ _; rw [hk]; exact .str x tk) .nil) (by rw [hp]; exact .cons (by show Reads _ en.val _ _; rw [g2]; exact .int i t) .nil), fun z => ?_⟩
            simp only [List.append_nil, List.mem_singleton] at z
            rw [z] at hz
            simp at hz
theorem Dq.readsAll (hsy : SysB X.base) (I : L2.Inv X pins σ H s) : ∀ (ds : List PyData) (vs : List V) (us : List Value), DqAll X.K H vs ds → Vals vs us → ∃ as, ReadsAll s.heap us ds as ∧ sysModules ∉ as
  | [], _, _, h, r => by
    cases h
    cases r
    exact ⟨_, ReadsAll.nil, by simp⟩
  | d :: ds, _, _, h, r => by
    cases h with
    | cons h1 h2 =>
      cases r with
      | cons r1 r2 =>
        obtain ⟨as, q1, m1⟩ := Dq.reads hsy I d _ _ h1 r1
        obtain ⟨bs, q2, m2⟩ := Dq.readsAll hsy I ds _ _ h2 r2
        exact ⟨_, ReadsAll.cons q1 q2, fun z => (List.mem_append.mp z).elim m1 m2⟩
end
end
section
variable {K : Kit} {ρ : Rho} {H : Hp} {st : Store}
mutual
theorem dq_of : ∀ {d : D} {v : V}, RelD K ρ H d v → d.shows = true → Dq K.K H v (toQ d)
  | _, _, .non, _ => by simp only [toQ]; exact .non
  | _, _, .bl b, _ => by simp only [toQ]; exact .bl b
  | _, _, .int i, _ => by simp only [toQ]; exact .int i
  | _, _, .str x, _ => by simp only [toQ]; exact .str _
  | _, _, .tup h r, p => by simp only [toQ]; exact .tup h.sq (dqs_of r (by simpa only [D.shows] using p))
  | _, _, .lst h _ r, p => by simp only [toQ]; exact .lst h (dqs_of r (by simpa only [D.shows] using p))
  | .dct [], _, .dct h _ r, p => by
    simp only [toQ]
    cases r
    exact .dct h
  | .dct ((k, d) :: rest), _, .dct h _ r, p => by
    cases k with
    | i n => simp [D.shows] at p
    | s x =>
      cases d with
      | int i =>
        cases rest with
        | nil =>
          simp only [toQ]
          cases r with
          | cons r1 r2 =>
            cases r1
            cases r2
            exact .dct1 h
        | cons _ _ => simp [D.shows] at p
      | _ => simp [D.shows] at p
  | _, _, .itp _ _, p => by simp [D.shows] at p
  | _, _, .err _, p => by simp [D.shows] at p
  | _, _, .errf _ _ _ _, p => by simp [D.shows] at p
  | _, _, .ver _, p => by simp [D.shows] at p
  | _, _, .scr _, p => by simp [D.shows] at p
  | _, _, .ref _, p => by simp [D.shows] at p
  | _, _, .dead _, p => by simp [D.shows] at p
theorem dqs_of : ∀ {ds : List D} {vs : List V}, RelDs K ρ H ds vs → showsL ds = true → DqAll K.K H vs (toQs ds)
  | _, _, .nil, _ => by simp only [toQs]; exact .nil
  | _, _, .cons h r, p => by
    simp only [showsL, Bool.and_eq_true] at p
    simp only [toQs]
    exact .cons (dq_of h p.1) (dqs_of r p.2)
end
mutual
theorem deref_dp (s : Sim K ρ st H) : ∀ (n : Nat) (d : D) (v : V), RelD K ρ H d v → (deref st n d).shows = true → Dq K.K H v (toQ (deref st n d))
  | 0, d, v, r, p => by
    simp only [deref] at p ⊢
    exact dq_of r p
  | n + 1, .tup xs, v, r, p => by
    simp only [deref] at p ⊢
    cases r with
    | tup h r => simp only [toQ]; exact .tup h.sq (derefs_dp s n xs _ r (by simpa only [D.shows] using p))
  | n + 1, .lst xs, v, r, p => by
    simp only [deref] at p ⊢
    cases r with
    | lst h _ r => simp only [toQ]; exact .lst h (derefs_dp s n xs _ r (by simpa only [D.shows] using p))
  | n + 1, .ref k, v, r, p => by
    simp only [deref] at p ⊢
    cases hk : st[k]? with
    | none => rw [hk] at p; simp [D.shows] at p
    | some o =>
      cases o with
      | lst xs =>
        rw [hk] at p
        obtain ⟨a, vs, rfl, _, h1, h2⟩ := ref_lst s r hk
        simp only [toQ]
        exact .lst h1 (derefs_dp s n xs _ h2 (by simpa only [D.shows] using p))
      | dead => rw [hk] at p; simp [D.shows] at p
      | dct _ => rw [hk] at p; simp [D.shows] at p
      | ins _ _ => rw [hk] at p; simp [D.shows] at p
  | n + 1, .non, v, r, p => by simp only [deref] at p ⊢; exact dq_of r p
  | n + 1, .bl _, v, r, p => by simp only [deref] at p ⊢; exact dq_of r p
  | n + 1, .int _, v, r, p => by simp only [deref] at p ⊢; exact dq_of r p
  | n + 1, .str _, v, r, p => by simp only [deref] at p ⊢; exact dq_of r p
  | n + 1, .dct _, v, r, p => by simp only [deref] at p ⊢; exact dq_of r p
  | n + 1, .scr _, v, r, p => by simp only [deref] at p ⊢; exact dq_of r p
  | n + 1, .itp _, v, r, p => by simp only [deref] at p ⊢; exact dq_of r p
  | n + 1, .err _ _, v, r, p => by simp only [deref] at p ⊢; exact dq_of r p
  | n + 1, .ver, v, r, p => by simp only [deref] at p ⊢; exact dq_of r p
termination_by n d => (n, sizeOf d)
theorem derefs_dp (s : Sim K ρ st H) : ∀ (n : Nat) (ds : List D) (vs : List V), RelDs K ρ H ds vs → showsL (derefs st n ds) = true → DqAll K.K H vs (toQs (derefs st n ds))
  | 0, ds, vs, r, p => by
    simp only [derefs] at p ⊢
    exact dqs_of r p
  | n + 1, [], vs, r, p => by
    simp only [derefs]
    cases r
    exact .nil
  | n + 1, d :: ds, vs, r, p => by
    simp only [derefs, showsL, Bool.and_eq_true, toQs] at p ⊢
    cases r with
    | cons r1 r2 => exact .cons (deref_dp s n d _ r1 p.1) (derefs_dp s (n + 1) ds _ r2 p.2)
termination_by n ds => (n, sizeOf ds)
end
end
theorem len_app (x y : Str) : (x ++ y).length = x.length + y.length := strLen_append ..
mutual
theorem toQ_depth : ∀ d : D, (toQ d).depth ≤ d.depth
  | .tup xs => by simp only [toQ, PyData.depth, D.depth]; exact Nat.succ_le_succ (toQs_depth xs)
  | .lst xs => by simp only [toQ, PyData.depth, D.depth]; exact Nat.succ_le_succ (toQs_depth xs)
  | .dct kvs => by
    unfold toQ
    split <;> first | (simp [PyData.depth, PyData.depthKv, D.depth]; done) | (rename_i heq; exact nomatch heq)
  | .non => by simp [toQ, PyData.depth]
  | .bl _ => by simp [toQ, PyData.depth]
  | .int _ => by simp [toQ, PyData.depth]
  | .str _ => by simp [toQ, PyData.depth]
  | .ref _ => by simp [toQ, PyData.depth]
  | .scr _ => by simp [toQ, PyData.depth]
  | .itp _ => by simp [toQ, PyData.depth]
  | .err _ _ => by simp [toQ, PyData.depth]
  | .ver => by simp [toQ, PyData.depth]
theorem toQs_depth : ∀ ds : List D, PyData.depthAll (toQs ds) ≤ depths ds
  | [] => by simp [toQs, PyData.depthAll, depths]
  | x :: xs => by
    simp only [toQs, PyData.depthAll, depths]
    have h1 := toQ_depth x
    have h2 := toQs_depth xs
    omega
end
mutual
theorem shown_len : ∀ d : D, d.shows = true → d.tame = true → (toQ d).shown.length ≤ d.weight ∧ (toQ d).showable = true
  | .non, _, _ => ⟨by decide, rfl⟩
  | .bl true, _, _ => ⟨by decide, rfl⟩
  | .bl false, _, _ => ⟨by decide, rfl⟩
  | .int i, _, t => by
    have h1 : i.natAbs.log2 < 1920 := by simpa [D.tame] using t
    refine ⟨?_, by simpa [toQ, PyData.showable] using h1⟩
    have h2 := int_text_length_le (a := i) (k := i.natAbs.log2 + 1) (by omega) (by omega)
    show (Str.ofString (toString i)).length ≤ _
    simp only [D.weight]
    rw [int_text, strS_length]
    have e : (intText i).length = (toString i).length := by
      unfold intText codes
      rw [List.length_map]
      first | rfl | exact String.length_toList ..
    rw [e]
    omega
  | .str x, _, t => by
    refine ⟨?_, rfl⟩
    have h1 := StrLaws.reprText_len (strS x) (fun c hc => by
      simp only [D.tame, List.all_eq_true, decide_eq_true_eq] at t
      have := t c (by simpa [strS] using hc)
      exact Nat.lt_trans this (by decide))
    rw [strS_length] at h1
    simpa [toQ, PyData.shown, D.weight] using h1
  | .tup xs, p, t => by
    obtain ⟨h1, h2⟩ := showns_len xs (by simpa only [D.shows] using p) (by simpa only [D.tame] using t)
    refine ⟨?_, by simpa [toQ, PyData.showable] using h2⟩
    simp only [toQ, PyData.shown, D.weight]
    unfold tupleText
    rw [len_app, len_app]
    have e1 : (("(" : Str)).length = 1 := rfl
    have e2 : ((if ((PyData.shownAll (toQs xs)).length == 1) = true then ",)" else ")" : String) : Str).length ≤ 2 := by split <;> decide
    by_cases hn : PyData.shownAll (toQs xs) = []
    · rw [hn] at e2 ⊢
      have : (Str.join ", " []).length = 0 := rfl
      rw [this]
      omega
    · have := join_length_add (PyData.shownAll (toQs xs)) hn
      omega
  | .lst xs, p, t => by
    obtain ⟨h1, h2⟩ := showns_len xs (by simpa only [D.shows] using p) (by simpa only [D.tame] using t)
    refine ⟨?_, by simpa [toQ, PyData.showable] using h2⟩
    simp only [toQ, PyData.shown, D.weight]
    unfold listText
    rw [len_app]
    have e1 : (("]" : Str)).length = 1 := rfl
    have e0 : (("[" : Str)).length = 1 := rfl
    have := text_len (PyData.shownAll (toQs xs)) 0 "["
    omega
  | .dct [], p, _ => ⟨by simp only [toQ, D.weight]; decide, by simp [toQ, PyData.showable, PyData.showableKv]⟩
  | .dct ((k, d) :: rest), p, t => by
    cases k with
    | i n => simp [D.shows] at p
    | s x =>
      cases d with
      | int i =>
        cases rest with
        | nil =>
          simp only [D.tame, Bool.and_eq_true, decide_eq_true_eq] at t
          obtain ⟨a1, _⟩ := shown_len (.str x) rfl (by simpa only [D.tame] using t.1)
          obtain ⟨b1, b2⟩ := shown_len (.int i) rfl (by simpa [D.tame] using t.2)
          simp only [toQ, PyData.shown, D.weight] at a1 b1
          have b3 : i.natAbs.log2 < 1920 := t.2
          refine ⟨?_, by simp [toQ, PyData.showable, PyData.showableKv, b3]⟩
          simp only [toQ, PyData.shown, PyData.shownKv, D.weight]
          unfold dictText
          have j : Str.join ((", " : String) : Str) [reprText (strS x) ++ ((": " : String) : Str) ++ ((toString i : String) : Str)] = reprText (strS x) ++ ((": " : String) : Str) ++ ((toString i : String) : Str) := rfl
          rw [len_app, len_app]
          have e1 : ((("{" : String) : Str)).length = 1 := rfl
          have e2 : ((("}" : String) : Str)).length = 1 := rfl
          have e3 : (((": " : String) : Str)).length = 2 := rfl
          rw [j, len_app, len_app]
          omega
        | cons _ _ => simp [D.shows] at p
      | _ => simp [D.shows] at p
  | .ref _, p, _ => by simp [D.shows] at p
  | .scr _, p, _ => by simp [D.shows] at p
  | .itp _, p, _ => by simp [D.shows] at p
  | .err _ _, p, _ => by simp [D.shows] at p
  | .ver, p, _ => by simp [D.shows] at p
theorem showns_len : ∀ ds : List D, showsL ds = true → tames ds = true → piled (PyData.shownAll (toQs ds)) ≤ weights ds ∧ PyData.showableAll (toQs ds) = true
  | [], _, _ => ⟨by decide, rfl⟩
  | d :: ds, p, t => by
    simp only [showsL, Bool.and_eq_true] at p
    simp only [tames, Bool.and_eq_true] at t
    obtain ⟨h1, h2⟩ := shown_len d p.1 t.1
    obtain ⟨g1, g2⟩ := showns_len ds p.2 t.2
    refine ⟨?_, by simp [toQs, PyData.showableAll, h2, g2]⟩
    simp only [toQs, PyData.shownAll, weights]
    unfold piled at g1 ⊢
    simp only [List.map_cons, List.sum_cons] at g1 ⊢
    omega
theorem text_len : ∀ (ts : List Str) (k : Nat) (acc : Str), (textFrom k acc ts).length ≤ acc.length + piled ts
  | [], k, acc => by show acc.length ≤ _; omega
  | t :: r, k, acc => by
    have h := text_len r (k + 1) (acc ++ (if k > 0 then ", " else "" : String) ++ t)
    have e : (acc ++ (if k > 0 then ", " else "" : String) ++ t).length ≤ acc.length + 2 + t.length := by
      rw [len_app, len_app]
      have : ((if k > 0 then ", " else "" : String) : Str).length ≤ 2 := by split <;> decide
      omega
    show (textFrom (k + 1) (acc ++ (if k > 0 then ", " else "" : String) ++ t) r).length ≤ _
    unfold piled at h ⊢
    simp only [List.map_cons, List.sum_cons] at h ⊢
    omega
end

/-! ### repr called -/
def rRep (K : PySem.W.Frag) : List V → Hp → VK → Prop := fun xs H Q => ∃ (d : PyData) (v : V), xs = [v] ∧ Dq K H v d ∧ d.showable = true ∧ d.depth ≤ 64 ∧ d.shown.length ≤ sizeLine ∧ Q (.str d.shown) H
theorem call_repD {X : Cx} (hsy : SysB X.base) (hg : X.A.guards = some []) (hu : X.A.units + 100 < cLine) : CallR X (.builtin "repr") (rRep X.K) := by
  intro pins s σ H xs us Q I r h
  obtain ⟨d, v, rfl, hd, hs, hp, hz, q⟩ := h
  obtain ⟨u, rfl, ru⟩ := vals1 r
  have byref : ∀ a, v = .ref a → wpAny (model X.prog X.w) X.A (call (.builtin "repr") [u]) (EP X pins σ Q) X.xe s := fun a e => by
    subst e
    cases ru
    obtain ⟨as, hr, hm⟩ := Dq.reads hsy I _ _ _ hd rfl
    exact repr_of_reads' hr hs (fun _ => hm) hg (by omega) (fun b o e => e) (fun h' u tk hk => ⟨.str _, H, I.kept hk, ⟨_, rfl⟩, q⟩) hz
  cases hd with
  | non =>
    cases ru
    exact PySem.P.repr_of_none ⟨.str _, H, I.tok _, ⟨_, rfl⟩, q⟩
  | bl b =>
    cases ru
    exact PySem.P.repr_of_bool ⟨.str _, H, I.tok _, ⟨_, rfl⟩, by cases b <;> exact q⟩
  | int i =>
    obtain ⟨t, rfl⟩ := ru
    exact PySem.P.repr_of_int (by simpa [PyData.showable] using hs) ⟨.str _, H, I.tok _, ⟨_, rfl⟩, q⟩
  | str x =>
    obtain ⟨t, rfl⟩ := ru
    exact PySem.P.repr_of_str ⟨.str _, H, I.tok _, ⟨_, rfl⟩, q⟩ hz
  | lst h1 h2 => exact byref _ rfl
  | tup h1 h2 => exact byref _ rfl
  | dct h1 => exact byref _ rfl
  | dct1 h1 => exact byref _ rfl
section
variable {X : Cx} {κ : Kx} {B : L2.St → XW} {e : Expr} {es : List Expr} {fr : Bool} {ms : Loc → Store → Res (List D)} {pos p : Pos} {P : Par}
theorem se_repr (hsy : SysB X.base) (R : RpOk P) (hgu : X.A.guards = some []) (hu : X.A.units + 100 < cLine) (hg : Gl X "repr") (hm : X.mg "repr" = none) (ns : (e :: es).all notStar = true) (ha : PA X (e :: es) (eA X κ B ms)) :
    PE X (.Call (.Name "repr" p) (e :: es) [] pos) (eE X κ B fr fun l st => (ms l st).bind fun ds st => .ofOpt (biD P st .repr ds) st) := by
  have ns' : notStar e = true ∧ es.all notStar = true := by simpa using ns
  have hrule : PE X (.Call (.Name "repr" p) (e :: es) [] pos) (tCB (rRep X.K) (eA X κ B ms)) :=
    pe_callB (call_repD hsy hgu hu) hg hm (by decide) ha (by decide) (by decide) (star_cons ns'.1 _ _) (back_plain _ _ ns'.2)
  refine PE.imp hrule fun σ H Q ⟨ρ, l, st, at0, q⟩ => ⟨ρ, l, st, at0, ?_⟩
  have hq : EndG (Cx.kit X κ) (B σ) (RE (Cx.kit X κ) fr) ρ H ((ms l st).bind fun ds st => .ofOpt (biD P st .repr ds) st) Q := q
  cases hms : ms l st with
  | bad => rw [hms] at hq; exact hq
  | exc c fs st1 => rw [hms] at hq; exact hq
  | ok ds st1 =>
    rw [hms] at hq
    intro ρ1 vs H1 x1 s1 r1
    have q1 := EndG.mono RE.back (show EndG (Cx.kit X κ) (B σ) (RE (Cx.kit X κ) fr) ρ H (Res.ofOpt (biD P st1 .repr ds) st1) Q from hq) x1
    obtain ⟨d, e1, k⟩ := EndG.opt q1
    cases r1 with
    | nil => simp [biD] at e1
    | cons r1 r2 =>
      rename_i d0 ds0 v0 vs0
      cases r2 with
      | cons _ _ => simp [biD] at e1
      | nil =>
        have e2 : (if (deref st1 9 d0).shows && decide ((deref st1 9 d0).depth ≤ 64) && (deref st1 9 d0).tame && decide ((deref st1 9 d0).weight ≤ 10000000) then some (D.str (P.rp (deref st1 9 d0))) else none) = some d := e1
        split at e2
        · rename_i hc
          cases e2
          simp only [Bool.and_eq_true, decide_eq_true_eq] at hc
          obtain ⟨⟨⟨c1, c2⟩, c3⟩, c4⟩ := hc
          obtain ⟨g1, g2⟩ := shown_len _ c1 c3
          refine ⟨toQ (deref st1 9 d0), v0, rfl, deref_dp s1 9 d0 v0 r1 c1, g2, Nat.le_trans (toQ_depth _) c2, Nat.le_trans g1 (Nat.le_trans c4 (by decide)), ?_⟩
          rw [← R _ c1]
          exact k ρ1 _ H1 (Ext.refl _ _) s1 (.str _) (fun _ t => nomatch t)
        · cases e2
end
end Pm

set_option Elab.async false
set_option linter.all false
set_option maxRecDepth 100000
set_option maxHeartbeats 4000000
/-! EvD: dict(pairs). -/
namespace Pm
open PySem PySem.Spec PyProof.Rows L2 LamX
set_option autoImplicit false

/-- pairs as values -/
def PairsV (K : PySem.W.Frag) (H : Hp) : List V → List (Key × V) → Prop := Paired fun (y : V) (q : Key × V) => ∃ t, y = .ref t ∧ SqT K H t [kV q.1, q.2]
def putsK (acc : List (Key × V)) : List (Key × V) → List (Key × V)
  | [] => acc
  | q :: r => putsK (L2.putK acc q.1 q.2) r
def rDictP (K : PySem.W.Frag) : List V → Hp → VK → Prop := fun xs H Q => ∃ (a : Addr) (ys : List V) (kvs : List (Key × V)), xs = [.ref a] ∧ (SqL K H a ys ∨ TN K H a ys) ∧ PairsV K H ys kvs ∧ ∀ p, H p = none → Q (.ref p) (upd H p (.dK (putsK [] kvs)))
theorem puts_kv : ∀ {kvs : List (Key × V)} {ws : List (Key × Value)}, KV kvs ws → ∀ {acc : List (Key × V)} {bs : List (Key × Value)}, KV acc bs → KV (putsK acc kvs) (merged bs ws)
  | _, _, .nil, _, _, h => h
  | _, _, @Paired.cons _ _ _ q w _ _ ⟨e, r⟩ t, acc, bs, h => by
    show KV (putsK (L2.putK acc q.1 q.2) _) (merged (stored bs w.1 w.2) _)
    rw [← e]
    exact puts_kv t (h.put q.1 r)
theorem puts_len : ∀ (kvs acc : List (Key × V)), (putsK acc kvs).length ≤ acc.length + kvs.length
  | [], acc => Nat.le_refl _
  | q :: r, acc => by
    have h := puts_len r (L2.putK acc q.1 q.2)
    have h2 : (L2.putK acc q.1 q.2).length ≤ acc.length + 1 := by
      unfold L2.putK
      split
      · rw [List.length_map]; omega
      · rw [List.length_append]; exact Nat.le_refl _
    show (putsK (L2.putK acc q.1 q.2) r).length ≤ acc.length + (r.length + 1)
    omega
section
variable {X : Cx} {pins : List (Addr × Obj)} {σ : L2.St} {H : Hp} {s : Shared}
/-- the address of a reference -/
def adV : V → Addr
  | .ref t => t
  | _ => 0
/-- the pairs as the machine has them -/
theorem pairs_at (I : L2.Inv X pins σ H s) : ∀ {ys : List V} {kvs : List (Key × V)} {us : List Value}, PairsV X.K H ys kvs → Vals ys us →
    ∃ ws : List (Key × Value × Value), KV kvs (ws.map fun w => (w.1, w.2.2)) ∧ Paired (fun (u : Value) (w : Key × Value × Value) => ∃ t, u = .ref t ∧ PairAt s.heap t w.2.1 w.2.2 ∧ (mixKind X.prog X.w).is w.1 w.2.1 = true) us ws
  | _, _, _, .nil, .nil => ⟨[], .nil, .nil⟩
  | _, _, _, @Paired.cons _ _ _ y q _ _ ⟨t, e, h⟩ r, .cons ru rv => by
    obtain ⟨ws, g1, g2⟩ := pairs_at I r rv
    subst e
    cases ru
    obtain ⟨its, ri, pt, _⟩ := I.tuple h
    obtain ⟨ku, vu, rfl, r1, r2⟩ := vals2 ri
    exact ⟨(q.1, ku, vu) :: ws, .cons ⟨rfl, r2⟩ g1, .cons ⟨t, rfl, .inl pt, kV_is r1⟩ g2⟩
theorem dict_of (I : L2.Inv X pins σ H s) (hh : X.A.handled = none) {T : String} {a : Addr} {ys : List V} {kvs : List (Key × V)} {us : List Value} {Q : VK} (rv : Vals ys us) (hp : PairsV X.K H ys kvs) (hz : ys.length ≤ sizeLine)
    (arg : ∀ (Ts : Nat → Addr) (ps : List (Value × Value)), PairItems s.heap us.toArray Ts ps → ∃ fp OK, OK s.heap ∧ PairArg X.prog X.w T a fp [] ps.length (PairRel ps) OK)
    (q : ∀ p, H p = none → Q (.ref p) (upd H p (.dK (putsK [] kvs)))) : wpAny (model X.prog X.w) X.A (call (.type "dict") [.ref a]) (EP X pins σ Q) X.xe s := by
  obtain ⟨ws, kv, pr⟩ := pairs_at I hp rv
  have hl : us.length = ws.length := Paired.length pr
  have hk : kvs.length = ws.length := by have := Paired.length kv; rwa [List.length_map] at this
  have hy : ys.length = us.length := rv.length
  have items : PairItems s.heap us.toArray (fun i => match us[i]? with | some (.ref t) => t | _ => 0) (ws.map fun w => (w.2.1, w.2.2)) := by
    refine ⟨by rw [List.size_toArray, List.length_map]; exact hl, fun j k v hj => ?_⟩
    rw [List.getElem?_map] at hj
    obtain ⟨w, h1, h2⟩ := Option.map_eq_some_iff.mp hj
    cases h2
    have hju : j < us.length := by rw [hl]; exact (List.getElem?_eq_some_iff.mp h1).1
    obtain ⟨w', e1, t, e2, e3, _⟩ := LiI.paired_get pr (List.getElem?_eq_getElem hju)
    rw [h1] at e1
    cases e1
    have e4 : us[j]? = some (.ref t) := by rw [List.getElem?_eq_getElem hju, e2]
    rw [List.getElem?_toArray]
    show us[j]? = some (.ref (match us[j]? with | some (.ref t) => t | _ => 0)) ∧ PairAt s.heap (match us[j]? with | some (.ref t) => t | _ => 0) _ _
    rw [e4]
    exact ⟨rfl, e3⟩
  obtain ⟨fp, OK, ok, P⟩ := arg _ _ items
  refine call_dict_pairs (knd := mixKind X.prog X.w) (kvs := ws.map fun w => (w.1, w.2.2)) P hh ok ⟨by rw [List.length_map, List.length_map], fun i key v hr => ?_⟩ (by rw [List.length_map, ← hl, ← hy]; exact hz) fun h' tk hd kp => ?_
  · have hr' : (ws.map fun w => (w.2.1, w.2.2))[i]? = some (key, v) := hr
    rw [List.getElem?_map] at hr'
    obtain ⟨w, h1, h2⟩ := Option.map_eq_some_iff.mp hr'
    cases h2
    refine ⟨w.1, by rw [List.getElem?_map, h1]; rfl, ?_⟩
    have hju : i < us.length := by rw [hl]; exact (List.getElem?_eq_some_iff.mp h1).1
    obtain ⟨w', e1, t, e2, e3, e5⟩ := LiI.paired_get pr (List.getElem?_eq_getElem hju)
    rw [h1] at e1
    cases e1
    exact e5
  · have hm : (s.heap.objs.size == sysModules) = false := beq_eq_false_iff_ne.mpr (Nat.ne_of_gt I.big)
    have hlen : (putsK [] kvs).length ≤ sizeLine := by
      have := puts_len kvs []
      rw [List.length_nil] at this
      omega
    exact ⟨.ref s.heap.objs.size, upd H s.heap.objs.size (.dK (putsK [] kvs)), I.laid (t' := tk) (o := .dK (putsK [] kvs)) (fun b o e => kp b o (by simp) e) (Nat.le_refl _) ⟨hlen, hm, _, puts_kv kv .nil, hd⟩, rfl, q _ (I.hok.fresh (Nat.le_refl _))⟩
theorem call_dictP (hc : X.calm = true) : CallR X (.type "dict") (rDictP X.K) := fun pins s σ H xs us Q I r h => by
  obtain ⟨a, ys, kvs, rfl, ha, hp, q⟩ := h
  obtain ⟨u, rfl, ru⟩ := vals1 r
  cases ru
  rcases ha with ha | ha
  · obtain ⟨its, rv, ⟨o, n, e1, e2, e3, e4⟩, hz⟩ := I.list ha
    exact dict_of (T := "list") I (I.ok.hd hc) rv hp hz (fun Ts ps it => ⟨_, _, ⟨⟨o, n, e1, e2, e3, e4⟩, it⟩, PairArg.list a its.toArray Ts ps⟩) q
  · have key : ∃ its : List Value, Vals ys its ∧ PlainSeq "tuple" s.heap a its.toArray ∧ ys.length ≤ sizeLine := by
      rcases ha with ⟨o, d, ha⟩ | ⟨o, its, n, d, hk, hc', hs, hz, rr⟩
      · obtain ⟨e1, hz, its, rv, o', e2, hc', n, hd⟩ := I.hok a _ ha
        rw [e1] at e2
        cases e2
        exact ⟨its, rv, ⟨o, n, e1, hc', d, hd⟩, hz⟩
      · refine ⟨its.toList, rr, ⟨o, n, I.kIn a o hk, hc', d, by simpa using hs⟩, ?_⟩
        have e : ys.length = its.size := rr.length.trans (by simp)
        rw [e]
        exact hz
    obtain ⟨its, rv, pl, hz⟩ := key
    exact dict_of (T := "tuple") I (I.ok.hd hc) rv hp hz (fun Ts ps it => ⟨_, _, ⟨pl, it⟩, PairArg.tuple a its.toArray Ts ps⟩) q
end
end Pm

set_option Elab.async false
set_option linter.all false
set_option maxRecDepth 100000
set_option maxHeartbeats 4000000
/-! EvS: dict(pairs), sorted, is True as readings. -/
namespace Pm
open PySem PySem.Spec PyProof.Rows L2 LamX
set_option autoImplicit false

section
variable {K : Kit} {ρ : Rho} {H : Hp} {st : Store}
theorem asKeyV_rel {k : D} {q : DKey} {v : V} (r : RelD K ρ H k v) (h : asKey k = some q) : v = kV (keyK q) := by
  unfold asKey at h
  split at h
  · cases h; cases r; rfl
  · cases h; cases r; rfl
  · cases h
theorem pairsK_rel : ∀ {xs : List D} {vs : List V} {kvs : List (DKey × D)}, RelDs K ρ H xs vs → pairsK xs = some kvs → ∃ ws : List (Key × V), PairsV K.K H vs ws ∧ RelKs K ρ H kvs ws
  | [], _, kvs, .nil, h => by cases h; exact ⟨[], .nil, .nil⟩
  | d :: xs, _, kvs, .cons (v := v) (vs := vs) r1 r2, h => by
    unfold pairsK at h
    split at h
    · rename_i heq; cases heq
    · rename_i k e xs' heq
      cases heq
      split at h
      · rename_i q r hq hr
        cases h
        obtain ⟨ws, g1, g2⟩ := pairsK_rel r2 hr
        cases r1 with
        | tup ht hs =>
          cases hs with
          | cons h1 h2 =>
            cases h2 with
            | cons h3 h4 =>
              cases h4
              have e1 := asKeyV_rel h1 hq
              subst e1
              exact ⟨(keyK q, _) :: ws, .cons ⟨_, rfl, ht.sq⟩ g1, .cons h3 g2⟩
      · cases h
    · cases h
theorem puts_rel : ∀ {kvs : List (DKey × D)} {ws : List (Key × V)}, RelKs K ρ H kvs ws → ∀ {acc : List (DKey × D)} {bs : List (Key × V)}, RelKs K ρ H acc bs → RelKs K ρ H (putAll acc kvs) (putsK bs ws)
  | _, _, .nil, _, _, h => h
  | _, _, .cons (k := k) r t, acc, bs, h => puts_rel t (putK_rel (k := k) r h)
theorem intKeys_rel : ∀ {xs : List (DKey × D)} {vs : List (Key × V)} {is : List Int}, RelKs K ρ H xs vs → intKeys xs = some is → vs.map (·.1) = is.map Sum.inl
  | _, _, is, .nil, h => by cases h; rfl
  | _, _, is, .cons (k := k) r t, h => by
    cases k with
    | s x => cases h
    | i n =>
      obtain ⟨js, h1, h2⟩ := Option.map_eq_some_iff.mp h
      subst h2
      rw [List.map_cons, List.map_cons, intKeys_rel t h1]
      rfl
end
theorem insI_perm (i : Int) : ∀ l : List Int, (insI i l).Perm (i :: l)
  | [] => .refl _
  | j :: r => by
    unfold insI
    split
    · exact .refl _
    · exact ((insI_perm i r).cons j).trans (.swap i j r)
theorem sortI_perm : ∀ l : List Int, (sortI l).Perm l
  | [] => .refl _
  | i :: r => (insI_perm i (sortI r)).trans ((sortI_perm r).cons i)
theorem insI_rises (i : Int) : ∀ l : List Int, l.Pairwise (· ≤ ·) → (insI i l).Pairwise (· ≤ ·)
  | [], _ => by simp [insI]
  | j :: r, h => by
    unfold insI
    split
    · rename_i hij
      refine List.pairwise_cons.mpr ⟨fun y hy => ?_, h⟩
      rcases List.mem_cons.mp hy with e | e
      · rw [e]; exact hij
      · exact Int.le_trans hij ((List.pairwise_cons.mp h).1 y e)
    · rename_i hij
      refine List.pairwise_cons.mpr ⟨fun y hy => ?_, insI_rises i r (List.pairwise_cons.mp h).2⟩
      rcases List.mem_cons.mp ((insI_perm i r).mem_iff.mp hy) with e | e
      · rw [e]; omega
      · exact (List.pairwise_cons.mp h).1 y e
theorem sortI_rises : ∀ l : List Int, (sortI l).Pairwise (· ≤ ·)
  | [] => .nil
  | i :: r => insI_rises i _ (sortI_rises r)
theorem sortI_only {l ns : List Int} (p : ns.Perm l) (h : ns.Pairwise (· ≤ ·)) : ns = sortI l :=
  List.Perm.eq_of_pairwise (le := (· ≤ ·)) (fun _ _ _ _ a b => Int.le_antisymm a b) h (sortI_rises l) (p.trans (sortI_perm l).symm)
/-! ### pairs, texts in order -/
theorem leQ_total {p q : Int × Int} (h : ¬ (p.1 < q.1 ∨ (p.1 = q.1 ∧ p.2 ≤ q.2))) : q.1 < p.1 ∨ (q.1 = p.1 ∧ q.2 ≤ p.2) := by omega
abbrev leQ (p q : Int × Int) : Prop := p.1 < q.1 ∨ (p.1 = q.1 ∧ p.2 ≤ q.2)
theorem insP_permS (i : Int × Int) : ∀ l : List (Int × Int), (insP i l).Perm (i :: l)
  | [] => .refl _
  | j :: r => by
    unfold insP
    split
    · exact .refl _
    · exact ((insP_permS i r).cons j).trans (.swap i j r)
theorem sortP_permS : ∀ l : List (Int × Int), (sortP l).Perm l
  | [] => .refl _
  | i :: r => (insP_permS i (sortP r)).trans ((sortP_permS r).cons i)
theorem insP_risesS (i : Int × Int) : ∀ l : List (Int × Int), l.Pairwise leQ → (insP i l).Pairwise leQ
  | [], _ => by simp [insP]
  | j :: r, h => by
    unfold insP
    split
    · rename_i hij
      refine List.pairwise_cons.mpr ⟨fun y hy => ?_, h⟩
      rcases List.mem_cons.mp hy with e | e
      · rw [e]; exact hij
      · have := (List.pairwise_cons.mp h).1 y e
        unfold leQ at this ⊢
        omega
    · rename_i hij
      refine List.pairwise_cons.mpr ⟨fun y hy => ?_, insP_risesS i r (List.pairwise_cons.mp h).2⟩
      rcases List.mem_cons.mp ((insP_permS i r).mem_iff.mp hy) with e | e
      · rw [e]; exact leQ_total hij
      · exact (List.pairwise_cons.mp h).1 y e
theorem sortP_risesS : ∀ l : List (Int × Int), (sortP l).Pairwise leQ
  | [] => .nil
  | i :: r => insP_risesS i _ (sortP_risesS r)
theorem sortP_onlyS {l ns : List (Int × Int)} (p : ns.Perm l) (h : ns.Pairwise leQ) : ns = sortP l :=
  List.Perm.eq_of_pairwise (le := leQ) (fun a b _ _ h1 h2 => by
    unfold leQ at h1 h2
    exact Prod.ext (by omega) (by omega)) h (sortP_risesS l) (p.trans (sortP_permS l).symm)
theorem ltS_iff (x y : List Nat) : ltS x y = true ↔ x < y := by unfold ltS; exact decide_eq_true_iff
abbrev leS (x y : List Nat) : Prop := x ≤ y
theorem insS_perm (i : List Nat) : ∀ l : List (List Nat), (insS i l).Perm (i :: l)
  | [] => .refl _
  | j :: r => by
    unfold insS
    split
    · exact ((insS_perm i r).cons j).trans (.swap i j r)
    · exact .refl _
theorem sortS_perm : ∀ l : List (List Nat), (sortS l).Perm l
  | [] => .refl _
  | i :: r => (insS_perm i (sortS r)).trans ((sortS_perm r).cons i)
theorem insS_rises (i : List Nat) : ∀ l : List (List Nat), l.Pairwise leS → (insS i l).Pairwise leS
  | [], _ => by simp [insS]
  | j :: r, h => by
    unfold insS
    split
    · rename_i hij
      refine List.pairwise_cons.mpr ⟨fun y hy => ?_, insS_rises i r (List.pairwise_cons.mp h).2⟩
      rcases List.mem_cons.mp ((insS_perm i r).mem_iff.mp hy) with e | e
      · rw [e]; exact List.le_of_lt ((ltS_iff _ _).mp hij)
      · exact (List.pairwise_cons.mp h).1 y e
    · rename_i hij
      refine List.pairwise_cons.mpr ⟨fun y hy => ?_, h⟩
      have hi : i ≤ j := List.not_lt.mp fun z => hij ((ltS_iff _ _).mpr z)
      rcases List.mem_cons.mp hy with e | e
      · rw [e]; exact hi
      · exact List.le_trans hi ((List.pairwise_cons.mp h).1 y e)
theorem sortS_rises : ∀ l : List (List Nat), (sortS l).Pairwise leS
  | [] => .nil
  | i :: r => insS_rises i _ (sortS_rises r)
theorem sortS_only {l ns : List (List Nat)} (p : ns.Perm l) (h : ns.Pairwise leS) : ns = sortS l :=
  List.Perm.eq_of_pairwise (le := leS) (fun _ _ _ _ a b => List.le_antisymm a b) h (sortS_rises l) (p.trans (sortS_perm l).symm)
theorem ltCps_ltS : ∀ x y : List Nat, ltCps x y = ltS x y := fun x y => ltCps_eq x y
theorem rising_from : ∀ (r : List Str) (p : Str), risingS p r = true → ((p :: r).map fun x => x.cps.toList).Pairwise leS
  | [], p, _ => by simp
  | x :: r, p, h => by
    simp only [risingS, Bool.and_eq_true, Bool.not_eq_true'] at h
    have ih := rising_from r x h.2
    have hp : leS p.cps.toList x.cps.toList := List.not_lt.mp fun z => by
      have := (ltS_iff _ _).mpr z
      rw [← ltCps_ltS, h.1] at this
      cases this
    rw [List.map_cons]
    refine List.pairwise_cons.mpr ⟨fun y hy => ?_, ih⟩
    rw [List.map_cons] at hy ih
    rcases List.mem_cons.mp hy with e | e
    · rw [e]; exact hp
    · exact List.le_trans hp ((List.pairwise_cons.mp ih).1 y e)
theorem sortedS_rises {l : List Str} (h : sortedS l = true) : (l.map fun x => x.cps.toList).Pairwise leS := by
  cases l with
  | nil => simp
  | cons x r => exact rising_from r x h
/-- the items in another order -/
theorem perm_rel {K : Kit} {ρ : Rho} {H : Hp} {vs ys : List V} (p : vs.Perm ys) : ∀ {xs : List D}, RelDs K ρ H xs vs → ∃ xs', xs'.Perm xs ∧ RelDs K ρ H xs' ys := by
  induction p with
  | nil => intro xs r; exact ⟨xs, .refl _, r⟩
  | cons v _ ih =>
    intro xs r
    cases r with
    | cons h r =>
      obtain ⟨xs', h1, h2⟩ := ih r
      exact ⟨_ :: xs', h1.cons _, .cons h h2⟩
  | swap v w l =>
    intro xs r
    cases r with
    | cons h r =>
      cases r with
      | cons h' r => exact ⟨_, .swap _ _ _, .cons h' (.cons h r)⟩
  | trans _ _ ih1 ih2 =>
    intro xs r
    obtain ⟨xs1, h1, h2⟩ := ih1 r
    obtain ⟨xs2, h3, h4⟩ := ih2 h2
    exact ⟨xs2, h3.trans h1, h4⟩
def prP (p : Int × Int) : D := .tup [.int p.1, .int p.2]
def unprP : D → Int × Int
  | .tup [.int i, .int j] => (i, j)
  | _ => (0, 0)
theorem intPairs_map : ∀ {xs : List D} {ps : List (Int × Int)}, intPairs xs = some ps → xs = ps.map prP
  | [], ps, h => by cases h; rfl
  | x :: xs, ps, h => by
    unfold intPairs at h
    split at h
    · rename_i heq; cases heq
    · rename_i n m r heq
      cases heq
      obtain ⟨qs, h1, h2⟩ := Option.map_eq_some_iff.mp h
      subst h2
      rw [intPairs_map h1]; rfl
    · cases h
theorem perm_pairs {xs : List D} {ps : List (Int × Int)} (h : xs.Perm (ps.map prP)) : ∃ qs : List (Int × Int), xs = qs.map prP ∧ qs.Perm ps := by
  refine ⟨xs.map unprP, ?_, ?_⟩
  · rw [List.map_map]
    refine (List.map_id _).symm.trans (List.map_congr_left fun x hx => ?_)
    obtain ⟨p, _, rfl⟩ := List.mem_map.mp (h.mem_iff.mp hx)
    rfl
  · have := h.map unprP
    rw [List.map_map] at this
    have e : ps.map (unprP ∘ prP) = ps := (List.map_congr_left fun x _ => rfl).trans (List.map_id _)
    rw [e] at this
    exact this
section
variable {K : Kit} {ρ : Rho} {H : Hp}
theorem pair_tup {p : Int × Int} {v : V} (r : RelD K ρ H (prP p) v) : TupI K.K H v [p.1, p.2] := by
  cases r with
  | tup h1 h2 =>
    cases h2 with
    | cons a b =>
      cases b with
      | cons b c =>
        cases a; cases b; cases c
        exact ⟨_, rfl, h1.sq⟩
theorem pairs_get : ∀ {ps : List (Int × Int)} {vs : List V}, RelDs K ρ H (ps.map prP) vs → ∀ x ∈ vs, ∃ p ∈ ps, TupI K.K H x [p.1, p.2]
  | [], _, .nil, x, hx => by cases hx
  | p :: ps, _, .cons h r, x, hx => by
    rcases List.mem_cons.mp hx with e | e
    · subst e; exact ⟨p, List.mem_cons_self .., pair_tup h⟩
    · obtain ⟨q, hq, t⟩ := pairs_get r x e
      exact ⟨q, List.mem_cons_of_mem _ hq, t⟩
abbrev BB : Int := 2 ^ 200
theorem code2 (x y : Int) : TS.code BB [x, y] = x * BB + y := by
  show x * BB ^ 1 + (y * BB ^ 0 + 0) = x * BB + y
  rw [Int.pow_succ, Int.pow_zero, Int.one_mul, Int.mul_one, Int.add_zero]
theorem code2_le {p q : Int × Int} (hp : pairOk p = true) (hq : pairOk q = true) (h : TS.code BB [p.1, p.2] ≤ TS.code BB [q.1, q.2]) : leQ p q := by
  rw [code2, code2] at h
  simp only [pairOk, Bool.and_eq_true, decide_eq_true_eq] at hp hq
  unfold leQ
  have : BB = 2 ^ 200 := rfl
  rcases Int.lt_trichotomy p.1 q.1 with c | c | c
  · exact .inl c
  · exact .inr ⟨c, by rw [c] at h; omega⟩
  · exfalso
    have h2 : (q.1 + 1) * BB ≤ p.1 * BB := Int.mul_le_mul_of_nonneg_right (by omega) (by decide)
    rw [Int.add_mul, Int.one_mul] at h2
    omega
theorem codes_rise : ∀ {ps : List (Int × Int)} {vs : List V}, RelDs K ρ H (ps.map prP) vs → (∀ p ∈ ps, pairOk p = true) →
    vs.Pairwise (fun x y => ∀ n m, TupI K.K H x n → TupI K.K H y m → TS.code BB n ≤ TS.code BB m) → ps.Pairwise leQ
  | [], _, _, _, _ => .nil
  | p :: ps, _, .cons h r, ok, pw => by
    obtain ⟨p1, p2⟩ := List.pairwise_cons.mp pw
    refine List.pairwise_cons.mpr ⟨fun q hq => ?_, codes_rise r (fun z hz => ok z (List.mem_cons_of_mem _ hz)) p2⟩
    have get : ∀ {ps : List (Int × Int)} {vs : List V}, RelDs K ρ H (ps.map prP) vs → q ∈ ps → ∃ x ∈ vs, TupI K.K H x [q.1, q.2] := by
      intro ps
      induction ps with
      | nil => intro vs _ hm; cases hm
      | cons a ps ih =>
        intro vs r hm
        cases r with
        | cons h r =>
          rcases List.mem_cons.mp hm with e | e
          · subst e; exact ⟨_, List.mem_cons_self .., pair_tup h⟩
          · obtain ⟨x, hx, t⟩ := ih r e
            exact ⟨x, List.mem_cons_of_mem _ hx, t⟩
    obtain ⟨x, hx, t⟩ := get r hq
    exact code2_le (ok p (List.mem_cons_self ..)) (ok q (List.mem_cons_of_mem _ hq)) (p1 x hx _ _ (pair_tup h) t)
end
section
variable {X : Cx} {κ : Kx} {B : L2.St → XW} {e a : Expr} {es : List Expr} {fr fa : Bool} {ma : Loc → Store → Res D} {ms : Loc → Store → Res (List D)} {pos p : Pos} {P : Par}
/-- a built-in of which the rule is r -/
theorem se_bi_by (b : Bi) {r : List V → Hp → VK → Prop} (hrule : PE X (.Call (.Name (biN b) p) (e :: es) [] pos) (tCB r (eA X κ B ms)))
    (hr : ∀ ρ H st ds vs d Q, Sim (Cx.kit X κ) ρ st H → RelDs (Cx.kit X κ) ρ H ds vs → biD P st b ds = some d → Out (Cx.kit X κ) fr ρ H st d Q → r vs H Q) :
    PE X (.Call (.Name (biN b) p) (e :: es) [] pos) (eE X κ B fr fun l st => (ms l st).bind fun ds st => .ofOpt (biD P st b ds) st) := by
  refine PE.imp hrule fun σ H Q ⟨ρ, l, st, at0, q⟩ => ⟨ρ, l, st, at0, ?_⟩
  have hq : EndG (Cx.kit X κ) (B σ) (RE (Cx.kit X κ) fr) ρ H ((ms l st).bind fun ds st => .ofOpt (biD P st b ds) st) Q := q
  cases hms : ms l st with
  | bad => rw [hms] at hq; exact hq
  | exc c fs st1 => rw [hms] at hq; exact hq
  | ok ds st1 =>
    rw [hms] at hq
    intro ρ1 vs H1 x1 s1 r1
    have q1 := EndG.mono RE.back (show EndG (Cx.kit X κ) (B σ) (RE (Cx.kit X κ) fr) ρ H (Res.ofOpt (biD P st1 b ds) st1) Q from hq) x1
    obtain ⟨d, e1, k⟩ := EndG.opt q1
    exact hr ρ1 H1 st1 ds vs d Q s1 r1 e1 k
theorem Out.dct {K : Kit} {ρ : Rho} {H : Hp} {st : Store} {p : Addr} {ds : List (DKey × D)} {vs : List (Key × V)} {Q : VK} (h : Out K fr ρ H st (.dct ds) Q) (s : Sim K ρ st H) (hp : H p = none) (r : RelKs K ρ H ds vs) : Q (.ref p) (upd H p (.dK vs)) :=
  h ρ _ _ (ext_new hp) (sim_new s hp) (.dct upd_same (new_free s hp) (r.mono s (ext_new hp))) fun _ _ => Fresh.dct s hp r
theorem dict_rel {K : Kit} {ρ : Rho} {H : Hp} {st : Store} {ds : List D} {vs : List V} {d : D} {Q : VK} (s : Sim K ρ st H) (r : RelDs K ρ H ds vs) (h : biD P st .dict ds = some d) (k : Out K fr ρ H st d Q) : rDictP K.K vs H Q := by
  have fin : ∀ (xs : List D) (ys : List V) (a : Addr), RelDs K ρ H xs ys → (SqL K.K H a ys ∨ TN K.K H a ys) → (if xs.length ≤ SL then (pairsK xs).map fun kvs => D.dct (putAll [] kvs) else none) = some d → rDictP K.K [.ref a] H Q := fun xs ys a rr ha e => by
    split at e
    · obtain ⟨kvs, h1, h2⟩ := Option.map_eq_some_iff.mp e
      subst h2
      obtain ⟨ws, g1, g2⟩ := pairsK_rel rr h1
      exact ⟨a, ys, ws, rfl, ha, g1, fun p hp => k.dct s hp (puts_rel g2 .nil)⟩
    · cases e
  cases r with
  | nil => simp [biD] at h
  | @cons d0 ds0 v0 vs0 r1 r2 =>
    cases r2 with
    | cons _ _ => simp [biD] at h
    | nil =>
      by_cases ht : ∃ xs, d0 = .tup xs
      · obtain ⟨xs, rfl⟩ := ht
        cases r1 with
        | tup h1 h2 => exact fin xs _ _ h2 (.inr h1) h
      · have e : ((listOf st d0).bind fun xs => if xs.length ≤ SL then (pairsK xs).map fun kvs => D.dct (putAll [] kvs) else none) = some d := by
          cases d0 <;> first | exact h | exact (ht ⟨_, rfl⟩).elim
        obtain ⟨xs, h1, h2⟩ := Option.bind_eq_some_iff.mp e
        obtain ⟨a, ws, rfl, h3, h4⟩ := listOf_rel s r1 h1
        exact fin xs ws a h4 (.inl (SqL.of h3)) h2
theorem se_dict (hc : X.calm = true) (hg : Gl X "dict") (hm : X.mg "dict" = none) (ns : (e :: es).all notStar = true) (ha : PA X (e :: es) (eA X κ B ms)) :
    PE X (.Call (.Name (biN .dict) p) (e :: es) [] pos) (eE X κ B fr fun l st => (ms l st).bind fun ds st => .ofOpt (biD P st .dict ds) st) := by
  have ns' : notStar e = true ∧ es.all notStar = true := by simpa using ns
  exact se_bi_by .dict (pe_callTy (call_dictP hc) hg hm (by decide) ha (by decide) (by decide) (star_cons ns'.1 _ _) (back_plain _ _ ns'.2)) fun ρ H st ds vs d Q s r h k => dict_rel s r h k
/-- sorted of ints, texts, pairs of ints, of a dict's int keys -/
def rSortA (K : PySem.W.Frag) : List V → Hp → VK → Prop := fun xs H Q => (rSorted K xs H Q ∨ rSortedS K xs H Q) ∨ rSortU K 2 BB xs H Q ∨ ∃ (a : Addr) (kvs : List (Key × V)) (ks : List Int), xs = [.ref a] ∧ Rd H a (.dK kvs) ∧ kvs.map (·.1) = ks.map Sum.inl ∧ ks.length < 64 ∧
    ∀ (ys : List Int) (p : Addr), ys.Perm ks → ys.Pairwise (· ≤ ·) → H p = none → Q (.ref p) (upd H p (.lst (ys.map V.int)))
theorem rel_strs {K : Kit} {ρ : Rho} {H : Hp} : ∀ xs : List (List Nat), RelDs K ρ H (xs.map .str) (xs.map fun x => V.str (strS x))
  | [] => .nil
  | x :: xs => .cons (.str x) (rel_strs xs)
theorem sorted_rel {K : Kit} {ρ : Rho} {H : Hp} {st : Store} {ds : List D} {vs : List V} {d : D} {Q : VK} (s : Sim K ρ st H) (r : RelDs K ρ H ds vs) (h : biD P st .sorted ds = some d) (k : Out K fr ρ H st d Q) : rSortA K.K vs H Q := by
  cases r with
  | nil => simp [biD] at h
  | @cons d0 ds0 v0 vs0 r1 r2 =>
    cases r2 with
    | cons _ _ => simp [biD] at h
    | nil =>
      have h' : (match listOf st d0 with
        | some xs => if xs.length < 64 then (match intsOf xs with
          | some is => some (D.lst ((sortI is).map .int))
          | none => match strsOf xs with
            | some ss => some (D.lst ((sortS ss).map .str))
            | none => (intPairs xs).bind fun ps => if ps.all pairOk = true then some (D.lst ((sortP ps).map fun p => .tup [.int p.1, .int p.2])) else none) else none
        | none => (dictOf st d0).bind fun kvs => if kvs.length < 64 then (intKeys kvs).map fun is => D.lst ((sortI is).map .int) else none) = some d := h
      split at h'
      · rename_i xs hx
        split at h'
        · rename_i hz
          obtain ⟨a, ws, rfl, h3, h4⟩ := listOf_rel s r1 hx
          split at h'
          · rename_i is h1
            cases h'
            have e := ints_rel h4 h1
            subst e
            have hl : is.length < 64 := by rw [h4.length, List.length_map] at hz; exact hz
            refine .inl (.inl ⟨a, is, rfl, SqL.of h3, hl, fun ns p hp ho hn => ?_⟩)
            rw [sortI_only hp ho]
            exact k.lst s hn (rel_ints _)
          · split at h'
            · rename_i ss h1
              cases h'
              have e := strs_rel h4 h1
              subst e
              have hl : (ss.map strS).length < 64 := by rw [h4.length, List.length_map] at hz; exact hz
              refine .inl (.inr ⟨a, ss.map strS, rfl, SqL.of h3, hl, fun ys p hp ho hn => ?_⟩)
              have e2 : ys.map (fun x => x.cps.toList) = sortS ss := by
                refine sortS_only ?_ (sortedS_rises ho)
                have := hp.map fun x : Str => x.cps.toList
                rw [List.map_map] at this
                have e3 : ss.map ((fun x : Str => x.cps.toList) ∘ strS) = ss := (List.map_congr_left fun x _ => by simp [strS]).trans (List.map_id _)
                rw [e3] at this
                exact this
              have e4 : ys.map V.str = (sortS ss).map fun x => V.str (strS x) := by
                rw [← e2, List.map_map]
                exact List.map_congr_left fun x _ => by simp [strS]
              rw [e4]
              exact k.lst s hn (rel_strs _)
            · obtain ⟨ps, h1, h2⟩ := Option.bind_eq_some_iff.mp h'
              split at h2
              · rename_i ok
                cases h2
                have e := intPairs_map h1
                subst e
                have ok' := List.all_eq_true.mp ok
                have hl : ws.length < 64 := by rw [← h4.length]; exact hz
                refine .inr (.inl ⟨a, ws, rfl, SqL.of h3, hl, fun x hx => ?_, fun ys p hp ho hn => ?_⟩)
                · obtain ⟨q, hq, t⟩ := pairs_get h4 x hx
                  have := ok' q hq
                  simp only [pairOk, Bool.and_eq_true, decide_eq_true_eq] at this
                  refine ⟨_, t, rfl, fun m hm => ?_⟩
                  simp only [List.mem_cons, List.not_mem_nil, or_false] at hm
                  rcases hm with rfl | rfl
                  · exact ⟨this.1.1.1, this.1.1.2⟩
                  · exact ⟨this.1.2, this.2⟩
                · obtain ⟨xs', g1, g2⟩ := perm_rel hp.symm h4
                  obtain ⟨qs, rfl, g3⟩ := perm_pairs g1
                  have g4 := codes_rise g2 (fun z hz => ok' z (g3.mem_iff.mp hz)) ho
                  have g5 := sortP_onlyS g3 g4
                  subst g5
                  exact k.lst s hn g2
              · cases h2
        · cases h'
      · obtain ⟨kvs, h1, h2⟩ := Option.bind_eq_some_iff.mp h'
        split at h2
        · rename_i hz
          obtain ⟨is, h3, h4⟩ := Option.map_eq_some_iff.mp h2
          subst h4
          obtain ⟨a, ws, rfl, h5, h6⟩ := dictOf_rel s r1 h1
          have e := intKeys_rel h6 h3
          have hl : is.length < 64 := by
            have e2 := congrArg List.length e
            rw [List.length_map, List.length_map] at e2
            rw [← e2, ← h6.length]; exact hz
          refine .inr (.inr ⟨a, ws, is, rfl, .inl h5, e, hl, fun ns p hp ho hn => ?_⟩)
          rw [sortI_only hp ho]
          exact k.lst s hn (rel_ints _)
        · cases h2
theorem se_sorted (hc : X.calm = true) (hg : Gl X "sorted") (hm : X.mg "sorted" = none) (ns : (e :: es).all notStar = true) (ha : PA X (e :: es) (eA X κ B ms)) :
    PE X (.Call (.Name (biN .sorted) p) (e :: es) [] pos) (eE X κ B fr fun l st => (ms l st).bind fun ds st => .ofOpt (biD P st .sorted ds) st) := by
  have ns' : notStar e = true ∧ es.all notStar = true := by simpa using ns
  exact se_bi_by .sorted (pe_callB ((cr_sorted.or cr_sortedS).or ((cr_sortT (by decide)).or (call_sortedDI hc))) hg hm (by decide) ha (by decide) (by decide) (star_cons ns'.1 _ _) (back_plain _ _ ns'.2)) fun ρ H st ds vs d Q s r h k => sorted_rel s r h k
/-! ### x is True -/
def rIsT : R2 := fun x y H Q => y = .bl true ∧ ((∃ b, x = .bl b ∧ Q (.bl b) H) ∨ ((x = .non ∨ (∃ i, x = .int i) ∨ ∃ z, x = .str z) ∧ Q (.bl false) H))
theorem op_isT : OpR X (compareOp .Is) rIsT := fun pins s σ H x y v u Q I rx ry h => by
  obtain ⟨rfl, h⟩ := h
  cases ry
  rcases h with ⟨b, rfl, q⟩ | ⟨h, q⟩
  · cases rx
    refine wpAny_is_plain rfl ⟨.bl b, H, I, ?_, q⟩
    cases b <;> rfl
  · rcases h with rfl | ⟨i, rfl⟩ | ⟨z, rfl⟩
    · cases rx
      exact wpAny_is_plain rfl ⟨.bl false, H, I, rfl, q⟩
    · obtain ⟨t, rfl⟩ := rx
      exact wpAny_is_plain rfl ⟨.bl false, H, I, rfl, q⟩
    · obtain ⟨t, rfl⟩ := rx
      exact wpAny_is_plain rfl ⟨.bl false, H, I, rfl, q⟩
theorem se_ist {k : Nat} {p2 : Pos} (ha : PE X a (eE X κ B fa ma)) :
    PE X (.Compare a [.Is] [.Constant (.bool true) k p2] pos) (eE X κ B fr fun l st => (ma l st).bind fun x st => .ofOpt (revD x) st) :=
  PE.imp (pe_cmpR op_isT ha pe_bl (nomark _)) fun σ H Q ⟨ρ, l, st, a, q⟩ => ⟨ρ, l, st, a, EndG.bind RE.back q fun d1 st1 ρ1 v1 H1 x1 s1 r1 q1 => by
    obtain ⟨d, e, k⟩ := EndG.opt q1
    have go : ∀ b : Bool, d = .bl b → Q (.bl b) H1 := fun b eb => by
      subst eb
      exact k ρ1 _ H1 (Ext.refl _ _) s1 (.bl b) fun _ t => nomatch t
    obtain ⟨r1, _⟩ := r1
    cases d1 with
    | bl b => cases r1; cases e; exact ⟨rfl, .inl ⟨b, rfl, go b rfl⟩⟩
    | non => cases r1; cases e; exact ⟨rfl, .inr ⟨.inl rfl, go false rfl⟩⟩
    | int i => cases r1; cases e; exact ⟨rfl, .inr ⟨.inr (.inl ⟨i, rfl⟩), go false rfl⟩⟩
    | str x => cases r1; cases e; exact ⟨rfl, .inr ⟨.inr (.inr ⟨_, rfl⟩), go false rfl⟩⟩
    | _ => cases e⟩
end
end Pm

set_option Elab.async false
set_option linter.all false
set_option maxRecDepth 100000
set_option maxHeartbeats 4000000
/-! EvU: sorted(d.items()) of ints. -/
namespace Pm
open PySem PySem.Spec PyProof.Rows L2 LamX
set_option autoImplicit false

/-- more is laid -/
abbrev More (H H' : Hp) : Prop := ∀ b o, H b = some o → H' b = some o
section
variable {K : Kit} {ρ : Rho} {H H' : Hp} {st : Store}
theorem ext_grow {h : Nat} (k : More H H') : Ext h ρ H ρ H' where
  len := Nat.le_refl _
  old := fun _ _ => .inl rfl
  new := fun n a hn e => by rw [List.getElem?_eq_none hn] at e; exact nomatch e
  keep := fun a o e _ _ => k a o e
  dom := fun a f o e => f o (k a o e)
  hid := fun _ a _ e => ⟨e, fun o z => k a o z⟩
theorem sim_grow (s : Sim K ρ st H) (k : More H H') : Sim K ρ st H' where
  len := s.len
  inj := s.inj
  ob := fun n o hn => by
    have x : Ext K.h ρ H ρ H' := ext_grow k
    rcases s.ob n o hn with q | ⟨a, e, r⟩
    · exact .inl q
    · refine .inr ⟨a, e, ?_⟩
      cases o with
      | lst ds => obtain ⟨vs, h1, h2⟩ := r; exact ⟨vs, k _ _ h1, RelDs.mono s x h2⟩
      | dct ds => obtain ⟨vs, h1, h2⟩ := r; exact ⟨vs, k _ _ h1, RelKs.mono s x h2⟩
      | dead => exact r
      | ins _ _ => exact r
  hd := fun n a hn e => let ⟨u, h1, h2⟩ := s.hd n a hn e; ⟨u, k _ _ h1, h2⟩
  cd := fun q hq => let ⟨h1, h2⟩ := s.cd q hq; ⟨k _ _ h1, h2⟩
  tab := s.tab.ext fun b o e => k b o e
end
/-- a pair of ints, ahead of or like another one -/
def leP (p q : Int × Int) : Prop := p.1 < q.1 ∨ (p.1 = q.1 ∧ p.2 ≤ q.2)
theorem leP_code {B : Int} {p q : Int × Int} (hp : TS.Bd B [p.1, p.2]) (hq : TS.Bd B [q.1, q.2]) (h : TS.code B [p.1, p.2] ≤ TS.code B [q.1, q.2]) : leP p q := by
  have a1 := hp p.1 (by simp)
  have a2 := hp p.2 (by simp)
  have b1 := hq q.1 (by simp)
  have b2 := hq q.2 (by simp)
  have h' : p.1 * B + p.2 ≤ q.1 * B + q.2 := by simpa [TS.code, Int.pow_succ] using h
  by_cases e : p.1 < q.1
  · exact .inl e
  · by_cases e2 : p.1 = q.1
    · rw [e2] at h'
      exact .inr ⟨e2, by omega⟩
    · exfalso
      have e3 : q.1 + 1 ≤ p.1 := by omega
      have e4 : (q.1 + 1) * B ≤ p.1 * B := Int.mul_le_mul_of_nonneg_right e3 (by omega)
      rw [Int.add_mul] at e4
      omega
section
variable {X : Cx} {pins : List (Addr × Obj)} {σ : L2.St} {s : Shared}
theorem takeN {H0 : Hp} {h' : Heap} {tk : Nat} {P : Addr → List V → Prop} (I0 : L2.Inv X pins σ H0 s) : ∀ (L : List Addr) (H1 : Hp), L2.Inv X pins σ H1 { s with heap := h', toks := tk } → L.Nodup →
    (∀ a ∈ L, s.heap.objs.size ≤ a ∧ H1 a = none ∧ ∃ vs us, P a vs ∧ vs.length ≤ sizeLine ∧ Vals vs us ∧ h'.get? a = some (tupO us)) →
    ∃ H2, L2.Inv X pins σ H2 { s with heap := h', toks := tk } ∧ More H1 H2 ∧ ∀ a ∈ L, ∃ vs o, P a vs ∧ o.dict = none ∧ H2 a = some (.frz o (.tup vs))
  | [], H1, I1, _, _ => ⟨H1, I1, fun _ _ e => e, fun _ h => nomatch h⟩
  | a :: L, H1, I1, hn, h => by
    obtain ⟨hb, hnone, vs, us, hP, hz, rv, ho⟩ := h a (List.mem_cons_self ..)
    have I2 : L2.Inv X pins σ (upd H1 a (.frz (tupO us) (.tup vs))) { s with heap := h', toks := tk } :=
      I1.take (h' := h') (t' := tk) (fun b ob _ e => e) (I0.fpOk hb hnone) ⟨ho, hz, us, rv, ⟨_, ho, rfl, _, rfl⟩⟩
    rw [List.nodup_cons] at hn
    obtain ⟨H2, I3, g, q⟩ := takeN I0 L _ I2 hn.2 fun c hc => by
      obtain ⟨c1, c2, c3⟩ := h c (List.mem_cons_of_mem _ hc)
      exact ⟨c1, by rw [upd_ne (fun z => hn.1 (by rw [← z]; exact hc))]; exact c2, c3⟩
    refine ⟨H2, I3, fun b o e => g b o (by rw [upd_ne (ne_of_none e hnone)]; exact e), fun c hc => ?_⟩
    rcases List.mem_cons.mp hc with rfl | hc
    · exact ⟨vs, _, hP, rfl, g _ _ upd_same⟩
    · exact q c hc
end
/-- what sorted(d.items()) leaves -/
def rSitm : V → Hp → VK → Prop := fun x H Q => ∃ (d : Addr) (is : List (Int × Int)), x = .ref d ∧ H d = some (.dK (is.map fun p => (Sum.inl p.1, V.int p.2))) ∧ is.length < 64 ∧ (∀ p ∈ is, 0 ≤ p.1 ∧ 0 ≤ p.2) ∧
  ∀ (H' : Hp) (l : Addr) (as : List Addr) (ps : List (Int × Int)), More H H' → H l = none → ps.Perm is → ps.Pairwise leP → H' l = some (.lst (as.map V.ref)) →
    Paired (fun (a : Addr) (p : Int × Int) => ∃ o : Obj, o.dict = none ∧ H' a = some (.frz o (.tup [.int p.1, .int p.2]))) as ps → Q (.ref l) H'
theorem bound_of : ∀ is : List (Int × Int), (∀ p ∈ is, 0 ≤ p.1 ∧ 0 ≤ p.2) → ∃ B : Int, ∀ p ∈ is, TS.Bd B [p.1, p.2]
  | [], _ => ⟨1, fun p hp => nomatch hp⟩
  | p :: r, h => by
    obtain ⟨B, hB⟩ := bound_of r fun q hq => h q (List.mem_cons_of_mem _ hq)
    obtain ⟨h1, h2⟩ := h p (List.mem_cons_self ..)
    refine ⟨max B (p.1 + p.2 + 1), fun q hq m hm => ?_⟩
    rcases List.mem_cons.mp hq with e | e
    · subst e
      rcases List.mem_cons.mp hm with e | hm
      · subst e; omega
      · rcases List.mem_cons.mp hm with e | hm
        · subst e; omega
        · cases hm
    · have := hB q e m hm
      omega
section
variable {X : Cx} {pins : List (Addr × Obj)} {σ : L2.St} {s : Shared} {H : Hp}
theorem sort_items (I : L2.Inv X pins σ H s) (hh : X.A.handled = none) {r d : Addr} {Q : VK} (hv : s.heap.IsItemsView r d) (q : rSitm (.ref d) H Q) :
    wpAny (model X.prog X.w) X.A (call (.builtin "sorted") [.ref r]) (EP X pins σ Q) X.xe s := by
  obtain ⟨d', is, e, hd, h64, hpos, q⟩ := q
  cases e
  obtain ⟨hz, hs0, ws, kv, hdo⟩ := I.hok d _ hd
  obtain ⟨o0, es, ep, ho0, hx0, hdat, _, hprs, _⟩ := id hdo
  have lk : is.length = ws.length := by have := Paired.length kv; rwa [List.length_map] at this
  have les : es.size = ws.length := by have := hprs.length; rwa [Array.length_toList] at this
  obtain ⟨B, hB⟩ := bound_of is hpos
  refine DT.sortedI (es := es) (ep := ep) hh hv ⟨o0, ho0, hx0, hdat⟩ (by rw [sizeLine_eq]; omega) fun h' tk as hk hlt hl hG => ?_
  have at_ : ∀ (j : Nat) (a : Addr), as[j]? = some a → ∃ (p : Int × Int) (t u : Nat), is[j]? = some p ∧ h'.get? a = some (tupO [.int p.1 t, .int p.2 u]) := fun j a hj => by
    obtain ⟨en, e1, e3⟩ := hG.pairs j a hj
    have hji : j < (is.map fun p => ((Sum.inl p.1 : Key), V.int p.2)).length := by rw [List.length_map, lk, ← les, ← hl]; exact (List.getElem?_eq_some_iff.mp hj).1
    obtain ⟨⟨k, x⟩, e4, e5, e6⟩ := LiI.paired_get kv (List.getElem?_eq_getElem hji)
    have e1' : es.toList[j]? = some en := by rw [Array.getElem?_toList]; exact e1
    obtain ⟨e2, e8⟩ := hprs.get? e1' e4
    have hji' : j < is.length := by rwa [List.length_map] at hji
    have e7 : (is.map fun p => ((Sum.inl p.1 : Key), V.int p.2))[j] = (Sum.inl is[j].1, V.int is[j].2) := by rw [List.getElem_map]
    rw [e7] at e5 e6
    have e5 : (Sum.inl is[j].1 : Key) = k := e5
    have rk : RelV (kV (Sum.inl is[j].1 : Key)) en.key := by
      rw [e5]
      exact relV_key (show keyIs k en.key = true from e2)
    obtain ⟨t, rt⟩ := rk
    obtain ⟨u, ru⟩ := e6
    have ru : x = Value.int is[j].2 u := ru
    rw [rt, e8, ru] at e3
    exact ⟨is[j], t, u, List.getElem?_eq_getElem hji', e3⟩
  -- the list that is sorted
  have lak : as.length = is.length := by omega
  have hob : (h'.push { cls := .type "list", data := .seq (as.map Value.ref).toArray }).get? h'.objs.size = some (seqObj "list" (as.map Value.ref).toArray 0) := Heap.get?_push_size _ rfl
  have ka : ∀ b o, h'.get? b = some o → (h'.push { cls := .type "list", data := .seq (as.map Value.ref).toArray }).get? b = some o := fun b o e => Heap.get?_push_of_some _ e
  generalize hh2 : h'.push { cls := .type "list", data := .seq (as.map Value.ref).toArray } = h2 at hob ka ⊢
  have hin2 : ∀ (j : Nat) (a : Addr), as[j]? = some a → ∃ p : Int × Int, is[j]? = some p ∧ TS.TupInts h2 (.ref a) [p.1, p.2] := fun j a hj => by
    obtain ⟨p, t, u, e1, e2⟩ := at_ j a hj
    exact ⟨p, e1, a, _, rfl, ⟨_, ka _ _ e2, rfl, _, rfl⟩, .cons _ _ (.cons _ _ .nil)⟩
  have all : ∀ v ∈ as.map Value.ref, ∃ (j : Nat) (a : Addr) (p : Int × Int), v = .ref a ∧ as[j]? = some a ∧ is[j]? = some p ∧ TS.TupInts h2 v [p.1, p.2] := fun v hv => by
    obtain ⟨a, ha, rfl⟩ := List.mem_map.mp hv
    obtain ⟨j, hj⟩ := List.mem_iff_getElem?.mp ha
    obtain ⟨p, e1, e2⟩ := hin2 j a hj
    exact ⟨j, a, p, rfl, hj, e1, e2⟩
  have ok : TS.TupsOk h2 2 B (as.map Value.ref) := fun v hv => by
    obtain ⟨j, a, p, rfl, _, e1, e2⟩ := all v hv
    exact ⟨_, e2, rfl, hB p (List.mem_of_getElem? e1)⟩
  refine wpAny_call_entry slot_list_sort ⟨_, hob, rfl⟩ entry_list_sort (TS.sort_tups (s := { s with heap := h2, toks := tk }) (d := 2) (B := B) hob (by rw [List.length_map, lak]; exact h64) (by decide) ok (fun v => TS.code B (TS.intsOf h2 v)) (fun v hv ns t => ?_) fun out o1 o2 => ⟨_, rfl, ?_⟩) (args_list_sort _)
  · show TS.code B (TS.intsOf h2 v) = TS.code B ns
    rw [t.ints]
  · show EP X pins σ Q (.ref h'.objs.size) { s with heap := sortedHeap h2 h'.objs.size (as.map Value.ref) out, toks := tk }
    -- the addresses, the pairs
    obtain ⟨bs, hbs, hperm⟩ : ∃ bs : List Addr, out.toList = bs.map Value.ref ∧ bs.Perm as := by
      refine ⟨out.toList.map (fun v => match v with | .ref a => a | _ => 0), ?_, ?_⟩
      · rw [List.map_map]
        refine (List.map_id _).symm.trans (List.map_congr_left fun v hv => ?_)
        obtain ⟨j, a, p, rfl, _⟩ := all v (o1.mem_iff.mp hv)
        rfl
      · have z := o1.map (fun v : Value => match v with | .ref a => a | _ => 0)
        rw [List.map_map] at z
        refine z.trans (.of_eq ?_)
        refine (List.map_congr_left fun a _ => rfl).trans (List.map_id _)
    have rd : ∀ (j : Nat) (a : Addr), as[j]? = some a → ∃ p : Int × Int, is[j]? = some p ∧ TS.intsOf h2 (.ref a) = [p.1, p.2] := fun j a hj => by
      obtain ⟨p, e1, e2⟩ := hin2 j a hj
      exact ⟨p, e1, e2.ints⟩
    let pf : Addr → Int × Int := fun a => match TS.intsOf h2 (.ref a) with
      | [n, m] => (n, m)
      | _ => (0, 0)
    have pfa : ∀ (j : Nat) (a : Addr), as[j]? = some a → is[j]? = some (pf a) ∧ TS.intsOf h2 (.ref a) = [(pf a).1, (pf a).2] := fun j a hj => by
      obtain ⟨p, e1, e2⟩ := rd j a hj
      have e3 : pf a = p := by
        show (match TS.intsOf h2 (.ref a) with | [n, m] => (n, m) | _ => (0, 0)) = p
        rw [e2]
      rw [e3]
      exact ⟨e1, e2⟩
    have pas : as.map pf = is := by
      refine List.ext_getElem? fun j => ?_
      rw [List.getElem?_map]
      cases hj : as[j]? with
      | none =>
        have := List.getElem?_eq_none_iff.mp hj
        exact (List.getElem?_eq_none_iff.mpr (by omega)).symm
      | some a => exact (pfa j a hj).1.symm
    have pps : (bs.map pf).Perm is := by
      have z := hperm.map pf
      rwa [pas] at z
    have inas : ∀ a ∈ bs, ∃ j : Nat, as[j]? = some a := fun a ha => List.mem_iff_getElem?.mp (hperm.mem_iff.mp ha)
    have srt : (bs.map pf).Pairwise leP := by
      rw [hbs, List.pairwise_map] at o2
      rw [List.pairwise_map]
      refine List.Pairwise.imp_of_mem (fun {x y} hx hy h => ?_) o2
      obtain ⟨i, hi⟩ := inas x hx
      obtain ⟨j, hj⟩ := inas y hy
      have e1 := pfa i x hi
      have e2 := pfa j y hj
      have h' : TS.code B (TS.intsOf h2 (.ref x)) ≤ TS.code B (TS.intsOf h2 (.ref y)) := h
      rw [e1.2, e2.2] at h'
      exact leP_code (hB _ (List.mem_of_getElem? e1.1)) (hB _ (List.mem_of_getElem? e2.1)) h'
    -- the heap behind it
    have big : ∀ a ∈ as, s.heap.objs.size < a ∧ a < h'.objs.size := fun a ha => ⟨hG.above a ha, hG.there ha⟩
    have kF : ∀ b o, b ≠ h'.objs.size → h2.get? b = some o → (sortedHeap h2 h'.objs.size (as.map Value.ref) out).get? b = some o := fun b o hb e => (PyProof.Rows.sortedHeap_old hb (Heap.lt_size e)).trans e
    have kS : ∀ b o, s.heap.get? b = some o → (sortedHeap h2 h'.objs.size (as.map Value.ref) out).get? b = some o := fun b o e => kF b o (Nat.ne_of_lt (Heap.lt_size (hk b o e))) (ka b o (hk b o e))
    obtain ⟨eF, heF⟩ := PyProof.Rows.sortedHeap_at (vs := as.map Value.ref) (out := out) hob
    have I1 : L2.Inv X pins σ H { s with heap := sortedHeap h2 h'.objs.size (as.map Value.ref) out, toks := tk } := I.kept (t' := tk) kS
    have hn0 : H h'.objs.size = none := I.hok.fresh (Nat.le_of_lt hlt)
    have lbs : bs.length = is.length := hperm.length_eq.trans lak
    have I2 : L2.Inv X pins σ (upd H h'.objs.size (.lst (bs.map V.ref))) { s with heap := sortedHeap h2 h'.objs.size (as.map Value.ref) out, toks := tk } :=
      I1.take (h' := sortedHeap h2 h'.objs.size (as.map Value.ref) out) (t' := tk) (fun b ob _ e => e) (I.fpOk (Nat.le_of_lt hlt) hn0) ⟨by rw [List.length_map, sizeLine_eq]; omega, out.toList, eF, by rw [hbs]; exact LiI.vals_refs bs, heF⟩
    have nd : bs.Nodup := hperm.nodup_iff.mpr (List.Pairwise.imp (fun h => Nat.ne_of_lt h) hG.rise)
    obtain ⟨H2, I3, g, qt⟩ := takeN (P := fun a vs => vs = [V.int (pf a).1, V.int (pf a).2]) I bs _ I2 nd fun a ha => by
      obtain ⟨j, hj⟩ := inas a ha
      obtain ⟨b1, b2⟩ := big a (List.mem_of_getElem? hj)
      obtain ⟨p, t, u, e1, e2⟩ := at_ j a hj
      have e3 := (pfa j a hj).1
      rw [e1] at e3
      cases e3
      refine ⟨Nat.le_of_lt b1, ?_, _, [.int (pf a).1 t, .int (pf a).2 u], rfl, by show 2 ≤ sizeLine; decide, .cons ⟨t, rfl⟩ (.cons ⟨u, rfl⟩ .nil), kF a _ (Nat.ne_of_lt b2) (ka _ _ e2)⟩
      rw [upd_ne (Nat.ne_of_lt b2)]
      exact I.hok.fresh (Nat.le_of_lt b1)
    refine ⟨.ref h'.objs.size, H2, I3, rfl, q H2 h'.objs.size bs (bs.map pf) (fun b o e => g b o (by rw [upd_ne (fun z => by rw [z, hn0] at e; cases e)]; exact e)) hn0 pps srt (g _ _ upd_same) ?_⟩
    have mk : ∀ l : List Addr, (∀ a ∈ l, a ∈ bs) → Paired (fun (a : Addr) (p : Int × Int) => ∃ o : Obj, o.dict = none ∧ H2 a = some (.frz o (.tup [.int p.1, .int p.2]))) l (l.map pf) := fun l hl => by
      induction l with
      | nil => exact .nil
      | cons a r ih =>
        obtain ⟨vs, o, rfl, ho, e⟩ := qt a (hl a (List.mem_cons_self ..))
        exact .cons ⟨o, ho, e⟩ (ih fun b hb => hl b (List.mem_cons_of_mem _ hb))
    exact mk bs fun _ h => h
end
section
variable {X : Cx} {e : Expr} {te : TE} {p apos cpos pos : Pos}
def tSitm (te : TE) : TE := fun σ H Q => te σ H fun x H1 => rSitm x H1 Q
theorem pe_sortItems (hc : X.calm = true) (he : PE X e te) (hg : Gl X "sorted") (hm : X.mg "sorted" = none) (hbase : attributeBase e "items" X.env (eval e X.env) = eval e X.env) (hline : (apos.endLine == cpos.line) = true) :
    PE X (.Call (.Name "sorted" p) [.Call (.Attribute e "items" apos) [] [] cpos] [] pos) (tSitm te) := by
  refine ⟨fun pins s σ H Q I hq => ?_⟩
  refine PyProof.Rows.Call_ (ld_blt I hg hm (show bootBuiltins "sorted" = some (.builtin "sorted") by decide) ?_)
  refine PyProof.Rows.callWith_builtin1 (PyProof.Rows.args_cons ?_ rfl) rfl rfl
  refine wpAny_Call_method (T := "dict") (id := "dict.items") hbase rfl hline PySem.F.plainAttrs_dict PySem.F.slot_dict_items PySem.F.type_dict_items (thn (he.run pins s σ H _ I hq) fun u s1 ⟨x, H1, I1, rx, d, is, ex, hd, q⟩ => ?_)
  subst ex
  obtain rfl : u = Value.ref d := rx
  obtain ⟨hz, hs0, vs, kv, hdo⟩ := I1.hok d _ hd
  have I2 : L2.Inv X pins σ H1 { s1 with heap := s1.heap.push { cls := .type "dict_items", data := .fields #[.ref d] } } := I1.kept (t' := s1.toks) fun b ob q => Heap.get?_push_of_some _ q
  refine ⟨hdo.typeIs, hdo.mapOf.noDict, ?_⟩
  show wpAny _ _ (callWith cpos (.builtin "dict.items") [.ref d] [] []) _ X.xe s1
  refine method_meetsIn PySem.F.slot_dict_items PySem.F.entry_dict_items rfl (PySem.evalArgs_none ⟨rfl, hdo.typeIs, PySem.F.args_dict_items_1 _, _, meets_dict_items (mixKind X.prog X.w) d hs0, ⟨vs, hdo⟩, ?_⟩)
  refine PyProof.Rows.args_nil ?_
  exact sort_items I2 (I1.ok.hd hc) ⟨_, Heap.get?_push_size _ rfl, rfl, rfl⟩ ⟨d, is, rfl, hd, q⟩
end
/-! ### the evaluator's order -/
theorem insP_perm (p : Int × Int) : ∀ l : List (Int × Int), (insP p l).Perm (p :: l)
  | [] => .refl _
  | q :: r => by
    unfold insP
    split
    · exact .refl _
    · exact ((insP_perm p r).cons q).trans (.swap p q r)
theorem sortP_perm : ∀ l : List (Int × Int), (sortP l).Perm l
  | [] => .refl _
  | p :: r => (insP_perm p (sortP r)).trans ((sortP_perm r).cons p)
theorem leP_trans {p q r : Int × Int} (h1 : leP p q) (h2 : leP q r) : leP p r := by
  unfold leP at *
  omega
theorem leP_anti {p q : Int × Int} (h1 : leP p q) (h2 : leP q p) : p = q := by
  unfold leP at *
  obtain ⟨a, b⟩ := p
  obtain ⟨c, d⟩ := q
  have e1 : a = c := by omega
  have e2 : b = d := by omega
  rw [e1, e2]
theorem insP_rises (p : Int × Int) : ∀ l : List (Int × Int), l.Pairwise leP → (insP p l).Pairwise leP
  | [], _ => by simp [insP]
  | q :: r, h => by
    unfold insP
    obtain ⟨h1, h2⟩ := List.pairwise_cons.mp h
    split
    · rename_i hij
      refine List.pairwise_cons.mpr ⟨fun y hy => ?_, h⟩
      rcases List.mem_cons.mp hy with e | e
      · rw [e]; exact hij
      · exact leP_trans hij (h1 y e)
    · rename_i hij
      refine List.pairwise_cons.mpr ⟨fun y hy => ?_, insP_rises p r h2⟩
      rcases List.mem_cons.mp ((insP_perm p r).mem_iff.mp hy) with e | e
      · rw [e]; unfold leP; omega
      · exact h1 y e
theorem sortP_rises : ∀ l : List (Int × Int), (sortP l).Pairwise leP
  | [] => .nil
  | p :: r => insP_rises p _ (sortP_rises r)
theorem sortP_only {l ns : List (Int × Int)} (p : ns.Perm l) (h : ns.Pairwise leP) : ns = sortP l :=
  List.Perm.eq_of_pairwise (le := leP) (fun _ _ _ _ a b => leP_anti a b) h (sortP_rises l) (p.trans (sortP_perm l).symm)
section
variable {K : Kit} {ρ : Rho} {H H' : Hp} {st : Store}
theorem intItems_rel : ∀ {xs : List (DKey × D)} {vs : List (Key × V)} {is : List (Int × Int)}, RelKs K ρ H xs vs → intItems xs = some is → vs = is.map fun p => (Sum.inl p.1, V.int p.2)
  | _, _, is, .nil, h => by cases h; rfl
  | _, _, is, .cons (k := k) (d := d) r t, h => by
    cases k with
    | s x => cases h
    | i n =>
      cases d with
      | int m =>
        obtain ⟨js, h1, h2⟩ := Option.map_eq_some_iff.mp h
        subst h2
        cases r
        rw [intItems_rel t h1]
        rfl
      | _ => cases h
theorem pairs_rel : ∀ {as : List Addr} {ps : List (Int × Int)}, Paired (fun (a : Addr) (p : Int × Int) => ∃ o : Obj, o.dict = none ∧ H' a = some (.frz o (.tup [.int p.1, .int p.2]))) as ps → RelDs K ρ H' (ps.map fun p => .tup [.int p.1, .int p.2]) (as.map V.ref)
  | _, _, .nil => .nil
  | _, _, .cons ⟨o, ho, e⟩ r => .cons (.tup (.inl ⟨o, ho, e⟩) (.cons (.int _) (.cons (.int _) .nil))) (pairs_rel r)
end
section
variable {X : Cx} {κ : Kx} {B : L2.St → XW} {a : Expr} {fa : Bool} {ma : Loc → Store → Res D} {p apos cpos pos : Pos} {P : Par}
theorem se_sitm (hc : X.calm = true) (hg : Gl X "sorted") (hm : X.mg "sorted" = none) (hb : baseOk a = true) (hl : (apos.endLine == cpos.line) = true) (ha : PE X a (eE X κ B fa ma)) :
    PE X (.Call (.Name "sorted" p) [.Call (.Attribute a "items" apos) [] [] cpos] [] pos) (eE X κ B false fun l st => ((ma l st).bind fun d st => (Res.ok [] st).bind fun ds st => .ok (d :: ds) st).bind fun ds st => .ofOpt (biD P st .sitm ds) st) :=
  PE.imp (pe_sortItems hc ha hg hm (base_eq hb _ _ _) hl) fun σ H Q ⟨ρ, l, st, at0, q⟩ => by
    have q2 : EndG (Cx.kit X κ) (B σ) (RE (Cx.kit X κ) false) ρ H ((ma l st).bind fun d st => Res.ofOpt (biD P st .sitm [d]) st) Q := by
      have q0 : EndG (Cx.kit X κ) (B σ) (RE (Cx.kit X κ) false) ρ H (((ma l st).bind fun d st => (Res.ok [] st).bind fun ds st => Res.ok (d :: ds) st).bind fun ds st => Res.ofOpt (biD P st .sitm ds) st) Q := q
      rw [Res.bind_assoc] at q0
      exact q0
    refine ⟨ρ, l, st, at0, EndG.bind RE.back q2 fun d st1 ρ1 v H1 x1 s1 r1 q1 => ?_⟩
    obtain ⟨d', e, k⟩ := EndG.opt (show EndG (Cx.kit X κ) (B σ) (RE (Cx.kit X κ) false) ρ1 H1 (Res.ofOpt (biD P st1 .sitm [d]) st1) Q from q1)
    have e' : ((dictOf st1 d).bind fun kvs => if kvs.length < 64 then (intItems kvs).bind fun is => if (is.all fun p => decide (0 ≤ p.1) && decide (0 ≤ p.2)) = true then some (D.lst ((sortP is).map fun p => .tup [.int p.1, .int p.2])) else none else none) = some d' := e
    obtain ⟨kvs, h1, h2⟩ := Option.bind_eq_some_iff.mp e'
    split at h2
    · rename_i hz
      obtain ⟨is, h3, h4⟩ := Option.bind_eq_some_iff.mp h2
      split at h4
      · rename_i hp
        cases h4
        obtain ⟨b, ws, rfl, h5, h6⟩ := dictOf_rel s1 r1.1 h1
        have ew := intItems_rel h6 h3
        subst ew
        refine ⟨b, is, rfl, h5, by rw [h6.length, List.length_map] at hz; exact hz, fun p hpm => ?_, fun H' l2 as ps mo hn pp sr hl2 pr => ?_⟩
        · have := List.all_eq_true.mp hp p hpm
          simpa using this
        · have eo := sortP_only pp sr
          subst eo
          exact k ρ1 (.ref l2) H' (ext_grow mo) (sim_grow s1 mo) (.lst hl2 (new_free s1 hn) (pairs_rel pr)) (fun z => nomatch z)
      · cases h4
    · cases h2
end
end Pm

set_option Elab.async false
set_option linter.all false
set_option maxRecDepth 100000
set_option maxHeartbeats 6400000
/-! EvV: sorted(set(xs)), xs a list of ints. -/
namespace PySem
open Builtin L2
/-- a new set -/
abbrev nS (w : World) : Obj := { cls := .type "set", dict := none, data := .set #[] 0 (.fresh 0 0 (!w.params.followText "set-order")) }
section
variable {P : Program} {w : World} {A : Around} {E : Value → Shared → Prop} {s : Shared}
/-- what stands where set(l) is filled -/
abbrev SetEnd (w : World) (s : Shared) (ns : List Int) (v : Value) (z : Shared) : Prop := v = .none ∧ ∃ (g : Heap) (k c : Nat), z = { s with heap := g, toks := k } ∧ SetR w g s.heap.objs.size (fun j => decide (j ∈ ns)) c ∧ c ≤ ns.length ∧ ∀ b o, s.heap.get? b = some o → g.get? b = some o
theorem set_list_R {l : Addr} {xs : Array Value} (ns : List Int) {Q : Value → Shared → Prop} (free : A.handled = none) (at0 : s.heap.IsList l xs) (are : PyProof.Rows.IntsAre xs.toList ns) (few : ns.length + 1 < scanBound)
    (fin : ∀ (g : Heap) (k c : Nat), SetR w g s.heap.objs.size (fun j => decide (j ∈ ns)) c → c ≤ ns.length → (∀ b o, s.heap.get? b = some o → g.get? b = some o) → Q (.ref s.heap.objs.size) { s with heap := g, toks := k }) :
    wpAny (model P w) A (call (.type "set") [.ref l]) Q E s := by
  have nx : xs.size = ns.length := by
    have := PyProof.Rows.IntsAre.length are
    rwa [Array.length_toList] at this
  obtain ⟨c, tl, mro0⟩ := F.called_set.mro
  have made0 := F.called_set.made
  have sub0 := F.called_set.sub
  refine wpAny_call (codeAny_of_tree ?_)
  show wpAny _ _ (callAny (.type "set") _) _ _ _
  refine wpAny_pure ⟨Code.quiet_builtin _ (by decide +kernel), codeAny_builtin F.entry_type_call ?_⟩
  rw [Around.under_plain (weight_type_call_type "set" [.ref l] []) rfl]
  have t1 := F.called_set.notType
  have t2 := F.called_set.canCreate
  have t3 := F.typeCall_set_1 (.ref l)
  repeat (any_goals (first | assumption | wp_step))
  refine codeAny_mono (code_set_led1 (.ref l) (E := E) (Q₁ := fun v z => v = .ref s.heap.objs.size ∧ z = { s with heap := s.heap.push (nS w) }) ⟨rfl, rfl⟩) fun r z hr => ?_
  match r, hr with
  | .error e, hr => exact hr
  | .ok (.ret v), hr =>
    obtain ⟨rfl, rfl⟩ := hr
    have new0 : (s.heap.push (nS w)).get? s.heap.objs.size = some (nS w) := Heap.get?_push_size _ rfl
    have ty0 : Shared.TypeIs { s with heap := s.heap.push (nS w) } (.ref s.heap.objs.size) "set" := ⟨_, new0, rfl⟩
    have i1 := F.called_set.init.lookup
    have i2 := F.called_set.init.bind (.ref s.heap.objs.size)
    repeat (any_goals (first | assumption | wp_step))
    refine codeAny_mono (codeAny_call_builtin (R := wants (SetEnd w s ns) E) F.called_set.init.plain F.entry_set_init (check_set_init_1 ty0 ?_)) fun r2 z2 hr2 => ?_
    · obtain ⟨⟨oc, od, da, sl⟩, ho, hoc, n, hod⟩ := at0
      simp only at hoc hod
      subst hoc hod
      have ho2 : (s.heap.push (nS w)).get? l = some { cls := .type "list", dict := od, data := .seq xs n, slots := sl } := Heap.get?_push_of_some _ ho
      have u1 := F.sub_list_set
      have u2 := F.sub_list_frozenset
      have u3 : (Value.type "list" == Value.type "dict") = false := by decide
      have at1 : (s.heap.push (nS w)).IsList l xs := ⟨_, ho2, rfl, n, rfl⟩
      unfold Builtin.«set.__init__» noKeywords Builtin.Frozenset.updateFrom
      generalize keepIter : pyIter = it
      wp_walk
      subst keepIter
      refine wpAny_pyIter_list at1 ?_
      refine wpAny_bind (wpAny_runValue ?_)
      have low : l < s.heap.objs.size := Heap.lt_size ho
      have free3 : A.in1.in1.in1.handled = none := by simp [free]
      have sz : (s.heap.push (nS w)).objs.size = s.heap.objs.size + 1 := Heap.size_push ..
      have off : l ≠ (s.heap.push (nS w)).objs.size := by rw [sz]; exact Nat.ne_of_lt (Nat.lt_succ_of_lt low)
      have out : s.heap.objs.size ∉ [(s.heap.push (nS w)).objs.size, l] := by
        rw [sz]
        simp only [List.mem_cons, List.mem_singleton, List.not_mem_nil, or_false, not_or]
        exact ⟨Nat.ne_of_lt (Nat.lt_succ_self _), Nat.ne_of_gt low⟩
      have val : ∀ (i : Nat) (v : Value), xs[i]? = some v → ∃ k t, ns[i]? = some k ∧ v = .int k t := fun i v hv => by
        have hi : i < ns.length := by rw [← nx]; exact (Array.getElem?_eq_some_iff.mp hv).1
        obtain ⟨t, e⟩ := PyProof.Rows.IntsAre.int_at are i v (by rw [Array.getElem?_toList]; exact hv)
        exact ⟨ns[i], t, List.getElem?_eq_getElem hi, by rw [e, List.getD_eq_getElem?_getD, List.getElem?_eq_getElem hi] <;> rfl⟩
      refine set_update_ints ((Walks.list free3 _ l off xs).toS) s.heap.objs.size out ns nx few val (xs.size - 0) 0 _ (by omega) (Nat.zero_le _) ⟨⟨_, Heap.get?_push_size _ rfl, rfl, rfl⟩, at1.push _⟩ ?first ?last
      case first => exact ⟨0, Nat.le_refl 0, setR_new_at (Heap.get?_push_of_some _ new0)⟩
      case last =>
        intro z c2 mv hc2 hz
        obtain ⟨g, g2, d2, k2, o2⟩ := z
        have e1 : g2 = s.gens := mv.gens
        have e2 : d2 = s.drawn := mv.drawn
        have e3 : o2 = s.os := mv.os
        subst e1 e2 e3
        show wpAny _ _ _ _ _ _
        refine wpAny_pure ?_
        show wpAny _ _ (ret Value.none) _ _ _
        rw [nx] at hc2
        refine wpAny_pure ⟨rfl, g, k2, c2, rfl, hz, hc2, fun b o e => ?_⟩
        have b0 : b < s.heap.objs.size := Heap.lt_size e
        refine mv.heap b o ?_ (Heap.get?_push_of_some _ (Heap.get?_push_of_some _ e))
        rw [sz]
        simp only [List.mem_cons, List.mem_singleton, List.not_mem_nil, or_false, not_or]
        exact ⟨Nat.ne_of_lt b0, Nat.ne_of_lt (Nat.lt_succ_of_lt b0)⟩
    · match r2, hr2 with
      | .error e, hr2 => exact hr2
      | .ok (.ret v), hr2 =>
        obtain ⟨rfl, g, k, c2, rfl, a1, a2, a3⟩ := hr2
        repeat (any_goals (first | assumption | wp_step))
        exact fin _ _ _ a1 a2 a3
      | .ok .next, hr2 => exact hr2.elim
      | .ok .brk, hr2 => exact hr2.elim
      | .ok .cont, hr2 => exact hr2.elim
  | .ok .next, hr => exact hr.elim
  | .ok .brk, hr => exact hr.elim
  | .ok .cont, hr => exact hr.elim
end
end PySem

set_option Elab.async false
set_option linter.all false
set_option maxRecDepth 100000
set_option maxHeartbeats 4000000
/-! EvW: sorted(set(xs)) as a reading. -/
namespace Pm
open PySem PySem.Spec PyProof.Rows L2 LamX
set_option autoImplicit false

def stepI (i : Int) (r : List Int) : List Int := match r with
  | [] => [i]
  | j :: _ => if i = j then r else i :: r
theorem dedup_eq (is : List Int) : dedupI is = (sortI is).foldr stepI [] := by
  unfold dedupI
  congr 1
theorem asc_step : ∀ l : List Int, l.Pairwise (· ≤ ·) → (∀ k, k ∈ l.foldr stepI [] ↔ k ∈ l) ∧ (l.foldr stepI []).Pairwise (· < ·)
  | [], _ => ⟨fun k => by simp, .nil⟩
  | i :: l, h => by
    obtain ⟨h1, h2⟩ := List.pairwise_cons.mp h
    obtain ⟨g1, g2⟩ := asc_step l h2
    rw [List.foldr_cons]
    generalize l.foldr stepI [] = r at g1 g2
    cases r with
    | nil =>
      have e : l = [] := by
        cases l with
        | nil => rfl
        | cons a t => exact absurd ((g1 a).mpr (List.mem_cons_self ..)) (by simp)
      subst e
      exact ⟨fun k => by simp [stepI], by simp [stepI]⟩
    | cons j t =>
      have hj : i ≤ j := h1 j ((g1 j).mp (List.mem_cons_self ..))
      by_cases e : i = j
      · show (∀ k, k ∈ (if i = j then j :: t else i :: j :: t) ↔ k ∈ i :: l) ∧ (if i = j then j :: t else i :: j :: t).Pairwise (· < ·)
        rw [if_pos e]
        refine ⟨fun k => ⟨fun m => List.mem_cons_of_mem _ ((g1 k).mp m), fun m => ?_⟩, g2⟩
        rcases List.mem_cons.mp m with z | z
        · rw [z, e]; exact List.mem_cons_self ..
        · exact (g1 k).mpr z
      · show (∀ k, k ∈ (if i = j then j :: t else i :: j :: t) ↔ k ∈ i :: l) ∧ (if i = j then j :: t else i :: j :: t).Pairwise (· < ·)
        rw [if_neg e]
        refine ⟨fun k => ?_, List.pairwise_cons.mpr ⟨fun y hy => ?_, g2⟩⟩
        · rw [List.mem_cons, List.mem_cons (a := k) (b := i) (l := l), g1 k]
        · rcases List.mem_cons.mp hy with z | z
          · rw [z]; omega
          · have := (List.pairwise_cons.mp g2).1 y z; omega
theorem dedup_mem (is : List Int) (k : Int) : k ∈ dedupI is ↔ k ∈ is := by
  rw [dedup_eq, (asc_step (sortI is) (sortI_rises is)).1 k]
  exact (sortI_perm is).mem_iff
theorem dedup_rises (is : List Int) : (dedupI is).Pairwise (· < ·) := by
  rw [dedup_eq]
  exact (asc_step (sortI is) (sortI_rises is)).2
theorem dedup_only {is ns : List Int} (h : ns.Pairwise (· < ·)) (m : ∀ k, k ∈ ns ↔ k ∈ is) : ns = dedupI is := by
  have n1 : ns.Nodup := List.Pairwise.imp (fun h => Int.ne_of_lt h) h
  have n2 : (dedupI is).Nodup := List.Pairwise.imp (fun h => Int.ne_of_lt h) (dedup_rises is)
  have p : ns.Perm (dedupI is) := (List.perm_ext_iff_of_nodup n1 n2).mpr fun k => by rw [m k, dedup_mem is k]
  exact List.Perm.eq_of_pairwise (le := (· < ·)) (fun _ _ _ _ a b => absurd a (by omega)) h (dedup_rises is) p
section
variable {X : Cx}
/-- set(xs) -/
def rSetL (w : World) (K : PySem.W.Frag) : List V → Hp → VK → Prop := fun xs H Q => ∃ (l : Addr) (ns : List Int), xs = [V.ref l] ∧ SqL K H l (ns.map V.int) ∧ ns.length < 64 ∧ ∀ p c, H p = none → c ≤ ns.length → Q (.ref p) (upd H p (SetO w p (fun j => decide (j ∈ ns)) c))
theorem call_setL (hc : X.calm = true) : CallR X (.type "set") (rSetL X.w X.K) := fun pins s σ H xs us Q I r h => by
  obtain ⟨l, ns, rfl, hl, hz, q⟩ := h
  obtain ⟨u, rfl, ru⟩ := vals1 r
  cases ru
  obtain ⟨its, rv, pl, _⟩ := I.list hl
  refine set_list_R ns (I.ok.hd hc) pl.isList (by simpa using RZ.intsAre_vals rv) (by unfold scanBound; omega) fun g k c R hc2 kp => ?_
  exact ⟨.ref _, upd H s.heap.objs.size (SetO X.w s.heap.objs.size (fun j => decide (j ∈ ns)) c), I.laid (t' := k) kp (Nat.le_refl _) (setO_new R), rfl, q _ c (I.hok.fresh (Nat.le_refl _)) hc2⟩
end
section
variable {X : Cx} {κ : Kx} {B : L2.St → XW} {a : Expr} {fr : Bool} {ms : Loc → Store → Res (List D)} {p p2 pos pos2 : Pos} {P : Par}
theorem se_sset (hc : X.calm = true) (hg : Gl X "sorted") (hm : X.mg "sorted" = none) (hg2 : Gl X "set") (hm2 : X.mg "set" = none) (ns : notStar a = true) (ha : PA X [a] (eA X κ B ms)) :
    PE X (.Call (.Name "sorted" p) [.Call (.Name "set" p2) [a] [] pos2] [] pos) (eE X κ B fr fun l st => (ms l st).bind fun ds st => .ofOpt (biD P st .sset ds) st) := by
  have inner : PE X (.Call (.Name "set" p2) [a] [] pos2) (tCB (rSetL X.w X.K) (eA X κ B ms)) := pe_callTy (call_setL hc) hg2 hm2 (by decide) ha (by decide) (by decide) (star_cons ns _ _) (back_plain _ _ rfl)
  have outer : PE X (.Call (.Name "sorted" p) [.Call (.Name "set" p2) [a] [] pos2] [] pos) (tCB (rSortedSet X.w) (tCons (tCB (rSetL X.w X.K) (eA X κ B ms)) tNil)) :=
    pe_callB (cr_sortedSet hc) hg hm (by decide) (pa_cons inner pa_nil (star_cons rfl [] _)) (by decide) (by decide) (star_cons rfl _ _) (back_plain _ _ rfl)
  refine PE.imp outer fun σ H Q ⟨ρ, l, st, at0, q⟩ => ⟨ρ, l, st, at0, ?_⟩
  have hq : EndG (Cx.kit X κ) (B σ) (RE (Cx.kit X κ) fr) ρ H ((ms l st).bind fun ds st => .ofOpt (biD P st .sset ds) st) Q := q
  cases hms : ms l st with
  | bad => rw [hms] at hq; exact hq
  | exc c fs st1 => rw [hms] at hq; exact hq
  | ok ds st1 =>
    rw [hms] at hq
    intro ρ1 vs H1 x1 s1 r1
    have q1 := EndG.mono RE.back (show EndG (Cx.kit X κ) (B σ) (RE (Cx.kit X κ) fr) ρ H (Res.ofOpt (biD P st1 .sset ds) st1) Q from hq) x1
    obtain ⟨d, e1, k⟩ := EndG.opt q1
    have r1 : RelDs (Cx.kit X κ) ρ1 H1 ds vs := r1
    cases r1 with
    | nil => simp [biD] at e1
    | @cons d0 ds0 v0 vs0 r2 r3 =>
      cases r3 with
      | cons _ _ => simp [biD] at e1
      | nil =>
        have e2 : ((listOf st1 d0).bind fun xs => if xs.length < 64 then (intsOf xs).map fun is => D.lst ((dedupI is).map .int) else none) = some d := e1
        obtain ⟨xs, h1, h2⟩ := Option.bind_eq_some_iff.mp e2
        split at h2
        · rename_i hz
          obtain ⟨is, h3, h4⟩ := Option.map_eq_some_iff.mp h2
          subst h4
          obtain ⟨b, ws, rfl, h5, h6⟩ := listOf_rel s1 r2 h1
          have ew := ints_rel h6 h3
          subst ew
          have hl : is.length < 64 := by rw [h6.length, List.length_map] at hz; exact hz
          refine ⟨b, is, rfl, SqL.of h5, hl, fun pp c hn hc2 => ?_⟩
          refine ⟨pp, _, c, rfl, upd_same, by omega, fun ns' p' asc mem len hn' => ?_⟩
          have eo := dedup_only (is := is) asc fun k => (mem k).trans decide_eq_true_iff
          subst eo
          have np : p' ≠ pp := fun z => by rw [z, upd_same] at hn'; cases hn'
          have hn2 : H1 p' = none := by rwa [upd_ne np] at hn'
          have x2 : Ext κ.h ρ1 H1 ρ1 (upd H1 pp (SetO X.w pp (fun j => decide (j ∈ is)) c)) := ext_new hn
          have s2 : Sim (Cx.kit X κ) ρ1 st1 (upd H1 pp (SetO X.w pp (fun j => decide (j ∈ is)) c)) := sim_new s1 hn
          have x3 : Ext κ.h ρ1 H1 ρ1 (upd (upd H1 pp (SetO X.w pp (fun j => decide (j ∈ is)) c)) p' (.lst ((dedupI is).map V.int))) := x2.trans (ext_new hn')
          exact k ρ1 (.ref p') _ x3 (sim_new s2 hn') (new_lst s2 hn' (rel_ints _)) fun _ _ => (Fresh.lst s2 hn' (rel_ints _)).back (fun x f => x2.dom x f)
        · cases h2
end
end Pm

set_option Elab.async false
set_option linter.all false
set_option maxRecDepth 100000
set_option maxHeartbeats 2000000
/-! Ev23: calls. -/
namespace Pm
open PySem PySem.Spec PyProof.Rows L2
set_option autoImplicit false

/-- the frame of a def at its entry -/
abbrev Kx.base (κ : Kx) (h : Nat) : Kx := { T := κ.T, fx := [], cd := [], en := [], cl := κ.cl, h := h }
/-- what a def promises: what the evaluator tells -/
def spD (κ : Kx) (K : PySem.W.Frag) (ps : List Str) (m : List D → Store → Res D) : Sp := fun vs H Q E => vs.length = ps.length ∧ ∃ h ρ ds st, Sim ⟨κ.base h, K⟩ ρ st H ∧ RelDs ⟨κ.base h, K⟩ ρ H ds vs ∧ EndG ⟨κ.base h, K⟩ (BX κ E) (RE ⟨κ.base h, K⟩ false) ρ H (m ds st) Q
theorem Sim.cds {K : Kit} {ρ ρ' : Rho} {st : Store} {H H' : Hp} (s : Sim K ρ st H) (x : Ext K.h ρ H ρ' H') : ∀ p ∈ K.cd, H' p.1 = some p.2 ∧ ∃ φ, p.2 = HO.ext φ := fun p hp => by
  obtain ⟨h1, φ, h2⟩ := s.cd p hp
  exact ⟨x.keep _ _ h1 (s.nolive h1 (by rw [h2]; rfl)) (by rw [h2]; intro ps z; cases z), φ, h2⟩
theorem EndG.base {κ : Kx} {F : PySem.W.Frag} {B : XW} {ρ : Rho} {H : Hp} {st0 : Store} {r : Res D} {Q : VK} (s : Sim ⟨κ, F⟩ ρ st0 H) (q : EndG ⟨κ, F⟩ B (RE ⟨κ, F⟩ false) ρ H r Q) :
    EndG ⟨κ.base κ.h, F⟩ B (RE ⟨κ.base κ.h, F⟩ false) ρ H r Q := by
  cases r with
  | bad => exact q
  | ok d st' => exact fun ρ' v H' x s' r => q ρ' v H' x (s'.kit (κ := κ.base κ.h) (κ' := κ) rfl rfl (s.cds x)) ⟨r.1.kit (κ := κ.base κ.h) (κ' := κ) rfl, fun z => nomatch z⟩
  | exc c fs st' => exact fun ρ' H' dx x s' z => q ρ' H' dx x (s'.kit (κ := κ.base κ.h) (κ' := κ) rfl rfl (s.cds x)) z
section
variable {X : Cx} {κ : Kx} {E : L2.St → XK} {e : Expr} {es : List Expr} {ms : Loc → Store → Res (List D)} {pos p : Pos} {k : Nat} {f : Addr} {fd : FuncData} {ps : List Str} {x : Str} {m : List D → Store → Res D} {CX : CXT}
theorem se_call (F : FnG X.prog X.w X.K X.mg X.base CX k f fd ps (spD κ X.K ps m)) (hr : RoomG k X.A) (hg : Gl X x) (hm : X.mg x = some (.ref f)) (hk : PySem.W.keepIn X.K (.ref f) = true) (hb : Binds X.K fd ps []) (hx : ∀ σ, PassesAt CX X σ (E σ))
    (ha : PA X (e :: es) (eA X κ (BXs κ E) ms)) (hlen : ∀ l st ds st', ms l st = .ok ds st' → ds.length = ps.length) (hdb : (x == ("__debug__" : Str)) = false) (ns : (e :: es).all notStar = true) :
    PE X (.Call (.Name x p) (e :: es) [] pos) (eE X κ (BXs κ E) false fun l st => (ms l st).bind fun ds st => m ds st) := by
  have ns' : notStar e = true ∧ es.all notStar = true := by simpa using ns
  refine PE.imp (pe_callG F hr hg hm hk hb hx ha hdb (star_cons ns'.1 _ _) (back_plain _ _ ns'.2)) fun σ H Q ⟨ρ, l, st, at0, q⟩ => ⟨ρ, l, st, at0, ?_⟩
  have hq : EndG (Cx.kit X κ) (BXs κ E σ) (RE (Cx.kit X κ) false) ρ H ((ms l st).bind fun ds st => m ds st) Q := q
  cases hms : ms l st with
  | bad => rw [hms] at hq; exact hq
  | exc c fs st1 => rw [hms] at hq; exact hq
  | ok ds st1 =>
    rw [hms] at hq
    intro ρ1 vs H1 x1 s1 r1
    have q1 := EndG.mono RE.back (show EndG (Cx.kit X κ) (BXs κ E σ) (RE (Cx.kit X κ) false) ρ H (m ds st1) Q from hq) x1
    have r2 : RelDs ⟨κ.base κ.h, X.K⟩ ρ1 H1 ds vs := RelDs.kit (κ := κ) (κ' := κ.base κ.h) rfl r1
    exact ⟨by rw [← r2.length]; exact hlen l st ds st1 hms, κ.h, ρ1, ds, st1, s1.kit (κ := κ) (κ' := κ.base κ.h) rfl rfl (fun p hp => nomatch hp), r2, EndG.base (κ := κ) s1 q1⟩
end
end Pm

set_option Elab.async false
set_option linter.all false
set_option maxRecDepth 100000
set_option maxHeartbeats 4000000
/-! EvE1: the __init__ of an own error that says super().__init__(x) and keeps x. -/
namespace Pm
open PySem PySem.W PySem.Calls PyProof.Rows PySem.HandSPX
set_option autoImplicit false

abbrev veL : List Value := [.type "ValueError", .type "Exception", .type "BaseException", .type "object"]
/-- the body: super().__init__(x); self.f = x -/
abbrev iniBody (x f : Str) (p0 p1 p2 p3 p4 p5 p6 p7 p8 p9 : Pos) : List Stmt :=
  [.Expr (.Call (.Attribute (.Call (.Name "super" p0) [] [] p1) "__init__" p2) [.Name x p3] [] p4) p5, .Assign [.Attribute (.Name "self" p6) f p7] (.Name x p8) p9]

theorem mcall1 {o : Expr} {nm x : Str} {p2 p3 p4 : Pos} (env : Env) (h : (p2.endLine == p4.line) = true) : eval (.Call (.Attribute o nm p2) [.Name x p3] [] p4) env = (do
    let ov ← attributeBase o nm env (eval o env)
    standAt p2.atName
    let (f, first) ← holding [ov] (getMethod ov nm (do return (← importBound o env).getD true))
    callWith p4 f first (backTo p4 (starEach [.Name x p3] env)) []) := by
  have e : methodCallPos true o env p2 p4 = pure p4 := by
    unfold methodCallPos
    rw [h]; rfl
  show (attributeBase o nm env (eval o env) >>= fun ov => standAt p2.atName >>= fun _ => methodCall o nm p2 p4 env ov 1 (backTo p4 (starEach [.Name x p3] env)) []) = _
  congr 1
  funext ov
  congr 1
  funext _
  unfold methodCall
  have fm : methodCallForm 1 (backTo p4 (starEach [.Name x p3] env)) [] = true := rfl
  rw [fm, e]
  rfl
/-- what the module's part says of such a class -/
structure IniK (file : Str) (K : Frag) (C fI : Addr) (fd : FuncData) (x f : Str) : Prop where
  fn : ∃ oc od osl, K.lookup fI = some ⟨oc, od, .func fd, osl⟩
  body : ∃ p0 p1 p2 p3 p4 p5 p6 p7 p8 p9, (p2.endLine == p4.line) = true ∧ fd.body = .stmts (iniBody x f p0 p1 p2 p3 p4 p5 p6 p7 p8 p9)
  par : ∃ ar, (fd.params.posonlyargs ++ fd.params.args).head? = some ar ∧ ar.arg = "self"
  bnd : ∀ a b : Value, bindArgs fd ⟨[a, b], []⟩ = pure [(("self" : Str), a), (x, b)]
  glo : fd.globals = mainGlobals
  blt : fd.builtins = builtinsNs
  kind : fd.scope.kind = .function
  gen : fd.scope.isGenerator = false
  co : fd.scope.isCoroutine = false
  nocell : ∀ y ∈ fd.scope.names, y.2 ≠ .cell
  nsup : fd.scope.names.lookup ("super" : Str) = some .globalImplicit
  ncls : fd.scope.names.lookup ("__class__" : Str) = some .free
  nself : fd.scope.names.lookup ("self" : Str) = some .local
  nx : fd.scope.names.lookup x = some .local
  xs : x ≠ "self"
  xd : (x == ("__debug__" : Str)) = false
  cell : ∃ cc cl cld csl, fd.closure = [(("__class__" : Str), cc)] ∧ K.lookup cc = some ⟨cl, cld, .cell (some (.ref C)), csl⟩
  code : ∃ cda ccl cdd vs ccs tf, fd.code = .ref cda ∧ K.lookup cda = some ⟨ccl, cdd, .fields vs, ccs⟩ ∧ vs[2]? = some (.str file tf) ∧ codeIn K (.ref cda) fd.qualname = true
  cls : ∃ cd, clsIn K C = some cd ∧ refsVE cd.mro = true ∧ cd.hasDict = true
  exi : excInitIn K C veL "ValueError.__new__" = true
  mro : mroIn K C (.ref C) = some true
  sub : subIn K (.ref C) (.type "ValueError") = some true
  sup : ks_superIn K C C "__init__" = some (some (.builtin "ValueError.__init__"))
  tp : nsIn K cStatics "thirdparty.any" = some none
  gsup : nsIn K mainGlobals "super" = some none
  sa : findIn K (.ref C) "__setattr__" = some (some (.builtin "object.__setattr__"))
  no : findIn K (.ref C) f = some none
  tyI : typeIn K (.ref fI) = some (.type "function")
  ini : findIn K (.ref C) "__init__" = some (some (.ref fI))

section
variable {prog : Program} {w : World} {A : Around} {s : Shared} {h₀ : Heap} {K : Frag} {C fI : Addr} {fd : FuncData} {x f : Str} {mg : Str → Option Value} {base : Heap} {R : Result → Shared → Prop}
theorem ini_code (T : IniK prog.main.file K C fI fd x f) (htop : (prog.main.scope.names.lookup ("super" : Str)).isSome = false) (hroom : A.depth < recursionLimit) (M0 : L2.Mod K mg base) (kb : ∀ b o, base.get? b = some o → h₀.get? b = some o)
    {e t0 : Addr} {u : Value} (k0 : ∀ b o, h₀.get? b = some o → s.heap.get? b = some o) (hz : h₀.objs.size ≤ s.heap.objs.size) (he : s.heap.get? e = some (excO C t0)) (hn : h₀.get? e = none)
    (hq : ∀ h' tk' dx t1, (∀ b o, h₀.get? b = some o → h'.get? b = some o) → h₀.objs.size ≤ dx → dx ≠ e → h'.get? e = some { cls := .ref C, dict := some dx, data := .fields #[.ref t1, .none, .none, .none, .bool false, .none] } →
      h'.Ns1 dx (fun y => if y = f then some u else none) → R (.ok (.ret .none)) { s with heap := h', toks := tk' }) :
    codeAny (model prog w) A (.call (.ref fI) ⟨[.ref e, u], []⟩) R s := by
  obtain ⟨nm, qn, params, bd, ⟨kd, names, gn, co, more⟩, gl, clo, dV, kV, doc, pm, an, cdv, ct, bl⟩ := fd
  obtain rfl : kd = .function := T.kind
  obtain rfl : gn = false := T.gen
  obtain rfl : co = false := T.co
  obtain rfl : gl = mainGlobals := T.glo
  obtain rfl : bl = builtinsNs := T.blt
  obtain ⟨oc, od, osl, hf⟩ := T.fn
  obtain ⟨p0, p1, p2, p3, p4, p5, p6, p7, p8, p9, hpos, hbody⟩ := T.body
  obtain ⟨cc, ccl, ccd, ccs, hclo, hcell⟩ := T.cell
  obtain ⟨cda, dcl, dcd, vs, dcs, tf, hcode, hcda, hvs, hcin⟩ := T.code
  obtain ⟨cd, hcd, hmro, hdict⟩ := T.cls
  obtain ⟨ar, har, hself⟩ := T.par
  have hbody' : bd = .stmts (iniBody x f p0 p1 p2 p3 p4 p5 p6 p7 p8 p9) := hbody
  have hclo' : clo = [(("__class__" : Str), cc)] := hclo
  have hcode' : cdv = .ref cda := hcode
  subst hbody' hclo' hcode'
  have X0 : K.In h₀ := M0.kin.keeps kb
  have X : K.In s.heap := X0.keeps k0
  have hcr : s.heap.CodeRec (.ref cda) qn := codeRec_of X hcin
  refine ks_codeAny_call_defAt hroom (X _ _ hf) rfl ((M0.nolimit.keeps kb).keeps k0) hcr hbody (BindsTo.of_eq (T.bnd _ _)) T.nocell (fun y hy => ?_) (fun h1 hns hk1 => ?_) T.co T.gen T.kind
  · simp only [List.mem_cons, List.not_mem_nil, or_false] at hy
    rcases hy with rfl | rfl
    · exact T.nself
    · exact T.nx
  have hsz : h₀.objs.size ≤ s.heap.objs.size := hz
  have F1 : Fr h₀ s.heap.objs.size h1 (fun y => ([(x, u), (("self" : Str), Value.ref e)] : List (Str × Value)).lookup y) := ⟨hns, fun b o q => hk1 b o (k0 b o q), hsz⟩
  have N1 : News h₀ s.heap.objs.size h1 [(e, excObj C t0 none .none)] := fun p hp => by
    rw [List.mem_singleton.mp hp]
    exact ⟨hk1 _ _ he, Nat.ne_of_lt (Heap.lt_size he), hn⟩
  have m1 : ([(x, u), (("self" : Str), Value.ref e)] : List (Str × Value)).lookup ("self" : Str) = some (Value.ref e) := by
    have : (("self" : Str) == x) = false := by simpa using fun z => T.xs z.symm
    simp [List.lookup, this]
  have m2 : ([(x, u), (("self" : Str), Value.ref e)] : List (Str × Value)).lookup x = some u := by simp [List.lookup]
  obtain ⟨hp, g, d, t, os⟩ := s
  have hD : ∃ oD, h1.get? C = some oD ∧ oD.data = .cls cd := by
    unfold clsIn at hcd
    split at hcd
    · rename_i c0 d0 cd' sl ho
      cases hcd
      exact ⟨_, hk1 _ _ (X _ _ ho), rfl⟩
    · cases hcd
  obtain ⟨oD, hD1, hD2⟩ := hD
  have I1 : InstAt h1 e (excObj C t0 none .none) C none := ⟨hk1 _ _ he, rfl, rfl, trivial⟩
  have X1 : K.In h1 := X0.keeps F1.keep
  obtain ⟨mb, hmb, hb⟩ := M0.blt
  refine ks_wpAt_execs_cons (ks_wpAt_Expr_any (ks_wpAt_MethodCall ?_ (mcall1 _ hpos)))
  refine ks_wpAt_super_base (env := callEnv _ hp.objs.size fI) T.nsup T.ncls rfl rfl (X1 _ _ hf) rfl har rfl (X1 _ _ hcda) rfl hvs (by simp) htop ?_
  have nsG : h1.Ns mainGlobals mg := M0.glob.at fun o q => F1.keep _ _ (kb _ _ q)
  have nsB : h1.Ns builtinsNs mb := hmb.at fun o q => F1.keep _ _ (kb _ _ q)
  have gS : mg "super" = none := mg_none_of M0.kin M0.glob T.gsup
  have bS : mb "super" = some (.type "super") := (hb _ (by decide)).trans (by decide +kernel)
  refine ks_loadName_global T.kind T.nsup (loadGlobal_builtin (env := callEnv _ hp.objs.size fI) nsG gS nsB bS ⟨rfl, ?_⟩)
  refine wpAny_loadName_free T.kind T.ncls rfl ⟨_, X1 _ _ hcell, rfl⟩ ?_
  rw [hself]
  refine wpAny_loadName_local T.kind T.nself F1.ns m1 ?_
  refine ks_wpAny_isType_cls hD1 hD2 ⟨rfl, ?_⟩
  refine ks_wpAny_call_super hD1 hD2 I1.at_ I1.cls (fun c q => ?_) (looks_mroIn X1 T.mro) (fun h2 q2 k2 => ?_)
  · have := I1.no
    unfold notCls at this
    rw [q] at this
    cases this
  obtain ⟨F2, N2, l2⟩ := ks_newsPush (s := ⟨h1, g, d, t, os⟩) F1 N1 rfl q2 k2
  have I2 : InstAt h2 e (excObj C t0 none .none) C none := ⟨(N2 (e, excObj C t0 none .none) (List.mem_cons_of_mem _ (List.mem_cons_self ..))).1, rfl, rfl, trivial⟩
  refine kxs_method kxs_ValueError F2 X0 N2 (List.mem_cons_self ..) I2 T.tp T.sup T.sub rfl (fun q h3 F3 N3 l3 => ?_)
  refine kxs_callWith1 N3 (List.mem_cons_self ..) ?_
  show wpAny _ _ (spliced ((false, eval (.Name x p3) (callEnv _ hp.objs.size fI)) :: backTo p4 (starEach [] (callEnv _ hp.objs.size fI)))) _ _ _
  refine spliced_cons (wpAny_Name (wpAny_loadName_local T.kind T.nx F3.ns m2 (spliced_nil ⟨kxs_at N3 (List.mem_cons_self ..), ?_⟩)) T.xd)
  have e1 : hp.objs.size ≠ e := Ne.symm (Nat.ne_of_lt (Heap.lt_size he))
  have eso := Nat.ne_of_gt (l2 (e, excObj C t0 none .none) (List.mem_cons_self ..))
  have eq := Nat.ne_of_gt (l3 (e, excObj C t0 none .none) (List.mem_cons_of_mem _ (List.mem_cons_self ..)))
  refine kxs_call F3 X0 N3 PySem.F.excBase_ValueError T.exi (List.mem_cons_self ..) (.tail eq (.tail eso (.head fun p hp => nomatch hp))) (by simp [sizeLine_eq]) (fun t1 h4 F4 N4 l4 => ?_)
  have X4 : K.In h4 := X0.keeps F4.keep
  have he4 : h4.get? e = some (excObj C t1 none .none) := (N4 (e, excObj C t1 none .none) (by simp)).1
  refine ks_wpAt_execs_cons (ks_wpAt_Assign_Attr (wpAt_of_wpAny (wpAny_Name (wpAny_loadName_local T.kind T.nx F4.ns m2 ?_) T.xd)))
  refine wpAny_Name (wpAny_loadName_local T.kind T.nself F4.ns m1 ?_) (by decide)
  refine set_plain X4 (ox := excObj C t1 none .none) (od := none) ⟨he4, rfl, rfl, trivial⟩ T.sa (exc_osa X4 he4 hcd hmro hdict T.no (fun h5 tk5 dx k5 dn dne hx hn5 => ?_))
  refine wpAt_of_wpAny ?_
  rw [execs_nil]
  have hlt : hp.objs.size < h4.objs.size := F4.ns.lt
  exact wpAny_pure (hq h5 _ dx t1 (fun b o q => k5 b o (fun z => by rw [z, hn] at q; cases q) (F4.keep b o q)) (Nat.le_trans (Nat.le_trans hsz (Nat.le_of_lt hlt)) dn) dne hx hn5)
end
end Pm

set_option Elab.async false
set_option linter.all false
set_option maxRecDepth 100000
set_option maxHeartbeats 4000000
/-! EvE2: errors made as values, their fields, in the hand layer. -/
namespace Pm
open PySem PySem.Spec PyProof.Rows L2
set_option autoImplicit false
section
variable {X : Cx} {x nm f : Str} {C fI : Addr} {fd : FuncData} {p pos : Pos} {e : Expr} {te : TE}
/-- C(), no own __init__ -/
theorem pe_exc0 {bmB : List Value} {B newId initId : String} (F : ExcBaseFacts B newId initId bmB) (q : PySem.W.excIn X.K C bmB newId = true) (gC : X.mg x = some (.ref C)) (kC : PySem.W.keepIn X.K (.ref C) = true) (hg : Gl X x)
    (hdb : (x == ("__debug__" : Str)) = false) : PE X (.Call (.Name x p) [] [] pos) (fun _ H Q => ∀ a, H a = none → Q (.ref a) (upd H a (ExO (.ref C) a))) := by
  refine ⟨fun pins s σ H Q I h => ?_⟩
  refine wpAny_Call_Name_kw (ld_glob I hg gC ?_ hdb)
  refine PySem.W.callWith_K0 I.kIn kC ?_
  show wpAny _ _ (call (.ref C) []) _ _ _
  obtain ⟨bm, N, qm, qn, bs, hdct, sn, sub, ab, col, dd, k0, k1, k2, k3, k5, mN, hC, hN, hni, T⟩ := exc_obj I.kIn q
  refine wpAny_call_exc_subT F T hC hN hni (fun h' a hm => ?_) (Nat.zero_le _)
  have hn : H a = none := I.hok.gone hm.new
  obtain ⟨t, ht, _, _⟩ := hm.there
  exact ⟨.ref a, upd H a (ExO (.ref C) a), I.laidN hm.keeps hm.new hn (exO_ok ht ⟨rfl, rfl⟩ rfl rfl rfl (show 4 < 6 by decide)), rfl, h a hn⟩
/-- T(e) of a class built in -/
theorem pe_excB {T N Ii : String} (F : ExcB T N Ii) (hg : Gl X x) (hm : X.mg x = none) (hv : bootBuiltins x = some (.type T)) (he : PE X e te) (hs : starEach [e] X.env = (false, eval e X.env) :: starEach [] X.env)
    (hn : x ≠ "__name__") (hdb : (x == ("__debug__" : Str)) = false) : PE X (.Call (.Name x p) [e] [] pos) (fun σ H Q => te σ H fun _ H1 => ∀ a, H1 a = none → Q (.ref a) (upd H1 a (ExO (.type T) a))) := by
  refine ⟨fun pins s σ H Q I h => ?_⟩
  refine wpAny_Call_Name_kw (ld_blt I hg hm hv ?_ hn hdb)
  refine PyProof.Rows.callWith_type1 ?_ hs rfl
  rw [hs]
  show wpAny _ _ (spliced ((false, eval e X.env) :: backTo pos (starEach [] X.env))) _ _ s
  refine Calls.spliced_cons (thn (he.run pins s σ H _ I h) fun u s1 ⟨v, H1, I1, r1, q1⟩ => ?_)
  refine Calls.spliced_nil ?_
  obtain ⟨hp1, g1, d1, tk1, os1⟩ := s1
  refine wpAny_call_exc F.call (fun h' a mk => ?_) (by show 1 ≤ sizeLine; rw [sizeLine_eq]; omega)
  have hm := PySem.Heap.MadeExc.of mk
  have hn1 : H1 a = none := I1.hok.gone hm.new
  obtain ⟨t, ht, _, _⟩ := hm.there
  exact ⟨.ref a, upd H1 a (ExO (.type T) a), I1.laidN hm.keeps hm.new hn1 (exO_ok ht ⟨rfl, rfl⟩ rfl rfl rfl (show 4 < 6 by decide)), rfl, q1 a hn1⟩
/-- C(e), its own __init__ keeping e in a field -/
theorem pe_ini (T : IniK X.prog.main.file X.K C fI fd x f) (htop : (X.prog.main.scope.names.lookup ("super" : Str)).isSome = false) (hr : Room 0 X.A) (gC : X.mg nm = some (.ref C)) (kC : PySem.W.keepIn X.K (.ref C) = true) (hg : Gl X nm)
    (he : PE X e te) (hs : starEach [e] X.env = (false, eval e X.env) :: starEach [] X.env) (hdb : (nm == ("__debug__" : Str)) = false) :
    PE X (.Call (.Name nm p) [e] [] pos) (fun σ H Q => te σ H fun v H1 => ∀ a d, H1 a = none → H1 d = none → d ≠ a → Q (.ref a) (upd (upd H1 d (exd d [(f, v)])) a (exo a C (some d)))) := by
  refine ⟨fun pins s σ H Q I h => ?_⟩
  refine wpAny_Call_Name_kw (ld_glob I hg gC ?_ hdb)
  refine PySem.W.callWith_K (h₀ := X.base) I.ok.mod.kin kC ?_ hs (by rfl)
  rw [hs]
  show wpAny _ _ (spliced ((false, eval e X.env) :: backTo pos (starEach [] X.env))) _ _ s
  refine Calls.spliced_cons (thn (he.run pins s σ H _ I h) fun u s1 ⟨v, H1, I1, r1, q1⟩ => ?_)
  refine Calls.spliced_nil ⟨I1.kIn, ?_⟩
  show wpAny _ _ (call (.ref C) [u]) _ _ _
  obtain ⟨nmC, N', qn, bs, bm, hdct, sn, sub, ab, col, dd, k0, k1, k2, k3, k5, hC, hT⟩ := PySem.W.excInit_of I1.kIn T.exi
  obtain ⟨hp, g, d, t, os⟩ := s1
  have hsz : hp.objs.size ≤ hp.objs.size + 1 := Nat.le_succ _
  have na : H1 (hp.objs.size + 1) = none := I1.hok.fresh hsz
  have hus : [u].length ≤ sizeLine := by show 1 ≤ sizeLine; rw [sizeLine_eq]; omega
  have kk : ∀ b o, hp.get? b = some o → ((hp.push (PySem.W.kdv_tup [u])).push (PySem.HandSPX.excO C hp.objs.size)).get? b = some o := fun b o z => Heap.get?_push_of_some _ (Heap.get?_push_of_some _ z)
  have hget : ((hp.push (PySem.W.kdv_tup [u])).push (PySem.HandSPX.excO C hp.objs.size)).get? (hp.objs.size + 1) = some (PySem.HandSPX.excO C hp.objs.size) := by heap_get
  have hnone : hp.get? (hp.objs.size + 1) = none := by
    cases z : hp.get? (hp.objs.size + 1) with
    | none => rfl
    | some o => exact absurd (Heap.lt_size z) (Nat.not_lt.mpr hsz)
  have hsz2 : hp.objs.size ≤ ((hp.push (PySem.W.kdv_tup [u])).push (PySem.HandSPX.excO C hp.objs.size)).objs.size := by
    exact Nat.le_of_lt (Nat.lt_of_le_of_lt hsz (Heap.lt_size hget))
  refine wpAny_call (PySem.HandSPX.call_own PySem.F.excBase_ValueError hT hC (PySem.W.looks_findIn I1.kIn T.ini) (fun self => PySem.W.bind_fn I1.kIn self T.tyI) hus
    (ini_code (h₀ := hp) T htop (by have := hr.dp; rw [make_depth]; omega) I1.ok.mod (fun b o z => (I1.bs b o z).1) kk hsz2 hget hnone (fun h' tk' dx t1 k dn dne hx hns => ⟨rfl, ?_⟩)))
  have nd : H1 dx = none := I1.hok.fresh dn
  have la : ∀ {b : Addr} {o : Obj}, hp.get? b = some o → b ≠ hp.objs.size + 1 := fun z w => by rw [w, hnone] at z; cases z
  have ld : ∀ {b : Addr} {o : Obj}, hp.get? b = some o → b ≠ dx := fun z w => absurd (Heap.lt_size z) (by rw [w]; exact Nat.not_lt.mpr dn)
  have Un1 : Un X.fs [] H1 (upd (upd H1 dx (exd dx [(f, v)])) (hp.objs.size + 1) (exo (hp.objs.size + 1) C (some dx))) hp h' := {
    keep := fun b o z _ _ _ => k b o z
    slot := fun b o z _ _ _ => ⟨o.slots, k b o z⟩
    free := fun b o z n _ => by rw [upd_ne (la z), upd_ne (ld z)]; exact n
    there := fun b o z _ => ⟨o, k b o z⟩
    tups := fun b xs z => by rw [upd_ne (ne_of_none z na), upd_ne (ne_of_none z nd)]; exact z
    frzs := fun b o w z => by rw [upd_ne (ne_of_none z na), upd_ne (ne_of_none z nd)]; exact z
    tbls := fun b ps z => ⟨#[], by rw [upd_ne (ne_of_none z na), upd_ne (ne_of_none z nd), z]; simp⟩ }
  have ok1 : HOk X.prog X.w (upd (upd H1 dx (exd dx [(f, v)])) (hp.objs.size + 1) (exo (hp.objs.size + 1) C (some dx))) h' := fun b o z => by
    by_cases hb : b = hp.objs.size + 1
    · subst hb
      rw [upd_same] at z
      cases z
      exact exo_ok hx
    · rw [upd_ne hb] at z
      by_cases hd : b = dx
      · subst hd
        rw [upd_same] at z
        cases z
        exact exd_ok hns (relO_put (fs := []) r1 fun _ => True.intro)
      · rw [upd_ne hd] at z
        exact (I1.hok b o z).stay (fun c w _ y => k c w y) (fun c y => by rw [upd_ne (ne_of_none y na), upd_ne (ne_of_none y nd)]; exact y) (fun c xs y => by rw [upd_ne (ne_of_none y na), upd_ne (ne_of_none y nd)]; exact y)
  exact ⟨.ref (hp.objs.size + 1), _, I1.un (t' := tk') Un1 ok1, rfl, q1 _ dx na nd dne⟩
/-- e.f of an error -/
theorem pe_xfv (he : PE X e te) (hb : attributeBase e f X.env (eval e X.env) = eval e X.env) :
    PE X (.Attribute e f pos) (fun σ H Q => te σ H fun y H1 => ∃ (a C d : Addr) (fs : List (Str × V)) (v : V), y = .ref a ∧ XfC X.K C ∧ PySem.W.findIn X.K (.ref C) f = some none ∧ H1 a = some (exo a C (some d)) ∧ H1 d = some (exd d fs) ∧ fs.lookup f = some v ∧ Q v H1) := by
  refine ⟨fun pins s σ H Q I h => ?_⟩
  refine attr_of hb (thn (he.run pins s σ H _ I h) fun u s1 hh => ?_)
  obtain ⟨y, H1, I1, ry, a, C, d, fs, v, rfl, T, hno, ea, ed, l, q⟩ := hh
  obtain rfl : u = Value.ref a := ry
  obtain ⟨t1, ho⟩ := exo_at I1.hok ea
  obtain ⟨mA, hns, hr⟩ := exd_at I1.hok ed
  obtain ⟨od, ho2, hl⟩ := lookIn_ns hns
  obtain ⟨u, hu, ru⟩ := RelO.some_of (v := v) (o := mA f) (by rw [← l]; exact hr f)
  have J : PySem.W.InstAt s1.heap a { cls := .ref C, dict := some d, data := .fields #[.ref t1, .none, .none, .none, .bool false, .none] } C (some od) := ⟨ho, rfl, rfl, ho2⟩
  exact HandSPX.exc_get I1.kIn J T.ga T.gg T.exC (PySem.W.findObj_own T.hdC hno rfl (by rw [hl, hu])) (handed_of ru) ⟨v, H1, I1.tok _, ru, q⟩
end
end Pm

set_option Elab.async false
set_option linter.all false
set_option maxRecDepth 100000
set_option maxHeartbeats 4000000
/-! EvZ1: list(zip(xs, ys)) of two lists, at the library's level. -/
namespace Pm
open PySem PySem.W PySem.Calls PyProof.Rows
set_option autoImplicit false
theorem zip_no_len : typeLookup (.type "zip") "__len__" = pure none := by rw [typeLookup_type, builtinLookup_eq_fast]; kernel_rfl
theorem zip_no_hint : typeLookup (.type "zip") "__length_hint__" = pure none := by rw [typeLookup_type, builtinLookup_eq_fast]; kernel_rfl
/-- what was met so far stands in acc -/
structure ZIt (h0 h : Heap) (z TO i1 i2 S : Addr) (xs ys : Array Value) (i : Nat) (acc : Array Value) : Prop where
  kb : ∀ b o, h0.get? b = some o → h.get? b = some o
  sz : acc.size = i
  its : ∀ (j : Nat) (v : Value), acc[j]? = some v → ∃ (b : Addr) (x y : Value), v = .ref b ∧ xs[j]? = some x ∧ ys[j]? = some y ∧ PySem.IsPair h b x y ∧ b ≠ z ∧ b ≠ TO ∧ b ≠ i1 ∧ b ≠ i2 ∧ b ≠ S ∧ h0.objs.size ≤ b
  nd : ∀ (j k : Nat) (v : Value), acc[j]? = some v → acc[k]? = some v → j = k
/-- the walk under way -/
structure ZAt (h0 h : Heap) (z TI TO i1 i2 l1 l2 S : Addr) (xs ys : Array Value) (i : Nat) (acc : Array Value) : Prop extends ZIt h0 h z TO i1 i2 S xs ys i acc where
  ti : PySem.IsPair h TI (.ref i1) (.ref i2)
  it1 : h.IsListIter i1 l1 i
  it2 : h.IsListIter i2 l2 i
  tl : TO < h.objs.size
  zz : (IsZip h z TI TO .none ∧ ∃ a b, PySem.IsPair h TO a b) ∨ ∃ (T : Addr) (f : Bool) (oT : Obj), IsZipHeld h z TI TO T f ∧ h.get? T = some oT ∧ T ≠ S ∧ T ≠ z ∧ T ≠ TO ∧ T ≠ i1 ∧ T ≠ i2
theorem ZIt.keep {h0 h h' : Heap} {z TO i1 i2 S : Addr} {xs ys : Array Value} {i : Nat} {acc : Array Value} (Z : ZIt h0 h z TO i1 i2 S xs ys i acc)
    (old : ∀ b o, h0.get? b = some o → b ≠ z ∧ b ≠ TO ∧ b ≠ i1 ∧ b ≠ i2 ∧ b ≠ S) (k : ∀ c o, c ≠ z → c ≠ TO → c ≠ i1 → c ≠ i2 → c ≠ S → h.get? c = some o → h'.get? c = some o) : ZIt h0 h' z TO i1 i2 S xs ys i acc where
  kb := fun b o q => let ⟨n1, n2, n3, n4, n5⟩ := old b o q; k b o n1 n2 n3 n4 n5 (Z.kb b o q)
  sz := Z.sz
  its := fun j v q => let ⟨b, x, y, e, hx, hy, hp, n1, n2, n3, n4, n5, le⟩ := Z.its j v q; ⟨b, x, y, e, hx, hy, k b _ n1 n2 n3 n4 n5 hp, n1, n2, n3, n4, n5, le⟩
  nd := Z.nd
section
variable {prog : Program} {w : World} {A : Around} {R : Result → Shared → Prop} {h0 : Heap} {z TI TO i1 i2 l1 l2 S : Addr} {xs ys : Array Value} {n : Nat}
abbrev lobj (acc : Array Value) (c : Nat) : Obj := { cls := .type "list", dict := none, data := .seq acc c, slots := #[] }
theorem zip_loop (hh : A.handled = none) (D : ZipApart z TI TO i1 i2 l1 l2) (hl1 : h0.IsList l1 xs) (hl2 : h0.IsList l2 ys) (hn1 : xs.size = n) (hn2 : ys.size = n) (hn : n ≤ sizeLine)
    (old : ∀ b o, h0.get? b = some o → b ≠ z ∧ b ≠ TO ∧ b ≠ i1 ∧ b ≠ i2 ∧ b ≠ S) (aS : S ≠ z ∧ S ≠ TI ∧ S ≠ TO ∧ S ≠ i1 ∧ S ≠ i2) (res : Value) :
    ∀ (k i : Nat) (s : Shared) (acc : Array Value) (c : Nat), n - i = k → i ≤ n → h0.objs.size ≤ s.heap.objs.size → ZAt h0 s.heap z TI TO i1 i2 l1 l2 S xs ys i acc → s.heap.get? S = some (lobj acc c) →
      (∀ h' tk' acc' c', ZIt h0 h' z TO i1 i2 S xs ys n acc' → h'.get? S = some (lobj acc' c') → R (.ok (.ret res)) { s with heap := h', toks := tk' }) →
      codeAny (model prog w) A (.builtin "list.extend.loop" ⟨[.ref S, .ref z, res], []⟩) R s := by
  intro k
  induction k with
  | zero =>
    intro i s acc c hk hi hle hst hS hR
    have hin : i = n := by omega
    subst hin
    refine codeAny_builtin F.entry_extend_loop ?_
    rw [Around.under_plainId F.plain_extend_loop _]
    show wpAny _ A.in1 (pyNext (.ref z) >>= _) _ _ s
    have e1 : s.heap.IsList l1 xs := hl1.at fun o q => hst.kb _ _ q
    have e2 : s.heap.IsList l2 ys := hl2.at fun o q => hst.kb _ _ q
    have hend : xs[i]? = none ∨ ys[i]? = none := .inl (by simp [hn1])
    have fin : ∀ h', (∀ c o, c ≠ z → c ≠ TO → c ≠ i1 → c ≠ i2 → s.heap.get? c = some o → h'.get? c = some o) → R (.ok (.ret res)) { s with heap := h' } := fun h' k =>
      hR h' s.toks acc c (hst.toZIt.keep old fun c o n1 n2 n3 n4 _ => k c o n1 n2 n3 n4) (k S _ aS.1 aS.2.2.1 aS.2.2.2.1 aS.2.2.2.2 hS)
    rcases hst.zz with ⟨hz, a, b, hTO⟩ | ⟨T, f, oT, hz, hT, _⟩
    · exact wpAny_bind (wpAny_pyNext_zip_end hh D hz hst.ti hTO hst.it1 hst.it2 e1 e2 hend fun h' k => wpAny_pure (fin h' k))
    · exact wpAny_bind (wpAny_pyNext_zip_end_held hh D hz hT hst.ti hst.it1 hst.it2 e1 e2 hend fun h' k => wpAny_pure (fin h' fun c o n1 _ n3 n4 => k c o n1 n3 n4))
  | succ k ih =>
    intro i s acc c hk hi hle hst hS hR
    have hlt : i < n := by omega
    refine codeAny_builtin F.entry_extend_loop ?_
    rw [Around.under_plainId F.plain_extend_loop _]
    show wpAny _ A.in1 (pyNext (.ref z) >>= _) _ _ s
    have e1 : s.heap.IsList l1 xs := hl1.at fun o q => hst.kb _ _ q
    have e2 : s.heap.IsList l2 ys := hl2.at fun o q => hst.kb _ _ q
    obtain ⟨x, hx⟩ : ∃ x, xs[i]? = some x := ⟨_, Array.getElem?_eq_getElem (by omega)⟩
    obtain ⟨y, hy⟩ : ∃ y, ys[i]? = some y := ⟨_, Array.getElem?_eq_getElem (by omega)⟩
    have hzl : z < s.heap.objs.size := by
      rcases hst.zz with ⟨hz, _⟩ | ⟨T, f, oT, hz, _⟩ <;> exact Heap.lt_size hz
    have h1l : i1 < s.heap.objs.size := let ⟨_, q, _⟩ := hst.it1; Heap.lt_size q
    have h2l : i2 < s.heap.objs.size := let ⟨_, q, _⟩ := hst.it2; Heap.lt_size q
    have hSl : S < s.heap.objs.size := Heap.lt_size hS
    have go : ∀ h' (T : Addr) f oT, IsZipHeld h' z TI TO T f → h'.get? T = some oT → (T ≠ S ∧ T ≠ z ∧ T ≠ TO ∧ T ≠ i1 ∧ T ≠ i2) → h'.IsListIter i1 l1 (i + 1) → h'.IsListIter i2 l2 (i + 1) → PySem.IsPair h' s.heap.objs.size x y → h'.objs.size = s.heap.objs.size + 1 →
        (∀ c o, c ≠ z → c ≠ TO → c ≠ i1 → c ≠ i2 → s.heap.get? c = some o → h'.get? c = some o) → wpAny (model prog w) A.in1 (updateSeq S (·.push (.ref s.heap.objs.size)) >>= fun _ => again (.builtin "list.extend.loop" ⟨[.ref S, .ref z, res], []⟩))
          (fun fin s' => match fin with | .done f => R (.ok f) s' | .again c' => c'.quiet = true ∧ codeAny (model prog w) A c' R s') (fun e s' => R (.error e) s') { s with heap := h' } := fun h' T f oT g1 gT aT g2 g3 g4 g5 g6 => by
      have hS' := g6 S _ aS.1 aS.2.2.1 aS.2.2.2.1 aS.2.2.2.2 hS
      have ot : ∀ {b : Addr} {o : Obj}, b ≠ S → h'.get? b = some o → (h'.update S (Obj.mapSeq (·.push (.ref s.heap.objs.size)))).get? b = some o := fun n q => (Heap.get?_update_other _ _ (Ne.symm n)).trans q
      have Z1 : ZIt h0 (h'.update S (Obj.mapSeq (·.push (.ref s.heap.objs.size)))) z TO i1 i2 S xs ys i acc := hst.toZIt.keep old fun c o n1 n2 n3 n4 n5 q => ot n5 (g6 c o n1 n2 n3 n4 q)
      refine wpAny_bind (wpAny_updateSeq hS' rfl (wpAny_pure ⟨plainId_quiet F.plain_extend_loop _, ih (i + 1) _ (acc.push (.ref s.heap.objs.size)) _ (by omega) hlt ?_ ?_ (Heap.get?_update_self _ hS' rfl) fun h3 tk3 acc3 c3 Z3 hS3 => hR h3 tk3 acc3 c3 Z3 hS3⟩)
        (by rw [hst.sz]; omega) (by show (acc.push _).size ≤ sizeLine + 1; rw [Array.size_push, hst.sz]; omega))
      · show h0.objs.size ≤ (h'.update S _).objs.size
        rw [Heap.size_update, g5]
        exact Nat.le_succ_of_le hle
      · refine { Z1 with sz := by rw [Array.size_push, hst.sz], its := fun j v q => ?_, nd := fun j k v q1 q2 => ?_, ti := ot (Ne.symm aS.2.1) (g6 _ _ D.TIz D.TITO D.TIi1 D.TIi2 hst.ti), it1 := g2.at fun o q => ot (Ne.symm aS.2.2.2.1) q, it2 := g3.at fun o q => ot (Ne.symm aS.2.2.2.2) q, tl := ?_, zz := .inr ⟨T, f, oT, ot (Ne.symm aS.1) g1, ot aT.1 gT, aT⟩ }
        · rw [Array.getElem?_push] at q
          split at q
          · rename_i hj
            cases q
            rw [hst.sz] at hj
            subst hj
            exact ⟨_, x, y, rfl, hx, hy, ot (Nat.ne_of_gt hSl) g4, Nat.ne_of_gt hzl, Nat.ne_of_gt hst.tl, Nat.ne_of_gt h1l, Nat.ne_of_gt h2l, Nat.ne_of_gt hSl, hle⟩
          · exact Z1.its j v q
        · have lt : ∀ {j : Nat}, acc[j]? = some (.ref s.heap.objs.size) → False := fun {j} q => by
            obtain ⟨b, x', y', e, _, _, hp, _⟩ := hst.its j _ q
            cases e
            exact absurd (Heap.lt_size hp) (Nat.lt_irrefl _)
          rw [Array.getElem?_push] at q1 q2
          split at q1
          · cases q1
            split at q2
            · omega
            · exact (lt q2).elim
          · split at q2
            · cases q2
              exact (lt q1).elim
            · exact hst.nd j k v q1 q2
        · show TO < (h'.update S _).objs.size
          rw [Heap.size_update, g5]
          exact Nat.lt_succ_of_lt hst.tl
    rcases hst.zz with ⟨hz, a, b, hTO⟩ | ⟨T, f, oT, hz, hT, aT⟩
    · exact wpAny_bind (wpAny_pyNext_zip_item D hz hst.ti hTO hst.it1 hst.it2 e1 e2 hx hy fun h' g1 _ g2 g3 g4 g5 g6 => go h' s.heap.objs.size false _ g1 g4 ⟨Nat.ne_of_gt hSl, Nat.ne_of_gt hzl, Nat.ne_of_gt hst.tl, Nat.ne_of_gt h1l, Nat.ne_of_gt h2l⟩ g2 g3 g4 g5 g6)
    · exact wpAny_bind (wpAny_pyNext_zip_item_held D hz hT hst.ti hst.it1 hst.it2 e1 e2 hx hy fun h' g1 g2 g3 g4 g5 g6 => go h' T true oT g1 (g6 _ _ aT.2.1 aT.2.2.2.1 aT.2.2.2.2 hT) aT g2 g3 g4 g5 fun c o n1 _ n3 n4 => g6 c o n1 n3 n4)
end
end Pm

set_option Elab.async false
set_option linter.all false
set_option maxRecDepth 100000
set_option maxHeartbeats 4000000
/-! EvZ1: list(zip(xs, ys)) of two lists, at the library's level. -/
namespace Pm
open PySem PySem.W PySem.Calls PyProof.Rows
set_option autoImplicit false
section
variable {prog : Program} {w : World} {A : Around} {R : Result → Shared → Prop} {h0 : Heap} {z TI TO i1 i2 l1 l2 S : Addr} {xs ys : Array Value} {n : Nat}
theorem call_list_zip {E : Value → Shared → Prop} {s : Shared} {Q : Value → Shared → Prop} {a b : Value} (hh : A.handled = none) (D : ZipApart z TI TO i1 i2 l1 l2) (hl1 : h0.IsList l1 xs) (hl2 : h0.IsList l2 ys) (hn1 : xs.size = n) (hn2 : ys.size = n) (hn : n ≤ sizeLine)
    (old : ∀ b o, h0.get? b = some o → b ≠ z ∧ b ≠ TO ∧ b ≠ i1 ∧ b ≠ i2) (hle : h0.objs.size ≤ s.heap.objs.size) (kb : ∀ b o, h0.get? b = some o → s.heap.get? b = some o)
    (hz : IsZip s.heap z TI TO .none) (hTI : PySem.IsPair s.heap TI (.ref i1) (.ref i2)) (hTO : PySem.IsPair s.heap TO a b) (t1 : s.heap.IsListIter i1 l1 0) (t2 : s.heap.IsListIter i2 l2 0)
    (hQ : ∀ h' tk' acc c, ZIt h0 h' z TO i1 i2 s.heap.objs.size xs ys n acc → h'.get? s.heap.objs.size = some (lobj acc c) → Q (.ref s.heap.objs.size) { s with heap := h', toks := tk' }) :
    wpAny (model prog w) A (call (.type "list") [.ref z]) Q E s := by
  have zl : z < s.heap.objs.size := Heap.lt_size hz
  have tl1 : i1 < s.heap.objs.size := let ⟨_, q, _⟩ := t1; Heap.lt_size q
  have tl2 : i2 < s.heap.objs.size := let ⟨_, q, _⟩ := t2; Heap.lt_size q
  have tlT : TI < s.heap.objs.size := Heap.lt_size hTI
  have tlO : TO < s.heap.objs.size := Heap.lt_size hTO
  generalize hS0 : s.heap.objs.size = S at *
  have nz : S ≠ z := Nat.ne_of_gt zl
  refine callType_codes (Q₁ := fun ob s1 => ob = .ref S ∧ s1 = { s with heap := s.heap.push (lobj #[] 0) }) F.called_list (F.typeCall_list_1 _) F.entry_list_init (code_list_new _ ⟨by rw [hS0], rfl⟩) fun ob s1 h1 => ?_
  obtain ⟨rfl, rfl⟩ := h1
  have g0 : (s.heap.push (lobj #[] 0)).get? S = some (lobj #[] 0) := by rw [← hS0]; exact Heap.get?_push_size _ rfl
  have k0 : ∀ {b : Addr} {o : Obj}, s.heap.get? b = some o → (s.heap.push (lobj #[] 0)).get? b = some o := fun q => Heap.get?_push_of_some _ q
  refine ⟨⟨_, g0, rfl⟩, F.args_list_init_2 _ _, ?_⟩
  show wpAny _ A.in1.in1 (Builtin.List.listItems (.ref S) >>= fun was => Builtin.List.listUpdate (.ref S) (fun _ => #[]) >>= fun _ => letGo was.toList.reverse >>= fun _ => Builtin.List.listExtendWith (.ref S) (.ref z) .none) _ _ _
  refine wpAny_bind ?_
  unfold Builtin.List.listItems
  refine wpAny_bind (wpAny_seqItems g0 rfl (wpAny_pure ?_))
  show wpAny _ A.in1.in1 (updateSeq S (fun _ => #[]) >>= fun _ => letGo _ >>= fun _ => Builtin.List.listExtendWith (.ref S) (.ref z) .none) _ _ _
  refine wpAny_bind (wpAny_updateSeq g0 rfl ?_)
  have g1 := Heap.get?_update_self (Obj.mapSeq fun _ => (#[] : Array Value)) g0 rfl
  refine wpAny_bind (wpAny_letGo ?_)
  have ko : ∀ {h : Heap} {f : Obj → Obj} {b : Addr} {o : Obj}, b ≠ S → h.get? b = some o → (h.update S f).get? b = some o := fun n q => (Heap.get?_update_other _ _ (Ne.symm n)).trans q
  unfold Builtin.List.listExtendWith
  have ty : ∀ {h : Heap} {tk : Nat}, h.get? z = _ → (⟨h, s.gens, s.drawn, tk, s.os⟩ : Shared).TypeIs (.ref z) "zip" := fun {h tk} (q : IsZip h z TI TO .none) => ⟨_, q, rfl⟩
  have z1 := ko (f := Obj.mapSeq fun _ => (#[] : Array Value)) (Ne.symm nz) (k0 hz)
  refine wpAny_bind (wpAny_typeOf (ty z1) ?_)
  have q1 : Builtin.List.listSameRef (.ref S) (.ref z) = false := by simp [Builtin.List.listSameRef, nz]
  have q2 : (Value.type "zip" == Value.type "list") = false := by decide
  have q3 : (Value.type "zip" == Value.type "tuple") = false := by decide
  simp only [q1, q2, q3, Bool.or_false, Bool.false_eq_true, if_false]
  refine wpAny_bind (wpAny_pyIter_zip z1 ?_)
  refine wpAny_bind (wpAny_holding ?_)
  unfold Builtin.List.listLengthHint
  refine wpAny_bind (wpAny_specialOf (ty z1) zip_no_len ?_)
  show wpAny _ A.in1.in1 (specialOf (Value.ref z) (Str.ofString "__length_hint__") >>= _) _ _ _
  refine wpAny_bind (wpAny_specialOf (ty z1) zip_no_hint (wpAny_pure ?_))
  show wpAny _ A.in1.in1 (rule "list.extend.makes-room" >>= fun _ => Builtin.List.listTouch (.ref S) >>= fun _ => again (.builtin "list.extend.loop" ⟨[.ref S, .ref z, .none], []⟩)) _ _ _
  refine wpAny_bind (wpAny_rule (wpAny_bind ?_))
  show wpAny _ A.in1.in1 (updateSeq S (·.push .none) >>= fun _ => updateSeq S (·.pop)) _ _ _
  refine wpAny_bind (wpAny_updateSeq g1 rfl ?_)
  have g2 := Heap.get?_update_self (Obj.mapSeq (·.push Value.none)) g1 rfl
  refine wpAny_updateSeq (hz := by seq_fits) g2 rfl ?_
  have g3 := Heap.get?_update_self (Obj.mapSeq (·.pop)) g2 rfl
  have up : ∀ {b : Addr} {o : Obj}, b ≠ S → s.heap.get? b = some o → ((((s.heap.push (lobj #[] 0)).update S (Obj.mapSeq fun _ => #[])).update S (Obj.mapSeq (·.push Value.none))).update S (Obj.mapSeq (·.pop))).get? b = some o := fun n q => ko n (ko n (ko n (k0 q)))
  have old' : ∀ b o, h0.get? b = some o → b ≠ z ∧ b ≠ TO ∧ b ≠ i1 ∧ b ≠ i2 ∧ b ≠ S := fun b o q => by
    obtain ⟨n1, n2, n3, n4⟩ := old b o q
    exact ⟨n1, n2, n3, n4, Nat.ne_of_lt (Nat.lt_of_lt_of_le (Heap.lt_size q) hle)⟩
  have Z0 : ZAt h0 ((((s.heap.push (lobj #[] 0)).update S (Obj.mapSeq fun _ => #[])).update S (Obj.mapSeq (·.push Value.none))).update S (Obj.mapSeq (·.pop))) z TI TO i1 i2 l1 l2 S xs ys 0 #[] :=
    { kb := fun b o q => up (old' b o q).2.2.2.2 (kb b o q), sz := rfl, its := fun j v q => by simp at q, nd := fun j k v q => by simp at q, ti := up (Nat.ne_of_lt tlT) hTI, it1 := t1.at fun o q => up (Nat.ne_of_lt tl1) q, it2 := t2.at fun o q => up (Nat.ne_of_lt tl2) q, tl := (by
        rw [Heap.size_update, Heap.size_update, Heap.size_update, Heap.size_push, hS0]
        exact Nat.lt_succ_of_lt tlO), zz := .inl ⟨up (Ne.symm nz) hz, a, b, up (Nat.ne_of_lt tlO) hTO⟩ }
  have sz0 : h0.objs.size ≤ ((((s.heap.push (lobj #[] 0)).update S (Obj.mapSeq fun _ => #[])).update S (Obj.mapSeq (·.push Value.none))).update S (Obj.mapSeq (·.pop))).objs.size := by
    rw [Heap.size_update, Heap.size_update, Heap.size_update, Heap.size_push, hS0]
    exact Nat.le_succ_of_le hle
  refine wpAny_pure ⟨plainId_quiet F.plain_extend_loop _, ?_⟩
  generalize (((s.heap.push (lobj #[] 0)).update S (Obj.mapSeq fun _ => #[])).update S (Obj.mapSeq (·.push Value.none))).update S (Obj.mapSeq (·.pop)) = H4 at *
  obtain ⟨c4, g4⟩ : ∃ c4, H4.get? S = some (lobj #[] c4) := ⟨_, g3⟩
  exact zip_loop (S := S) (A := A.in1) hh D hl1 hl2 hn1 hn2 hn old' ⟨nz, Nat.ne_of_gt tlT, Nat.ne_of_gt tlO, Nat.ne_of_gt tl1, Nat.ne_of_gt tl2⟩ .none n 0 _ #[] c4 rfl (Nat.zero_le _) sz0 Z0 g4 fun h' tk' acc c Z hS => ⟨rfl, hQ h' tk' acc c Z hS⟩
end
end Pm

set_option Elab.async false
set_option linter.all false
set_option maxRecDepth 100000
set_option maxHeartbeats 4000000
/-! EvZ3: list(zip(xs, ys)) in the hand layer. -/
namespace Pm
open PySem PySem.Spec PyProof.Rows L2
set_option autoImplicit false
/-- pairs laid, one behind another -/
def layT (H : Hp) : List Addr → List (V × V) → Hp
  | b :: bs, p :: ps => upd (layT H bs ps) b (.tup [p.1, p.2])
  | _, _ => H
theorem layT_ne {H : Hp} {a : Addr} : ∀ {bs : List Addr} {ps : List (V × V)}, a ∉ bs → layT H bs ps a = H a
  | [], _, _ => by cases ‹List (V × V)› <;> rfl
  | b :: bs, [], _ => rfl
  | b :: bs, p :: ps, h => by
    have h1 : a ≠ b := fun e => h (by rw [e]; exact List.mem_cons_self ..)
    show upd (layT H bs ps) b _ a = _
    rw [upd_ne h1]
    exact layT_ne fun m => h (List.mem_cons_of_mem _ m)
theorem layT_some {H : Hp} {a : Addr} {o : HO} : ∀ {bs : List Addr} {ps : List (V × V)}, layT H bs ps a = some o → (H a = some o ∧ ((∀ b ∈ bs, H b = none) → a ∉ bs ∨ bs.length ≠ ps.length)) ∨ ∃ (j : Nat) (p : V × V), bs[j]? = some a ∧ ps[j]? = some p ∧ o = .tup [p.1, p.2]
  | [], ps, h => by
    have h' : H a = some o := by cases ps <;> exact h
    exact .inl ⟨h', fun _ => .inl (by simp)⟩
  | b :: bs, [], h => .inl ⟨h, fun _ => .inr (by simp)⟩
  | b :: bs, p :: ps, h => by
    by_cases e : a = b
    · have h' : upd (layT H bs ps) b (.tup [p.1, p.2]) a = some o := h
      rw [e, upd_same] at h'
      exact .inr ⟨0, p, by rw [e]; rfl, rfl, (Option.some.inj h').symm⟩
    · have h' : upd (layT H bs ps) b (.tup [p.1, p.2]) a = some o := h
      rw [upd_ne e] at h'
      rcases layT_some h' with ⟨q, k⟩ | ⟨j, q, h1, h2, h3⟩
      · refine .inl ⟨q, fun z => ?_⟩
        have hn : a ∉ b :: bs := fun m => by
          have := z a m
          rw [q] at this; cases this
        exact .inl hn
      · exact .inr ⟨j + 1, q, h1, h2, h3⟩
def adr : Value → Addr
  | .ref b => b
  | _ => 0
section
variable {X : Cx} {e e2 : Expr} {ta : TA} {p p2 pos pos2 : Pos}
theorem pe_lzip (hc : X.calm = true) (hg : Gl X "list") (hm : X.mg "list" = none) (hg2 : Gl X "zip") (hm2 : X.mg "zip" = none) (ha : PA X [e, e2] ta)
    (hs : starEach [e, e2] X.env = (false, eval e X.env) :: starEach [e2] X.env) (hpl : (backTo pos2 (starEach [e2] X.env)).any (·.1) = false) :
    PE X (.Call (.Name "list" p) [.Call (.Name "zip" p2) [e, e2] [] pos2] [] pos) (fun σ H Q => ta σ H fun vs H1 => ∃ (a b : Addr) (xs ys : List V), vs = [.ref a, .ref b] ∧ SqL X.K H1 a xs ∧ SqL X.K H1 b ys ∧ xs.length = ys.length ∧
      ∀ (bs : List Addr) (S : Addr), bs.length = xs.length → bs.Nodup → (∀ b ∈ bs, H1 b = none) → S ∉ bs → H1 S = none → Q (.ref S) (upd (layT H1 bs (xs.zip ys)) S (.lst (bs.map V.ref)))) := by
  refine ⟨fun pins s σ H Q I h => ?_⟩
  refine wpAny_Call_Name_kw (ld_blt I hg hm (show bootBuiltins "list" = some (.type "list") by decide +kernel) ?_ (by decide) (by decide))
  refine PyProof.Rows.callWith_type1 ?_ rfl rfl
  show wpAny _ _ (spliced ((false, eval (.Call (.Name "zip" p2) [e, e2] [] pos2) X.env) :: backTo pos (starEach [] X.env))) _ _ s
  refine Calls.spliced_cons ?_
  refine wpAny_Call_Name_kw (ld_blt I hg2 hm2 PyProof.Rows.boot_zip (PyProof.Rows.callWith_type1 (thn (ha.run pos2 pins s σ H _ I h) fun us s1 ⟨vs, H1, I1, r1, q1⟩ => ?_) hs hpl) (by decide) (by decide))
  obtain ⟨a, b, xs, ys, rfl, hqx, hqy, hlen, q⟩ := q1
  obtain ⟨u, u2, rfl, ru, ru2⟩ := vals2 r1
  cases ru
  cases ru2
  obtain ⟨its, rv, p1, hz1⟩ := I1.list hqx
  obtain ⟨its2, rv2, p2', hz2⟩ := I1.list hqy
  refine call_zip_2 p1.isList p2'.isList fun h' hz hTI hTO h1 h2 hsz hk => ?_
  refine Calls.spliced_nil ?_
  have l1 := rv.length
  have l2 := rv2.length
  have le5 : s1.heap.objs.size ≤ h'.objs.size := by rw [hsz]; exact Nat.le_add_right _ _
  refine call_list_zip (h0 := s1.heap) (n := its.length) (I1.ok.hd hc) (PySem.W.ktu_apart s1.heap.objs.size a b p1.lt p2'.lt) p1.isList p2'.isList (by simp) (by simp; omega) (by rw [← l1]; exact hz1)
    (fun c o q => ?_) le5 hk hz hTI hTO h1 h2 (fun h3 tk acc c Z hS => ?_)
  · have lt := Heap.lt_size q
    exact ⟨Nat.ne_of_lt (Nat.lt_of_lt_of_le lt (Nat.le_add_right _ _)), Nat.ne_of_lt (Nat.lt_of_lt_of_le lt (Nat.le_add_right _ _)), Nat.ne_of_lt lt, Nat.ne_of_lt (Nat.lt_of_lt_of_le lt (Nat.le_add_right _ _))⟩
  have at_ : ∀ {j : Nat} {v : Value}, acc.toList[j]? = some v → acc[j]? = some v := fun q => by rw [← Array.getElem?_toList]; exact q
  have hb : acc.toList = (acc.toList.map adr).map Value.ref := by
    rw [List.map_map]
    have : ∀ v ∈ acc.toList, v = (Value.ref ∘ adr) v := fun v hv => by
      obtain ⟨j, hj⟩ := List.getElem?_of_mem hv
      obtain ⟨b, _, _, rfl, _⟩ := Z.its j v (at_ hj)
      rfl
    conv => lhs; rw [← List.map_id acc.toList]
    exact List.map_congr_left this
  generalize hbs : acc.toList.map adr = bs at hb
  have hlb : bs.length = its.length := by rw [← hbs, List.length_map, Array.length_toList, Z.sz]
  have fact : ∀ {j : Nat} {b : Addr}, bs[j]? = some b → ∃ (x y : Value), its[j]? = some x ∧ its2[j]? = some y ∧ PySem.IsPair h3 b x y ∧ b ≠ h'.objs.size ∧ s1.heap.objs.size ≤ b := fun {j b} q => by
    have q2 : acc.toList[j]? = some (.ref b) := by rw [hb, List.getElem?_map, q]; rfl
    obtain ⟨b', x, y, eb, hx, hy, hp, _, _, _, _, nS, le⟩ := Z.its j _ (at_ q2)
    cases eb
    exact ⟨x, y, by simpa using hx, by simpa using hy, hp, nS, le⟩
  have nd : bs.Nodup := by
    refine List.pairwise_iff_getElem.mpr fun i j hi hj hij e => ?_
    have a1 : acc.toList[i]? = some (.ref bs[i]) := by rw [hb, List.getElem?_map, List.getElem?_eq_getElem hi]; rfl
    have a2 : acc.toList[j]? = some (.ref bs[i]) := by rw [hb, List.getElem?_map, List.getElem?_eq_getElem hj, e]; rfl
    have := Z.nd i j _ (at_ a1) (at_ a2)
    omega
  have fr : ∀ b ∈ bs, H1 b = none ∧ s1.heap.objs.size ≤ b := fun b hm => by
    obtain ⟨j, hj⟩ := List.getElem?_of_mem hm
    obtain ⟨_, _, _, _, _, _, le⟩ := fact hj
    exact ⟨I1.hok.fresh le, le⟩
  have nS : h'.objs.size ∉ bs := fun hm => by
    obtain ⟨j, hj⟩ := List.getElem?_of_mem hm
    obtain ⟨_, _, _, _, _, n, _⟩ := fact hj
    exact n rfl
  have fS : H1 h'.objs.size = none := I1.hok.fresh le5
  have out : ∀ {b : Addr} {o : Obj}, s1.heap.get? b = some o → b ≠ h'.objs.size ∧ b ∉ bs := fun {b o} q =>
    ⟨Nat.ne_of_lt (Nat.lt_of_lt_of_le (Heap.lt_size q) le5), fun m => absurd (Heap.lt_size q) (Nat.not_lt.mpr (fr b m).2)⟩
  have same : ∀ {b : Addr} {o : HO}, H1 b = some o → (upd (layT H1 bs (xs.zip ys)) h'.objs.size (.lst (bs.map V.ref))) b = some o := fun {b o} q => by
    rw [upd_ne (ne_of_none q fS), layT_ne fun m => by rw [(fr b m).1] at q; cases q]
    exact q
  have lz : bs.length = (xs.zip ys).length := by rw [List.length_zip, ← hlen, Nat.min_self, hlb]; exact l1.symm
  have Un1 : Un X.fs [] H1 (upd (layT H1 bs (xs.zip ys)) h'.objs.size (.lst (bs.map V.ref))) s1.heap h3 := {
    keep := fun b o z _ _ _ => Z.kb b o z
    slot := fun b o z _ _ _ => ⟨o.slots, Z.kb b o z⟩
    free := fun b o z n _ => by
      obtain ⟨n1, n2⟩ := out z
      rw [upd_ne n1, layT_ne n2]; exact n
    there := fun b o z _ => ⟨o, Z.kb b o z⟩
    tups := fun b zs z => same z
    frzs := fun b o w z => same z
    tbls := fun b ps z => ⟨#[], by rw [same z]; simp⟩ }
  have ok1 : HOk X.prog X.w (upd (layT H1 bs (xs.zip ys)) h'.objs.size (.lst (bs.map V.ref))) h3 := fun b o z => by
    by_cases hbS : b = h'.objs.size
    · subst hbS
      rw [upd_same] at z
      cases z
      refine ⟨by rw [List.length_map, hlb, ← l1]; exact hz1, acc.toList, c, ?_, by rw [Array.toArray_toList]; exact hS⟩
      rw [hb]
      exact vals_refs bs
    · rw [upd_ne hbS] at z
      rcases layT_some z with ⟨z', _⟩ | ⟨j, pr, hj, hp, rfl⟩
      · exact (I1.hok b o z').stay (fun cc w _ y => Z.kb cc w y) (fun cc y => same y) (fun cc zs y => same y)
      · obtain ⟨x, y, hx, hy, hpair, _, _⟩ := fact hj
        obtain ⟨hp1, hp2⟩ := List.getElem?_zip_eq_some.mp hp
        obtain ⟨u, hu, ru⟩ := rv.get hp1
        obtain ⟨u2, hu2, ru2⟩ := rv2.get hp2
        rw [hx] at hu
        rw [hy] at hu2
        cases hu
        cases hu2
        exact ⟨by show 2 ≤ sizeLine; decide, [x, y], .cons ru (.cons ru2 .nil), ⟨_, hpair, rfl, _, rfl⟩⟩
  exact ⟨.ref h'.objs.size, _, I1.un (t' := tk) Un1 ok1, rfl, q bs h'.objs.size (by rw [hlb]; exact l1.symm) nd (fun b m => (fr b m).1) nS fS⟩
end
end Pm

set_option Elab.async false
set_option linter.all false
set_option maxRecDepth 100000
set_option maxHeartbeats 2000000
/-! EvE3: errors made, fields read, list(zip): the evaluator's ends. -/
namespace Pm
open PySem PySem.Spec PyProof.Rows L2
set_option autoImplicit false
theorem pe_never {X : Cx} {e : Expr} {t : TE} (h : ∀ σ H Q, t σ H Q → False) : PE X e t := ⟨fun _ _ σ H Q _ q => (h σ H Q q).elim⟩
theorem ofOpt_none {K : Kit} {B : XW} {fr : Bool} {ρ : Rho} {H : Hp} {st : Store} {Q : VK} (h : EndG K B (RE K fr) ρ H (Res.ofOpt (none : Option D) st) Q) : False := h
section
variable {X : Cx} {κ : Kx} {B : L2.St → XW} {a b : Expr} {fa fb fr : Bool} {ma mb : Loc → Store → Res D} {p p2 pos pos2 : Pos} {P : Par} {c : Nat} {x : Str}
theorem se_mk0 (q : P.fl c = none → PySem.W.excIn X.K (κ.cl c) veL "ValueError.__new__" = true) (gC : X.mg x = some (.ref (κ.cl c))) (kC : PySem.W.keepIn X.K (.ref (κ.cl c)) = true) (hg : Gl X x) (hdb : (x == ("__debug__" : Str)) = false) :
    PE X (.Call (.Name x p) [] [] pos) (eE X κ B fr fun _ st => .ofOpt (mkD P c []) st) := by
  cases hf : P.fl c with
  | some f =>
    refine pe_never fun σ H Q ⟨ρ, l, st, at0, q0⟩ => ?_
    have e : mkD P c [] = none := by unfold mkD; rw [hf]
    have q1 : EndG (Cx.kit X κ) (B σ) (RE (Cx.kit X κ) fr) ρ H (Res.ofOpt (mkD P c []) st) Q := q0
    rw [e] at q1
    exact q1
  | none =>
    refine PE.imp (pe_exc0 PySem.F.excBase_ValueError (q hf) gC kC hg hdb) fun σ H Q ⟨ρ, l, st, at0, q0⟩ a ha => ?_
    have e : mkD P c [] = some (.err c []) := by unfold mkD; rw [hf]
    have q1 : EndG (Cx.kit X κ) (B σ) (RE (Cx.kit X κ) fr) ρ H (Res.ofOpt (mkD P c []) st) Q := q0
    rw [e] at q1
    exact q1 ρ (.ref a) _ (ext_new ha) (sim_new at0.sim ha) ⟨.err upd_same, fun _ t => nomatch t⟩
theorem se_mk1 {f : List Nat} (hf : P.fl c = some f) (q : ∃ fI fd y, IniK X.prog.main.file X.K (κ.cl c) fI fd y (strS f)) (htop : (X.prog.main.scope.names.lookup ("super" : Str)).isSome = false) (hr : Room 0 X.A) (gC : X.mg x = some (.ref (κ.cl c))) (kC : PySem.W.keepIn X.K (.ref (κ.cl c)) = true) (hg : Gl X x)
    (hdb : (x == ("__debug__" : Str)) = false) (ns : notStar a = true) (ha : PE X a (eE X κ B fa ma)) :
    PE X (.Call (.Name x p) [a] [] pos) (eE X κ B fr fun l st => (ma l st).bind fun d st => .ofOpt (mkD P c [d]) st) := by
  obtain ⟨fI, fd, y, T⟩ := q
  refine PE.imp (pe_ini T htop hr gC kC hg ha (star_cons ns [] _) hdb) fun σ H Q ⟨ρ, l, st, at0, q0⟩ => ⟨ρ, l, st, at0, EndG.bind RE.back q0 fun d st1 ρ1 v H1 x1 s1 r1 q1 => fun a dd ha hd hne => ?_⟩
  have e : mkD P c [d] = some (.err c [(f, d)]) := by unfold mkD; rw [hf]
  have q2 : EndG (Cx.kit X κ) (B σ) (RE (Cx.kit X κ) fr) ρ1 H1 (Res.ofOpt (mkD P c [d]) st1) Q := q1
  rw [e] at q2
  have ha2 : (upd H1 dd (exd dd [(strS f, v)])) a = none := by rw [upd_ne (Ne.symm hne)]; exact ha
  have x2 : Ext κ.h ρ1 H1 ρ1 (upd H1 dd (exd dd [(strS f, v)])) := ext_new hd
  have s2 : Sim (Cx.kit X κ) ρ1 st1 (upd H1 dd (exd dd [(strS f, v)])) := sim_new s1 hd
  have x3 : Ext κ.h ρ1 (upd H1 dd (exd dd [(strS f, v)])) ρ1 (upd (upd H1 dd (exd dd [(strS f, v)])) a (exo a (κ.cl c) (some dd))) := ext_new ha2
  refine q2 ρ1 (.ref a) _ (x2.trans x3) (sim_new s2 ha2) ⟨.errf (d := dd) (fs := [(strS f, v)]) (v := v) upd_same (by rw [upd_ne hne]; exact upd_same) (by simp [List.lookup]) ((r1.1.mono s1 x2).mono s2 x3), fun _ t => nomatch t⟩
theorem se_mkv (hg : Gl X "ValueError") (hm : X.mg "ValueError" = none) (ns : notStar a = true) (ha : PE X a (eE X κ B fa ma)) :
    PE X (.Call (.Name "ValueError" p) [a] [] pos) (eE X κ B fr fun l st => (ma l st).bind fun d st => .ofOpt (verD [d]) st) :=
  PE.imp (pe_excB exb_ValueError hg hm boot_ValueError ha (star_cons ns [] _) (by decide) (by decide)) fun σ H Q ⟨ρ, l, st, at0, q0⟩ => ⟨ρ, l, st, at0, EndG.bind RE.back q0 fun d st1 ρ1 v H1 x1 s1 r1 q1 => fun a ha => by
    cases hv : verD [d] with
    | none => rw [hv] at q1; exact q1.elim
    | some y =>
      rw [hv] at q1
      have e : y = .ver := by
        unfold verD at hv
        split at hv
        · exact (Option.some.inj hv).symm
        · cases hv
      subst e
      exact q1 ρ1 (.ref a) _ (ext_new ha) (sim_new s1 ha) ⟨.ver upd_same, fun _ t => nomatch t⟩⟩
theorem se_fld {f : List Nat} (q : ∀ c, P.fl c = some f → XfC X.K (κ.cl c) ∧ PySem.W.findIn X.K (.ref (κ.cl c)) (strS f) = some none) (hb : baseOk a = true) (ha : PE X a (eE X κ B fa ma)) :
    PE X (.Attribute a (strS f) pos) (eE X κ B false fun l st => (ma l st).bind fun d st => .ofOpt (fldD P d f) st) :=
  PE.imp (pe_xfv ha (base_eq hb _ _ _)) fun σ H Q ⟨ρ, l, st, at0, q0⟩ => ⟨ρ, l, st, at0, EndG.bind RE.back q0 fun d st1 ρ1 v H1 x1 s1 r1 q1 => by
    cases hv : fldD P d f with
    | none => rw [hv] at q1; exact q1.elim
    | some y =>
      rw [hv] at q1
      unfold fldD at hv
      split at hv
      · rename_i c g dd
        split at hv
        · rename_i hc
          obtain ⟨rfl, hc⟩ := hc
          cases hv
          obtain ⟨r1, _⟩ := r1
          cases r1 with
          | @errf _ a d _ _ w fs h1 h2 h3 h4 =>
            obtain ⟨xf, no⟩ := q c hc
            exact ⟨a, κ.cl c, d, fs, w, rfl, xf, no, h1, h2, h3, q1 ρ1 w H1 (Ext.refl _ _) s1 ⟨h4, fun t => nomatch t⟩⟩
        · cases hv
      · cases hv⟩
/-- the pairs, laid -/
theorem lay_rel {K : Kit} {ρ : Rho} {st : Store} {H : Hp} (s : Sim K ρ st H) : ∀ (bs : List Addr) {xs ys : List D} {vs ws : List V}, bs.Nodup → (∀ b ∈ bs, H b = none) → RelDs K ρ H xs vs → RelDs K ρ H ys ws → bs.length = (xs.zip ys).length → xs.length = vs.length → ys.length = ws.length →
    Ext K.h ρ H ρ (layT H bs (vs.zip ws)) ∧ Sim K ρ st (layT H bs (vs.zip ws)) ∧ RelDs K ρ (layT H bs (vs.zip ws)) ((xs.zip ys).map fun p => .itp [p.1, p.2]) (bs.map V.ref)
  | [], xs, ys, vs, ws, _, _, _, _, hl, _, _ => by
    have e : xs.zip ys = [] := List.length_eq_zero_iff.mp hl.symm
    rw [e]
    have e2 : layT H [] (vs.zip ws) = H := by cases vs.zip ws <;> rfl
    rw [e2]
    exact ⟨Ext.refl _ _, s, .nil⟩
  | b :: bs, [], ys, vs, ws, _, _, _, _, hl, _, _ => by simp at hl
  | b :: bs, _ :: _, [], vs, ws, _, _, _, _, hl, _, _ => by simp at hl
  | b :: bs, x :: xs, y :: ys, vs, ws, nd, fr, r1, r2, hl, h1, h2 => by
    cases r1 with
    | @cons _ _ v vs q1 r1 =>
      cases r2 with
      | @cons _ _ w ws q2 r2 =>
        obtain ⟨nb, nd'⟩ := List.nodup_cons.mp nd
        obtain ⟨x1, s1, g1⟩ := lay_rel s bs (vs := vs) (ws := ws) nd' (fun b hb => fr b (List.mem_cons_of_mem _ hb)) r1 r2 (by simpa using hl) (by simpa using h1) (by simpa using h2)
        have hb : (layT H bs (vs.zip ws)) b = none := by rw [layT_ne nb]; exact fr b (List.mem_cons_self ..)
        have e : layT H (b :: bs) ((v :: vs).zip (w :: ws)) = upd (layT H bs (vs.zip ws)) b (.tup [v, w]) := rfl
        rw [e]
        have x2 : Ext K.h ρ (layT H bs (vs.zip ws)) ρ (upd (layT H bs (vs.zip ws)) b (.tup [v, w])) := ext_new hb
        exact ⟨x1.trans x2, sim_new s1 hb, .cons (new_itp s1 hb (.cons (q1.mono s x1) (.cons (q2.mono s x1) .nil))) (g1.mono s1 x2)⟩
theorem se_lzip (hc : X.calm = true) (hg : Gl X "list") (hm : X.mg "list" = none) (hg2 : Gl X "zip") (hm2 : X.mg "zip" = none) (n1 : notStar a = true) (n2 : notStar b = true) (ha : PE X a (eE X κ B fa ma)) (hb : PE X b (eE X κ B fb mb)) :
    PE X (.Call (.Name "list" p) [.Call (.Name "zip" p2) [a, b] [] pos2] [] pos) (eE X κ B false fun l st => (ma l st).bind fun x st => (mb l st).bind fun y st => .ofOpt (lzipD x y) st) :=
  PE.imp (pe_lzip hc hg hm hg2 hm2 (pa_cons ha (pa_cons hb pa_nil (star_cons n2 [] _)) (star_cons n1 [b] _)) (star_cons n1 [b] _) (back_plain _ _ (by simp [n2]))) fun σ H Q ⟨ρ, l, st, at0, q0⟩ => ⟨ρ, l, st, at0, EndG.bind RE.back q0 fun d st1 ρ1 v H1 x1 s1 r1 q1 => ⟨ρ1, l, st1, at0.go x1 s1, EndG.bind RE.back q1 fun d2 st2 ρ2 v2 H2 x2 s2 r2 q2 => by
    cases hv : lzipD d d2 with
    | none => rw [hv] at q2; exact q2.elim
    | some y =>
      rw [hv] at q2
      unfold lzipD at hv
      split at hv
      · rename_i xs ys
        split at hv
        · rename_i hlen
          cases hv
          obtain ⟨r2, _⟩ := r2
          have r1' := r1.1.mono s1 x2
          cases r1' with
          | @lst _ vs a' h1 n1 g1 =>
            cases r2 with
            | @lst _ ws b' h2 n2 g2 =>
              have l1 := g1.length
              have l2 := g2.length
              refine ⟨a', b', vs, ws, rfl, .inl (.inl h1), .inl (.inl h2), by omega, fun bs S hbl nd fr nS fS => ?_⟩
              obtain ⟨x3, s3, g3⟩ := lay_rel s2 bs nd fr g1 g2 (by rw [hbl, List.length_zip, ← hlen, Nat.min_self, l1]) l1 l2
              have fS' : (layT H2 bs (vs.zip ws)) S = none := by rw [layT_ne nS]; exact fS
              exact q2 ρ2 (.ref S) _ (x3.trans (ext_new fS')) (sim_new s3 fS') ⟨new_lst s3 fS' g3, fun t => nomatch t⟩
        · cases hv
      · cases hv⟩⟩
end
end Pm

set_option Elab.async false
set_option linter.all false
set_option maxRecDepth 100000
set_option maxHeartbeats 4000000
/-! EvE4: own __init__s looked at in the module's part. -/
namespace Pm
open PySem PySem.W PySem.Calls PyProof.Rows PySem.HandSPX
set_option autoImplicit false
theorem bnd_ok {fd : FuncData} {x : Str} {q1 q2 : Pos} (hp : fd.params = ⟨[], [⟨"self", none, q1⟩, ⟨x, none, q2⟩], none, [], [], none, []⟩) (hd : fd.defaults = .none) (hx : x ≠ "self") (a b : Value) :
    bindArgs fd ⟨[a, b], []⟩ = pure [(("self" : Str), a), (x, b)] := by
  have h1 : (x == ("self" : Str)) = false := by simpa using hx
  have e : seqItems? Value.none = pure none := rfl
  unfold bindArgs
  rw [hp, hd, e]
  simp [List.lookup, h1]
/-- the body of such an __init__, its parameter -/
def iniX (fd : FuncData) (f : Str) : Option Str := match fd.body with
  | .stmts [.Expr (.Call (.Attribute (.Call (.Name s0 _) [] [] _) s1 p2) [.Name x _] [] p4) _, .Assign [.Attribute (.Name s2 _) f2 _] (.Name x2 _) _] =>
    if s0 = "super" ∧ s1 = "__init__" ∧ s2 = "self" ∧ f2 = f ∧ x2 = x ∧ (p2.endLine == p4.line) = true then some x else none
  | _ => none
def iniP (fd : FuncData) (x : Str) : Bool := match fd.params with
  | ⟨[], [⟨a1, none, _⟩, ⟨a2, none, _⟩], none, [], [], none, []⟩ => decide (a1 = "self") && decide (a2 = x)
  | _ => false
def isNone' : Value → Bool
  | .none => true
  | _ => false
def iniC (K : Frag) (C : Addr) (fd : FuncData) : Bool := match fd.closure with
  | [(n, cc)] => decide (n = "__class__") && (match K.lookup cc with
    | some ⟨_, _, .cell (some (.ref D)), _⟩ => decide (D = C)
    | _ => false)
  | _ => false
def iniQ (file : Str) (K : Frag) (fd : FuncData) : Bool := match fd.code with
  | .ref cda => codeIn K (.ref cda) fd.qualname && (match K.lookup cda with
    | some ⟨_, _, .fields vs, _⟩ => (match vs[2]? with
      | some (Value.str fl _) => decide (fl = file)
      | _ => false)
    | _ => false)
  | _ => false
def iniS (sc : Scope) (x : Str) : Bool :=
  decide (sc.kind = .function) && (!sc.isGenerator && (!sc.isCoroutine && ((sc.names.all fun y => decide (y.2 ≠ .cell)) && (decide (sc.names.lookup ("super" : Str) = some .globalImplicit) && (decide (sc.names.lookup ("__class__" : Str) = some .free) &&
  (decide (sc.names.lookup ("self" : Str) = some .local) && decide (sc.names.lookup x = some .local)))))))
def iniL (K : Frag) (C : Addr) : Bool := match clsIn K C with
  | some cd => refsVE cd.mro && cd.hasDict
  | none => false
def iniF (file : Str) (K : Frag) (C fI : Addr) (fd : FuncData) (f : Str) : Bool := match iniX fd f with
  | some x => iniP fd x && (isNone' fd.defaults && (iniC K C fd && (iniQ file K fd && (iniS fd.scope x && (iniL K C && (decide (fd.globals = mainGlobals) && (decide (fd.builtins = builtinsNs) && (decide (x ≠ "self") && (!(x == ("__debug__" : Str)) && (excInitIn K C veL "ValueError.__new__" && (decide (mroIn K C (.ref C) = some true) && (decide (subIn K (.ref C) (.type "ValueError") = some true) && (He.eqO (ks_superIn K C C "__init__") (some (some (.builtin "ValueError.__init__"))) && (He.eqO (nsIn K cStatics "thirdparty.any") (some none) && (He.eqO (nsIn K mainGlobals "super") (some none) && (He.eqO (findIn K (.ref C) "__setattr__") (some (some (.builtin "object.__setattr__"))) && (He.eqO (findIn K (.ref C) f) (some none) && (decide (typeIn K (.ref fI) = some (.type "function")) && (He.eqO (findIn K (.ref C) "__init__") (some (some (.ref fI))))))))))))))))))))))
  | none => false
def iniB (file : Str) (K : Frag) (C : Addr) (f : Str) : Bool := match findIn K (.ref C) "__init__" with
  | some (some (.ref fI)) => (match K.lookup fI with
    | some ⟨_, _, .func fd, _⟩ => iniF file K C fI fd f
    | _ => false)
  | _ => false
theorem iniB_ok {file : Str} {K : Frag} {C : Addr} {f : Str} (h : iniB file K C f = true) : ∃ fI fd x, IniK file K C fI fd x f := by
  unfold iniB at h
  split at h
  · rename_i fI e1
    split at h
    · rename_i oc od fd osl e2
      unfold iniF at h
      split at h
      · rename_i x e3
        simp only [Bool.and_eq_true] at h
        obtain ⟨h1, h2, h3, h4, h5, h6, h7, h8, h9, h10, h11, h12, h13, h14, h15, h16, h17, h18, h19, h20⟩ := h
        refine ⟨fI, fd, x, ?_⟩
        have xs := of_decide_eq_true h9
        unfold iniS at h5
        simp only [Bool.and_eq_true] at h5
        obtain ⟨s1, s2, s3, s4, s5, s6, s7, s8⟩ := h5
        unfold iniP at h1
        split at h1
        · rename_i a1 q1 a2 q2 hp
          simp only [Bool.and_eq_true, decide_eq_true_eq] at h1
          obtain ⟨rfl, rfl⟩ := h1
          have hd : fd.defaults = .none := by
            unfold isNone' at h2
            split at h2
            · assumption
            · cases h2
          exact {
            fn := ⟨_, _, _, e2⟩
            body := by
              unfold iniX at e3
              split at e3
              · rename_i s0 p0 p1 s1 p2 y p3 p4 p5 s2 p6 f2 p7 x2 p8 p9 hb
                split at e3
                · rename_i hc
                  obtain ⟨rfl, rfl, rfl, rfl, rfl, hl⟩ := hc
                  cases e3
                  exact ⟨_, _, _, _, _, _, _, _, _, _, hl, hb⟩
                · cases e3
              · cases e3
            par := ⟨_, by rw [hp]; rfl, rfl⟩
            bnd := bnd_ok hp hd xs
            glo := of_decide_eq_true h7
            blt := of_decide_eq_true h8
            kind := of_decide_eq_true s1
            gen := by simpa using s2
            co := by simpa using s3
            nocell := fun y hy => of_decide_eq_true (List.all_eq_true.mp s4 y hy)
            nsup := of_decide_eq_true s5
            ncls := of_decide_eq_true s6
            nself := of_decide_eq_true s7
            nx := of_decide_eq_true s8
            xs := xs
            xd := by simpa using h10
            cell := by
              unfold iniC at h3
              split at h3
              · rename_i n cc hcl
                simp only [Bool.and_eq_true, decide_eq_true_eq] at h3
                obtain ⟨rfl, h3⟩ := h3
                split at h3
                · rename_i cl cld D csl hk
                  have := of_decide_eq_true h3
                  subst this
                  exact ⟨cc, _, _, _, hcl, hk⟩
                · cases h3
              · cases h3
            code := by
              unfold iniQ at h4
              split at h4
              · rename_i cda hc
                simp only [Bool.and_eq_true] at h4
                obtain ⟨k1, k2⟩ := h4
                split at k2
                · rename_i cl cdd vs ccs hk
                  split at k2
                  · rename_i fl tf hv
                    have := of_decide_eq_true k2
                    subst this
                    exact ⟨cda, _, _, vs, _, tf, hc, hk, hv, k1⟩
                  · cases k2
                · cases k2
              · cases h4
            cls := by
              unfold iniL at h6
              split at h6
              · rename_i cd hc
                simp only [Bool.and_eq_true] at h6
                exact ⟨cd, hc, h6.1, h6.2⟩
              · cases h6
            exi := h11
            mro := of_decide_eq_true h12
            sub := of_decide_eq_true h13
            sup := He.eqO_ok h14
            tp := He.eqO_ok h15
            gsup := He.eqO_ok h16
            sa := He.eqO_ok h17
            no := He.eqO_ok h18
            tyI := of_decide_eq_true h19
            ini := He.eqO_ok h20 }
        · cases h1
      · cases h
    · cases h
  · cases h
end Pm

set_option Elab.async false
set_option linter.all false
set_option maxRecDepth 100000
set_option maxHeartbeats 4000000
/-! Ev24: the checker: the small language against the text. -/
namespace Pm
open PySem PySem.Spec PyProof.Rows L2 LamX
set_option autoImplicit false

structure Gd where
  fn : List (Str × Nat)
  cn : List Str
  cl : List Str
  lm : List (Nat × Str)
  /-- the classes that are raised -/
  rs : List Nat
  /-- the classes that are made as values; those that keep a field -/
  ms : List Nat := []
  fl : List Nat := []
  file : Str := Str.empty
structure Md where
  cm : Bool
  lm : Bool
  fxs : List Nat
  th : Option Str
  xs : Option Nat
  blk : Bool

def nmOk (x : Str) : Bool := !(x == ("__debug__" : Str)) && !(x == ("__classdict__" : Str))
def visB (sc : Scope) (x : Str) : Bool := match sc.names.lookup x with
  | some .local => true
  | some .cell => true
  | some .free => true
  | _ => false
def varOk (N : List Str) (sc : Scope) (i : Nat) (x : Str) : Bool := decide (N[i]? = some x) && visB sc x && nmOk x
def stoOk (N : List Str) (sc : Scope) (md : Md) (i : Nat) (x : Str) : Bool := decide (N[i]? = some x) && (match sc.names.lookup x with
  | some .local => true
  | some .cell => !md.blk
  | _ => false) && !md.fxs.contains i
def glOk (sc : Scope) (x : Str) : Bool := decide (sc.names.lookup x = some .globalImplicit)
/-- which want a calm place -/
def biHot2 (b : Bi) : Bool := biHot b || decide (b = .dict) || decide (b = .sorted)
def biOk : Bi → Bool
  | .min => false | .sset => false | .sitm => false
  | _ => true
def tgE (G : Gd) (sc : Scope) : Tg → Expr → Bool
  | .own c, .Name x _ => glOk sc x && decide (G.cl[c]? = some x) && nmOk x
  | .own _, _ => false
  | t, .Name x _ => glOk sc x && decide (x = Str.ofString ((tgN t).getD ""))
  | _, _ => false
def tgEs (G : Gd) (sc : Scope) : List Tg → List Expr → Bool
  | [], [] => true
  | t :: ts, x :: xs => tgE G sc t x && tgEs G sc ts xs
  | _, _ => false
def keyE : DKey → Option Expr → Bool
  | .i n, some (.Constant (.int m) _ _) => decide (n = m)
  | .s x, some (.Constant (.str s) _ _) => decide (s = strS x)
  | _, _ => false
def isEx : Tg → Bool
  | .own _ => true
  | .verr => true
  | _ => false
def lamOk (sc : Scope) (n : Str) (params : Arguments) (scope : Scope) : Bool := glOk sc n && nmOk n && lamSB sc scope && (match params with
  | ⟨[], [], none, [], [], none, []⟩ => true
  | _ => false)
/-- names and slots of a target -/
def tgtOk (N : List Str) (sc : Scope) (md : Md) : T → Expr → Bool
  | .nm i, .Name x _ => stoOk N sc md i x
  | .tp is, .Tuple xs _ _ => (is.length == xs.length) && (is.zip xs).all fun p => match p.2 with
    | .Name x _ => stoOk N sc md p.1 x
    | _ => false
  | _, _ => false
def ownOf (t : T) (tg : Expr) : List (Str × Nat) := match t, tg with
  | .nm i, .Name x _ => [(x, i)]
  | .tp is, .Tuple xs _ _ => (is.zip xs).filterMap fun p => match p.2 with
    | .Name x _ => some (x, p.1)
    | _ => none
  | _, _ => []
/-- a list by value that is new -/
def frE : E → Bool
  | .lst _ => true
  | .bin _ _ _ => true
  | .slc _ _ _ => true
  | .bi b _ => decide (b = .list) || decide (b = .dict) || decide (b = .sorted)
  | .mt m _ _ => decide (m = .split)
  | .dic ks _ => ks.isEmpty
  | _ => false
/-- what is laid new, in such a form -/
def Es.len : Es → Nat
  | .nil => 0
  | .cons _ es => es.len + 1
abbrev lamMd (md : Md) : Md := { md with th := none, xs := none, lm := false, blk := true }
abbrev blkMd (md : Md) : Md := { md with th := none, xs := none, lm := false, blk := true }

/-! ### what an expression is -/
def asNon : Expr → Bool
  | .Constant .none _ _ => true
  | _ => false
def asBl : Expr → Option Bool
  | .Constant (.bool b) _ _ => some b
  | _ => none
def asI : Expr → Option Int
  | .Constant (.int i) _ _ => some i
  | _ => none
def asS : Expr → Option Str
  | .Constant (.str i) _ _ => some i
  | _ => none
def asNm : Expr → Option Str
  | .Name x _ => some x
  | _ => none
def asTup : Expr → Option (List Expr)
  | .Tuple xs _ _ => some xs
  | _ => none
def asLst : Expr → Option (List Expr)
  | .List xs _ => some xs
  | _ => none
def asBin : Expr → Option (Expr × Operator × Expr)
  | .BinOp x o y _ => some (x, o, y)
  | _ => none
def asNeg : Expr → Option Expr
  | .UnaryOp .USub x _ => some x
  | _ => none
def asNot : Expr → Option Expr
  | .UnaryOp .Not x _ => some x
  | _ => none
def asCmp : Expr → Option (Expr × CmpOp × Expr)
  | .Compare x [o] [y] _ => some (x, o, y)
  | _ => none
def asChn : Expr → Option (Expr × CmpOp × Expr × CmpOp × Expr)
  | .Compare x [o, p] [y, z] _ => some (x, o, y, p, z)
  | _ => none
def asIs : Expr → Option Expr
  | .Compare x [.Is] [.Constant .none _ _] _ => some x
  | _ => none
def asIsT : Expr → Option Expr
  | .Compare x [.Is] [.Constant (.bool true) _ _] _ => some x
  | _ => none
def asIsN : Expr → Option Expr
  | .Compare x [.IsNot] [.Constant .none _ _] _ => some x
  | _ => none
def tailB (op : BoolOp) (y : Expr) (r : List Expr) (pos : Pos) : Expr := match r with
  | [] => y
  | z :: r => .BoolOp op (y :: z :: r) pos
def asAnd : Expr → Option (Expr × Expr)
  | .BoolOp .And (x :: y :: r) pos => some (x, tailB .And y r pos)
  | _ => none
def asOr : Expr → Option (Expr × Expr)
  | .BoolOp .Or (x :: y :: r) pos => some (x, tailB .Or y r pos)
  | _ => none
def asIte : Expr → Option (Expr × Expr × Expr)
  | .IfExp t x y _ => some (t, x, y)
  | _ => none
def asIx : Expr → Option (Expr × Expr)
  | .Subscript x y _ => some (x, y)
  | _ => none
def asSlc : Expr → Option (Expr × Option Expr × Option Expr)
  | .Subscript x (.Slice l h none _) _ => some (x, l, h)
  | _ => none
def asRevt : Expr → Option Expr
  | .Subscript x (.Slice none none (some (.UnaryOp .USub (.Constant (.int 1) _ _) _)) _) _ => some x
  | _ => none
def asCall : Expr → Option (Str × List Expr)
  | .Call (.Name f _) xs [] _ => some (f, xs)
  | _ => none
/-- y.nm -/
def asAtt : Expr → Option (Expr × Str)
  | .Attribute y nm _ => some (y, nm)
  | _ => none
/-- sorted(set(y)) -/
def asSset : Expr → Option Expr
  | .Call (.Name f _) [.Call (.Name g _) [y] [] _] [] _ => if f = "sorted" ∧ g = "set" then some y else none
  | _ => none
/-- sorted(y.items()) -/
def asSitm : Expr → Option Expr
  | .Call (.Name f _) [.Call (.Attribute y nm ap) [] [] cp] [] _ => if f = "sorted" ∧ nm = "items" ∧ (ap.endLine == cp.line) = true then some y else none
  | _ => none
def asLam : Expr → Option (Arguments × Expr × Scope)
  | .Lambda params b scope _ => some (params, b, scope)
  | _ => none
def asMt : Expr → Option (Expr × Str × List Expr)
  | .Call (.Attribute ob nm ap) ys [] cp => if (ap.endLine == cp.line) = true then some (ob, nm, ys) else none
  | _ => none
def asLc : Expr → Option (Expr × Expr × Expr × List Expr × Scope)
  | .ListComp x [⟨tg, iter, ifs, ia⟩] scope _ => if ia = 0 then some (x, tg, iter, ifs, scope) else none
  | _ => none
def asDic : Expr → Option (List (Option Expr) × List Expr)
  | .Dict ks vs _ => some (ks, vs)
  | _ => none

/-- the parts of an f-string, two or more -/
def asJn : Expr → Option (List Expr)
  | .JoinedStr (v1 :: v2 :: r) _ => some (v1 :: v2 :: r)
  | _ => none
def asFv : Expr → Option Expr
  | .FormattedValue e (-1) none _ => some e
  | _ => none
def tgAll' (G : Gd) (ts : List Tg) (T : Expr) (sc : Scope) : Bool := match ts with
  | [t] => tgE G sc t T
  | ts => decide (2 ≤ ts.length) && decide (ts.length ≤ 100) && (match T with
    | .Tuple Ts _ _ => tgEs G sc ts Ts
    | _ => false)
section
variable (G : Gd) (N : List Str)
mutual
def chkE (md : Md) (e : E) (sc : Scope) (x : Expr) : Bool := match e with
  | .non => asNon x
  | .bl b => decide (asBl x = some b)
  | .int i => decide (asI x = some i)
  | .str s => decide (asS x = some (strS s))
  | .v i => match asNm x with
    | some n => varOk N sc i n
    | none => false
  | .frz i => match asNm x with
    | some n => varOk N sc i n
    | none => false
  | .g i => match asNm x with
    | some n => glOk sc n && decide (G.cn[i]? = some n) && nmOk n
    | none => false
  | .tup es => match asTup x with
    | some xs => chkEs md es sc xs
    | none => false
  | .lst es => match asLst x with
    | some xs => chkEs md es sc xs
    | none => false
  | .bin op a b => match asBin x with
    | some (y, o, z) => decide (o = opA op) && chkE md a sc y && chkE md b sc z
    | none => false
  | .neg a => match asNeg x with
    | some y => chkE md a sc y
    | none => false
  | .cmp op a b => match asCmp x with
    | some (y, o, z) => decide (o = cmA op) && noSet z && chkE md a sc y && chkE md b sc z
    | none => false
  | .chn o1 o2 a b c => match asChn x with
    | some (y, p1, z, p2, w) => decide (p1 = cmA o1) && decide (p2 = cmA o2) && noSet w && chkE md a sc y && chkE md b sc z && chkE md c sc w
    | none => false
  | .isn a => match asIs x with
    | some y => chkE md a sc y
    | none => false
  | .nisn a => match asIsN x with
    | some y => chkE md a sc y
    | none => false
  | .and a b => match asAnd x with
    | some (y, z) => chkE md a sc y && chkE md b sc z
    | none => false
  | .or a b => match asOr x with
    | some (y, z) => chkE md a sc y && chkE md b sc z
    | none => false
  | .not a => match asNot x with
    | some y => chkE md a sc y
    | none => false
  | .ite c a b => match asIte x with
    | some (t, y, z) => chkT md c sc t && chkE md a sc y && chkE md b sc z
    | none => false
  | .ix a b => match asIx x with
    | some (y, z) => plainIx z && chkE md a sc y && chkE md b sc z
    | none => false
  | .slc a lo hi => match asSlc x with
    | some (y, l, h) => chkE md a sc y && chkO md lo sc l && chkO md hi sc h
    | none => false
  | .rev a => match asIsT x with
    | some y => chkE md a sc y
    | none => false
  | .isi a ts => match asCall x with
    | some (f, [y, T]) => decide (f = "isinstance") && glOk sc f && notStar y && notStar T && ts.all (tgOk G.cl.length) && chkE md a sc y && tgAll' G ts T sc
    | _ => false
  | .isx t => match asCall x with
    | some (f, [y, T]) => decide (f = "isinstance") && glOk sc f && isEx t && tgOk G.cl.length t && notStar T && tgE G sc t T && (match asNm y, md.xs with
      | some n, some i => varOk N sc i n
      | _, _ => false)
    | _ => false
  | .call f es => match asCall x with
    | some (n, y :: ys) => md.cm && glOk sc n && decide (G.fn[f]? = some (n, es.len)) && nmOk n && (y :: ys).all notStar && chkEs md es sc (y :: ys)
    | _ => false
  | .thk f body => match asCall x with
    | some (n, [y]) => match asLam y with
      | some (params, b, scope) => md.lm && decide ((f, n) ∈ G.lm) && lamOk sc n params scope && chkE (lamMd md) body scope b
      | none => false
    | _ => false
  | .frc => match asCall x with
    | some (n, []) => decide (md.th = some n)
    | _ => false
  | .bi b es => (match b, es with
    | .sset, .cons a .nil => match asSset x with
      | some y => md.cm && glOk sc "sorted" && glOk sc "set" && notStar y && chkE md a sc y
      | none => false
    | .sitm, .cons a .nil => match asSitm x with
      | some y => md.cm && glOk sc "sorted" && baseOk y && chkE md a sc y
      | none => false
    | _, _ => false) || (match asCall x with
    | some (n, y :: ys) => decide (n = biN b) && biOk b && glOk sc n && (!biHot2 b || md.cm) && (y :: ys).all notStar && chkEs md es sc (y :: ys)
    | _ => false)
  | .mt m o es => match asMt x with
    | some (ob, nm, ys) => decide (nm = mtN m) && mtHas m && baseOk ob && chkE md o sc ob && ys.all notStar && decide (ys.length < 30) && chkEs md es sc ys
    | none => false
  | .lc elt t it c => match asLc x with
    | some (y, tg, iter, ifs, scope) => md.cm && noSet iter && blkC N sc scope (ownOf t tg) && tgtOk N (relS scope sc) (blkMd md) t tg && chkI md it sc tg iter && chkC (blkMd md) c (relS scope sc) ifs && chkE (blkMd md) elt (relS scope sc) y
      && decide ((ownOf t tg).map (·.2) = slotsT t)
    | none => false
  | .fmt es => match asJn x with
    | some xs => chkFm md es sc xs
    | none => false
  | .dic ks es => match asDic x with
    | some (keys, values) => decide (keys.length ≤ 15) && chkD (blkMd md) es ks sc keys values
    | none => false
  | .box a => frE a && chkE md a sc x
  | .un u a => match u with
    | .revt => match asRevt x with
      | some y => chkE md a sc y
      | none => false
  | .mk c es => match asCall x with
    | some (n, ys) => glOk sc n && decide (G.cl[c]? = some n) && nmOk n && decide (c ∈ G.ms) && (match es, ys with
      | .nil, [] => true
      | .cons e .nil, [y] => md.cm && decide (c ∈ G.fl) && notStar y && chkE md e sc y
      | _, _ => false)
    | none => false
  | .mkv es => match asCall x with
    | some (n, ys) => decide (n = "ValueError") && glOk sc n && (match es, ys with
      | .cons e .nil, [y] => notStar y && chkE md e sc y
      | _, _ => false)
    | none => false
  | .fld a f => match asAtt x with
    | some (y, nm) => decide (nm = strS f) && baseOk y && chkE md a sc y
    | none => false
  | .lzip a b => match asCall x with
    | some (n, [z]) => (match asCall z with
      | some (n2, [y1, y2]) => md.cm && decide (n = "list") && glOk sc n && decide (n2 = "zip") && glOk sc n2 && notStar y1 && notStar y2 && chkE md a sc y1 && chkE md b sc y2
      | _ => false)
    | _ => false
termination_by structural e
def chkT (md : Md) (e : E) (sc : Scope) (x : Expr) : Bool := match e with
  | .and a b => match asAnd x with
    | some (y, z) => chkT md a sc y && chkT md b sc z
    | none => false
  | .or a b => match asOr x with
    | some (y, z) => chkT md a sc y && chkT md b sc z
    | none => false
  | .not a => match asNot x with
    | some y => chkT md a sc y
    | none => false
  | .cmp op a b => match asCmp x with
    | some (y, o, z) => decide (o = cmA op) && noSet z && chkE md a sc y && chkE md b sc z
    | none => false
  | .chn o1 o2 a b c => match asChn x with
    | some (y, p1, z, p2, w) => decide (p1 = cmA o1) && decide (p2 = cmA o2) && noSet w && chkE md a sc y && chkE md b sc z && chkE md c sc w
    | none => false
  | .isn a => match asIs x with
    | some y => chkE md a sc y
    | none => false
  | .nisn a => match asIsN x with
    | some y => chkE md a sc y
    | none => false
  | .v i => match asNm x with
    | some n => varOk N sc i n
    | none => false
  | .bl b => decide (asBl x = some b)
  | .ix a b => match asIx x with
    | some (y, z) => plainIx z && chkE md a sc y && chkE md b sc z
    | none => false
  | .isi a ts => match asCall x with
    | some (f, [y, T]) => decide (f = "isinstance") && glOk sc f && notStar y && notStar T && ts.all (tgOk G.cl.length) && chkE md a sc y && tgAll' G ts T sc
    | _ => false
  | .isx t => match asCall x with
    | some (f, [y, T]) => decide (f = "isinstance") && glOk sc f && isEx t && tgOk G.cl.length t && notStar T && tgE G sc t T && (match asNm y, md.xs with
      | some n, some i => varOk N sc i n
      | _, _ => false)
    | _ => false
  | .call f es => match asCall x with
    | some (n, y :: ys) => md.cm && glOk sc n && decide (G.fn[f]? = some (n, es.len)) && nmOk n && (y :: ys).all notStar && chkEs md es sc (y :: ys)
    | _ => false
  | .bi b es => match asCall x with
    | some (n, y :: ys) => decide (n = biN b) && biOk b && glOk sc n && (!biHot2 b || md.cm) && (y :: ys).all notStar && chkEs md es sc (y :: ys)
    | _ => false
  | _ => false
termination_by structural e
def chkO (md : Md) (e : Oe) (sc : Scope) (x : Option Expr) : Bool := match e with
  | .no => x.isNone
  | .yes e => match x with
    | some y => chkE md e sc y
    | none => false
termination_by structural e
def chkC (md : Md) (e : Oe) (sc : Scope) (x : List Expr) : Bool := match e with
  | .no => x.isEmpty
  | .yes e => match x with
    | [y] => chkT md e sc y
    | _ => false
termination_by structural e
def chkEs (md : Md) (e : Es) (sc : Scope) (x : List Expr) : Bool := match e with
  | .nil => x.isEmpty
  | .cons e es => match x with
    | y :: ys => notStar y && chkE md e sc y && chkEs md es sc ys
    | [] => false
termination_by structural e
def chkI (md : Md) (e : It) (sc : Scope) (tg x : Expr) : Bool := match e with
  | .seq a => chkE md a sc x
  | .rng a => match asCall x with
    | some (f, [y]) => decide (f = "range") && glOk sc f && notStar y && chkE md a sc y
    | _ => false
  | .rng2 a b => match asCall x with
    | some (f, [y, z]) => decide (f = "range") && glOk sc f && notStar y && notStar z && chkE md a sc y && chkE md b sc z
    | _ => false
  | .zip a b => match asCall x with
    | some (f, [y, z]) => (asTup tg).isSome && decide (f = "zip") && glOk sc f && notStar y && notStar z && chkE md a sc y && chkE md b sc z
    | _ => false
  | .enm a => match asCall x with
    | some (f, [y]) => (asTup tg).isSome && decide (f = "enumerate") && glOk sc f && notStar y && chkE md a sc y
    | _ => false
  | .itm _ => false
termination_by structural e
def chkFm (md : Md) (e : Es) (sc : Scope) (x : List Expr) : Bool := match e with
  | .nil => x.isEmpty
  | .cons e es => match x with
    | y :: ys => chkFm md es sc ys && (match asFv y with
      | some z => chkE md e sc z
      | none => match e with
        | .str s => decide (asS y = some (strS s))
        | _ => false)
    | [] => false
termination_by structural e
def chkD (md : Md) (e : Es) (ks : List DKey) (sc : Scope) (keys : List (Option Expr)) (values : List Expr) : Bool := match e with
  | .nil => ks.isEmpty && keys.isEmpty && values.isEmpty
  | .cons e es => match ks, keys, values with
    | k :: ks, y :: ys, x :: xs => keyE k y && chkE md e sc x && chkD md es ks sc ys xs
    | _, _, _ => false
termination_by structural e
end
end

def biNames : List Str := ["isinstance", "set", "range", "zip", "enumerate", "len", "tuple", "list", "dict", "int", "str", "abs", "ord", "all", "any", "repr", "sorted", "max", "min", "sum", "bool", "ValueError"]
/-- what is known of the errors that are made as values -/
structure MkF (P : Par) (G : Gd) (κ : Kx) (K : PySem.W.Frag) (prog : Program) : Prop where
  keep : ∀ c ∈ G.ms, PySem.W.keepIn K (.ref (κ.cl c)) = true
  mk0 : ∀ c ∈ G.ms, P.fl c = none → PySem.W.excIn K (κ.cl c) veL "ValueError.__new__" = true
  fl : ∀ c ∈ G.fl, ∃ f, P.fl c = some f
  mk1 : ∀ c f, P.fl c = some f → (∃ fI fd y, IniK prog.main.file K (κ.cl c) fI fd y (strS f)) ∧ XfC K (κ.cl c)
  top : P.fld ≠ [] → (prog.main.scope.names.lookup ("super" : Str)).isSome = false
  ncl : P.ncl = G.cl.length
/-- what a context must be -/
structure Fit (P : Par) (G : Gd) (F : FnSem) (th : M) (xc : Option Nat) (N : List Str) (md : Md) (κ : Kx) (E : L2.St → XK) (sc : Scope) (lv : Nat) (X : Cx) : Prop where
  hN : X.N = N
  nd : N.Nodup
  hsc : X.env.scope = sc
  kind : sc.kind = .function
  fnc : md.blk = false → ∀ x, sc.names.lookup x = some .cell → X.fn x = true
  calm : md.cm = true → X.calm = true
  un : X.A.units + 64 < cLine
  bi : ∀ x, x ∈ biNames → X.mg x = none
  fx : κ.fx.map (·.1) = md.fxs
  fn : md.cm = true → ∀ i x n, G.fn[i]? = some (x, n) → ∃ f fd ps, X.mg x = some (.ref f) ∧ PySem.W.keepIn X.K (.ref f) = true ∧ Binds X.K fd ps [] ∧ ps.length = n ∧
    FnG X.prog X.w X.K X.mg X.base (L2.CX X.prog X.w) lv f fd ps (spD κ X.K ps fun ds st => F i ds (fun _ => .bad) st)
  room : md.cm = true → RoomG lv X.A
  cn : ∀ i x, G.cn[i]? = some x → ∃ u v, X.mg x = some u ∧ RelV v u ∧ ∀ (K : Kit), K.K = X.K → ∀ ρ H, RelD K ρ H (P.consts i) v
  cl : ∀ i x, G.cl[i]? = some x → X.mg x = some (.ref (κ.cl i))
  glo : Glo κ X.K P.anc G.cl.length
  rp : RpOk P
  mkf : MkF P G κ X.K X.prog
  sy : SysB X.base
  px : ∀ σ, PassesAt (L2.CX X.prog X.w) X σ (E σ)
  th : ∀ x, md.th = some x → ∀ p p2, PE X (.Call (.Name x p) [] [] p2) (eE X κ (BXs κ E) false fun _ st => th st)
  xs : ∀ i, md.xs = some i → ∃ a c, (i, a) ∈ κ.fx ∧ xc = some c ∧ c < G.cl.length ∧ CallR X (.builtin "isinstance") (rIsE X.K (κ.cl c) a)
  lam : md.lm = true → ∀ i x, (i, x) ∈ G.lm → ∀ (params : Arguments) (body : Expr) (scope : Scope) (lpos p pos : Pos) (fb : Bool) (mb : Loc → Store → Res D), lamOk sc x params scope = true →
    (∀ (A : Around) (outer : List Env) (s : Shared) (H : Hp) (E' : XK) (f c' : Addr), RoomG lv (A.deeper (lamEnv X scope s.heap.objs.size f c')) → PE (lamCx X A outer s H E' scope f c') body (tE ⟨κ, X.K⟩ (fun _ => BX κ E') fb mb)) →
    PE X (.Call (.Name x p) [.Lambda params body scope lpos] [] pos) (eE X κ (BXs κ E) false fun l st => (F i [] (mb l) st).calm)
end Pm

set_option Elab.async false
set_option linter.all false
set_option maxRecDepth 100000
set_option maxHeartbeats 8000000
/-! Ev25: what is checked is sound: expressions. -/
namespace Pm
open PySem PySem.Spec PyProof.Rows L2 LamX
set_option autoImplicit false

theorem and2 {a b : Bool} (h : (a && b) = true) : a = true ∧ b = true := Bool.and_eq_true_iff.mp h
theorem nmOk_d {x : Str} (h : nmOk x = true) : (x == ("__debug__" : Str)) = false ∧ (x == ("__classdict__" : Str)) = false := by
  unfold nmOk at h
  simpa using h
theorem visB_ok {sc : Scope} {x : Str} (h : visB sc x = true) : Vis sc x := by
  unfold visB at h
  split at h
  · exact .inl (by assumption)
  · exact .inr (.inl (by assumption))
  · exact .inr (.inr (by assumption))
  · cases h
section
variable {X : Cx} {κ : Kx} {B : L2.St → XW}
theorem pe_weak {e : Expr} {fr : Bool} {m : Loc → Store → Res D} (h : PE X e (eE X κ B fr m)) : PE X e (eE X κ B false m) :=
  PE.imp h fun σ H Q ⟨ρ, l, st, at0, q⟩ => ⟨ρ, l, st, at0, EndG.weak q⟩
theorem se_g {e : Expr} {v : V} {d : D} (h : PE X e (tC v)) (hr : ∀ ρ H, RelD (Cx.kit X κ) ρ H d v) : PE X e (eE X κ B false fun _ st => .ok d st) :=
  PE.imp h fun σ H Q ⟨ρ, l, st, a, q⟩ => q ρ v H (Ext.refl _ _) a.sim ⟨hr ρ H, fun t => nomatch t⟩
theorem var_pe {N : List Str} {sc : Scope} {i : Nat} {x : Str} {p : Pos} (hN : X.N = N) (hsc : X.env.scope = sc) (h : varOk N sc i x = true) : PE X (.Name x p) (tVar i) := by
  unfold varOk at h
  obtain ⟨h1, h3⟩ := and2 h
  obtain ⟨h1, h2⟩ := and2 h1
  exact pe_var (by rw [hN]; exact of_decide_eq_true h1) (by rw [hsc]; exact visB_ok h2) (nmOk_d h3).1 (nmOk_d h3).2
end
theorem gl_ok {X : Cx} {sc : Scope} {x : Str} (hsc : X.env.scope = sc) (h : glOk sc x = true) : Gl X x := by
  subst hsc
  exact of_decide_eq_true (p := X.env.scope.names.lookup x = some .globalImplicit) h
section
variable {P : Par} {G : Gd} {F : FnSem} {th : M} {xc : Option Nat} {N : List Str} {md : Md} {κ : Kx} {E : L2.St → XK} {sc : Scope} {lv : Nat} {X : Cx}
theorem tg_pe (f : Fit P G F th xc N md κ E sc lv X) {t : Tg} {x : Expr} (h : tgE G sc t x = true) : PE X x (tC (tgV κ t)) ∧ notStar x = true := by
  cases x with
  | Name x p =>
    refine ⟨?_, rfl⟩
    cases t with
    | own c =>
      simp only [tgE, Bool.and_eq_true] at h
      exact pe_glob (gl_ok f.hsc h.1.1) (f.cl c x (of_decide_eq_true h.1.2)) rfl (nmOk_d h.2).1
    | int => simp only [tgE, Bool.and_eq_true, decide_eq_true_eq] at h; obtain ⟨h1, rfl⟩ := h; exact pe_bltn (gl_ok f.hsc h1) (f.bi _ (by decide)) rfl rfl (by decide) (by decide)
    | bool => simp only [tgE, Bool.and_eq_true, decide_eq_true_eq] at h; obtain ⟨h1, rfl⟩ := h; exact pe_bltn (gl_ok f.hsc h1) (f.bi _ (by decide)) rfl rfl (by decide) (by decide)
    | str => simp only [tgE, Bool.and_eq_true, decide_eq_true_eq] at h; obtain ⟨h1, rfl⟩ := h; exact pe_bltn (gl_ok f.hsc h1) (f.bi _ (by decide)) rfl rfl (by decide) (by decide)
    | tuple => simp only [tgE, Bool.and_eq_true, decide_eq_true_eq] at h; obtain ⟨h1, rfl⟩ := h; exact pe_bltn (gl_ok f.hsc h1) (f.bi _ (by decide)) rfl rfl (by decide) (by decide)
    | list => simp only [tgE, Bool.and_eq_true, decide_eq_true_eq] at h; obtain ⟨h1, rfl⟩ := h; exact pe_bltn (gl_ok f.hsc h1) (f.bi _ (by decide)) rfl rfl (by decide) (by decide)
    | dict => simp only [tgE, Bool.and_eq_true, decide_eq_true_eq] at h; obtain ⟨h1, rfl⟩ := h; exact pe_bltn (gl_ok f.hsc h1) (f.bi _ (by decide)) rfl rfl (by decide) (by decide)
    | verr => simp only [tgE, Bool.and_eq_true, decide_eq_true_eq] at h; obtain ⟨h1, rfl⟩ := h; exact pe_bltn (gl_ok f.hsc h1) (f.bi _ (by decide)) rfl rfl (by decide) (by decide)
  | _ => cases t <;> cases h
theorem tgs_pe (f : Fit P G F th xc N md κ E sc lv X) : ∀ {ts : List Tg} {xs : List Expr}, tgEs G sc ts xs = true → PA X xs (tTgs κ ts)
  | [], [], _ => pa_tgs_nil
  | t :: ts, x :: xs, h => by
    simp only [tgEs, Bool.and_eq_true] at h
    exact pa_tgs_cons (tg_pe f h.1).2 (tg_pe f h.1).1 (tgs_pe f h.2)
  | [], _ :: _, h => by cases h
  | _ :: _, [], h => by cases h
theorem sto_ok (f : Fit P G F th xc N md κ E sc lv X) {i : Nat} {x : Str} (h : stoOk N sc md i x = true) : Stores X i x ∧ i ∉ κ.fx.map (·.1) := by
  unfold stoOk at h
  obtain ⟨h1, h3⟩ := and2 h
  obtain ⟨h1, h2⟩ := and2 h1
  have hf : i ∉ κ.fx.map (·.1) := by rw [f.fx]; simpa using h3
  refine ⟨⟨by rw [f.hN]; exact of_decide_eq_true h1, ?_, ?_⟩, hf⟩
  · rw [f.hsc]
    split at h2
    · exact .inl (by assumption)
    · exact .inr (by assumption)
    · cases h2
  · rw [f.hsc]
    split at h2
    · exact .inr (by assumption)
    · exact .inl (f.fnc (by simpa using h2) x (by assumption))
    · cases h2
theorem pair_sto (f : Fit P G F th xc N md κ E sc lv X) : ∀ {is : List Nat} {xs : List Expr}, is.length = xs.length → ((is.zip xs).all fun p => match p.2 with
    | .Name x _ => stoOk N sc md p.1 x
    | _ => false) = true → Paired (fun e i => ∃ x p, e = Expr.Name x p ∧ Stores X i x) xs is ∧ ∀ i ∈ is, i ∉ κ.fx.map (·.1)
  | [], [], _, _ => ⟨.nil, fun _ h => nomatch h⟩
  | i :: is, x :: xs, hl, h => by
    simp only [List.zip_cons_cons, List.all_cons, Bool.and_eq_true] at h
    obtain ⟨h1, h2⟩ := h
    obtain ⟨r1, r2⟩ := pair_sto f (by simpa using hl) h2
    cases x with
    | Name n p =>
      obtain ⟨s1, s2⟩ := sto_ok f h1
      exact ⟨.cons ⟨n, p, rfl, s1⟩ r1, fun j hj => (List.mem_cons.mp hj).elim (fun e => by rw [e]; exact s2) (r2 j)⟩
    | _ => cases h1
  | [], _ :: _, hl, _ => by cases hl
  | _ :: _, [], hl, _ => by cases hl
theorem tgt_pg (f : Fit P G F th xc N md κ E sc lv X) (hc : md.cm = true) {t : T} {tg : Expr} (h : tgtOk N sc md t tg = true) : PG X tg (gT (Cx.kit X κ) t) := by
  cases t with
  | nm i =>
    cases tg with
    | Name x p => obtain ⟨h1, h2⟩ := sto_ok f (show stoOk N sc md i x = true from h); exact sg_nm (by rw [f.hN]; exact f.nd) h2 h1
    | _ => cases h
  | tp is =>
    cases tg with
    | Tuple xs k p =>
      simp only [tgtOk, Bool.and_eq_true, beq_iff_eq] at h
      obtain ⟨h1, h2⟩ := pair_sto f h.1 h.2
      exact sg_tp (f.calm hc) (by rw [f.hN]; exact f.nd) h2 h1
    | _ => cases h
theorem key_pe {k : DKey} {x : Option Expr} (h : keyE k x = true) : ∃ y, x = some y ∧ PE X y (tC (kV (keyK k))) := by
  cases x with
  | none => cases k <;> cases h
  | some y =>
    refine ⟨y, rfl, ?_⟩
    cases y with
    | Constant c j p =>
      cases c with
      | int m =>
        cases k with
        | i n => have e := of_decide_eq_true h; subst e; exact pe_int
        | s x => cases h
      | str s =>
        cases k with
        | i n => cases h
        | s x => have e := of_decide_eq_true h; subst e; exact pe_str
      | _ => cases k <;> cases h
    | _ => cases k <;> cases h
/-- a block's context -/
theorem fit_blk (f : Fit P G F th xc N md κ E sc lv X) {scope : Scope} {own : List (Str × Nat)} (ok : BlkOk N sc scope own) (s : Shared) (H : Hp) (C : Addr) (cl : List (Str × Addr)) (fp : List Addr) :
    Fit P G F th xc N (blkMd md) κ.up (fun _ _ _ _ => False) (relS scope sc) lv (X.blk s H scope (compEnvC scope cl C X.env) fp) where
  hN := f.hN
  nd := f.nd
  hsc := by rw [← f.hsc]; rfl
  kind := ok.kind
  fnc := fun h => nomatch h
  calm := f.calm
  un := f.un
  bi := f.bi
  fx := f.fx
  fn := f.fn
  room := f.room
  cn := f.cn
  cl := f.cl
  glo := ⟨f.glo.ownT, f.glo.ownE, f.glo.verr, f.glo.exc, f.glo.vown⟩
  rp := f.rp
  mkf := ⟨f.mkf.keep, f.mkf.mk0, f.mkf.fl, f.mkf.mk1, f.mkf.top, f.mkf.ncl⟩
  sy := f.sy
  px := fun σ => passAt takes0 σ
  th := fun _ h => nomatch h
  xs := fun _ h => nomatch h
  lam := fun h => nomatch h
end
theorem BXs_false {κ : Kx} : (BXs κ fun _ _ _ _ => False) = B0 := rfl
section
variable {P : Par} {F : FnSem} {th : M} {xc : Option Nat}
theorem evEs_len : ∀ (es : Es) (l : Loc) (st : Store) (ds : List D) (st' : Store), evEs P F th xc es l st = .ok ds st' → ds.length = es.len
  | .nil, l, st, ds, st', h => by
    rw [evEs] at h
    cases h; rfl
  | .cons e es, l, st, ds, st', h => by
    rw [evEs] at h
    cases he : evE P F th xc e l st with
    | bad => rw [he] at h; cases h
    | exc c fs s => rw [he] at h; cases h
    | ok d st1 =>
      rw [he] at h
      simp only [Res.bind] at h
      cases hs : evEs P F th xc es l st1 with
      | bad => rw [hs] at h; cases h
      | exc c fs s => rw [hs] at h; cases h
      | ok ds2 st2 =>
        rw [hs] at h
        simp only [Res.ok.injEq] at h
        obtain ⟨rfl, rfl⟩ := h
        rw [List.length_cons, evEs_len es l st1 ds2 _ hs]; rfl
end
end Pm

set_option Elab.async false
set_option linter.all false
set_option maxRecDepth 100000
set_option maxHeartbeats 8000000
/-! Ev26: what is checked is sound: expressions, by recursion. -/
namespace Pm
open PySem PySem.Spec PyProof.Rows L2 LamX
set_option autoImplicit false

section
variable {X : Cx} {κ : Kx} {B : L2.St → XW}
theorem pe_eq {e : Expr} {fr : Bool} {m m' : Loc → Store → Res D} (h : PE X e (eE X κ B fr m)) (k : ∀ l st, m' l st = m l st) : PE X e (eE X κ B fr m') := by
  have : m' = m := by funext l st; exact k l st
  rw [this]; exact h
theorem pt_eq {e : Expr} {m m' : Loc → Store → Res Bool} (h : PT X e (eT X κ B m)) (k : ∀ l st, m' l st = m l st) : PT X e (eT X κ B m') := by
  have : m' = m := by funext l st; exact k l st
  rw [this]; exact h
theorem pa_eq {e : List Expr} {m m' : Loc → Store → Res (List D)} (h : PA X e (eA X κ B m)) (k : ∀ l st, m' l st = m l st) : PA X e (eA X κ B m') := by
  have : m' = m := by funext l st; exact k l st
  rw [this]; exact h
theorem po_eq {e : Option Expr} {m m' : Loc → Store → Res (Option Int)} (h : PO X e (eO X κ B m)) (k : ∀ l st, m' l st = m l st) : PO X e (eO X κ B m') := by
  have : m' = m := by funext l st; exact k l st
  rw [this]; exact h
theorem pi_eq {tg e : Expr} {m m' : Loc → Store → Res (List D)} (h : PI X tg e (eI X κ B m)) (k : ∀ l st, m' l st = m l st) : PI X tg e (eI X κ B m') := by
  have : m' = m := by funext l st; exact k l st
  rw [this]; exact h
theorem pts_eq {e : List Expr} {m m' : Loc → Store → Res Bool} (h : PTs X e (eT X κ B m)) (k : ∀ l st, m' l st = m l st) : PTs X e (eT X κ B m') := by
  have : m' = m := by funext l st; exact k l st
  rw [this]; exact h
theorem sd_eq {pos : Pos} {keys : List (Option Expr)} {values : List Expr} {ks : List DKey} {m m' : Loc → Store → Res (List D)} (h : SD X κ B pos keys values ks m) (k : ∀ l st, m' l st = m l st) : SD X κ B pos keys values ks m' := by
  have : m' = m := by funext l st; exact k l st
  rw [this]; exact h
theorem pw_of {op : BoolOp} {vs : List Expr} {p : Pos} {t : TT} (h : PT X (.BoolOp op vs p) t) : PW X (.BoolOp op vs p) t := ⟨fun wh pins s σ H Q I q => h.run pins s σ H Q I q⟩
theorem pts_yes : PTs X [] (eT X κ B fun _ st => .ok true st) := ⟨fun pins s σ H Q I ⟨ρ, l, st, at0, q⟩ => pts_nil.run pins s σ H Q I (q ρ true H (Ext.refl _ _) at0.sim rfl)⟩
theorem noStar_es : ∀ {ys : List Expr}, ys.all notStar = true → ys.all notStar = true := fun h => h
end

/-! ### the forms, read back -/
theorem asNon_ok {x : Expr} (h : asNon x = true) : ∃ k p, x = .Constant .none k p := by
  unfold asNon at h; split at h
  · exact ⟨_, _, rfl⟩
  · cases h
theorem asBl_ok {x : Expr} {b : Bool} (h : asBl x = some b) : ∃ k p, x = .Constant (.bool b) k p := by
  unfold asBl at h; split at h
  · cases h; exact ⟨_, _, rfl⟩
  · cases h
theorem asI_ok {x : Expr} {b : Int} (h : asI x = some b) : ∃ k p, x = .Constant (.int b) k p := by
  unfold asI at h; split at h
  · cases h; exact ⟨_, _, rfl⟩
  · cases h
theorem asS_ok {x : Expr} {b : Str} (h : asS x = some b) : ∃ k p, x = .Constant (.str b) k p := by
  unfold asS at h; split at h
  · cases h; exact ⟨_, _, rfl⟩
  · cases h
theorem asNm_ok {x : Expr} {b : Str} (h : asNm x = some b) : ∃ p, x = .Name b p := by
  unfold asNm at h; split at h
  · cases h; exact ⟨_, rfl⟩
  · cases h
theorem asSset_ok {x y : Expr} (h : asSset x = some y) : ∃ p p2 q q2, x = .Call (.Name "sorted" p) [.Call (.Name "set" p2) [y] [] q] [] q2 := by
  unfold asSset at h
  split at h
  · split at h
    · rename_i hh
      obtain ⟨rfl, rfl⟩ := hh
      cases h
      exact ⟨_, _, _, _, rfl⟩
    · cases h
  · cases h
theorem asSitm_ok {x y : Expr} (h : asSitm x = some y) : ∃ p ap cp q, x = .Call (.Name "sorted" p) [.Call (.Attribute y "items" ap) [] [] cp] [] q ∧ (ap.endLine == cp.line) = true := by
  unfold asSitm at h
  split at h
  · split at h
    · rename_i hh
      obtain ⟨rfl, rfl, h3⟩ := hh
      cases h
      exact ⟨_, _, _, _, rfl, h3⟩
    · cases h
  · cases h
theorem asJn_ok {x : Expr} {b : List Expr} (h : asJn x = some b) : ∃ v1 v2 r p, x = .JoinedStr (v1 :: v2 :: r) p ∧ b = v1 :: v2 :: r := by
  unfold asJn at h
  split at h
  · cases h; exact ⟨_, _, _, _, rfl, rfl⟩
  · cases h
theorem asFv_ok {x z : Expr} (h : asFv x = some z) : ∃ p, x = .FormattedValue z (-1) none p := by
  unfold asFv at h
  split at h
  · cases h; exact ⟨_, rfl⟩
  · cases h
theorem fm_eq {X : Cx} {κ : Kx} {B : L2.St → XW} {xs : List Expr} {m m' : List Nat → Loc → Store → Res (List Nat)} (h : FmOk X κ B xs m) (k : ∀ a l st, m' a l st = m a l st) : FmOk X κ B xs m' := by
  have : m' = m := by funext a l st; exact k a l st
  rw [this]; exact h
theorem asTup_ok {x : Expr} {b : List Expr} (h : asTup x = some b) : ∃ k p, x = .Tuple b k p := by
  unfold asTup at h; split at h
  · cases h; exact ⟨_, _, rfl⟩
  · cases h
theorem asLst_ok {x : Expr} {b : List Expr} (h : asLst x = some b) : ∃ p, x = .List b p := by
  unfold asLst at h; split at h
  · cases h; exact ⟨_, rfl⟩
  · cases h
theorem asBin_ok {x y z : Expr} {o : Operator} (h : asBin x = some (y, o, z)) : ∃ p, x = .BinOp y o z p := by
  unfold asBin at h; split at h
  · cases h; exact ⟨_, rfl⟩
  · cases h
theorem asNeg_ok {x y : Expr} (h : asNeg x = some y) : ∃ p, x = .UnaryOp .USub y p := by
  unfold asNeg at h; split at h
  · cases h; exact ⟨_, rfl⟩
  · cases h
theorem asNot_ok {x y : Expr} (h : asNot x = some y) : ∃ p, x = .UnaryOp .Not y p := by
  unfold asNot at h; split at h
  · cases h; exact ⟨_, rfl⟩
  · cases h
theorem asCmp_ok {x y z : Expr} {o : CmpOp} (h : asCmp x = some (y, o, z)) : ∃ p, x = .Compare y [o] [z] p := by
  unfold asCmp at h; split at h
  · cases h; exact ⟨_, rfl⟩
  · cases h
theorem asChn_ok {x y z w : Expr} {o q : CmpOp} (h : asChn x = some (y, o, z, q, w)) : ∃ p, x = .Compare y [o, q] [z, w] p := by
  unfold asChn at h; split at h
  · cases h; exact ⟨_, rfl⟩
  · cases h
theorem asIs_ok {x y : Expr} (h : asIs x = some y) : ∃ k p q, x = .Compare y [.Is] [.Constant .none k p] q := by
  unfold asIs at h; split at h
  · cases h; exact ⟨_, _, _, rfl⟩
  · cases h
theorem asIsT_ok {x b : Expr} (h : asIsT x = some b) : ∃ k p q, x = .Compare b [.Is] [.Constant (.bool true) k p] q := by
  unfold asIsT at h
  split at h
  · cases h; exact ⟨_, _, _, rfl⟩
  · cases h
theorem asRevt_ok {x b : Expr} (h : asRevt x = some b) : ∃ k p1 p2 p3 p4, x = .Subscript b (.Slice none none (some (.UnaryOp .USub (.Constant (.int 1) k p1) p2)) p3) p4 := by
  unfold asRevt at h
  split at h
  · cases h; exact ⟨_, _, _, _, _, rfl⟩
  · cases h
theorem asIsN_ok {x y : Expr} (h : asIsN x = some y) : ∃ k p q, x = .Compare y [.IsNot] [.Constant .none k p] q := by
  unfold asIsN at h; split at h
  · cases h; exact ⟨_, _, _, rfl⟩
  · cases h
theorem asAnd_ok {x y t : Expr} (h : asAnd x = some (y, t)) : ∃ z r p, x = .BoolOp .And (y :: z :: r) p ∧ t = tailB .And z r p := by
  unfold asAnd at h; split at h
  · cases h; exact ⟨_, _, _, rfl, rfl⟩
  · cases h
theorem asOr_ok {x y t : Expr} (h : asOr x = some (y, t)) : ∃ z r p, x = .BoolOp .Or (y :: z :: r) p ∧ t = tailB .Or z r p := by
  unfold asOr at h; split at h
  · cases h; exact ⟨_, _, _, rfl, rfl⟩
  · cases h
theorem asIte_ok {x t y z : Expr} (h : asIte x = some (t, y, z)) : ∃ p, x = .IfExp t y z p := by
  unfold asIte at h; split at h
  · cases h; exact ⟨_, rfl⟩
  · cases h
theorem asIx_ok {x y z : Expr} (h : asIx x = some (y, z)) : ∃ p, x = .Subscript y z p := by
  unfold asIx at h; split at h
  · cases h; exact ⟨_, rfl⟩
  · cases h
theorem asSlc_ok {x y : Expr} {l u : Option Expr} (h : asSlc x = some (y, l, u)) : ∃ p q, x = .Subscript y (.Slice l u none p) q := by
  unfold asSlc at h; split at h
  · cases h; exact ⟨_, _, rfl⟩
  · cases h
theorem asCall_ok {x : Expr} {f : Str} {xs : List Expr} (h : asCall x = some (f, xs)) : ∃ p q, x = .Call (.Name f p) xs [] q := by
  unfold asCall at h; split at h
  · cases h; exact ⟨_, _, rfl⟩
  · cases h
theorem asAtt_ok {x y : Expr} {nm : Str} (h : asAtt x = some (y, nm)) : ∃ p, x = .Attribute y nm p := by
  unfold asAtt at h; split at h
  · cases h; exact ⟨_, rfl⟩
  · cases h
theorem asLam_ok {x : Expr} {a : Arguments} {b : Expr} {c : Scope} (h : asLam x = some (a, b, c)) : ∃ p, x = .Lambda a b c p := by
  unfold asLam at h; split at h
  · cases h; exact ⟨_, rfl⟩
  · cases h
theorem asMt_ok {x ob : Expr} {nm : Str} {ys : List Expr} (h : asMt x = some (ob, nm, ys)) : ∃ ap cp, x = .Call (.Attribute ob nm ap) ys [] cp ∧ (ap.endLine == cp.line) = true := by
  unfold asMt at h; split at h
  · split at h
    · cases h; exact ⟨_, _, rfl, by assumption⟩
    · cases h
  · cases h
theorem asLc_ok {x y tg iter : Expr} {ifs : List Expr} {sc : Scope} (h : asLc x = some (y, tg, iter, ifs, sc)) : ∃ p, x = .ListComp y [⟨tg, iter, ifs, 0⟩] sc p := by
  unfold asLc at h; split at h
  · split at h
    · rename_i e; cases h; subst e; exact ⟨_, rfl⟩
    · cases h
  · cases h
theorem asDic_ok {x : Expr} {ks : List (Option Expr)} {vs : List Expr} (h : asDic x = some (ks, vs)) : ∃ p, x = .Dict ks vs p := by
  unfold asDic at h; split at h
  · cases h; exact ⟨_, rfl⟩
  · cases h
theorem tail_pe {op : BoolOp} {X : Cx} {y : Expr} {r : List Expr} {pos : Pos} {t : TE} (h : PE X (tailB op y r pos) t) : PE X (.BoolOp op (y :: r) pos) t := by
  cases r with
  | nil => exact pe_one h
  | cons z r => exact h
theorem tail_and {X : Cx} {y : Expr} {r : List Expr} {pos : Pos} {t : TT} (h : PT X (tailB .And y r pos) t) : PW X (.BoolOp .And (y :: r) pos) t := by
  cases r with
  | nil => exact pw_and1 h
  | cons z r => exact pw_of h
theorem tail_or {X : Cx} {y : Expr} {r : List Expr} {pos : Pos} {t : TT} (h : PT X (tailB .Or y r pos) t) : PW X (.BoolOp .Or (y :: r) pos) t := by
  cases r with
  | nil => exact pw_or1 h
  | cons z r => exact pw_of h

section
variable {P : Par} {G : Gd} {F : FnSem} {th : M} {N : List Str}
theorem isi_pe {xc : Option Nat} {md : Md} {κ : Kx} {E : L2.St → XK} {sc : Scope} {lv : Nat} {X : Cx} {ts : List Tg} {x T : Expr} {p pos : Pos} {fa fr : Bool} {ma : Loc → Store → Res D} (f : Fit P G F th xc N md κ E sc lv X)
    (hg : Gl X "isinstance") (ns : notStar x = true) (nT : notStar T = true) (ht : ts.all (tgOk G.cl.length) = true) (ha : PE X x (eE X κ (BXs κ E) fa ma))
    (h : tgAll' G ts T sc = true) :
    PE X (.Call (.Name "isinstance" p) [x, T] [] pos) (eE X κ (BXs κ E) fr fun l st => (ma l st).bind fun x st => optR (liveI P.ncl ts st x) fun x => .ok (.bl (ts.any (isD st P.anc x))) st) := by
  rw [f.mkf.ncl]
  match ts, ht, h with
  | [t], ht, h => exact se_isi1 f.glo (by simpa using ht) hg (f.bi _ (by decide)) ns nT ha (tg_pe f h).1
  | [], ht, h => exact absurd h (by simp [tgAll'])
  | t1 :: t2 :: r, ht, h =>
    obtain ⟨h1, h3⟩ := and2 h
    obtain ⟨h1, h2⟩ := and2 h1
    cases T with
    | Tuple Ts k p => exact se_isiT f.glo ht (of_decide_eq_true h1) (of_decide_eq_true h2) hg (f.bi _ (by decide)) ns ha (tgs_pe f h3)
    | _ => cases h3
theorem own_tgt : ∀ {t : T} {tg : Expr}, (ownOf t tg).map (·.2) = slotsT t → (∀ i ∈ (ownOf t tg).map (·.2), i ∈ slotsT t) ∧ ∀ i ∈ slotsT t, i ∈ (ownOf t tg).map (·.2) := fun h => by
  rw [h]; exact ⟨fun _ h => h, fun _ h => h⟩
/-- a lambda's context -/
theorem fit_lam {xc : Option Nat} {md : Md} {κ : Kx} {E : L2.St → XK} {sc : Scope} {lv : Nat} {X : Cx} (f : Fit P G F th xc N md κ E sc lv X) {scope : Scope} (L : LamS sc scope) (A : Around) (outer : List Env) (s : Shared) (H : Hp) (E' : XK) (f0 c' : Addr)
    (hr : RoomG lv (A.deeper (lamEnv X scope s.heap.objs.size f0 c'))) : Fit P G F th xc N (lamMd md) κ (fun _ => E') scope lv (lamCx X A outer s H E' scope f0 c') where
  hN := f.hN
  nd := f.nd
  hsc := rfl
  kind := L.kind
  fnc := fun h => nomatch h
  calm := fun _ => rfl
  un := by have := hr.r.un; show (A.deeper _).units + 64 < cLine; omega
  bi := f.bi
  fx := f.fx
  fn := f.fn
  room := fun _ => hr
  cn := f.cn
  cl := f.cl
  glo := f.glo
  rp := f.rp
  mkf := ⟨f.mkf.keep, f.mkf.mk0, f.mkf.fl, f.mkf.mk1, f.mkf.top, f.mkf.ncl⟩
  sy := f.sy
  px := fun σ => passAt (W := fun cls d _ H => E' cls d H) (takes_of rfl rfl rfl rfl) σ
  th := fun _ h => nomatch h
  xs := fun _ h => nomatch h
  lam := fun h => nomatch h
/-- beside a new dict -/
theorem fit_up {xc : Option Nat} {md : Md} {κ : Kx} {E : L2.St → XK} {sc : Scope} {lv : Nat} {X : Cx} (f : Fit P G F th xc N md κ E sc lv X) : Fit P G F th xc N (blkMd md) κ.up E sc lv X where
  hN := f.hN
  nd := f.nd
  hsc := f.hsc
  kind := f.kind
  fnc := fun h => nomatch h
  calm := f.calm
  un := f.un
  bi := f.bi
  fx := f.fx
  fn := f.fn
  room := f.room
  cn := f.cn
  cl := f.cl
  glo := ⟨f.glo.ownT, f.glo.ownE, f.glo.verr, f.glo.exc, f.glo.vown⟩
  rp := f.rp
  mkf := ⟨f.mkf.keep, f.mkf.mk0, f.mkf.fl, f.mkf.mk1, f.mkf.top, f.mkf.ncl⟩
  sy := f.sy
  px := f.px
  th := fun _ h => nomatch h
  xs := fun _ h => nomatch h
  lam := fun h => nomatch h
end
end Pm

set_option Elab.async false
set_option linter.all false
set_option maxRecDepth 100000
set_option maxHeartbeats 16000000
/-! Ev27: what is checked is sound: expressions, the recursion. -/
namespace Pm
open PySem PySem.Spec PyProof.Rows L2 LamX
set_option autoImplicit false

section
variable {P : Par} {G : Gd} {F : FnSem} {th : M} {N : List Str}
mutual
theorem sndE : ∀ (e : E) {md : Md} {sc : Scope} {x : Expr} {xc : Option Nat} {κ : Kx} {E : L2.St → XK} {lv : Nat} {X : Cx}, chkE G N md e sc x = true → Fit P G F th xc N md κ E sc lv X → PE X x (eE X κ (BXs κ E) (frE e) (evE P F th xc e))
  | .non, md, sc, x, xc, κ, E, lv, X, h, f => by
    simp only [chkE] at h
    obtain ⟨k, p, rfl⟩ := asNon_ok h
    exact pe_eq (se_const pe_non (fun _ _ _ => .non) rfl) fun l st => by rw [evE]
  | .bl b, md, sc, x, xc, κ, E, lv, X, h, f => by
    simp only [chkE] at h
    obtain ⟨k, p, rfl⟩ := asBl_ok (of_decide_eq_true h)
    exact pe_eq (se_const pe_bl (fun _ _ _ => .bl _) rfl) fun l st => by rw [evE]
  | .int i, md, sc, x, xc, κ, E, lv, X, h, f => by
    simp only [chkE] at h
    obtain ⟨k, p, rfl⟩ := asI_ok (of_decide_eq_true h)
    exact pe_eq (se_const pe_int (fun _ _ _ => .int _) rfl) fun l st => by rw [evE]
  | .str s, md, sc, x, xc, κ, E, lv, X, h, f => by
    simp only [chkE] at h
    obtain ⟨k, p, rfl⟩ := asS_ok (of_decide_eq_true h)
    exact pe_eq (se_const pe_str (fun _ _ _ => .str _) rfl) fun l st => by rw [evE]
  | .v i, md, sc, x, xc, κ, E, lv, X, h, f => by
    simp only [chkE] at h
    split at h
    · rename_i hx
      obtain ⟨p, rfl⟩ := asNm_ok hx
      exact pe_eq (se_var (var_pe f.hN f.hsc h)) fun l st => by rw [evE]
    · cases h
  | .frz i, md, sc, x, xc, κ, E, lv, X, h, f => by
    simp only [chkE] at h
    split at h
    · rename_i hx
      obtain ⟨p, rfl⟩ := asNm_ok hx
      exact pe_eq (se_frz (var_pe f.hN f.hsc h)) fun l st => by rw [evE]
    · cases h
  | .g i, md, sc, x, xc, κ, E, lv, X, h, f => by
    simp only [chkE] at h
    split at h
    · rename_i hx
      obtain ⟨p, rfl⟩ := asNm_ok hx
      obtain ⟨h1, h3⟩ := and2 h
      obtain ⟨h1, h2⟩ := and2 h1
      obtain ⟨u, v, e1, e2, e3⟩ := f.cn i _ (of_decide_eq_true h2)
      exact pe_eq (se_g (pe_glob (gl_ok f.hsc h1) e1 e2 (nmOk_d h3).1) (e3 _ rfl)) fun l st => by rw [evE]
    · cases h
  | .tup es, md, sc, x, xc, κ, E, lv, X, h, f => by
    simp only [chkE] at h
    split at h
    · rename_i hx
      obtain ⟨k, p, rfl⟩ := asTup_ok hx
      exact pe_eq (se_tup (sndEs es h f)) fun l st => by rw [evE]
    · cases h
  | .lst es, md, sc, x, xc, κ, E, lv, X, h, f => by
    simp only [chkE] at h
    split at h
    · rename_i hx
      obtain ⟨p, rfl⟩ := asLst_ok hx
      exact pe_eq (se_lst (sndEs es h f)) fun l st => by rw [evE]
    · cases h
  | .bin op a b, md, sc, x, xc, κ, E, lv, X, h, f => by
    simp only [chkE] at h
    split at h
    · rename_i hx
      obtain ⟨p, rfl⟩ := asBin_ok hx
      obtain ⟨h1, h3⟩ := and2 h
      obtain ⟨h1, h2⟩ := and2 h1
      have e := of_decide_eq_true h1
      subst e
      exact pe_eq (se_bin op (sndE a h2 f) (sndE b h3 f)) fun l st => by rw [evE]
    · cases h
  | .neg a, md, sc, x, xc, κ, E, lv, X, h, f => by
    simp only [chkE] at h
    split at h
    · rename_i hx
      obtain ⟨p, rfl⟩ := asNeg_ok hx
      exact pe_eq (se_neg (sndE a h f)) fun l st => by rw [evE]
    · cases h
  | .cmp op a b, md, sc, x, xc, κ, E, lv, X, h, f => by
    simp only [chkE] at h
    split at h
    · rename_i hx
      obtain ⟨p, rfl⟩ := asCmp_ok hx
      obtain ⟨h1, h4⟩ := and2 h
      obtain ⟨h1, h3⟩ := and2 h1
      obtain ⟨h1, h2⟩ := and2 h1
      have e := of_decide_eq_true h1
      subst e
      exact pe_eq (se_cmp f.un op (noSet_in h2 _) (sndE a h3 f) (sndE b h4 f)) fun l st => by rw [evE]
    · cases h
  | .chn o1 o2 a b c, md, sc, x, xc, κ, E, lv, X, h, f => by
    simp only [chkE] at h
    split at h
    · rename_i hx
      obtain ⟨p, rfl⟩ := asChn_ok hx
      obtain ⟨h1, h6⟩ := and2 h
      obtain ⟨h1, h5⟩ := and2 h1
      obtain ⟨h1, h4⟩ := and2 h1
      obtain ⟨h1, h3⟩ := and2 h1
      obtain ⟨h1, h2⟩ := and2 h1
      have e := of_decide_eq_true h1
      have e' := of_decide_eq_true h2
      subst e e'
      exact pe_eq (se_chn f.un o1 o2 (noSet_in h3 _) (sndE a h4 f) (sndE b h5 f) (sndE c h6 f)) fun l st => by rw [evE]
    · cases h
  | .isn a, md, sc, x, xc, κ, E, lv, X, h, f => by
    simp only [chkE] at h
    split at h
    · rename_i hx
      obtain ⟨k, p, q, rfl⟩ := asIs_ok hx
      exact pe_eq (se_isn (sndE a h f)) fun l st => by rw [evE]
    · cases h
  | .nisn a, md, sc, x, xc, κ, E, lv, X, h, f => by
    simp only [chkE] at h
    split at h
    · rename_i hx
      obtain ⟨k, p, q, rfl⟩ := asIsN_ok hx
      exact pe_eq (se_nisn (sndE a h f)) fun l st => by rw [evE]
    · cases h
  | .and a b, md, sc, x, xc, κ, E, lv, X, h, f => by
    simp only [chkE] at h
    split at h
    · rename_i hx
      obtain ⟨z, r, p, rfl, rfl⟩ := asAnd_ok hx
      obtain ⟨h1, h2⟩ := and2 h
      exact pe_eq (se_and (sndE a h1 f) (tail_pe (pe_weak (sndE b h2 f)))) fun l st => by rw [evE]
    · cases h
  | .or a b, md, sc, x, xc, κ, E, lv, X, h, f => by
    simp only [chkE] at h
    split at h
    · rename_i hx
      obtain ⟨z, r, p, rfl, rfl⟩ := asOr_ok hx
      obtain ⟨h1, h2⟩ := and2 h
      exact pe_eq (se_or (sndE a h1 f) (tail_pe (pe_weak (sndE b h2 f)))) fun l st => by rw [evE]
    · cases h
  | .not a, md, sc, x, xc, κ, E, lv, X, h, f => by
    simp only [chkE] at h
    split at h
    · rename_i hx
      obtain ⟨p, rfl⟩ := asNot_ok hx
      exact pe_eq (se_not (sndE a h f)) fun l st => by rw [evE]
    · cases h
  | .ite c a b, md, sc, x, xc, κ, E, lv, X, h, f => by
    simp only [chkE] at h
    split at h
    · rename_i hx
      obtain ⟨p, rfl⟩ := asIte_ok hx
      obtain ⟨h1, h3⟩ := and2 h
      obtain ⟨h1, h2⟩ := and2 h1
      exact pe_weak (pe_eq (se_ite (sndT c h1 f) (sndE a h2 f) (sndE b h3 f)) fun l st => by rw [evE])
    · cases h
  | .ix a b, md, sc, x, xc, κ, E, lv, X, h, f => by
    simp only [chkE] at h
    split at h
    · rename_i hx
      obtain ⟨p, rfl⟩ := asIx_ok hx
      obtain ⟨h1, h3⟩ := and2 h
      obtain ⟨h1, h2⟩ := and2 h1
      exact pe_eq (se_ix f.un (plainIx_ok h1) (sndE a h2 f) (sndE b h3 f)) fun l st => by rw [evE]
    · cases h
  | .slc a lo hi, md, sc, x, xc, κ, E, lv, X, h, f => by
    simp only [chkE] at h
    split at h
    · rename_i hx
      obtain ⟨p, q, rfl⟩ := asSlc_ok hx
      obtain ⟨h1, h3⟩ := and2 h
      obtain ⟨h1, h2⟩ := and2 h1
      exact pe_eq (se_slc (sndE a h1 f) (sndO lo h2 f) (sndO hi h3 f)) fun l st => by rw [evE]
    · cases h
  | .rev a, md, sc, x, xc, κ, E, lv, X, h, f => by
    simp only [chkE] at h
    split at h
    · rename_i hx
      obtain ⟨k, p, q, rfl⟩ := asIsT_ok hx
      exact pe_eq (se_ist (sndE a h f)) fun l st => by rw [evE]
    · cases h
  | .isi a ts, md, sc, x, xc, κ, E, lv, X, h, f => by
    simp only [chkE] at h
    split at h
    · rename_i hx
      obtain ⟨p, q, rfl⟩ := asCall_ok hx
      obtain ⟨h1, h7⟩ := and2 h
      obtain ⟨h1, h6⟩ := and2 h1
      obtain ⟨h1, h5⟩ := and2 h1
      obtain ⟨h1, h4⟩ := and2 h1
      obtain ⟨h1, h3⟩ := and2 h1
      obtain ⟨h1, h2⟩ := and2 h1
      have e := of_decide_eq_true h1
      subst e
      exact pe_eq (isi_pe f (gl_ok f.hsc h2) h3 h4 h5 (sndE a h6 f) h7) fun l st => by rw [evE]
    · cases h
  | .isx t, md, sc, x, xc, κ, E, lv, X, h, f => by
    simp only [chkE] at h
    split at h
    · rename_i hx
      obtain ⟨p, q, rfl⟩ := asCall_ok hx
      obtain ⟨h1, h7⟩ := and2 h
      obtain ⟨h1, h6⟩ := and2 h1
      obtain ⟨h1, h5⟩ := and2 h1
      obtain ⟨h1, h4⟩ := and2 h1
      obtain ⟨h1, h3⟩ := and2 h1
      obtain ⟨h1, h2⟩ := and2 h1
      have e := of_decide_eq_true h1
      subst e
      split at h7
      · rename_i n i hn hi
        obtain ⟨pn, rfl⟩ := asNm_ok hn
        obtain ⟨ae, c, e1, e2, e3, e4⟩ := f.xs i hi
        subst e2
        refine pe_eq (se_isx (anc := P.anc) (t := t) f.glo e3 ?_ (gl_ok f.hsc h2) (f.bi _ (by decide)) e4 (var_pe f.hN f.hsc h7) e1 h5 (tg_pe f h6).1) fun l st => by rw [evE]; rfl
        cases t with
        | own k => exact h4
        | verr => rfl
        | _ => cases h3
      · cases h7
    · cases h
  | .call g es, md, sc, x, xc, κ, E, lv, X, h, f => by
    simp only [chkE] at h
    split at h
    · rename_i hx
      obtain ⟨p, q, rfl⟩ := asCall_ok hx
      obtain ⟨h1, h6⟩ := and2 h
      obtain ⟨h1, h5⟩ := and2 h1
      obtain ⟨h1, h4⟩ := and2 h1
      obtain ⟨h1, h3⟩ := and2 h1
      obtain ⟨h1, h2⟩ := and2 h1
      obtain ⟨a, fd, ps, e1, e2, e3, e4, e5⟩ := f.fn h1 g _ _ (of_decide_eq_true h3)
      exact pe_eq (se_call e5 (f.room h1) (gl_ok f.hsc h2) e1 e2 e3 f.px (sndEs es h6 f) (fun l st ds st' z => by rw [e4]; exact evEs_len es l st ds st' z) (nmOk_d h4).1 h5) fun l st => by rw [evE]
    · cases h
  | .thk g body, md, sc, x, xc, κ, E, lv, X, h, f => by
    simp only [chkE] at h
    split at h
    · rename_i hx
      obtain ⟨p, q, rfl⟩ := asCall_ok hx
      split at h
      · rename_i hy
        obtain ⟨lp, rfl⟩ := asLam_ok hy
        obtain ⟨h1, h4⟩ := and2 h
        obtain ⟨h1, h3⟩ := and2 h1
        obtain ⟨h1, h2⟩ := and2 h1
        refine pe_eq (f.lam h1 g _ (of_decide_eq_true h2) _ _ _ _ _ _ (frE body) (evE P F th xc body) h3 fun A outer s H E' f0 c' hr => ?_) fun l st => by rw [evE]
        have L := lamS_by (and2 (and2 h3).1).2
        exact sndE body h4 (fit_lam f L A outer s H E' f0 c' hr)
      · cases h
    · cases h
  | .frc, md, sc, x, xc, κ, E, lv, X, h, f => by
    simp only [chkE] at h
    split at h
    · rename_i hx
      obtain ⟨p, q, rfl⟩ := asCall_ok hx
      exact pe_eq (f.th _ (of_decide_eq_true h) _ _) fun l st => by rw [evE]
    · cases h
  | .bi b es, md, sc, x, xc, κ, E, lv, X, h, f => by
    unfold chkE at h
    rcases Bool.or_eq_true_iff.mp h with hh | hh
    · split at hh
      · rename_i a
        split at hh
        · rename_i y hx
          obtain ⟨p, p2, q, q2, rfl⟩ := asSset_ok hx
          obtain ⟨h1, h5⟩ := and2 hh
          obtain ⟨h1, h4⟩ := and2 h1
          obtain ⟨h1, h3⟩ := and2 h1
          obtain ⟨h1, h2⟩ := and2 h1
          have ha : PA X [y] (eA X κ (BXs κ E) (evEs P F th xc (.cons a .nil))) := pa_eq (sa_cons (sndE a h5 f) sa_nil (star_cons h4 _ _)) fun l st => by simp only [evEs]
          exact pe_eq (se_sset (f.calm h1) (gl_ok f.hsc h2) (f.bi _ (by decide)) (gl_ok f.hsc h3) (f.bi _ (by decide)) h4 ha) fun l st => by rw [evE]
        · cases hh
      · rename_i a
        split at hh
        · rename_i y hx
          obtain ⟨p, ap, cp, q, rfl, hl⟩ := asSitm_ok hx
          obtain ⟨h1, h4⟩ := and2 hh
          obtain ⟨h1, h3⟩ := and2 h1
          obtain ⟨h1, h2⟩ := and2 h1
          exact pe_eq (se_sitm (P := P) (f.calm h1) (gl_ok f.hsc h2) (f.bi _ (by decide)) h3 hl (sndE a h4 f)) fun l st => by rw [evE]; simp only [evEs]
        · cases hh
      · cases hh
    · replace h := hh
      split at h
      · rename_i hx
        obtain ⟨p, q, rfl⟩ := asCall_ok hx
        obtain ⟨h1, h6⟩ := and2 h
        obtain ⟨h1, h5⟩ := and2 h1
        obtain ⟨h1, h4⟩ := and2 h1
        obtain ⟨h1, h3⟩ := and2 h1
        obtain ⟨h1, h2⟩ := and2 h1
        have e := of_decide_eq_true h1
        subst e
        by_cases hb : b = .repr
        · subst hb
          have h4 : md.cm = true := by simpa [biHot2, biHot] using h4
          exact pe_eq (se_repr f.sy f.rp (f.room h4).g (by have := (f.room h4).r.un; omega) (gl_ok f.hsc h3) (f.bi _ (by decide)) h5 (sndEs es h6 f)) fun l st => by rw [evE]
        · by_cases hb2 : b = .dict
          · subst hb2
            have h4 : md.cm = true := by simpa [biHot2, biHot] using h4
            exact pe_eq (se_dict (f.calm h4) (gl_ok f.hsc h3) (f.bi _ (by decide)) h5 (sndEs es h6 f)) fun l st => by rw [evE]
          · by_cases hb3 : b = .sorted
            · subst hb3
              have h4 : md.cm = true := by simpa [biHot2, biHot] using h4
              exact pe_eq (se_sorted (f.calm h4) (gl_ok f.hsc h3) (f.bi _ (by decide)) h5 (sndEs es h6 f)) fun l st => by rw [evE]
            · exact pe_eq (se_bi b (by cases b <;> first | (cases h2; done) | (exact absurd rfl hb) | (exact absurd rfl hb2) | (exact absurd rfl hb3) | decide) (fun hh => f.calm (by simpa [biHot2, hh] using h4)) (gl_ok f.hsc h3) (f.bi _ (by cases b <;> decide)) h5 (sndEs es h6 f)) fun l st => by rw [evE]
      · cases h
  | .mt m o es, md, sc, x, xc, κ, E, lv, X, h, f => by
    simp only [chkE] at h
    split at h
    · rename_i ob nm ys hx
      obtain ⟨ap, cp, rfl, hl⟩ := asMt_ok hx
      obtain ⟨h1, h7⟩ := and2 h
      obtain ⟨h1, h6⟩ := and2 h1
      obtain ⟨h1, h5⟩ := and2 h1
      obtain ⟨h1, h4⟩ := and2 h1
      obtain ⟨h1, h3⟩ := and2 h1
      obtain ⟨h1, h2⟩ := and2 h1
      have e := of_decide_eq_true h1
      subst e
      cases ys with
      | nil =>
        cases es with
        | nil => exact pe_eq (se_mt0 f.un m h2 (fun z => by rcases z with z | z <;> (subst z; rfl)) h3 hl (sndE o h4 f)) fun l st => by rw [evE]; congr 1; funext x st; rw [evEs]
        | cons _ _ => simp only [chkEs] at h7; cases h7
      | cons y ys => exact pe_eq (se_mt f.un m h2 (fun z => by rcases z with z | z <;> (subst z; rfl)) h3 hl h5 (of_decide_eq_true h6) (sndE o h4 f) (sndEs es h7 f)) fun l st => by rw [evE]
    · cases h
  | .lc elt t it c, md, sc, x, xc, κ, E, lv, X, h, f => by
    simp only [chkE] at h
    split at h
    · rename_i hx
      obtain ⟨p, rfl⟩ := asLc_ok hx
      obtain ⟨h1, h8⟩ := and2 h
      obtain ⟨h1, h7⟩ := and2 h1
      obtain ⟨h1, h6⟩ := and2 h1
      obtain ⟨h1, h5⟩ := and2 h1
      obtain ⟨h1, h4⟩ := and2 h1
      obtain ⟨h1, h3⟩ := and2 h1
      obtain ⟨h1, h2⟩ := and2 h1
      have ok : BlkOk N sc _ _ := blkOk_by h3
      obtain ⟨o1, o2⟩ := own_tgt (of_decide_eq_true h8)
      refine pe_eq (se_lc (fe := frE elt) (f.calm h1) (by rw [f.hN]; exact f.nd) (sndI it h5 f) (by rw [f.hN, f.hsc]; exact ok) o1 o2 (fun s H C cl fp => ?_) (fun s H C cl fp => ?_) (fun s H C cl fp => ?_) h2) fun l st => by rw [evE]
      · exact tgt_pg (fit_blk f ok s H C cl fp) h1 h4
      · exact sndC c h6 (fit_blk f ok s H C cl fp)
      · exact sndE elt h7 (fit_blk f ok s H C cl fp)
    · cases h
  | .fmt es, md, sc, x, xc, κ, E, lv, X, h, f => by
    simp only [chkE] at h
    split at h
    · rename_i hx
      obtain ⟨v1, v2, r, p, rfl, rfl⟩ := asJn_ok hx
      exact pe_eq (se_fmt (sndFm es h f)) fun l st => by rw [evE]
    · cases h
  | .dic ks es, md, sc, x, xc, κ, E, lv, X, h, f => by
    simp only [chkE] at h
    split at h
    · rename_i keys values hx
      obtain ⟨p, rfl⟩ := asDic_ok hx
      obtain ⟨h1, h2⟩ := and2 h
      have hd := sndD (pos := p) es h2 (fit_up f)
      cases keys with
      | nil =>
        have hv := hd.len.1
        have hk := hd.len.2.1
        cases values with
        | cons _ _ => cases hv
        | nil =>
          cases ks with
          | cons _ _ => cases hk
          | nil =>
            cases es with
            | nil => exact pe_eq se_dic0 fun l st => by rw [evE]; simp only [evEs]
            | cons _ _ => simp only [chkD] at h2; cases h2
      | cons y ys =>
        have hk := hd.len.2.1
        cases ks with
        | nil => cases hk
        | cons k ks => exact pe_eq (se_dic (by simp) (of_decide_eq_true h1) hd) fun l st => by rw [evE]
    · cases h
  | .box a, md, sc, x, xc, κ, E, lv, X, h, f => by
    simp only [chkE] at h
    obtain ⟨h1, h2⟩ := and2 h
    have ha := sndE a h2 f
    rw [h1] at ha
    exact pe_eq (se_box ha) fun l st => by rw [evE]
  | .un u a, md, sc, x, xc, κ, E, lv, X, h, f => by
    simp only [chkE] at h
    cases u with
    | revt =>
      split at h
      · rename_i hx
        obtain ⟨k, p1, p2, p3, p4, rfl⟩ := asRevt_ok hx
        exact pe_eq (se_revt (sndE a h f)) fun l st => by rw [evE]
      · cases h
  | .mk c es, md, sc, x, xc, κ, E, lv, X, h, f => by
    simp only [chkE] at h
    split at h
    · rename_i n ys hx
      obtain ⟨p, q, rfl⟩ := asCall_ok hx
      obtain ⟨h, h5⟩ := and2 h
      obtain ⟨h, h4⟩ := and2 h
      obtain ⟨h, h3⟩ := and2 h
      obtain ⟨h1, h2⟩ := and2 h
      have hms := of_decide_eq_true h4
      have hcl := f.cl _ _ (of_decide_eq_true h2)
      split at h5
      · exact pe_eq (se_mk0 (f.mkf.mk0 c hms) hcl (f.mkf.keep c hms) (gl_ok f.hsc h1) (nmOk_d h3).1) fun l st => by rw [evE, evEs]; rfl
      · rename_i e y
        obtain ⟨h5, k4⟩ := and2 h5
        obtain ⟨h5, k3⟩ := and2 h5
        obtain ⟨k1, k2⟩ := and2 h5
        obtain ⟨g, hg⟩ := f.mkf.fl c (of_decide_eq_true k2)
        have hne : P.fld ≠ [] := fun z => by
          unfold Par.fl at hg
          rw [z] at hg
          cases hg
        exact pe_eq (se_mk1 hg (f.mkf.mk1 c g hg).1 (f.mkf.top hne) ((f.room k1).r.mono (Nat.zero_le _)) hcl (f.mkf.keep c hms) (gl_ok f.hsc h1) (nmOk_d h3).1 k3 (sndE e k4 f)) fun l st => by rw [evE, evEs]; cases hz : evE P F th xc e l st <;> simp [evEs, Res.bind]
      · cases h5
    · cases h
  | .mkv es, md, sc, x, xc, κ, E, lv, X, h, f => by
    simp only [chkE] at h
    split at h
    · rename_i n ys hx
      obtain ⟨p, q, rfl⟩ := asCall_ok hx
      obtain ⟨h, h5⟩ := and2 h
      obtain ⟨h1, h2⟩ := and2 h
      have hn := of_decide_eq_true h1
      subst hn
      split at h5
      · rename_i e y
        obtain ⟨k3, k4⟩ := and2 h5
        exact pe_eq (se_mkv (gl_ok f.hsc h2) (f.bi _ (by decide)) k3 (sndE e k4 f)) fun l st => by rw [evE, evEs]; cases hz : evE P F th xc e l st <;> simp [evEs, Res.bind]
      · cases h5
    · cases h
  | .fld a g, md, sc, x, xc, κ, E, lv, X, h, f => by
    simp only [chkE] at h
    split at h
    · rename_i y nm hx
      obtain ⟨p, rfl⟩ := asAtt_ok hx
      obtain ⟨h, h3⟩ := and2 h
      obtain ⟨h1, h2⟩ := and2 h
      have hn := of_decide_eq_true h1
      subst hn
      exact pe_eq ((se_fld (fun c hc => by
        obtain ⟨⟨fI, fd, y, T⟩, xf⟩ := f.mkf.mk1 c g hc
        exact ⟨xf, T.no⟩) h2 (sndE a h3 f))) fun l st => by rw [evE]
    · cases h
  | .lzip a b, md, sc, x, xc, κ, E, lv, X, h, f => by
    simp only [chkE] at h
    split at h
    · rename_i n z hx
      obtain ⟨p, q, rfl⟩ := asCall_ok hx
      split at h
      · rename_i n2 y1 y2 hx2
        obtain ⟨p2, q2, rfl⟩ := asCall_ok hx2
        obtain ⟨h, h9⟩ := and2 h
        obtain ⟨h, h8⟩ := and2 h
        obtain ⟨h, h7⟩ := and2 h
        obtain ⟨h, h6⟩ := and2 h
        obtain ⟨h, h5⟩ := and2 h
        obtain ⟨h, h4⟩ := and2 h
        obtain ⟨h, h3⟩ := and2 h
        obtain ⟨h1, h2⟩ := and2 h
        have e1 := of_decide_eq_true h2
        have e2 := of_decide_eq_true h4
        subst e1 e2
        exact pe_eq (se_lzip (f.calm h1) (gl_ok f.hsc h3) (f.bi _ (by decide)) (gl_ok f.hsc h5) (f.bi _ (by decide)) h6 h7 (sndE a h8 f) (sndE b h9 f)) fun l st => by rw [evE]
      · cases h
    · cases h
theorem sndT : ∀ (e : E) {md : Md} {sc : Scope} {x : Expr} {xc : Option Nat} {κ : Kx} {E : L2.St → XK} {lv : Nat} {X : Cx}, chkT G N md e sc x = true → Fit P G F th xc N md κ E sc lv X → PT X x (eT X κ (BXs κ E) (evT P F th xc e))
  | .and a b, md, sc, x, xc, κ, E, lv, X, h, f => by
    simp only [chkT] at h
    split at h
    · rename_i hx
      obtain ⟨z, r, p, rfl, rfl⟩ := asAnd_ok hx
      obtain ⟨h1, h2⟩ := and2 h
      exact pt_eq (PW.pt (sw_and (sndT a h1 f) (tail_and (sndT b h2 f)))) fun l st => by rw [evT]
    · cases h
  | .or a b, md, sc, x, xc, κ, E, lv, X, h, f => by
    simp only [chkT] at h
    split at h
    · rename_i hx
      obtain ⟨z, r, p, rfl, rfl⟩ := asOr_ok hx
      obtain ⟨h1, h2⟩ := and2 h
      exact pt_eq (PW.pt (sw_or (sndT a h1 f) (tail_or (sndT b h2 f)))) fun l st => by rw [evT]
    · cases h
  | .not a, md, sc, x, xc, κ, E, lv, X, h, f => by
    simp only [chkT] at h
    split at h
    · rename_i hx
      obtain ⟨p, rfl⟩ := asNot_ok hx
      exact pt_eq (st_not (sndT a h f)) fun l st => by rw [evT]
    · cases h
  | .cmp op a b, md, sc, x, xc, κ, E, lv, X, h, f => by
    simp only [chkT] at h
    split at h
    · rename_i hx
      obtain ⟨p, rfl⟩ := asCmp_ok hx
      obtain ⟨h1, h4⟩ := and2 h
      obtain ⟨h1, h3⟩ := and2 h1
      obtain ⟨h1, h2⟩ := and2 h1
      have e := of_decide_eq_true h1
      subst e
      exact pt_eq (st_cmp f.un op (noSet_in h2 _) (sndE a h3 f) (sndE b h4 f)) fun l st => by simp only [evT, evE]
    · cases h
  | .chn o1 o2 a b c, md, sc, x, xc, κ, E, lv, X, h, f => by
    simp only [chkT] at h
    split at h
    · rename_i hx
      obtain ⟨p, rfl⟩ := asChn_ok hx
      obtain ⟨h1, h6⟩ := and2 h
      obtain ⟨h1, h5⟩ := and2 h1
      obtain ⟨h1, h4⟩ := and2 h1
      obtain ⟨h1, h3⟩ := and2 h1
      obtain ⟨h1, h2⟩ := and2 h1
      have e := of_decide_eq_true h1
      have e' := of_decide_eq_true h2
      subst e e'
      exact pt_eq (st_chn f.un o1 o2 (noSet_in h3 _) (sndE a h4 f) (sndE b h5 f) (sndE c h6 f)) fun l st => by simp only [evT, evE]
    · cases h
  | .isn a, md, sc, x, xc, κ, E, lv, X, h, f => by
    simp only [chkT] at h
    split at h
    · rename_i hx
      obtain ⟨k, p, q, rfl⟩ := asIs_ok hx
      exact pt_eq (st_isn (sndE a h f)) fun l st => by simp only [evT, evE]
    · cases h
  | .nisn a, md, sc, x, xc, κ, E, lv, X, h, f => by
    simp only [chkT] at h
    split at h
    · rename_i hx
      obtain ⟨k, p, q, rfl⟩ := asIsN_ok hx
      exact pt_eq (st_nisn (sndE a h f)) fun l st => by simp only [evT, evE]
    · cases h
  | .v i, md, sc, x, xc, κ, E, lv, X, h, f => by
    simp only [chkT] at h
    split at h
    · rename_i hx
      obtain ⟨p, rfl⟩ := asNm_ok hx
      exact pt_eq (st_truth (se_var (var_pe f.hN f.hsc h)) (truePlain_ok rfl _)) fun l st => by simp only [evT, evE]
    · cases h
  | .bl b, md, sc, x, xc, κ, E, lv, X, h, f => by
    simp only [chkT] at h
    obtain ⟨k, p, rfl⟩ := asBl_ok (of_decide_eq_true h)
    exact pt_eq (st_truth (se_const (fr := true) pe_bl (fun _ _ _ => .bl _) rfl) (truePlain_ok rfl _)) fun l st => by simp only [evT, evE]
  | .ix a b, md, sc, x, xc, κ, E, lv, X, h, f => by
    simp only [chkT] at h
    split at h
    · rename_i hx
      obtain ⟨p, rfl⟩ := asIx_ok hx
      obtain ⟨h1, h3⟩ := and2 h
      obtain ⟨h1, h2⟩ := and2 h1
      exact pt_eq (st_truth (se_ix f.un (plainIx_ok h1) (sndE a h2 f) (sndE b h3 f)) (truePlain_ok rfl _)) fun l st => by simp only [evT, evE]
    · cases h
  | .isi a ts, md, sc, x, xc, κ, E, lv, X, h, f => by
    simp only [chkT] at h
    split at h
    · rename_i hx
      obtain ⟨p, q, rfl⟩ := asCall_ok hx
      obtain ⟨h1, h7⟩ := and2 h
      obtain ⟨h1, h6⟩ := and2 h1
      obtain ⟨h1, h5⟩ := and2 h1
      obtain ⟨h1, h4⟩ := and2 h1
      obtain ⟨h1, h3⟩ := and2 h1
      obtain ⟨h1, h2⟩ := and2 h1
      have e := of_decide_eq_true h1
      subst e
      exact pt_eq (st_truth (isi_pe (fr := true) f (gl_ok f.hsc h2) h3 h4 h5 (sndE a h6 f) h7) (truePlain_ok rfl _)) fun l st => by simp only [evT, evE]
    · cases h
  | .call g es, md, sc, x, xc, κ, E, lv, X, h, f => by
    simp only [chkT] at h
    split at h
    · rename_i hx
      obtain ⟨p, q, rfl⟩ := asCall_ok hx
      obtain ⟨h1, h6⟩ := and2 h
      obtain ⟨h1, h5⟩ := and2 h1
      obtain ⟨h1, h4⟩ := and2 h1
      obtain ⟨h1, h3⟩ := and2 h1
      obtain ⟨h1, h2⟩ := and2 h1
      obtain ⟨a, fd, ps, e1, e2, e3, e4, e5⟩ := f.fn h1 g _ _ (of_decide_eq_true h3)
      exact pt_eq (st_truth (se_call e5 (f.room h1) (gl_ok f.hsc h2) e1 e2 e3 f.px (sndEs es h6 f) (fun l st ds st' z => by rw [e4]; exact evEs_len es l st ds st' z) (nmOk_d h4).1 h5) (truePlain_ok rfl _)) fun l st => by simp only [evT, evE]
    · cases h
  | .bi b es, md, sc, x, xc, κ, E, lv, X, h, f => by
    simp only [chkT] at h
    split at h
    · rename_i hx
      obtain ⟨p, q, rfl⟩ := asCall_ok hx
      obtain ⟨h1, h6⟩ := and2 h
      obtain ⟨h1, h5⟩ := and2 h1
      obtain ⟨h1, h4⟩ := and2 h1
      obtain ⟨h1, h3⟩ := and2 h1
      obtain ⟨h1, h2⟩ := and2 h1
      have e := of_decide_eq_true h1
      subst e
      by_cases hb : b = .repr
      · subst hb
        have h4 : md.cm = true := by simpa [biHot2, biHot] using h4
        exact pt_eq (st_truth (se_repr (fr := false) (P := P) f.sy f.rp (f.room h4).g (by have := (f.room h4).r.un; omega) (gl_ok f.hsc h3) (f.bi _ (by decide)) h5 (sndEs es h6 f)) (truePlain_ok rfl _)) fun l st => by simp only [evT, evE]
      · by_cases hb2 : b = .dict
        · subst hb2
          have h4 : md.cm = true := by simpa [biHot2, biHot] using h4
          exact pt_eq (st_truth (se_dict (fr := false) (P := P) (f.calm h4) (gl_ok f.hsc h3) (f.bi _ (by decide)) h5 (sndEs es h6 f)) (truePlain_ok rfl _)) fun l st => by simp only [evT, evE]
        · by_cases hb3 : b = .sorted
          · subst hb3
            have h4 : md.cm = true := by simpa [biHot2, biHot] using h4
            exact pt_eq (st_truth (se_sorted (fr := false) (P := P) (f.calm h4) (gl_ok f.hsc h3) (f.bi _ (by decide)) h5 (sndEs es h6 f)) (truePlain_ok rfl _)) fun l st => by simp only [evT, evE]
          · exact pt_eq (st_truth (se_bi (fr := false) (P := P) b (by cases b <;> first | (cases h2; done) | (exact absurd rfl hb) | (exact absurd rfl hb2) | (exact absurd rfl hb3) | decide) (fun hh => f.calm (by simpa [biHot2, hh] using h4)) (gl_ok f.hsc h3) (f.bi _ (by cases b <;> decide)) h5 (sndEs es h6 f)) (truePlain_ok rfl _)) fun l st => by simp only [evT, evE]
    · cases h
  | .isx t, md, sc, x, xc, κ, E, lv, X, h, f => by
    simp only [chkT] at h
    split at h
    · rename_i hx
      obtain ⟨p, q, rfl⟩ := asCall_ok hx
      obtain ⟨h1, h7⟩ := and2 h
      obtain ⟨h1, h6⟩ := and2 h1
      obtain ⟨h1, h5⟩ := and2 h1
      obtain ⟨h1, h4⟩ := and2 h1
      obtain ⟨h1, h3⟩ := and2 h1
      obtain ⟨h1, h2⟩ := and2 h1
      have e := of_decide_eq_true h1
      subst e
      split at h7
      · rename_i n i hn hi
        obtain ⟨pn, rfl⟩ := asNm_ok hn
        obtain ⟨ae, c, e1, e2, e3, e4⟩ := f.xs i hi
        subst e2
        refine pt_eq (st_truth (se_isx (fr := false) (anc := P.anc) (t := t) f.glo e3 ?_ (gl_ok f.hsc h2) (f.bi _ (by decide)) e4 (var_pe f.hN f.hsc h7) e1 h5 (tg_pe f h6).1) (truePlain_ok rfl _)) fun l st => by simp only [evT, evE]; rfl
        cases t with
        | own k => exact h4
        | verr => rfl
        | _ => cases h3
      · cases h7
    · cases h
  | .non, md, sc, x, xc, κ, E, lv, X, h, f => by
    simp only [chkT] at h
    cases h
  | .int _, md, sc, x, xc, κ, E, lv, X, h, f => by
    simp only [chkT] at h
    cases h
  | .str _, md, sc, x, xc, κ, E, lv, X, h, f => by
    simp only [chkT] at h
    cases h
  | .g _, md, sc, x, xc, κ, E, lv, X, h, f => by
    simp only [chkT] at h
    cases h
  | .tup _, md, sc, x, xc, κ, E, lv, X, h, f => by
    simp only [chkT] at h
    cases h
  | .lst _, md, sc, x, xc, κ, E, lv, X, h, f => by
    simp only [chkT] at h
    cases h
  | .bin _ _ _, md, sc, x, xc, κ, E, lv, X, h, f => by
    simp only [chkT] at h
    cases h
  | .neg _, md, sc, x, xc, κ, E, lv, X, h, f => by
    simp only [chkT] at h
    cases h
  | .ite _ _ _, md, sc, x, xc, κ, E, lv, X, h, f => by
    simp only [chkT] at h
    cases h
  | .slc _ _ _, md, sc, x, xc, κ, E, lv, X, h, f => by
    simp only [chkT] at h
    cases h
  | .rev _, md, sc, x, xc, κ, E, lv, X, h, f => by
    simp only [chkT] at h
    cases h
  | .thk _ _, md, sc, x, xc, κ, E, lv, X, h, f => by
    simp only [chkT] at h
    cases h
  | .frc, md, sc, x, xc, κ, E, lv, X, h, f => by
    simp only [chkT] at h
    cases h
  | .mt _ _ _, md, sc, x, xc, κ, E, lv, X, h, f => by
    simp only [chkT] at h
    cases h
  | .lc _ _ _ _, md, sc, x, xc, κ, E, lv, X, h, f => by
    simp only [chkT] at h
    cases h
  | .fmt _, md, sc, x, xc, κ, E, lv, X, h, f => by
    simp only [chkT] at h
    cases h
  | .dic _ _, md, sc, x, xc, κ, E, lv, X, h, f => by
    simp only [chkT] at h
    cases h
  | .box _, md, sc, x, xc, κ, E, lv, X, h, f => by
    simp only [chkT] at h
    cases h
  | .un _ _, md, sc, x, xc, κ, E, lv, X, h, f => by
    simp only [chkT] at h
    cases h
  | .mk _ _, md, sc, x, xc, κ, E, lv, X, h, f => by
    simp only [chkT] at h
    cases h
  | .mkv _, md, sc, x, xc, κ, E, lv, X, h, f => by
    simp only [chkT] at h
    cases h
  | .fld _ _, md, sc, x, xc, κ, E, lv, X, h, f => by
    simp only [chkT] at h
    cases h
  | .lzip _ _, md, sc, x, xc, κ, E, lv, X, h, f => by
    simp only [chkT] at h
    cases h
  | .frz _, md, sc, x, xc, κ, E, lv, X, h, f => by
    simp only [chkT] at h
    cases h
theorem sndO : ∀ (e : Oe) {md : Md} {sc : Scope} {x : Option Expr} {xc : Option Nat} {κ : Kx} {E : L2.St → XK} {lv : Nat} {X : Cx}, chkO G N md e sc x = true → Fit P G F th xc N md κ E sc lv X → PO X x (eO X κ (BXs κ E) (evO P F th xc e))
  | .no, md, sc, x, xc, κ, E, lv, X, h, f => by
    cases x with
    | none => exact po_eq so_no fun l st => by rw [evO]
    | some x => cases h
  | .yes e, md, sc, x, xc, κ, E, lv, X, h, f => by
    cases x with
    | none => cases h
    | some x => simp only [chkO] at h; exact po_eq (so_yes (sndE e h f)) fun l st => by rw [evO]
theorem sndC : ∀ (e : Oe) {md : Md} {sc : Scope} {x : List Expr} {xc : Option Nat} {κ : Kx} {E : L2.St → XK} {lv : Nat} {X : Cx}, chkC G N md e sc x = true → Fit P G F th xc N md κ E sc lv X → PTs X x (eT X κ (BXs κ E) (evC P F th xc e))
  | .no, md, sc, x, xc, κ, E, lv, X, h, f => by
    cases x with
    | nil => exact pts_eq pts_yes fun l st => by rw [evC]
    | cons _ _ => cases h
  | .yes e, md, sc, x, xc, κ, E, lv, X, h, f => by
    simp only [chkC] at h
    split at h
    · exact pts_eq (pts_one (sndT e h f)) fun l st => by rw [evC]
    · cases h
theorem sndEs : ∀ (e : Es) {md : Md} {sc : Scope} {x : List Expr} {xc : Option Nat} {κ : Kx} {E : L2.St → XK} {lv : Nat} {X : Cx}, chkEs G N md e sc x = true → Fit P G F th xc N md κ E sc lv X → PA X x (eA X κ (BXs κ E) (evEs P F th xc e))
  | .nil, md, sc, x, xc, κ, E, lv, X, h, f => by
    cases x with
    | nil => exact pa_eq sa_nil fun l st => by rw [evEs]
    | cons _ _ => cases h
  | .cons e es, md, sc, x, xc, κ, E, lv, X, h, f => by
    cases x with
    | nil => cases h
    | cons y ys =>
      simp only [chkEs] at h
      obtain ⟨h1, h3⟩ := and2 h
      obtain ⟨h1, h2⟩ := and2 h1
      exact pa_eq (sa_cons (sndE e h2 f) (sndEs es h3 f) (star_cons h1 _ _)) fun l st => by rw [evEs]
theorem sndFm : ∀ (e : Es) {md : Md} {sc : Scope} {x : List Expr} {xc : Option Nat} {κ : Kx} {E : L2.St → XK} {lv : Nat} {X : Cx}, chkFm G N md e sc x = true → Fit P G F th xc N md κ E sc lv X → FmOk X κ (BXs κ E) x (evFm P F th xc e)
  | .nil, md, sc, x, xc, κ, E, lv, X, h, f => by
    cases x with
    | nil => exact fm_eq fm_nil fun a l st => by rw [evFm]
    | cons _ _ => cases h
  | .cons e es, md, sc, x, xc, κ, E, lv, X, h, f => by
    cases x with
    | nil => cases h
    | cons y ys =>
      simp only [chkFm] at h
      obtain ⟨h1, h2⟩ := and2 h
      split at h2
      · rename_i z hz
        obtain ⟨p, rfl⟩ := asFv_ok hz
        exact fm_eq (fm_fv (sndE e h2 f) (sndFm es h1 f)) fun a l st => by rw [evFm]
      · split at h2
        · obtain ⟨k, p, rfl⟩ := asS_ok (of_decide_eq_true h2)
          exact fm_eq (fm_str (se_const (fr := true) pe_str (fun _ _ _ => .str _) rfl) (sndFm es h1 f)) fun a l st => by rw [evFm, evE]
        · cases h2
theorem sndI : ∀ (e : It) {md : Md} {sc : Scope} {tg x : Expr} {xc : Option Nat} {κ : Kx} {E : L2.St → XK} {lv : Nat} {X : Cx}, chkI G N md e sc tg x = true → Fit P G F th xc N md κ E sc lv X → PI X tg x (eI X κ (BXs κ E) (evI P F th xc e))
  | .seq a, md, sc, tg, x, xc, κ, E, lv, X, h, f => by
    simp only [chkI] at h
    exact pi_eq (si_seq (sndE a h f)) fun l st => by rw [evI]
  | .rng a, md, sc, tg, x, xc, κ, E, lv, X, h, f => by
    simp only [chkI] at h
    split at h
    · rename_i hx
      obtain ⟨p, q, rfl⟩ := asCall_ok hx
      obtain ⟨h1, h4⟩ := and2 h
      obtain ⟨h1, h3⟩ := and2 h1
      obtain ⟨h1, h2⟩ := and2 h1
      have e := of_decide_eq_true h1
      subst e
      exact pi_eq (si_rng (gl_ok f.hsc h2) (f.bi _ (by decide)) h3 (sndE a h4 f)) fun l st => by rw [evI]
    · cases h
  | .rng2 a b, md, sc, tg, x, xc, κ, E, lv, X, h, f => by
    simp only [chkI] at h
    split at h
    · rename_i hx
      obtain ⟨p, q, rfl⟩ := asCall_ok hx
      obtain ⟨h1, h6⟩ := and2 h
      obtain ⟨h1, h5⟩ := and2 h1
      obtain ⟨h1, h4⟩ := and2 h1
      obtain ⟨h1, h3⟩ := and2 h1
      obtain ⟨h1, h2⟩ := and2 h1
      have e := of_decide_eq_true h1
      subst e
      exact pi_eq (si_rng2 (gl_ok f.hsc h2) (f.bi _ (by decide)) h3 h4 (sndE a h5 f) (sndE b h6 f)) fun l st => by rw [evI]
    · cases h
  | .zip a b, md, sc, tg, x, xc, κ, E, lv, X, h, f => by
    simp only [chkI] at h
    split at h
    · rename_i hx
      obtain ⟨p, q, rfl⟩ := asCall_ok hx
      obtain ⟨h1, h7⟩ := and2 h
      obtain ⟨h1, h6⟩ := and2 h1
      obtain ⟨h1, h5⟩ := and2 h1
      obtain ⟨h1, h4⟩ := and2 h1
      obtain ⟨h1, h3⟩ := and2 h1
      obtain ⟨h1, h2⟩ := and2 h1
      obtain ⟨xs, ht⟩ := Option.isSome_iff_exists.mp h1
      obtain ⟨kk, tp, rfl⟩ := asTup_ok ht
      have e := of_decide_eq_true h2
      subst e
      exact pi_eq (si_zip (gl_ok f.hsc h3) (f.bi _ (by decide)) h4 h5 (sndE a h6 f) (sndE b h7 f)) fun l st => by rw [evI]
    · cases h
  | .enm a, md, sc, tg, x, xc, κ, E, lv, X, h, f => by
    simp only [chkI] at h
    split at h
    · rename_i hx
      obtain ⟨p, q, rfl⟩ := asCall_ok hx
      obtain ⟨h1, h5⟩ := and2 h
      obtain ⟨h1, h4⟩ := and2 h1
      obtain ⟨h1, h3⟩ := and2 h1
      obtain ⟨h1, h2⟩ := and2 h1
      obtain ⟨xs, ht⟩ := Option.isSome_iff_exists.mp h1
      obtain ⟨kk, tp, rfl⟩ := asTup_ok ht
      have e := of_decide_eq_true h2
      subst e
      exact pi_eq (si_enm (gl_ok f.hsc h3) (f.bi _ (by decide)) h4 (sndE a h5 f)) fun l st => by rw [evI]
    · cases h
  | .itm a, md, sc, tg, x, xc, κ, E, lv, X, h, f => by
    simp only [chkI] at h
    cases h
theorem sndD : ∀ (e : Es) {md : Md} {ks : List DKey} {sc : Scope} {keys : List (Option Expr)} {values : List Expr} {xc : Option Nat} {κ : Kx} {E : L2.St → XK} {lv : Nat} {X : Cx} {pos : Pos}, chkD G N md e ks sc keys values = true → Fit P G F th xc N md κ E sc lv X → SD X κ (BXs κ E) pos keys values ks (evEs P F th xc e)
  | .nil, md, ks, sc, keys, values, xc, κ, E, lv, X, pos, h, f => by
    simp only [chkD, Bool.and_eq_true, List.isEmpty_iff] at h
    obtain ⟨⟨rfl, rfl⟩, rfl⟩ := h
    exact sd_eq sd_nil fun l st => by rw [evEs]
  | .cons e es, md, ks, sc, keys, values, xc, κ, E, lv, X, pos, h, f => by
    simp only [chkD] at h
    split at h
    · obtain ⟨h1, h3⟩ := and2 h
      obtain ⟨h1, h2⟩ := and2 h1
      obtain ⟨y, rfl, hy⟩ := key_pe (X := X) h1
      exact sd_eq (sd_cons hy (sndE e h2 f) (sndD es h3 f)) fun l st => by rw [evEs]
    · cases h
end
end
end Pm

set_option Elab.async false
set_option linter.all false
set_option maxRecDepth 100000
set_option maxHeartbeats 16000000
/-! Ev28: what is checked is sound: statements. -/
namespace Pm
open PySem PySem.Spec PyProof.Rows L2 LamX
set_option autoImplicit false

def nmsOf : List Expr → Option (List Str)
  | [] => some []
  | .Name x _ :: r => (nmsOf r).map (x :: ·)
  | _ => none
/-- where a value is stored under a name: the comprehension within, or no comprehension -/
def setOk (sc : Scope) (y : Str) (py : Pos) (v : Expr) : Bool := match v with
  | .ListComp _ _ scope p => !swLc sc scope y py p
  | v => notComp v
def lcIn (sc : Scope) (y : Str) (py : Pos) (v : Expr) : Bool := match v with
  | .ListComp _ _ scope p => swLc sc scope y py p && decide (sc.names.lookup y = some .local)
  | _ => false
def simp1 : S → Bool
  | .ret _ => true
  | .ex _ => true
  | .asg (.nm _) (.lc _ _ _ _) => false
  | .asg (.nm _) (.box (.lc _ _ _ _)) => false
  | .asg _ _ => true
  | _ => false
/-- what is stored under a tuple of names is never stored within -/
def tupSw (v : Expr) : Bool := notComp v || (match v with
  | .ListComp _ _ _ _ => true
  | _ => false)
theorem tupSw_sole {ts : List Expr} {k : Nat} {p : Pos} {v : Expr} (h : tupSw v = true) (n : Nat) (env : Env) : swapsWithSole [.Tuple ts k p] v n env = pure false := by
  cases v <;> first | rfl | cases h
abbrev suiMd (md : Md) (i : Nat) : Md := { md with cm := false, lm := false, th := none, xs := some i, fxs := i :: md.fxs }
abbrev tryMd (md : Md) : Md := { md with lm := false }
def noSwap (sc : Scope) (tg v : Expr) : Bool := match tg, v with
  | .Tuple ts _ _, .Tuple vs _ _ => match swp sc ts vs with
    | .no => true
    | _ => false
  | .List _ _, .Tuple _ _ _ => false
  | _, _ => true
def swYes (sc : Scope) (ts vs : List Expr) (ns : List Str) : Bool := match swp sc ts vs with
  | .yes ms => decide (ms = ns)
  | _ => false
section
variable (G : Gd) (N : List Str)
mutual
def chkS (md : Md) (s : S) (sc : Scope) (x : Stmt) : Bool := match s with
  | .pass => match x with
    | .Pass _ => true
    | _ => false
  | .asg t e => match t with
    | .nm i => match x with
      | .Assign [.Name y py] v _ => stoOk N sc md i y && (match e with
        | .lc elt t it c => if lcIn sc y py v = true then chkE G N md (.lc elt t it c) sc v else setOk sc y py v && chkE G N md (.lc elt t it c) sc v
        | .box (.lc elt t it c) => lcIn sc y py v && chkE G N md (.lc elt t it c) sc v
        | e => setOk sc y py v && chkE G N md e sc v)
      | _ => false
    | .tp is => match x with
      | .Assign [.Tuple ts k p] v _ => md.cm && tgtOk N sc md (.tp is) (.Tuple ts k p) && tupSw v && noSwap sc (.Tuple ts k p) v && chkE G N md e sc v
      | _ => false
  | .par is es => match x with
    | .Assign [.Tuple [.Name a pa, .Name b pb] _ _] (.Tuple [u, v] _ _) _ => md.cm && swYes sc [.Name a pa, .Name b pb] [u, v] [a, b] && (match is with
      | [i, j] => stoOk N sc md i a && stoOk N sc md j b && decide (i ≠ j) && decide (sc.names.lookup a = some .local) && decide (sc.names.lookup b = some .local) && chkEs G N md es sc [u, v]
      | _ => false)
    | .Assign [.Tuple [.Name a pa, .Name b pb, .Name c pc] _ _] (.Tuple [u, v, w] _ _) _ => md.cm && swYes sc [.Name a pa, .Name b pb, .Name c pc] [u, v, w] [a, b, c] && (match is with
      | [i, j, k] => stoOk N sc md i a && stoOk N sc md j b && stoOk N sc md k c && decide (i ≠ j) && decide (i ≠ k) && decide (j ≠ k) && decide (sc.names.lookup a = some .local) && decide (sc.names.lookup b = some .local) && decide (sc.names.lookup c = some .local) && chkEs G N md es sc [u, v, w]
      | _ => false)
    | _ => false
  | .aug i op e => match x with
    | .AugAssign (.Name y _) o v _ => stoOk N sc md i y && decide (o = opA op) && chkE G N md e sc v
    | _ => false
  | .sub o i e => match x with
    | .Assign [.Subscript a b _] v _ => notComp v && plainIx b && chkE G N md o sc a && chkE G N md i sc b && chkE G N md e sc v
    | _ => false
  | .ex e => match x with
    | .Expr v _ => notComp v && chkE G N md e sc v
    | _ => false
  | .ret e => match x with
    | .Return (some v) _ => chkE G N md e sc v
    | _ => false
  | .retn => match x with
    | .Return none _ => true
    | _ => false
  | .iff c a b => match x with
    | .If t p q _ => chkT G N md c sc t && chkSs md a sc p && chkSs md b sc q
    | _ => false
  | .for t it b => match x with
    | .For tg iter p [] _ => md.cm && noSet iter && chkI G N md it sc tg iter && tgtOk N sc md t tg && chkSs md b sc p
    | _ => false
  | .whl c b => match x with
    | .While t p [] _ => chkT G N md c sc t && chkSs md b sc p
    | _ => false
  | .rse c es => match x with
    | .Raise (some (.Call (.Name n _) [] [] _)) none _ => md.cm && decide (c < G.cl.length ∧ c ∈ G.rs) && glOk sc n && decide (G.cl[c]? = some n) && nmOk n && (match es with
      | .nil => true
      | _ => false)
    | _ => false
  | .try (.cons s .nil) c i h => match x with
    | .Try [s0] [.ExceptHandler (some (.Name n _)) (some y) (h0 :: hs) _] [] [] _ => simp1 s && chkS (tryMd md) s sc s0 && md.cm && !md.blk && glOk sc n && nmOk n && decide (c < G.cl.length) && decide (G.cl[c]? = some n) && decide (N[i]? = some y) && decide (sc.names.lookup y = some .local) && !md.fxs.contains i && md.xs.isNone && chkSs (suiMd md i) h sc (h0 :: hs)
    | _ => false
  | .try _ _ _ _ => false
termination_by structural s
def chkSs (md : Md) (s : Ss) (sc : Scope) (x : List Stmt) : Bool := match s with
  | .nil => x.isEmpty
  | .cons s ss => match x with
    | y :: ys => chkS md s sc y && chkSs md ss sc ys
    | [] => false
termination_by structural s
end
end

/-- what is known of the own classes of errors -/
structure ExF (P : Par) (G : Gd) (κ : Kx) (K : PySem.W.Frag) : Prop where
  mkE : ∀ c, c < G.cl.length ∧ c ∈ G.rs → ∃ (bmB : List Value) (Bs newId initId : String), ExcBaseFacts Bs newId initId bmB ∧ PySem.W.excIn K (κ.cl c) bmB newId = true ∧ PySem.W.keepIn K (.ref (κ.cl c)) = true ∧
    PySem.W.subIn K (.ref (κ.cl c)) (.type "BaseException") = some true ∧ PySem.W.typeIn K (.ref (κ.cl c)) = some (.type "type")
  exE : ∀ c, c < G.cl.length → ∀ k, k < P.ncl → PySem.W.exmOne K (.ref (κ.cl k)) (.ref (κ.cl c)) = some ((P.anc k).contains c)
  isE : ∀ c, c < P.ncl → ExcC K (κ.cl c)
  len : P.ncl = G.cl.length
/-- what a context of statements must be -/
structure FitS (P : Par) (G : Gd) (F : FnSem) (tm : M) (xc : Option Nat) (N : List Str) (md : Md) (κ : Kx) (W : WX) (sc : Scope) (lv : Nat) (X : Cx) : Prop extends Fit P G F tm xc N md κ (WE W) sc lv X where
  tk : Takes X W
  ef : ExF P G κ X.K
  stk : md.cm = true → X.stack = X.env :: X.outer ∧ X.env.frame = some X.env.locals
  po : PassesOwn (model X.prog X.w) X.A X.env X.xe
  thT : ∀ (W' : WX) (pn : List (Addr × Obj)) (xe : Value → Shared → Prop) (x : Str), Takes (X.tr pn xe) W' → md.th = some x → ∀ p p2, PE (X.tr pn xe) (.Call (.Name x p) [] [] p2) (eE (X.tr pn xe) κ (BXs κ (WE W')) false fun _ st => tm st)

theorem swLc_no {elt : Expr} {gs : List Comprehension} {scope : Scope} {pos py : Pos} {y : Str} {l : Nat} {env : Env} (hk : env.scope.kind = .function) (h : swLc env.scope scope y py pos = false) : swapsWith (.ListComp elt gs scope pos) (some (.Name y py)) l env = pure false := by
  have hb : env.blockKind = .function := by unfold Env.blockKind; rw [hk]; rfl
  unfold swapsWith
  have e : (env.blockKind == ScopeKind.function && env.kindOf y == some .local && py.line == pos.line && !(scope.names.any fun (n, k) => n == y && (k == .local || k == .cell))) = false := by
    rw [hb]
    unfold swLc at h
    have h1 : (env.kindOf y == some NameKind.local) = decide (env.scope.names.lookup y = some .local) := by
      show (env.scope.names.lookup y == some NameKind.local) = _
      by_cases q : env.scope.names.lookup y = some .local
      · rw [q]; rfl
      · rw [decide_eq_false q]; exact beq_eq_false_iff_ne.mpr q
    rw [h1]
    simpa using h
  simp only [Expr.pos]
  exact congrArg pure e
theorem setOk_sw {env : Env} (hk : env.scope.kind = .function) {y : Str} {py : Pos} {v : Expr} (h : setOk env.scope y py v = true) (l : Nat) : swapsWith v (some (.Name y py)) l env = pure false := by
  unfold setOk at h
  split at h
  · exact swLc_no hk (by simpa using h)
  · exact notComp_sw h _ _ _
theorem noSwap_ok {env : Env} (hk : env.scope.kind = .function) {tg v : Expr} (h : noSwap env.scope tg v = true) : swappedStores [tg] v env = pure none := by
  unfold noSwap at h
  split at h
  · split at h
    · exact swp_no hk (by assumption)
    · cases h
  · cases h
  · rename_i h1 h2
    apply swp_other
    split
    · exact (h1 _ _ _ _ _ _ rfl rfl).elim
    · exact (h2 _ _ _ _ _ rfl rfl).elim
    · rfl
theorem swYes_ok {sc : Scope} {ts vs : List Expr} {ns : List Str} (h : swYes sc ts vs ns = true) : swp sc ts vs = .yes ns := by
  unfold swYes at h
  split at h
  · rename_i ms e
    rw [e, of_decide_eq_true h]
  · cases h
theorem tgt_one {X : Cx} {N : List Str} {sc : Scope} {md : Md} {is : List Nat} {ts : List Expr} {k : Nat} {p : Pos} : (assignEach [.Tuple ts k p] X.env).map (·.2) = [assign (.Tuple ts k p) X.env] := rfl
section
variable {X : Cx} {κ : Kx} {B : L2.St → XW}
theorem ps_eq {e : Stmt} {m m' : Loc → Store → Res Flow} (h : PS X e (eS X κ B m)) (k : ∀ l st, m' l st = m l st) : PS X e (eS X κ B m') := by
  have : m' = m := by funext l st; exact k l st
  rw [this]; exact h
theorem pss_eq {e : List Stmt} {m m' : Loc → Store → Res Flow} (h : PSs X e (eS X κ B m)) (k : ∀ l st, m' l st = m l st) : PSs X e (eS X κ B m') := by
  have : m' = m := by funext l st; exact k l st
  rw [this]; exact h
theorem go_nx (r : Res Flow) : (r.bind fun f st => f.go (fun l => .ok (.nx l) st) st) = r := by
  cases r with
  | ok f st => cases f <;> rfl
  | exc c fs st => rfl
  | bad => rfl
theorem tseq_next {D : Ends} : ({ D with nx := tNext D } : Ends) = D := rfl
end
section
variable {P : Par} {G : Gd} {F : FnSem} {th : M} {xc : Option Nat} {N : List Str} {md : Md} {κ : Kx} {W : WX} {sc : Scope} {lv : Nat} {X : Cx}
theorem fit_tr (f : FitS P G F th xc N md κ W sc lv X) (hx : md.xs = none) {W' : WX} {pn : List (Addr × Obj)} {xe : Value → Shared → Prop} (tk : Takes (X.tr pn xe) W') (po : PassesOwn (model X.prog X.w) X.A X.env xe) : FitS P G F th xc N (tryMd md) κ W' sc lv (X.tr pn xe) where
  hN := f.hN
  nd := f.nd
  hsc := f.hsc
  kind := f.kind
  fnc := f.fnc
  calm := f.calm
  un := f.un
  bi := f.bi
  fx := f.fx
  fn := f.fn
  room := f.room
  cn := f.cn
  cl := f.cl
  glo := f.glo
  rp := f.rp
  mkf := ⟨f.mkf.keep, f.mkf.mk0, f.mkf.fl, f.mkf.mk1, f.mkf.top, f.mkf.ncl⟩
  sy := f.sy
  px := fun σ => passAt tk σ
  th := fun x h p p2 => f.thT W' pn xe x tk h p p2
  xs := fun i h => by rw [show (tryMd md).xs = none from hx] at h; cases h
  lam := fun h => nomatch h
  tk := tk
  ef := f.ef
  stk := f.stk
  po := po
  thT := fun W2 pn2 xe2 x tk2 h p p2 => f.thT W2 pn2 xe2 x tk2 h p p2
theorem fit_sui (f : FitS P G F th xc N md κ W sc lv X) {i : Nat} {a : Addr} {oe : Obj} {k : Nat} {pn : List (Addr × Obj)} (hk : k < P.ncl) (hz : Zc (.ref (κ.cl k)) none oe) (hv : ∃ vs, oe.data = .fields vs) :
    FitS P G F th (some k) N (suiMd md i) (κ.put i a) (fun _ _ _ _ => False) sc lv (X.suite a ((a, oe) :: pn)) where
  hN := f.hN
  nd := f.nd
  hsc := f.hsc
  kind := f.kind
  fnc := f.fnc
  calm := fun h => nomatch h
  un := f.un
  bi := f.bi
  fx := by show i :: κ.fx.map (·.1) = i :: md.fxs; rw [f.fx]
  fn := fun h => nomatch h
  room := fun h => nomatch h
  cn := f.cn
  cl := f.cl
  glo := ⟨f.glo.ownT, f.glo.ownE, f.glo.verr, f.glo.exc, f.glo.vown⟩
  rp := f.rp
  mkf := ⟨f.mkf.keep, f.mkf.mk0, f.mkf.fl, f.mkf.mk1, f.mkf.top, f.mkf.ncl⟩
  sy := f.sy
  px := fun σ => passAt takes0 σ
  th := fun _ h => nomatch h
  xs := fun j hj => by
    cases hj
    exact ⟨a, k, List.mem_cons_self .., rfl, by rw [← f.ef.len]; exact hk, call_isE (f.ef.isE k hk) hz hv⟩
  lam := fun h => nomatch h
  tk := takes0
  ef := ⟨f.ef.mkE, f.ef.exE, f.ef.isE, f.ef.len⟩
  stk := fun h => nomatch h
  po := PassesOwn.never
  thT := fun _ _ _ _ _ h => nomatch h
end
end Pm

set_option Elab.async false
set_option linter.all false
set_option maxRecDepth 100000
set_option maxHeartbeats 16000000
/-! Ev29: what is checked is sound: statements, the recursion. -/
namespace Pm
open PySem PySem.Spec PyProof.Rows L2 LamX
set_option autoImplicit false

section
variable {P : Par} {G : Gd} {F : FnSem} {th : M} {N : List Str}
/-- y = e -/
theorem set_ps {xc : Option Nat} {md : Md} {κ : Kx} {W : WX} {sc : Scope} {lv : Nat} {X : Cx} {e : E} {i : Nat} {y : Str} {py pos : Pos} {v : Expr} (f : FitS P G F th xc N md κ W sc lv X) (h1 : stoOk N sc md i y = true) (h2 : setOk sc y py v = true) (h3 : chkE G N md e sc v = true) :
    PS X (.Assign [.Name y py] v pos) (eS X κ (BXs κ (WE W)) (evS P F th (.asg (.nm i) e) xc)) := by
  obtain ⟨s1, s2⟩ := sto_ok f.toFit h1
  exact ps_eq (sp_set s2 (by rw [f.hN]; exact f.nd) s1 (sndE e h3 f.toFit) (setOk_sw (by rw [f.hsc]; exact f.kind) (by rw [f.hsc]; exact h2) _)) fun l st => by rw [evS]
/-- y = [..], stored within -/
theorem setLc_ps {xc : Option Nat} {md : Md} {κ : Kx} {W : WX} {sc : Scope} {lv : Nat} {X : Cx} {elt : E} {t : T} {it : It} {c : Oe} {i : Nat} {y : Str} {py pos : Pos} {v : Expr} (f : FitS P G F th xc N md κ W sc lv X) (h1 : stoOk N sc md i y = true) (h2 : lcIn sc y py v = true) (h3 : chkE G N md (.lc elt t it c) sc v = true) :
    PS X (.Assign [.Name y py] v pos) (eS X κ (BXs κ (WE W)) (evS P F th (.asg (.nm i) (.lc elt t it c)) xc)) := by
  obtain ⟨s1, s2⟩ := sto_ok f.toFit h1
  simp only [chkE] at h3
  split at h3
  · rename_i z tg iter ifs scope hx
    obtain ⟨p, rfl⟩ := asLc_ok hx
    obtain ⟨h3, g8⟩ := and2 h3
    obtain ⟨h3, g7⟩ := and2 h3
    obtain ⟨h3, g6⟩ := and2 h3
    obtain ⟨h3, g5⟩ := and2 h3
    obtain ⟨h3, g4⟩ := and2 h3
    obtain ⟨h3, g3⟩ := and2 h3
    obtain ⟨h3, g2⟩ := and2 h3
    have ok : BlkOk N sc _ _ := blkOk_by g3
    obtain ⟨o1, o2⟩ := own_tgt (of_decide_eq_true g8)
    obtain ⟨k1, k2⟩ := and2 h2
    have hsw := swLc_ok (elt := z) (gs := [⟨tg, iter, ifs, 0⟩]) (pos := p) (l := pos.line) (env := X.env) (by rw [f.hsc]; exact f.kind) (by rw [f.hsc]; exact k1)
    have hr := sp_setLc (spos := pos) (py := py) (fe := frE elt) (f.calm h3) (by rw [f.hN]; exact f.nd) s1.1 (by rw [f.hsc]; exact of_decide_eq_true k2) hsw (sndI it g5 f.toFit) (by rw [f.hN, f.hsc]; exact ok) o1 o2
      (fun s H C cl fp => tgt_pg (fit_blk f.toFit ok s H C cl fp) h3 g4) (fun s H C cl fp => sndC c g6 (fit_blk f.toFit ok s H C cl fp)) (fun s H C cl fp => sndE elt g7 (fit_blk f.toFit ok s H C cl fp)) g2
    exact ps_eq (sp_lc s2 hr) fun l st => by rw [evS, evE]
  · cases h3
/-- the same, put into the store -/
theorem setLcB_ps {xc : Option Nat} {md : Md} {κ : Kx} {W : WX} {sc : Scope} {lv : Nat} {X : Cx} {elt : E} {t : T} {it : It} {c : Oe} {i : Nat} {y : Str} {py pos : Pos} {v : Expr} (f : FitS P G F th xc N md κ W sc lv X) (h1 : stoOk N sc md i y = true) (h2 : lcIn sc y py v = true) (h3 : chkE G N md (.lc elt t it c) sc v = true) :
    PS X (.Assign [.Name y py] v pos) (eS X κ (BXs κ (WE W)) (evS P F th (.asg (.nm i) (.box (.lc elt t it c))) xc)) := by
  obtain ⟨s1, s2⟩ := sto_ok f.toFit h1
  simp only [chkE] at h3
  split at h3
  · rename_i z tg iter ifs scope hx
    obtain ⟨p, rfl⟩ := asLc_ok hx
    obtain ⟨h3, g8⟩ := and2 h3
    obtain ⟨h3, g7⟩ := and2 h3
    obtain ⟨h3, g6⟩ := and2 h3
    obtain ⟨h3, g5⟩ := and2 h3
    obtain ⟨h3, g4⟩ := and2 h3
    obtain ⟨h3, g3⟩ := and2 h3
    obtain ⟨h3, g2⟩ := and2 h3
    have ok : BlkOk N sc _ _ := blkOk_by g3
    obtain ⟨o1, o2⟩ := own_tgt (of_decide_eq_true g8)
    obtain ⟨k1, k2⟩ := and2 h2
    have hsw := swLc_ok (elt := z) (gs := [⟨tg, iter, ifs, 0⟩]) (pos := p) (l := pos.line) (env := X.env) (by rw [f.hsc]; exact f.kind) (by rw [f.hsc]; exact k1)
    have hr := sp_setLcB (spos := pos) (py := py) (fe := frE elt) (f.calm h3) (by rw [f.hN]; exact f.nd) s1.1 (by rw [f.hsc]; exact of_decide_eq_true k2) hsw (sndI it g5 f.toFit) (by rw [f.hN, f.hsc]; exact ok) o1 o2
      (fun s H C cl fp => tgt_pg (fit_blk f.toFit ok s H C cl fp) h3 g4) (fun s H C cl fp => sndC c g6 (fit_blk f.toFit ok s H C cl fp)) (fun s H C cl fp => sndE elt g7 (fit_blk f.toFit ok s H C cl fp)) g2
    exact ps_eq (sp_lc s2 hr) fun l st => by rw [evS, evE, evE]
  · cases h3
mutual
theorem sndS : ∀ (s : S) {md : Md} {sc : Scope} {x : Stmt} {xc : Option Nat} {κ : Kx} {W : WX} {lv : Nat} {X : Cx}, chkS G N md s sc x = true → FitS P G F th xc N md κ W sc lv X → (simp1 s = false → ∀ σ σ', BXs κ (WE W) σ = BXs κ (WE W) σ') → PS X x (eS X κ (BXs κ (WE W)) (evS P F th s xc))
  | .pass, md, sc, x, xc, κ, W, lv, X, h, f, hB => by
    simp only [chkS] at h
    split at h
    · exact ps_eq sp_pass fun l st => by rw [evS]
    · cases h
  | .asg (.nm i) e, md, sc, x, xc, κ, W, lv, X, h, f, hB => by
    simp only [chkS] at h
    split at h
    · obtain ⟨h1, h2⟩ := and2 h
      split at h2
      · split at h2
        · rename_i elt t it c hlc
          exact setLc_ps f h1 (by assumption) h2
        · obtain ⟨h3, h4⟩ := and2 h2
          exact set_ps f h1 h3 h4
      · obtain ⟨h3, h4⟩ := and2 h2
        exact setLcB_ps f h1 h3 h4
      · obtain ⟨h3, h4⟩ := and2 h2
        exact set_ps f h1 h3 h4
    · cases h
  | .asg (.tp is) e, md, sc, x, xc, κ, W, lv, X, h, f, hB => by
    simp only [chkS] at h
    split at h
    · obtain ⟨h1, h5⟩ := and2 h
      obtain ⟨h1, h4⟩ := and2 h1
      obtain ⟨h1, h3⟩ := and2 h1
      obtain ⟨h1, h2⟩ := and2 h1
      exact ps_eq (sp_asg (tgt_pg f.toFit h1 h2) (sndE e h5 f.toFit) (tupSw_sole h3 _ _) (noSwap_ok (by rw [f.hsc]; exact f.kind) (by rw [f.hsc]; exact h4)) rfl) fun l st => by rw [evS]
    · cases h
  | .par is es, md, sc, x, xc, κ, W, lv, X, h, f, hB => by
    simp only [chkS] at h
    split at h
    · obtain ⟨h1, h3⟩ := and2 h
      obtain ⟨h1, h2⟩ := and2 h1
      split at h3
      · obtain ⟨h3, h9⟩ := and2 h3
        obtain ⟨h3, h8⟩ := and2 h3
        obtain ⟨h3, h7⟩ := and2 h3
        obtain ⟨h3, h6⟩ := and2 h3
        obtain ⟨h3, h4⟩ := and2 h3
        obtain ⟨s1, s2⟩ := sto_ok f.toFit h3
        obtain ⟨t1, t2⟩ := sto_ok f.toFit h4
        exact ps_eq (sp_par2 (by intro n hn; simp only [List.mem_cons, List.not_mem_nil, or_false] at hn; rcases hn with e | e <;> rw [e] <;> assumption) (f.calm h1) (by rw [f.hN]; exact f.nd) s1.1 t1.1 (of_decide_eq_true h6) (by rw [f.hsc]; exact of_decide_eq_true h7) (by rw [f.hsc]; exact of_decide_eq_true h8) (sndEs es h9 f.toFit) (by rw [f.hsc]; exact f.kind) (by rw [f.hsc]; exact swYes_ok h2)) fun l st => by rw [evS]
      · cases h3
    · obtain ⟨h1, h3⟩ := and2 h
      obtain ⟨h1, h2⟩ := and2 h1
      split at h3
      · obtain ⟨h3, g9⟩ := and2 h3
        obtain ⟨h3, g8⟩ := and2 h3
        obtain ⟨h3, g7⟩ := and2 h3
        obtain ⟨h3, g6⟩ := and2 h3
        obtain ⟨h3, g5⟩ := and2 h3
        obtain ⟨h3, g4⟩ := and2 h3
        obtain ⟨h3, g3⟩ := and2 h3
        obtain ⟨h3, g2⟩ := and2 h3
        obtain ⟨h3, g1⟩ := and2 h3
        obtain ⟨s1, s2⟩ := sto_ok f.toFit h3
        obtain ⟨t1, t2⟩ := sto_ok f.toFit g1
        obtain ⟨u1, u2⟩ := sto_ok f.toFit g2
        exact ps_eq (sp_par3 (by intro n hn; simp only [List.mem_cons, List.not_mem_nil, or_false] at hn; rcases hn with e | e | e <;> rw [e] <;> assumption) (f.calm h1) (by rw [f.hN]; exact f.nd) s1.1 t1.1 u1.1 (of_decide_eq_true g3) (of_decide_eq_true g4) (of_decide_eq_true g5) (by rw [f.hsc]; exact of_decide_eq_true g6) (by rw [f.hsc]; exact of_decide_eq_true g7) (by rw [f.hsc]; exact of_decide_eq_true g8) (sndEs es g9 f.toFit) (by rw [f.hsc]; exact f.kind) (by rw [f.hsc]; exact swYes_ok h2)) fun l st => by rw [evS]
      · cases h3
    · cases h
  | .aug i op e, md, sc, x, xc, κ, W, lv, X, h, f, hB => by
    simp only [chkS] at h
    split at h
    · obtain ⟨h1, h3⟩ := and2 h
      obtain ⟨h1, h2⟩ := and2 h1
      obtain ⟨s1, s2⟩ := sto_ok f.toFit h1
      have e := of_decide_eq_true h2
      subst e
      exact ps_eq (sp_aug op s2 (by rw [f.hN]; exact f.nd) s1 (sndE _ h3 f.toFit)) fun l st => by rw [evS]
    · cases h
  | .sub o i e, md, sc, x, xc, κ, W, lv, X, h, f, hB => by
    simp only [chkS] at h
    split at h
    · obtain ⟨h1, h5⟩ := and2 h
      obtain ⟨h1, h4⟩ := and2 h1
      obtain ⟨h1, h3⟩ := and2 h1
      obtain ⟨h1, h2⟩ := and2 h1
      exact ps_eq (sp_sub (by have := f.un; omega) h1 h2 (sndE o h3 f.toFit) (sndE i h4 f.toFit) (sndE e h5 f.toFit)) fun l st => by rw [evS]
    · cases h
  | .ex e, md, sc, x, xc, κ, W, lv, X, h, f, hB => by
    simp only [chkS] at h
    split at h
    · obtain ⟨h1, h2⟩ := and2 h
      exact ps_eq (sp_ex h1 (sndE e h2 f.toFit)) fun l st => by rw [evS]
    · cases h
  | .ret e, md, sc, x, xc, κ, W, lv, X, h, f, hB => by
    simp only [chkS] at h
    split at h
    · exact ps_eq (sp_ret (sndE e h f.toFit)) fun l st => by rw [evS]
    · cases h
  | .retn, md, sc, x, xc, κ, W, lv, X, h, f, hB => by
    simp only [chkS] at h
    split at h
    · exact ps_eq sp_retn fun l st => by rw [evS]
    · cases h
  | .iff c a b, md, sc, x, xc, κ, W, lv, X, h, f, hB => by
    simp only [chkS] at h
    split at h
    · obtain ⟨h1, h3⟩ := and2 h
      obtain ⟨h1, h2⟩ := and2 h1
      exact ps_eq (sp_iff (sndT c h1 f.toFit) (sndSs a h2 f (hB rfl)) (sndSs b h3 f (hB rfl))) fun l st => by rw [evS]
    · cases h
  | .for t it b, md, sc, x, xc, κ, W, lv, X, h, f, hB => by
    simp only [chkS] at h
    split at h
    · obtain ⟨h1, h5⟩ := and2 h
      obtain ⟨h1, h4⟩ := and2 h1
      obtain ⟨h1, h3⟩ := and2 h1
      obtain ⟨h1, h2⟩ := and2 h1
      exact ps_eq (sp_for (hB rfl) f.po (f.calm h1) (sndI it h3 f.toFit) (tgt_pg f.toFit h1 h4) (sndSs b h5 f (hB rfl)) h2) fun l st => by rw [evS]
    · cases h
  | .whl c b, md, sc, x, xc, κ, W, lv, X, h, f, hB => by
    simp only [chkS] at h
    split at h
    · obtain ⟨h1, h2⟩ := and2 h
      exact ps_eq (sp_whl (n := P.fuel) (hB rfl) f.po (sndT c h1 f.toFit) (sndSs b h2 f (hB rfl))) fun l st => by rw [evS]
    · cases h
  | .rse c es, md, sc, x, xc, κ, W, lv, X, h, f, hB => by
    simp only [chkS] at h
    split at h
    · obtain ⟨h1, h6⟩ := and2 h
      obtain ⟨h1, h5⟩ := and2 h1
      obtain ⟨h1, h4⟩ := and2 h1
      obtain ⟨h1, h3⟩ := and2 h1
      obtain ⟨h1, h2⟩ := and2 h1
      obtain ⟨bmB, Bs, n1, n2, k1, k2, k3, k4, k5⟩ := f.ef.mkE c (of_decide_eq_true h2)
      split at h6
      · exact ps_eq (sp_rse (κ := κ) (C := c) (W := W) k1 k2 (f.cl c _ (of_decide_eq_true h4)) k3 (raises_own k4 k5) (gl_ok f.hsc h3) (nmOk_d h5).1 (f.calm h1) f.tk (fun σ c d H z => z)) fun l st => by rw [evS, evEs]; rfl
      · cases h6
    · cases h
  | .try (.cons s .nil) c i hd, md, sc, x, xc, κ, W, lv, X, h, f, hB => by
    simp only [chkS] at h
    split at h
    · obtain ⟨h1, g10⟩ := and2 h
      obtain ⟨h1, g9⟩ := and2 h1
      obtain ⟨h1, g8⟩ := and2 h1
      obtain ⟨h1, g7⟩ := and2 h1
      obtain ⟨h1, g6⟩ := and2 h1
      obtain ⟨h1, g5⟩ := and2 h1
      obtain ⟨h1, g4⟩ := and2 h1
      obtain ⟨h1, g3⟩ := and2 h1
      obtain ⟨h1, g2⟩ := and2 h1
      obtain ⟨h1, g1⟩ := and2 h1
      obtain ⟨h1, g0⟩ := and2 h1
      · obtain ⟨q1, q2⟩ := and2 h1
        have hxs : md.xs = none := by simpa using g9
        have hstk := f.stk g0
        have hfx : i ∉ κ.fx.map (·.1) := by rw [f.fx]; simpa using g8
        refine ps_eq (sp_try (P := P) hstk.1 hstk.2 (by rw [f.hN]; exact f.nd) (by rw [f.hN]; exact of_decide_eq_true g6) (by show X.env.scope.names.lookup _ = _; rw [f.hsc]; exact of_decide_eq_true g7)
          ⟨gl_ok f.hsc g2, (nmOk_d g3).1, .inl (f.cl c _ (of_decide_eq_true g5))⟩ f.tk hfx (f.ef.exE c (of_decide_eq_true g4))
          (mb := evSs P F th (.cons s .nil) xc) (mh := fun k => evSs P F th hd (some k)) (fun W' pn xe tk po => ?_) (fun a oe k pn hk hz hv => ?_)) fun l st => by rw [evS]
        · have hs := sndS s q2 (fit_tr f hxs tk po) (fun z => by rw [q1] at z; cases z)
          have hp := pss_one hs
          refine pss_eq (PSs.imp hp fun D σ H q => q) fun l st => ?_
          rw [evSs]
          have e : (fun (l : Loc) (st : Store) => evSs P F th .nil xc l st) = fun l st => .ok (.nx l) st := by funext l st; rw [evSs]
          rw [show (fun f st => Flow.go f (fun l => evSs P F th .nil xc l st) st) = (fun f st => Flow.go f (fun l => .ok (.nx l) st) st) from by simp only [evSs]]
          exact go_nx _
        · exact sndSs hd g10 (fit_sui f hk hz hv) (fun _ _ => rfl)
    · cases h
  | .try .nil c i hd, md, sc, x, xc, κ, W, lv, X, h, f, hB => by
    simp only [chkS] at h
    cases h
  | .try (.cons s (.cons s2 ss)) c i hd, md, sc, x, xc, κ, W, lv, X, h, f, hB => by
    simp only [chkS] at h
    cases h
theorem sndSs : ∀ (s : Ss) {md : Md} {sc : Scope} {x : List Stmt} {xc : Option Nat} {κ : Kx} {W : WX} {lv : Nat} {X : Cx}, chkSs G N md s sc x = true → FitS P G F th xc N md κ W sc lv X → (∀ σ σ', BXs κ (WE W) σ = BXs κ (WE W) σ') → PSs X x (eS X κ (BXs κ (WE W)) (evSs P F th s xc))
  | .nil, md, sc, x, xc, κ, W, lv, X, h, f, hB => by
    cases x with
    | nil => exact pss_eq ss_nil fun l st => by rw [evSs]
    | cons _ _ => simp only [chkSs] at h; cases h
  | .cons s ss, md, sc, x, xc, κ, W, lv, X, h, f, hB => by
    cases x with
    | nil => simp only [chkSs] at h; cases h
    | cons y ys =>
      simp only [chkSs] at h
      obtain ⟨h1, h2⟩ := and2 h
      exact pss_eq (ss_cons hB (sndS s h1 f (fun _ => hB)) (sndSs ss h2 f hB)) fun l st => by rw [evSs]
end
end
end Pm

set_option Elab.async false
set_option linter.all false
set_option maxRecDepth 100000
set_option maxHeartbeats 16000000
/-! Ev30: the defs, by level. -/
namespace Pm
open PySem PySem.Spec PyProof.Rows L2 LamX
set_option autoImplicit false

/-- a def of the text -/
structure Fd where
  x : Str
  ps : List Str
  N : List Str
  params : Arguments
  body : List Stmt
  scope : Scope
  lm : Bool
abbrev md0 (lm : Bool) : Md := { cm := true, lm := lm, fxs := [], th := none, xs := none, blk := false }
def chkFd (P : Par) (G : Gd) (i : Nat) (d : Fd) : Bool := match P.funs i with
  | some fn => decide (fn.nps = d.ps.length) && decide (fn.nsl = d.N.length) && chkSs G d.N (md0 d.lm) fn.body d.scope d.body
  | none => false

/-- what is known of the module -/
structure Mf (P : Par) (G : Gd) (κ : Kx) (K : PySem.W.Frag) (mg : Str → Option Value) (base : Heap) (prog : Program) : Prop where
  bi : ∀ x, x ∈ biNames → mg x = none
  cn : ∀ i x, G.cn[i]? = some x → ∃ u v, mg x = some u ∧ RelV v u ∧ ∀ (K' : Kit), K'.K = K → ∀ ρ H, RelD K' ρ H (P.consts i) v
  cl : ∀ i x, G.cl[i]? = some x → mg x = some (.ref (κ.cl i))
  glo : Glo κ K P.anc G.cl.length
  rp : RpOk P
  mkf : MkF P G κ K prog
  sy : SysB base
  ef : ExF P G κ K
/-- a def's place -/
def At1 (K : PySem.W.Frag) (mg : Str → Option Value) (d : Fd) : Prop := ∃ f fd, mg d.x = some (.ref f) ∧ FunD K d.x d.x d.params d.body d.scope [] [] f fd ∧ Binds K fd d.ps []

section
variable {P : Par} {G : Gd} {κ : Kx} {prog : Program} {w : World} {K : PySem.W.Frag} {mg : Str → Option Value} {base : Heap} {ds : List Fd}
/-- the locals at a def's entry -/
theorem start_rel {h : Nat} {ρ : Rho} {H : Hp} {N : List Str} {dd : List D} {vs : List V} {nsl : Nat} (hn : nsl = N.length) (hl : vs.length ≤ N.length) (r : RelDs ⟨κ.base h, K⟩ ρ H dd vs) :
    RelL ⟨κ.base h, K⟩ ρ H (dd.map some ++ List.replicate (nsl - dd.length) none) (L2.start N vs) := by
  have e := r.length
  refine ⟨by unfold L2.start; simp; omega, fun i d hd => ?_, fun p hp => nomatch hp⟩
  have hi : i < dd.length := by
    by_cases hi : i < dd.length
    · exact hi
    · rw [List.getElem?_append_right (by simpa using hi)] at hd
      rw [List.getElem?_replicate] at hd
      split at hd
      · cases hd
      · cases hd
  rw [List.getElem?_append_left (by simpa using hi), List.getElem?_map] at hd
  obtain ⟨d', h1, h2⟩ := Option.map_eq_some_iff.mp hd
  cases h2
  obtain ⟨v, h3, h4⟩ := r.get h1
  refine ⟨v, ?_, h4⟩
  unfold L2.start
  rw [List.getElem?_append_left (by rw [List.length_map, ← e]; exact hi), List.getElem?_map, h3]; rfl
theorem ends_end {K : Kit} {B : XW} {ρ : Rho} {H : Hp} {r : Res Flow} {Q : VK} (q : EndG K B (RE K false) ρ H (r.bind fun f st => f.ends st) Q) : EndS K B ρ H r { nx := fun _ H' => Q .non H', rt := Q } := by
  cases r with
  | bad => exact q
  | exc c fs st => exact q
  | ok f st =>
    cases f with
    | nx l => exact fun ρ' σ' H' x a => q ρ' .non H' x a.sim ⟨.non, fun z => nomatch z⟩
    | rt d => exact fun ρ' v H' x s r => q ρ' v H' x s ⟨r, fun z => nomatch z⟩
    | bk l => exact q.elim
    | ct l => exact q.elim
/-- a def's frame -/
theorem fit_fn (M0 : Mf P G κ K mg base prog) {lv h : Nat} {d : Fd} {f : Addr} {cdv : Value} {A : Around} {outer : List Env} {s : Shared} {H : Hp} {E : XK} (S : FnScope d.N d.ps d.scope)
    (hfn : ∀ i x n, G.fn[i]? = some (x, n) → ∃ f fd ps, mg x = some (.ref f) ∧ PySem.W.keepIn K (.ref f) = true ∧ Binds K fd ps [] ∧ ps.length = n ∧ FnG prog w K mg base (L2.CX prog w) (3 * lv) f fd ps (spD κ K ps fun ds st => evF P lv i ds (fun _ => .bad) st))
    (hr : RoomG (3 * lv + 2) (A.deeper (envOfC d.x d.scope s.heap.objs.size f cdv))) {th : M}
    (hlam : d.lm = true → ∀ i x, (i, x) ∈ G.lm → ∀ (params : Arguments) (body : Expr) (scope : Scope) (lpos p pos : Pos) (fb : Bool) (mb : Loc → Store → Res D), lamOk d.scope x params scope = true →
      (∀ (A' : Around) (outer' : List Env) (s' : Shared) (H' : Hp) (E' : XK) (f' c' : Addr), RoomG (3 * lv) (A'.deeper (lamEnv (cxOf (L2.CX prog w) prog w K mg base d.N d.x d.scope f cdv A outer s H E) scope s'.heap.objs.size f' c')) →
        PE (lamCx (cxOf (L2.CX prog w) prog w K mg base d.N d.x d.scope f cdv A outer s H E) A' outer' s' H' E' scope f' c') body (tE ⟨κ.base h, K⟩ (fun _ => BX (κ.base h) E') fb mb)) →
      PE (cxOf (L2.CX prog w) prog w K mg base d.N d.x d.scope f cdv A outer s H E) (.Call (.Name x p) [.Lambda params body scope lpos] [] pos) (eE (cxOf (L2.CX prog w) prog w K mg base d.N d.x d.scope f cdv A outer s H E) (κ.base h) (BXs (κ.base h) (WE fun cls d _ H' => E cls d H')) false fun l st => (evF P lv i [] (mb l) st).calm)) :
    FitS P G (evF P lv) th none d.N (md0 d.lm) (κ.base h) (fun cls d _ H' => E cls d H') d.scope (3 * lv) (cxOf (L2.CX prog w) prog w K mg base d.N d.x d.scope f cdv A outer s H E) where
  hN := rfl
  nd := S.nd
  hsc := rfl
  kind := S.kind
  fnc := fun _ _ _ => rfl
  calm := fun _ => rfl
  un := by have := hr.r.un; show (A.deeper _).units + 64 < cLine; omega
  bi := M0.bi
  fx := rfl
  fn := fun _ => hfn
  room := fun _ => hr.mono (by omega)
  cn := M0.cn
  cl := M0.cl
  glo := ⟨M0.glo.ownT, M0.glo.ownE, M0.glo.verr, M0.glo.exc, M0.glo.vown⟩
  rp := M0.rp
  mkf := ⟨M0.mkf.keep, M0.mkf.mk0, M0.mkf.fl, M0.mkf.mk1, M0.mkf.top, M0.mkf.ncl⟩
  sy := M0.sy
  px := fun σ => passAt (W := fun cls d _ H' => E cls d H') (takes_of rfl rfl rfl rfl) σ
  th := fun _ h => nomatch h
  xs := fun _ h => nomatch h
  lam := hlam
  tk := takes_of rfl rfl rfl rfl
  ef := ⟨M0.ef.mkE, M0.ef.exE, M0.ef.isE, M0.ef.len⟩
  stk := fun _ => ⟨rfl, rfl⟩
  po := passes_of rfl
  thT := fun _ _ _ _ _ h => nomatch h
/-- all defs keep what the evaluator tells, at every level -/
theorem fn_all (M0 : Mf P G κ K mg base prog) (hP : ∀ (i : Nat) (d : Fd), ds[i]? = some d → FnScope d.N d.ps d.scope ∧ d.ps.length ≤ d.N.length) (hA : ∀ (i : Nat) (d : Fd), ds[i]? = some d → At1 K mg d)
    (hG : ∀ (i : Nat) (x : Str) (n : Nat), G.fn[i]? = some (x, n) → ∃ d : Fd, ds[i]? = some d ∧ d.x = x ∧ d.ps.length = n)
    (hlam : ∀ (lv : Nat), (∀ m, m ≤ lv → ∀ i x n, G.fn[i]? = some (x, n) → ∃ f fd ps, mg x = some (.ref f) ∧ PySem.W.keepIn K (.ref f) = true ∧ Binds K fd ps [] ∧ ps.length = n ∧ FnG prog w K mg base (L2.CX prog w) (3 * m) f fd ps (spD κ K ps fun ds st => evF P m i ds (fun _ => .bad) st)) →
      ∀ (j h : Nat) (d : Fd), ds[j]? = some d → d.lm = true → ∀ (f : Addr) (cdv : Value) (A : Around) (outer : List Env) (s : Shared) (H : Hp) (E : XK), RoomG (3 * lv + 2) (A.deeper (envOfC d.x d.scope s.heap.objs.size f cdv)) → PySem.W.codeIn K cdv d.x = true → mg d.x = some (.ref f) → (∃ (oc : Value) (od : Option Addr) (fd : FuncData) (osl : Array (Option Value)), K.lookup f = some ⟨oc, od, .func fd, osl⟩ ∧ fd.code = cdv) →
      ∀ i x, (i, x) ∈ G.lm → ∀ (params : Arguments) (body : Expr) (scope : Scope) (lpos p pos : Pos) (fb : Bool) (mb : Loc → Store → Res D), lamOk d.scope x params scope = true →
      (∀ (A' : Around) (outer' : List Env) (s' : Shared) (H' : Hp) (E' : XK) (f' c' : Addr), RoomG (3 * lv) (A'.deeper (lamEnv (cxOf (L2.CX prog w) prog w K mg base d.N d.x d.scope f cdv A outer s H E) scope s'.heap.objs.size f' c')) →
        PE (lamCx (cxOf (L2.CX prog w) prog w K mg base d.N d.x d.scope f cdv A outer s H E) A' outer' s' H' E' scope f' c') body (tE ⟨κ.base h, K⟩ (fun _ => BX (κ.base h) E') fb mb)) →
      PE (cxOf (L2.CX prog w) prog w K mg base d.N d.x d.scope f cdv A outer s H E) (.Call (.Name x p) [.Lambda params body scope lpos] [] pos) (eE (cxOf (L2.CX prog w) prog w K mg base d.N d.x d.scope f cdv A outer s H E) (κ.base h) (BXs (κ.base h) (WE fun cls d _ H' => E cls d H')) false fun l st => (evF P lv i [] (mb l) st).calm))
    (hsp : ∀ (lv : Nat), (∀ m, m ≤ lv → ∀ i x n, G.fn[i]? = some (x, n) → ∃ f fd ps, mg x = some (.ref f) ∧ PySem.W.keepIn K (.ref f) = true ∧ Binds K fd ps [] ∧ ps.length = n ∧ FnG prog w K mg base (L2.CX prog w) (3 * m) f fd ps (spD κ K ps fun ds st => evF P m i ds (fun _ => .bad) st)) →
      ∀ (i : Nat) (d : Fd), ds[i]? = some d → chkFd P G i d = false → ∀ (f : Addr) (fd : FuncData), mg d.x = some (.ref f) → FunD K d.x d.x d.params d.body d.scope [] [] f fd → FnG prog w K mg base (L2.CX prog w) (3 * (lv + 1)) f fd d.ps (spD κ K d.ps fun ds st => evF P (lv + 1) i ds (fun _ => .bad) st)) :
    ∀ (lv : Nat) (i : Nat) (x : Str) (n : Nat), G.fn[i]? = some (x, n) → ∃ f fd ps, mg x = some (.ref f) ∧ PySem.W.keepIn K (.ref f) = true ∧ Binds K fd ps [] ∧ ps.length = n ∧
      FnG prog w K mg base (L2.CX prog w) (3 * lv) f fd ps (spD κ K ps fun ds st => evF P lv i ds (fun _ => .bad) st)
  | 0, i, x, n, hi => by
    obtain ⟨d, h1, rfl, h3⟩ := hG i x n hi
    obtain ⟨f, fd, g1, g2, g3⟩ := hA i d h1
    refine ⟨f, fd, d.ps, g1, g2.kp, g3, h3, ⟨fun vs H Q E q => q.1, fun A outer s H args us vs Q E hr he hb hv hs => ?_⟩⟩
    obtain ⟨_, h, ρ, dd, st, _, _, q⟩ := hs
    exact q.elim
  | lv + 1, i, x, n, hi => by
    have ihs : ∀ m, m ≤ lv → _ := fun m hm => fn_all M0 hP hA hG hlam hsp m
    have ih := ihs lv (Nat.le_refl _)
    obtain ⟨d, h1, rfl, h3⟩ := hG i x n hi
    obtain ⟨f, fd, g1, g2, g3⟩ := hA i d h1
    obtain ⟨c2, c3⟩ := hP i d h1
    cases c1 : chkFd P G i d with
    | false => exact ⟨f, fd, d.ps, g1, g2.kp, g3, h3, hsp lv ihs i d h1 c1 f fd g1 g2⟩
    | true =>
    unfold chkFd at c1
    split at c1
    · rename_i fn hfn
      obtain ⟨k1, k3⟩ := and2 c1
      obtain ⟨k1, k2⟩ := and2 k1
      refine ⟨f, fd, d.ps, g1, g2.kp, g3, h3, ?_⟩
      obtain ⟨oc, od, dV, kV, doc, pm, an, cdv, ct, osl, rfl, lk, hcd, _, _⟩ := g2.ex
      refine fn_ofG lk hcd c2 (fun vs H Q E q => q.1) fun A outer s H vs Q E hr hsp => ?_
      obtain ⟨hl, h, ρ, dd, st, s0, rr, q⟩ := hsp
      have F := fit_fn (th := fun _ => .bad) (h := h) M0 (f := f) (cdv := cdv) (A := A) (outer := outer) (s := s) (H := H) (E := E) c2 ih hr (fun hlm => hlam lv ihs i h d h1 hlm f cdv A outer s H E hr hcd g1 ⟨_, _, _, _, lk, rfl⟩)
      refine ⟨_, sndSs fn.body k3 F (fun _ _ => rfl), ?_⟩
      have q' : EndG ⟨κ.base h, K⟩ (BX κ E) (RE ⟨κ.base h, K⟩ false) ρ H (optR (P.funs i) fun fn => if dd.length = fn.nps then (evSs P (evF P lv) (fun _ => .bad) fn.body none (dd.map some ++ List.replicate (fn.nsl - fn.nps) none) st).bind fun r st => r.ends st else .bad) Q := q
      rw [hfn] at q'
      simp only [optR] at q'
      have e1 := of_decide_eq_true k1
      have e2 := of_decide_eq_true k2
      have hdl : dd.length = fn.nps := by rw [rr.length, hl, e1]
      rw [if_pos hdl] at q'
      refine ⟨ρ, dd.map some ++ List.replicate (fn.nsl - fn.nps) none, st, ⟨s0, ?_, fun p hp => nomatch hp⟩, ends_end q'⟩
      rw [← hdl]
      exact start_rel e2 (by rw [hl]; exact c3) rr
    · cases c1
termination_by lv => lv
end
end Pm

set_option Elab.async false
set_option linter.all false
set_option maxRecDepth 100000
set_option maxHeartbeats 16000000
/-! Ev31: the law's def. -/
namespace Pm
open PySem PySem.Spec PyProof.Rows L2 LamX
set_option autoImplicit false

theorem cx_false {P : Program} {w : World} {outer : List Env} {H : Hp} {s : Shared} {e : Value} {s' : Shared} (x : L2.CX P w outer H s (fun _ _ _ => False) e s') : False := by
  unfold L2.CX at x
  obtain ⟨_, _, _, _, _, _, _, _, _, _, _, _, z⟩ := x
  exact z
theorem only_scr {K : PySem.W.Frag} {H : Hp} {a : Addr} {ns : List Int} (o : Only H) (h : SqL K H a (ns.map V.int)) : SqF K H a (ns.map V.int) := by
  rcases h with (h | ⟨u, h⟩) | h
  · exfalso
    rcases o a with z | ⟨u, v, z⟩
    · rw [h] at z; cases z
    · rw [h] at z; cases z
  · exact .inl ⟨u, h⟩
  · exact .inr (.inr h)
theorem law_of {κ : Kx} {prog : Program} {w : World} {K : PySem.W.Frag} {mg : Str → Option Value} {base : Heap} {k : Nat} {f : Addr} {fd : FuncData} {ps : List Str} {m : List D → Store → Res D}
    (F : FnG prog w K mg base (L2.CX prog w) k f fd ps (spD κ K ps m)) (hps : ps.length = 1) (hT : κ.T = []) (hm : ∀ ns : List Int, ns.length ≤ 63 → ∃ st, m [.scr ns] [] = .ok (.bl true) st) :
    FnG prog w K mg base L2.CX0 k f fd ps (fun vs H Q _ => ∃ (a : Addr) (ns : List Int), vs = [.ref a] ∧ ns.length ≤ 63 ∧ Only H ∧ SqL K H a (ns.map V.int) ∧ ∀ H', Q (.bl true) H') := by
  refine ⟨fun vs H Q E ⟨a, ns, e, _⟩ => by rw [e, hps]; rfl, fun A outer s H args us vs Q E hr he hb hv ⟨a, ns, e, hl, ho, hS, hQ⟩ => ?_⟩
  subst e
  obtain ⟨st, hst⟩ := hm ns hl
  have sp : spD κ K ps m [.ref a] H Q (fun _ _ _ => False) := by
    refine ⟨by rw [hps]; rfl, 0, [], [.scr ns], [], ?_, .cons (.scr (only_scr ho hS)) .nil, ?_⟩
    · exact {
        len := rfl
        inj := fun n m a h => by simp at h
        ob := fun n o h => by simp at h
        hd := fun n a h => absurd h (Nat.not_lt_zero _)
        tab := by rw [show (({ κ with T := κ.T } : Kx).T) = [] from hT]; exact fun p hp => nomatch hp
        cd := fun p hp => nomatch hp }
    · rw [hst]
      exact fun ρ' v H' _ _ r => by
        obtain ⟨r, _⟩ := r
        cases r
        exact hQ H'
  refine codeAny_mono (F.run A outer s H args us [.ref a] Q (fun _ _ _ => False) hr he hb hv sp) fun r s' hq => ?_
  cases r with
  | error e => exact (cx_false hq).elim
  | ok fl => cases fl <;> exact hq
end Pm

set_option Elab.async false
set_option linter.all false
set_option maxRecDepth 100000
set_option maxHeartbeats 16000000
/-! Ev32: the def that is handed a lambda. -/
namespace Pm
open PySem PySem.Spec PyProof.Rows L2 LamX
set_option autoImplicit false

abbrev mdG (a : Str) : Md := { cm := true, lm := false, fxs := [0], th := some a, xs := none, blk := false }
def chkGd (P : Par) (G : Gd) (i : Nat) (d : Fd) (a : Str) : Bool := match P.funs i with
  | some fn => decide (fn.nps = 0) && decide (fn.nsl = d.N.length) && decide (d.ps = [a]) && chkSs G d.N (mdG a) fn.body d.scope d.body
  | none => false
/-- the frame in the def that was handed f -/
abbrev Kx.gave (κ : Kx) (h : Nat) (f c' : Addr) (q : Str) (ρ : Rho) (H : Hp) : Kx := { T := κ.T, fx := [(0, f)], cd := [(c', CodeO c' q)], en := [(ρ, H)], cl := κ.cl, h := h }
section
variable {P : Par} {G : Gd} {κ : Kx} {X : Cx}
theorem fit_gave (M0 : Mf P G κ X.K X.mg X.base X.prog) {n kk h : Nat} {d : Fd} {a q : Str} {f c' : Addr} {g : Addr} {cdg : Value} {s : Shared} {H : Hp} {ρ : Rho} {th : M} {t : XK → Hp → VK → Prop} (S : FnScope d.N d.ps d.scope)
    (hfn : ∀ i x m, G.fn[i]? = some (x, m) → ∃ f fd ps, X.mg x = some (.ref f) ∧ PySem.W.keepIn X.K (.ref f) = true ∧ Binds X.K fd ps [] ∧ ps.length = m ∧ FnG X.prog X.w X.K X.mg X.base (L2.CX X.prog X.w) (3 * n) f fd ps (spD κ X.K ps fun ds st => evF P n i ds (fun _ => .bad) st))
    (hr : RoomG kk (X.A.deeper (envOfC d.x d.scope s.heap.objs.size g cdg))) (hk : 3 * n ≤ kk)
    (act : ∀ (W : WX) (pn : List (Addr × Obj)) (xe : Value → Shared → Prop) (p1 p2 : Pos), Takes ((cxG X d.N d.x d.scope g cdg s H).tr pn xe) W →
      PE ((cxG X d.N d.x d.scope g cdg s H).tr pn xe) (.Call (.Name a p1) [] [] p2) (fun σZ HZ Q => σZ[0]? = some (some (.ref f)) ∧ HZ c' = some (CodeO c' q) ∧ t (WE W σZ) HZ Q))
    (himp : ∀ ρ2 st2 H2 E Q2, Ext h ρ H ρ2 H2 → Sim ⟨κ.base h, X.K⟩ ρ2 st2 H2 → EndG ⟨κ.base h, X.K⟩ (BX (κ.base h) E) (RE ⟨κ.base h, X.K⟩ false) ρ2 H2 (th st2) Q2 → t E H2 Q2) :
    FitS P G (evF P n) th none d.N (mdG a) (κ.gave h f c' q ρ H) (fun _ _ _ _ => False) d.scope (3 * n) (cxG X d.N d.x d.scope g cdg s H).nox := by
  have hT : ∀ (W' : WX) (pn : List (Addr × Obj)) (xe : Value → Shared → Prop), Takes ((cxG X d.N d.x d.scope g cdg s H).tr pn xe) W' → ∀ p p2, PE ((cxG X d.N d.x d.scope g cdg s H).tr pn xe) (.Call (.Name a p) [] [] p2)
      (eE ((cxG X d.N d.x d.scope g cdg s H).tr pn xe) (κ.gave h f c' q ρ H) (BXs (κ.gave h f c' q ρ H) (WE W')) false fun _ st => th st) := fun W' pn xe tk p p2 =>
    PE.imp (act W' pn xe p p2 tk) fun σ H2 Q ⟨ρ2, l, st, at0, e⟩ =>
      frc_read (κ := κ.gave h f c' q ρ H) (κ0 := κ.base h) (F := X.K) (ρ0 := ρ) (H0 := H) (f := f) (c' := c') (q := q) (t := t) (th := th) (W := W') (List.mem_cons_self ..) (List.mem_cons_self ..) rfl rfl rfl rfl (List.mem_cons_self ..) himp σ H2 Q ⟨ρ2, l, st, at0, e⟩
  exact {
    hN := rfl
    nd := S.nd
    hsc := rfl
    kind := S.kind
    fnc := fun _ _ _ => rfl
    calm := fun _ => rfl
    un := by have := hr.r.un; show (X.A.deeper _).units + 64 < cLine; omega
    bi := M0.bi
    fx := rfl
    fn := fun _ => hfn
    room := fun _ => hr.mono hk
    cn := M0.cn
    cl := M0.cl
    glo := ⟨M0.glo.ownT, M0.glo.ownE, M0.glo.verr, M0.glo.exc, M0.glo.vown⟩
    rp := M0.rp
    mkf := ⟨M0.mkf.keep, M0.mkf.mk0, M0.mkf.fl, M0.mkf.mk1, M0.mkf.top, M0.mkf.ncl⟩
    sy := M0.sy
    px := fun σ => passAt takes0 σ
    th := fun x hx p p2 => by
      cases hx
      exact hT (fun _ _ _ _ => False) _ _ takes0 p p2
    xs := fun _ h => nomatch h
    lam := fun h => nomatch h
    tk := takes0
    ef := ⟨M0.ef.mkE, M0.ef.exE, M0.ef.isE, M0.ef.len⟩
    stk := fun _ => ⟨rfl, rfl⟩
    po := PassesOwn.never
    thT := fun W' pn xe x tk hx p p2 => by
      cases hx
      exact hT W' pn xe tk p p2 }
/-- the promise of such a def -/
theorem gives_of (M0 : Mf P G κ X.K X.mg X.base X.prog) {lv kk h i : Nat} {d : Fd} {a q : Str} {g : Addr} {cdg : Value} (S : FnScope d.N d.ps d.scope) (hc : chkGd P G i d a = true) (h0 : 1 ≤ d.N.length)
    (hfn : ∀ m, m ≤ lv → ∀ i x n, G.fn[i]? = some (x, n) → ∃ f fd ps, X.mg x = some (.ref f) ∧ PySem.W.keepIn X.K (.ref f) = true ∧ Binds X.K fd ps [] ∧ ps.length = n ∧ FnG X.prog X.w X.K X.mg X.base (L2.CX X.prog X.w) (3 * m) f fd ps (spD κ X.K ps fun ds st => evF P m i ds (fun _ => .bad) st))
    (hk : 3 * lv ≤ kk) : Gives kk X d.N d.x d.scope g cdg d.body a q (TTD (κ.base h) X.K fun th st => (evF P lv i [] th st).calm) := by
  intro f c' s H Q t act hco hr ⟨ρ, st, th, s0, himp, hq⟩
  cases lv with
  | zero => exact hq.elim
  | succ n =>
    unfold chkGd at hc
    split at hc
    · rename_i fn hfn'
      obtain ⟨k1, k4⟩ := and2 hc
      obtain ⟨k1, k3⟩ := and2 k1
      obtain ⟨k1, k2⟩ := and2 k1
      have e1 := of_decide_eq_true k1
      have e2 := of_decide_eq_true k2
      have F := fit_gave (P := P) (n := n) (kk := kk) (h := h) (f := f) (c' := c') (q := q) (g := g) (cdg := cdg) (s := s) (H := H) (ρ := ρ) (th := th) (t := t) (a := a) M0 S (hfn n (Nat.le_succ n)) hr (by omega) act himp
      refine ⟨_, sndSs fn.body k4 F (fun _ _ => rfl), ρ, List.replicate fn.nsl none, st, ⟨?_, ⟨?_, ?_, ?_⟩, ?_⟩, ?_⟩
      · exact s0.kit (κ := κ.base h) (κ' := κ.gave h f c' q ρ H) rfl rfl (fun p hp => by
          rcases List.mem_cons.mp hp with e | e
          · subst e; exact ⟨hco, _, rfl⟩
          · cases e)
      · unfold L2.start; simp; omega
      · intro j dd hd
        rw [List.getElem?_replicate] at hd
        split at hd <;> cases hd
      · intro p hp
        rcases List.mem_cons.mp hp with e | e
        · subst e; rfl
        · cases e
      · intro p hp
        rcases List.mem_cons.mp hp with e | e
        · subst e; exact Ext.refl _ _
        · cases e
      · have hq' : EndG ⟨κ.base h, X.K⟩ (fun _ _ _ => False) (RE ⟨κ.base h, X.K⟩ false) ρ H ((optR (P.funs i) fun fn => if ([] : List D).length = fn.nps then (evSs P (evF P n) th fn.body none (([] : List D).map some ++ List.replicate (fn.nsl - fn.nps) none) st).bind fun r st => r.ends st else .bad).calm) Q := hq
        rw [hfn'] at hq'
        simp only [optR] at hq'
        rw [if_pos (show ([] : List D).length = fn.nps from e1.symm), e1] at hq'
        simp only [List.map_nil, List.nil_append, Nat.sub_zero] at hq'
        cases hres : evSs P (evF P n) th fn.body none (List.replicate fn.nsl none) st with
        | bad => rw [hres] at hq'; exact hq'
        | exc c fs st1 => rw [hres] at hq'; exact hq'.elim
        | ok fl st1 =>
          rw [hres] at hq'
          cases fl with
          | nx l => exact fun ρ' σ' H' x at1 => hq' ρ' .non H' x (at1.sim.kit (κ := κ.gave h f c' q ρ H) (κ' := κ.base h) rfl rfl (fun p hp => nomatch hp)) ⟨.non, fun z => nomatch z⟩
          | rt dd => exact fun ρ' v H' x s' r => hq' ρ' v H' x (s'.kit (κ := κ.gave h f c' q ρ H) (κ' := κ.base h) rfl rfl (fun p hp => nomatch hp)) ⟨r.kit (κ := κ.gave h f c' q ρ H) (κ' := κ.base h) rfl, fun z => nomatch z⟩
          | bk l => exact hq'.elim
          | ct l => exact hq'.elim
    · cases hc
end
end Pm

set_option Elab.async false
set_option linter.all false
set_option maxRecDepth 100000
set_option maxHeartbeats 16000000
/-! Ev33: the law's def, with tables of code objects. -/
namespace Pm
open PySem PySem.Spec PyProof.Rows L2 LamX
set_option autoImplicit false

/-- only the lists may differ -/
theorem ok_lock {P : Program} {w : World} {H H' : Hp} {h : Heap} (m : ∀ b o, H b = some o → (∀ ys, o ≠ .lst ys) → H' b = some o) : ∀ (a : Addr) (o : HO), ObjOk P w H h a o → ObjOk P w H' h a o
  | _, .lst _, x => x
  | _, .tup _, x => x
  | _, .dK _, x => x
  | a, .dT kvs, x => by
    obtain ⟨h1, h2, xs, hp, r⟩ := x
    refine ⟨h1, h2, xs, ?_, r⟩
    clear r h1
    induction hp with
    | nil => exact .nil
    | cons hq _ ih => exact .cons ⟨hq.1, m _ _ hq.2.1 nofun, hq.2.2⟩ ih
  | _, .set _ _, x => x
  | _, .ins _ _ _, x => ⟨m _ _ x.1 nofun, x.2⟩
  | _, .own _, x => x
  | _, .xd _, x => x
  | _, .rng _ _, x => x
  | a, .frz _ u, x => ⟨x.1, ok_lock m a u x.2⟩
  | _, .tbl _, x => x
  | _, .met _ _, x => x
  | _, .ext _, x => x
theorem lock_env {P : Program} {w : World} {K : PySem.W.Frag} {mg : Str → Option Value} {base : Heap} {A : Around} {outer : List Env} {s : Shared} {H : Hp} {a : Addr} {xs : List V} (e : Env0 P w K mg base A outer s H) (ha : H a = some (.lst xs)) :
    ∃ o, Env0 P w K mg base A outer s (L2.upd H a (.frz o (.lst xs))) := by
  obtain ⟨hl, its, n, hv, hg⟩ := e.hok a _ ha
  have hm : ∀ b o, H b = some o → (∀ ys, o ≠ .lst ys) → L2.upd H a (.frz { cls := .type "list", data := .seq its.toArray n } (.lst xs)) b = some o := fun b o hb hn => by
    rw [L2.upd_ne (fun z => by rw [z, ha] at hb; cases hb; exact hn _ rfl)]; exact hb
  have hz : ∀ b, H b = none → L2.upd H a (.frz { cls := .type "list", data := .seq its.toArray n } (.lst xs)) b = none := fun b hb => by
    rw [L2.upd_ne (fun z => by rw [z, ha] at hb; cases hb)]; exact hb
  refine ⟨_, e.frames, e.mod, fun b o hb => ⟨(e.bs b o hb).1, hz b (e.bs b o hb).2⟩, e.bsz, e.funs, fun b hb => hz b (e.frf b hb), fun b o hb => ?_, e.bare⟩
  by_cases z : b = a
  · rw [z, L2.upd_same] at hb
    cases hb
    rw [z]
    exact ⟨hg, hl, its, n, hv, hg⟩
  · rw [L2.upd_ne z] at hb
    exact ok_lock hm b o (e.hok b o hb)
theorem lock_un {fs ex : List Addr} {H H' : Hp} {h h' : Heap} {a : Addr} {o : Obj} {xs : List V} (ha : H a = some (.lst xs)) (u : Un fs ex (L2.upd H a (.frz o (.lst xs))) H' h h') : Un fs ex H H' h h' := by
  have hz : ∀ b, H b = none → L2.upd H a (.frz o (.lst xs)) b = none := fun b hb => by
    rw [L2.upd_ne (fun z => by rw [z, ha] at hb; cases hb)]; exact hb
  have hm : ∀ b u, H b = some u → (∀ ys, u ≠ .lst ys) → L2.upd H a (.frz o (.lst xs)) b = some u := fun b u hb hn => by
    rw [L2.upd_ne (fun z => by rw [z, ha] at hb; cases hb; exact hn _ rfl)]; exact hb
  exact ⟨fun b o e n => u.keep b o e (hz b n), fun b o e n => u.slot b o e (hz b n), fun b o e n => u.free b o e (hz b n), u.there, fun b ys e => u.tups b ys (hm b _ e nofun), fun b o v e => u.frzs b o v (hm b _ e nofun), fun b ps e => u.tbls b ps (hm b _ e nofun)⟩
/-- what the law promises -/
def spLaw (κ : Kx) (K : PySem.W.Frag) : Sp := fun vs H Q _ => ∃ (a : Addr) (ns : List Int), vs = [.ref a] ∧ ns.length ≤ 63 ∧ (∀ z ∈ ns, Builtin.Int.intBits z ≤ 1048576) ∧ (∀ p ∈ κ.T, H p.1 = some (.tbl #[])) ∧ SqL K H a (ns.map V.int) ∧ ∀ H', Q (.bl true) H'
theorem law_ofT {κ : Kx} {prog : Program} {w : World} {K : PySem.W.Frag} {mg : Str → Option Value} {base : Heap} {k : Nat} {f : Addr} {fd : FuncData} {ps : List Str} {m : List D → Store → Res D}
    (F : FnG prog w K mg base (L2.CX prog w) k f fd ps (spD κ K ps m)) (hps : ps.length = 1)
    (hm : ∀ ns : List Int, ns.length ≤ 63 → (∀ z ∈ ns, Builtin.Int.intBits z ≤ 1048576) → ∃ st, m [.scr ns] [] = .ok (.bl true) st) : FnG prog w K mg base L2.CX0 k f fd ps (spLaw κ K) := by
  refine ⟨fun vs H Q E ⟨a, ns, e, _⟩ => by rw [e, hps]; rfl, fun A outer s H args us vs Q E hr he hb hv ⟨a, ns, e, hl, hb2, hT, hS, hQ⟩ => ?_⟩
  subst e
  obtain ⟨st, hst⟩ := hm ns hl hb2
  have sp : ∀ H1 : Hp, (∀ p ∈ κ.T, H1 p.1 = some (.tbl #[])) → SqF K H1 a (ns.map V.int) → spD κ K ps m [.ref a] H1 Q (fun _ _ _ => False) := fun H1 hT1 hS1 => by
    refine ⟨by rw [hps]; rfl, 0, [], [.scr ns], [], ?_, .cons (.scr hS1) .nil, ?_⟩
    · exact {
        len := rfl
        inj := fun n m a h => by simp at h
        ob := fun n o h => by simp at h
        hd := fun n a h => absurd h (Nat.not_lt_zero _)
        tab := fun p hp => TabS.nil (hT1 p hp)
        cd := fun p hp => nomatch hp }
    · rw [hst]
      exact fun ρ' v H' _ _ r => by
        obtain ⟨r, _⟩ := r
        cases r
        exact hQ H'
  have go : SqF K H a (ns.map V.int) → codeAny (model prog w) A (.call (.ref f) args) (CR L2.CX0 outer prog w H s Q E) s := fun hF =>
    codeAny_mono (F.run A outer s H args us [.ref a] Q (fun _ _ _ => False) hr he hb hv (sp H hT hF)) fun r s' hq => by
      cases r with
      | error e => exact (cx_false hq).elim
      | ok fl => cases fl <;> exact hq
  rcases hS with (ha | ⟨o, ha⟩) | hk
  · obtain ⟨o, e1⟩ := lock_env he ha
    refine codeAny_mono (F.run A outer s _ args us [.ref a] Q (fun _ _ _ => False) hr e1 hb hv (sp _ (fun p hp => ?_) (.inl ⟨o, L2.upd_same⟩))) fun r s' hq => ?_
    · rw [L2.upd_ne (fun z => by have := hT p hp; rw [z, ha] at this; cases this)]; exact hT p hp
    · cases r with
      | error e => exact (cx_false hq).elim
      | ok fl =>
        cases fl with
        | ret u =>
          obtain ⟨v, H', os, bare, un, hok', rv, q⟩ := hq
          exact ⟨v, H', os, bare, lock_un ha un, hok', rv, q⟩
        | _ => exact hq
  · exact go (.inl ⟨o, ha⟩)
  · exact go (.inr (.inr hk))
end Pm

set_option Elab.async false
set_option linter.all false
set_option maxRecDepth 100000
set_option maxHeartbeats 16000000
/-! Ev34: a def that makes lambdas. -/
namespace Pm
open PySem PySem.Spec PyProof.Rows L2 LamX
set_option autoImplicit false

/-- the code object's qualified name of a lambda in a def -/
abbrev lamQ (x : Str) : Str := (envOfC x { kind := .function, names := [], isGenerator := false, isCoroutine := false } 0 0 .none).qual ++ "<lambda>"
theorem code_ref {K : PySem.W.Frag} {cd : Value} {q : Str} (h : PySem.W.codeIn K cd q = true) : ∃ c, cd = .ref c := by
  unfold PySem.W.codeIn at h
  split at h
  · exact ⟨_, rfl⟩
  · cases h
section
variable {P : Par} {G : Gd} {κ : Kx} {prog : Program} {w : World} {K : PySem.W.Frag} {mg : Str → Option Value} {base : Heap} {ds : List Fd}
/-- where a def of lambdas stands -/
structure Lt (P : Par) (G : Gd) (K : PySem.W.Frag) (mg : Str → Option Value) (i : Nat) (x : Str) (dg : Fd) (a : Str) : Prop where
  nm : dg.x = x
  ps : dg.ps = [a]
  ck : chkGd P G i dg a = true
  sc : FnScope dg.N dg.ps dg.scope
  at0 : dg.N[0]? = some a
  vis : Vis dg.scope a
  ok : nmOk a = true
  at1 : At1 K mg dg
theorem lam_of (M0 : Mf P G κ K mg base prog) (hL : ∀ i x, (i, x) ∈ G.lm → ∃ dg a, Lt P G K mg i x dg a)
    (hT : ∀ d, d ∈ ds → d.lm = true → ∀ (f : Addr) (oc : Value) (od : Option Addr) (fd : FuncData) (osl : Array (Option Value)) (c : Addr), mg d.x = some (.ref f) → K.lookup f = some ⟨oc, od, .func fd, osl⟩ → fd.code = .ref c →
      ∃ Pt, TabB base mg c Pt ∧ (Pt, lamQ d.x) ∈ κ.T ∧ ∀ p ∈ κ.T, p.1 = Pt → p.2 = lamQ d.x)
    (lv : Nat) (hfn : ∀ m, m ≤ lv → ∀ i x n, G.fn[i]? = some (x, n) → ∃ f fd ps, mg x = some (.ref f) ∧ PySem.W.keepIn K (.ref f) = true ∧ Binds K fd ps [] ∧ ps.length = n ∧ FnG prog w K mg base (L2.CX prog w) (3 * m) f fd ps (spD κ K ps fun ds st => evF P m i ds (fun _ => .bad) st))
    (j h : Nat) (d : Fd) (hd : ds[j]? = some d) (hlm : d.lm = true) (f : Addr) (cdv : Value) (A : Around) (outer : List Env) (s : Shared) (H : Hp) (E : XK) (hr : RoomG (3 * lv + 2) (A.deeper (envOfC d.x d.scope s.heap.objs.size f cdv))) (hcd : PySem.W.codeIn K cdv d.x = true) (hmg : mg d.x = some (.ref f))
    (hlk : ∃ (oc : Value) (od : Option Addr) (fd : FuncData) (osl : Array (Option Value)), K.lookup f = some ⟨oc, od, .func fd, osl⟩ ∧ fd.code = cdv)
    (i : Nat) (x : Str) (hi : (i, x) ∈ G.lm) (params : Arguments) (body : Expr) (scope : Scope) (lpos p pos : Pos) (fb : Bool) (mb : Loc → Store → Res D) (ok : lamOk d.scope x params scope = true)
    (hb : ∀ (A' : Around) (outer' : List Env) (s' : Shared) (H' : Hp) (E' : XK) (f' c' : Addr), RoomG (3 * lv) (A'.deeper (lamEnv (cxOf (L2.CX prog w) prog w K mg base d.N d.x d.scope f cdv A outer s H E) scope s'.heap.objs.size f' c')) →
        PE (lamCx (cxOf (L2.CX prog w) prog w K mg base d.N d.x d.scope f cdv A outer s H E) A' outer' s' H' E' scope f' c') body (tE ⟨κ.base h, K⟩ (fun _ => BX (κ.base h) E') fb mb)) :
    PE (cxOf (L2.CX prog w) prog w K mg base d.N d.x d.scope f cdv A outer s H E) (.Call (.Name x p) [.Lambda params body scope lpos] [] pos) (eE (cxOf (L2.CX prog w) prog w K mg base d.N d.x d.scope f cdv A outer s H E) (κ.base h) (BXs (κ.base h) (WE fun cls d _ H' => E cls d H')) false fun l st => (evF P lv i [] (mb l) st).calm) := by
  obtain ⟨dg, a, L⟩ := hL i x hi
  obtain ⟨g, fg, g1, g2, g3⟩ := L.at1
  obtain ⟨oc, od, fd, osl, lk, rfl⟩ := hlk
  obtain ⟨c, hc⟩ := code_ref hcd
  obtain ⟨Pt, t1, t2, t3⟩ := hT d (List.mem_of_getElem? hd) hlm f oc od fd osl c hmg lk hc
  obtain ⟨oc2, od2, dV, kV, doc, pm, an, cdg, ct, osl2, rfl, lk2, hcd2, _, _⟩ := g2.ex
  unfold lamOk at ok
  obtain ⟨o1, o4⟩ := and2 ok
  obtain ⟨o1, o3⟩ := and2 o1
  obtain ⟨o1, o2⟩ := and2 o1
  have e := L.nm
  subst e
  have hp : params = ⟨[], [], none, [], [], none, []⟩ := by
    split at o4
    · rfl
    · cases o4
  subst hp
  have n1 := nmOk_d o2
  have n2 := nmOk_d L.ok
  rw [L.ps] at g3
  have hS := L.sc
  rw [L.ps] at hS
  have hG := gives_of (P := P) (lv := lv) (kk := 3 * lv + 1) (h := h) (q := lamQ d.x) (g := g) (cdg := cdg) (X := cxOf (L2.CX prog w) prog w K mg base d.N d.x d.scope f fd.code A outer s H E) M0 L.sc L.ck (by have := L.at0; cases hN : dg.N with | nil => rw [hN] at this; cases this | cons _ _ => simp) hfn (by omega)
  exact PE.imp (lam_call (T := κ.T) (k := 3 * lv) (t := fun E' => tE ⟨κ.base h, K⟩ (fun _ => BX (κ.base h) E') fb mb) (show d.scope.names.lookup dg.x = some .globalImplicit from of_decide_eq_true o1) g1 g2.kp lk2 hcd2 g3 hS L.at0 L.vis hG t1 hc t2 t3 hr (lamS_by o3) rfl (fun _ _ _ _ _ => rfl) hb n1.1 n2.1 n2.2)
    (thk_read (κ := κ.base h) (mc := fun th st => evF P lv i [] th st) rfl)
end
end Pm

set_option Elab.async false
set_option linter.all false
set_option maxRecDepth 100000
set_option maxHeartbeats 16000000
/-! Ev35: the head: what the evaluator wants of the module, looked at in the head's part of the heap. -/
namespace Pm
open PySem PySem.Spec PyProof.Rows L2 LamX
set_option autoImplicit false

def clA (G : Gd) (K : PySem.W.Frag) (i : Nat) : Addr := He.ga K (G.cl.getD i Str.empty)
def itemB : D → Value → Bool
  | .int n, .int j _ => decide (j = n)
  | .str s, .str y _ => decide (y = strS s)
  | _, _ => false
def itemsB : List D → List Value → Bool
  | [], [] => true
  | d :: ds, v :: vs => itemB d v && itemsB ds vs
  | _, _ => false
/-- a tuple of the module -/
def tupB (K : PySem.W.Frag) (a : Addr) (ds : List D) : Bool := match K.lookup a with
  | some ⟨.type c, none, .seq its _, _⟩ => decide (c = "tuple") && decide (its.size ≤ 1000) && itemsB ds its.toList
  | _ => false
theorem itemB_ok {d : D} {v : Value} (h : itemB d v = true) : ∃ x, RelV x v ∧ ∀ (K : Kit) ρ H, RelD K ρ H d x := by
  unfold itemB at h
  split at h
  · have := of_decide_eq_true h
    subst this
    exact ⟨.int _, ⟨_, rfl⟩, fun K ρ H => .int _⟩
  · have := of_decide_eq_true h
    subst this
    exact ⟨.str _, ⟨_, rfl⟩, fun K ρ H => .str _⟩
  · cases h
theorem itemsB_ok : ∀ {ds : List D} {vs : List Value}, itemsB ds vs = true → ∃ xs, Vals xs vs ∧ ∀ (K : Kit) ρ H, RelDs K ρ H ds xs
  | [], [], _ => ⟨[], .nil, fun _ _ _ => .nil⟩
  | [], _ :: _, h => by cases h
  | _ :: _, [], h => by cases h
  | d :: ds, v :: vs, h => by
    simp only [itemsB, Bool.and_eq_true] at h
    obtain ⟨x, r1, r2⟩ := itemB_ok h.1
    obtain ⟨xs, q1, q2⟩ := itemsB_ok h.2
    exact ⟨x :: xs, .cons r1 q1, fun K ρ H => .cons (r2 K ρ H) (q2 K ρ H)⟩
theorem tupB_ok {K : PySem.W.Frag} {a : Addr} {ds : List D} (h : tupB K a ds = true) : ∀ (K' : Kit), K'.K = K → ∀ ρ H, RelD K' ρ H (.tup ds) (.ref a) := by
  unfold tupB at h
  split at h
  · rename_i c its n sl hk
    simp only [Bool.and_eq_true, decide_eq_true_eq] at h
    obtain ⟨⟨rfl, h2⟩, h3⟩ := h
    obtain ⟨xs, q1, q2⟩ := itemsB_ok h3
    exact fun K' e ρ H => .tup (.inr ⟨_, its, n, rfl, by rw [e]; exact hk, rfl, rfl, by rw [sizeLine_eq]; omega, q1⟩) (q2 K' ρ H)
  · cases h
def consB (P : Par) (K : PySem.W.Frag) (i : Nat) (x : Str) : Bool := match PySem.W.nsIn K mainGlobals x, P.consts i with
  | some (some (.int j _)), .int n => decide (j = n)
  | some (some (.str y _)), .str s => decide (y = strS s)
  | some (some (.ref a)), .tup ds => tupB K a ds
  | _, _ => false
def excCB (K : PySem.W.Frag) (D : Addr) : Bool :=
  He.eqO (PySem.W.findIn K (.ref D) "__getattribute__") (some (some (.builtin "BaseException.__getattribute__"))) && He.eqO (PySem.W.findIn K (.ref D) "__getattr__") (some none) &&
  decide (PySem.W.subIn K (.ref D) (.type "BaseException") = some true) && PySem.W.hasDictIn K D && He.eqO (PySem.W.findIn K (.ref D) "__class__") (some (some (.builtin "object.__class__"))) &&
  He.eqO (PySem.W.specialIn K (.builtin "object.__class__") "__get__") (some (some (.builtin "getset_descriptor.__get__"))) && decide (PySem.W.takesIn K (.builtin "object.__class__") = some true) && decide (PySem.W.mroIn K D (.type "object") = some true)
theorem excCB_ok {K : PySem.W.Frag} {D : Addr} (h : excCB K D = true) : ExcC K D := by
  unfold excCB at h
  simp only [Bool.and_eq_true] at h
  obtain ⟨⟨⟨⟨⟨⟨⟨h1, h2⟩, h3⟩, h4⟩, h5⟩, h6⟩, h7⟩, h8⟩ := h
  exact ⟨He.eqO_ok h1, He.eqO_ok h2, of_decide_eq_true h3, h4, He.eqO_ok h5, He.eqO_ok h6, of_decide_eq_true h7, of_decide_eq_true h8⟩
/-- of one own class -/
def clsB (P : Par) (G : Gd) (K : PySem.W.Frag) (c : Nat) : Bool :=
  (tyNs.all fun n => decide (PySem.W.kitOne K (.type n) (.ref (clA G K c)) = some false)) &&
  ((List.range G.cl.length).all fun k => decide (PySem.W.kitOne K (.ref (clA G K c)) (.ref (clA G K k)) = some ((P.anc c).contains k)) && decide (PySem.W.exmOne K (.ref (clA G K k)) (.ref (clA G K c)) = some ((P.anc k).contains c))) &&
  decide (PySem.W.kitOne K (.ref (clA G K c)) (.type "ValueError") = some true) && (!decide (c ∈ G.rs) || (He.Fa.exc (G.cl.getD c Str.empty)).ok K) && excCB K (clA G K c)
def mkB (P : Par) (G : Gd) (K : PySem.W.Frag) : Bool :=
  (G.ms.all fun c => PySem.W.keepIn K (.ref (clA G K c)) && (match P.fl c with
    | none => PySem.W.excIn K (clA G K c) veL "ValueError.__new__"
    | some _ => true)) &&
  (((List.range P.fld.length).all fun c => match P.fl c with
    | none => true
    | some f => iniB G.file K (clA G K c) (strS f) && xfB K (clA G K c)) && G.fl.all fun c => (P.fl c).isSome)
theorem fl_lt {P : Par} {c : Nat} {f : List Nat} (h : P.fl c = some f) : c < P.fld.length ∧ P.fld ≠ [] := by
  unfold Par.fl at h
  have : c < P.fld.length := by
    by_cases hc : c < P.fld.length
    · exact hc
    · rw [List.getElem?_eq_none (by omega)] at h
      cases h
  exact ⟨this, fun z => by rw [z] at this; cases this⟩
def exB (P : Par) (G : Gd) (tf : List He.Defn) (K : PySem.W.Frag) : Bool :=
  ((List.range G.cl.length).all fun c => clsB P G K c) && ((List.range G.cn.length).all fun i => consB P K i (G.cn.getD i Str.empty)) && decide ((tf.map fun p => (He.cT K p).2).Nodup) &&
  (((List.range G.cl.length).all fun c => decide (PySem.W.kitOne K (.type "ValueError") (.ref (clA G K c)) = some false)) && mkB P G K)
/-- what is asked by names -/
def faOf (G : Gd) (xs : List Str) : List He.Fa := biNames.map .free ++ G.cl.map .glo ++ xs.map .glo
def dfOf (d : Fd) : He.DefD := ⟨(d.x, none), d.x, d.x, d.params, d.body, d.scope, [], []⟩
abbrev tfOf (ds : List Fd) : List He.Defn := (ds.filter fun d => d.lm).map fun d => (d.x, none)
/-- the frame of the law -/
def kxOf (G : Gd) (K : PySem.W.Frag) (ds : List Fd) : Kx := { T := (ds.filter fun d => d.lm).map fun d => ((He.cT K (d.x, none)).2, lamQ d.x), fx := [], cd := [], en := [], cl := clA G K, h := 0 }

section
variable {P : Par} {G : Gd} {w : World} {K : PySem.W.Frag} {mg : Str → Option Value} {h : Heap} {ds : List Fd} {ts : List He.Tab} {tf : List He.Defn} {xs : List Str} {fn : List He.DefD}
theorem getD_of {α : Type} {l : List α} {i : Nat} {x d : α} (h : l[i]? = some x) : l.getD i d = x := by
  rw [List.getD_eq_getElem?_getD, h]; rfl
theorem lt_of_get {α : Type} {l : List α} {i : Nat} {x : α} (h : l[i]? = some x) : i < l.length := by
  by_cases hi : i < l.length
  · exact hi
  · rw [List.getElem?_eq_none (by omega)] at h; cases h
theorem mf_of (X : K.In h) (Gn : h.Ns mainGlobals mg) (c : He.SaysX (faOf G xs) fn ts tf (exB P G tf) w h K) (hn : P.ncl = G.cl.length) (R : RpOk P) (ds : List Fd) {base : Heap} (hsy : SysB base) {prog : Program} (hpf : P.fld ≠ [] → prog.main.file = G.file ∧ (prog.main.scope.names.lookup ("super" : Str)).isSome = false) : Mf P G (kxOf G K ds) K mg base prog := by
  have c1 := c.t.d
  have ex := c.more
  unfold exB at ex
  simp only [Bool.and_eq_true] at ex
  obtain ⟨⟨⟨x1, x2⟩, x3⟩, x4, x5⟩ := ex
  unfold mkB at x5
  simp only [Bool.and_eq_true] at x5
  obtain ⟨m1, m2, m3⟩ := x5
  have cls : ∀ c, c < G.cl.length → clsB P G K c = true := fun c hc => List.all_eq_true.mp x1 c (List.mem_range.mpr hc)
  have cls' : ∀ c, c < G.cl.length → _ := fun c hc => by
    have q := cls c hc
    unfold clsB at q
    simp only [Bool.and_eq_true] at q
    exact q
  exact {
    bi := fun x hx => He.free_ok X Gn (c1.facts (by unfold faOf; exact List.mem_append_left _ (List.mem_append_left _ (List.mem_map.mpr ⟨x, hx, rfl⟩))))
    cn := fun i x hi => by
      have q := List.all_eq_true.mp x2 i (List.mem_range.mpr (lt_of_get hi))
      rw [getD_of hi] at q
      unfold consB at q
      split at q
      · rename_i j t n e1 e2
        have e3 := of_decide_eq_true q
        subst e3
        exact ⟨_, .int j, PySem.W.mg_of X Gn e1, ⟨_, rfl⟩, fun K' _ ρ H => by rw [e2]; exact .int j⟩
      · rename_i y t s e1 e2
        have e3 := of_decide_eq_true q
        subst e3
        exact ⟨_, .str (strS s), PySem.W.mg_of X Gn e1, ⟨_, rfl⟩, fun K' _ ρ H => by rw [e2]; exact .str s⟩
      · rename_i a ds e1 e2
        exact ⟨_, .ref a, PySem.W.mg_of X Gn e1, rfl, fun K' e ρ H => by rw [e2]; exact tupB_ok q K' e ρ H⟩
      · cases q
    cl := fun i x hi => by
      have e : clA G K i = He.ga K x := by unfold clA; rw [getD_of hi]
      show mg x = some (.ref (clA G K i))
      rw [e]
      exact He.glo_ok X Gn (c1.facts (by unfold faOf; exact List.mem_append_left _ (List.mem_append_right _ (List.mem_map.mpr ⟨x, List.mem_of_getElem? hi, rfl⟩))))
    rp := R
    mkf := {
      keep := fun c hc => (Bool.and_eq_true_iff.mp (List.all_eq_true.mp m1 c hc)).1
      mk0 := fun c hc hf => by
        have q := (Bool.and_eq_true_iff.mp (List.all_eq_true.mp m1 c hc)).2
        rw [hf] at q
        exact q
      fl := fun c hc => Option.isSome_iff_exists.mp (List.all_eq_true.mp m3 c hc)
      mk1 := fun c f hf => by
        obtain ⟨h1, h2⟩ := fl_lt hf
        have q := List.all_eq_true.mp m2 c (List.mem_range.mpr h1)
        rw [hf] at q
        obtain ⟨q1, q2⟩ := Bool.and_eq_true_iff.mp q
        rw [(hpf h2).1]
        exact ⟨iniB_ok q1, xfB_ok q2⟩
      top := fun h => (hpf h).2
      ncl := hn }
    sy := hsy
    glo := {
      ownT := fun c hc n hn => of_decide_eq_true (List.all_eq_true.mp (cls' c hc).1.1.1.1 n hn)
      ownE := fun c hc k hk => of_decide_eq_true (Bool.and_eq_true_iff.mp (List.all_eq_true.mp (cls' c hc).1.1.1.2 k (List.mem_range.mpr hk))).1
      verr := fun c hc => of_decide_eq_true (cls' c hc).1.1.2
      exc := fun c hc => excCB_ok (cls' c hc).2
      vown := fun c hc => of_decide_eq_true (List.all_eq_true.mp x4 c (List.mem_range.mpr hc)) }
    ef := {
      mkE := fun c hc => by
        have q0 : (He.Fa.exc (G.cl.getD c Str.empty)).ok K = true := by
          have q := (cls' c hc.1).1.2
          simpa [hc.2] using q
        obtain ⟨q1, q2, q3, q4⟩ := He.exc_ok q0
        exact ⟨He.veBase, "ValueError", "ValueError.__new__", "ValueError.__init__", PySem.F.excBase_ValueError, q1, q2, q3, q4⟩
      exE := fun c hc k hk => of_decide_eq_true (Bool.and_eq_true_iff.mp (List.all_eq_true.mp (cls' c hc).1.1.1.2 k (List.mem_range.mpr (hn ▸ hk)))).2
      isE := fun c hc => excCB_ok (cls' c (hn ▸ hc)).2
      len := hn } }
/-- what each def's text must be -/
structure TxOk (d : Fd) : Prop where
  sc : FnScope d.N d.ps d.scope
  le : d.ps.length ≤ d.N.length
  bd : ∀ (kV doc pm : Value) (an : Option Addr) (cdv ct : Value) (us : List Value), us.length = d.ps.length → bindArgs (PySem.W.fnOf d.x d.x d.params d.body d.scope .none kV doc pm an cdv ct) ⟨us, []⟩ = pure (d.ps.zip us)
theorem at_of (X : K.In h) (Gn : h.Ns mainGlobals mg) {ex : PySem.W.Frag → Bool} (c : He.SaysX (faOf G xs) fn ts tf ex w h K) {d : Fd} (hx : d.x ∈ xs) (hd : dfOf d ∈ fn) (t : TxOk d) : At1 K mg d := by
  have c1 := c.t.d
  obtain ⟨fd, F⟩ := c1.defs hd
  have e := He.glo_ok X Gn (c1.facts (f := .glo d.x) (by unfold faOf; exact List.mem_append_right _ (List.mem_map.mpr ⟨_, hx, rfl⟩)))
  exact ⟨_, fd, e, F, F.bindsN t.bd⟩
theorem tab_of (X : K.In h) (Gn : h.Ns mainGlobals mg) {ds : List Fd} (c : He.SaysX (faOf G xs) fn ts (tfOf ds) (exB P G (tfOf ds)) w h K) (hx : ∀ d, d ∈ ds → d.x ∈ xs) {base : Heap} (hB : ∀ p ∈ (tfOf ds).map (He.cT K), TabB base mg p.1 p.2) :
    ∀ d, d ∈ ds → d.lm = true → ∀ (f : Addr) (oc : Value) (od : Option Addr) (fd : FuncData) (osl : Array (Option Value)) (c : Addr), mg d.x = some (.ref f) → K.lookup f = some ⟨oc, od, .func fd, osl⟩ → fd.code = .ref c →
      ∃ Pt, TabB base mg c Pt ∧ (Pt, lamQ d.x) ∈ (kxOf G K ds).T ∧ ∀ p ∈ (kxOf G K ds).T, p.1 = Pt → p.2 = lamQ d.x := by
  intro d hd hlm f oc od fd osl cc hmg hlk hcode
  have ex := c.more
  unfold exB at ex
  simp only [Bool.and_eq_true] at ex
  have nd := of_decide_eq_true ex.1.2
  have hf : d ∈ ds.filter fun d => d.lm := List.mem_filter.mpr ⟨hd, hlm⟩
  have e := He.glo_ok X Gn (c.t.d.facts (f := .glo d.x) (by unfold faOf; exact List.mem_append_right _ (List.mem_map.mpr ⟨_, hx d hd, rfl⟩)))
  have e2 : f = He.ga K d.x := by
    have := hmg.symm.trans e
    cases this; rfl
  have e3 : (He.cT K (d.x, none)).1 = cc := He.codeOf_eq (p := (d.x, none)) (show K.lookup (He.fAd K (d.x, none)) = _ by rw [show He.fAd K (d.x, none) = f from e2.symm]; exact hlk) hcode
  refine ⟨(He.cT K (d.x, none)).2, ?_, List.mem_map.mpr ⟨d, hf, rfl⟩, ?_⟩
  · have := hB (He.cT K (d.x, none)) (List.mem_map.mpr ⟨(d.x, none), List.mem_map.mpr ⟨d, hf, rfl⟩, rfl⟩)
    rw [e3] at this
    exact this
  · intro p hp hpe
    obtain ⟨d2, hd2, rfl⟩ := List.mem_map.mp hp
    have nd2 : (((ds.filter fun d => d.lm).map fun d => (He.cT K (d.x, none)).2)).Nodup := by
      have q := nd
      rw [List.map_map] at q
      exact q
    have inj : ∀ (l : List Fd) (g : Fd → Addr), (l.map g).Nodup → ∀ a ∈ l, ∀ b ∈ l, g a = g b → a = b := by
      intro l g
      induction l with
      | nil => intro _ a ha; cases ha
      | cons y ys ih =>
        intro hnd a ha b hb hab
        rw [List.map_cons, List.nodup_cons] at hnd
        rcases List.mem_cons.mp ha with ea | ea <;> rcases List.mem_cons.mp hb with eb | eb
        · rw [ea, eb]
        · exact absurd (List.mem_map.mpr ⟨b, eb, by rw [← hab, ea]⟩) hnd.1
        · exact absurd (List.mem_map.mpr ⟨a, ea, by rw [hab, eb]⟩) hnd.1
        · exact ih hnd.2 a ea b eb hab
    have := inj _ _ nd2 d2 hd2 d hf hpe
    rw [this]
end
end Pm

set_option Elab.async false
set_option linter.all false
set_option maxRecDepth 100000
set_option maxHeartbeats 16000000
/-! Ev36: from the head's facts and the plain law to the law's promise. -/
namespace Pm
open PySem PySem.Spec PyProof.Rows L2 LamX
set_option autoImplicit false

section
variable {P : Par} {G : Gd} {κ : Kx} {prog : Program} {w : World} {K : PySem.W.Frag} {mg : Str → Option Value} {base : Heap} {ds : List Fd}
abbrev FnAll (P : Par) (G : Gd) (κ : Kx) (prog : Program) (w : World) (K : PySem.W.Frag) (mg : Str → Option Value) (base : Heap) (m : Nat) : Prop :=
  ∀ (i : Nat) (x : Str) (n : Nat), G.fn[i]? = some (x, n) → ∃ f fd ps, mg x = some (.ref f) ∧ PySem.W.keepIn K (.ref f) = true ∧ Binds K fd ps [] ∧ ps.length = n ∧ FnG prog w K mg base (L2.CX prog w) (3 * m) f fd ps (spD κ K ps fun ds st => evF P m i ds (fun _ => .bad) st)
/-- one def, at its own place, a level higher -/
theorem fn_step (M0 : Mf P G κ K mg base prog) {lv i : Nat} {d : Fd} {f : Addr} {fd : FuncData} (t : TxOk d)
    (hlam : d.lm = true → ∀ (h : Nat) (cdv : Value) (A : Around) (outer : List Env) (s : Shared) (H : Hp) (E : XK), RoomG (3 * lv + 2) (A.deeper (envOfC d.x d.scope s.heap.objs.size f cdv)) → PySem.W.codeIn K cdv d.x = true → (∃ (oc : Value) (od : Option Addr) (fd : FuncData) (osl : Array (Option Value)), K.lookup f = some ⟨oc, od, .func fd, osl⟩ ∧ fd.code = cdv) →
      ∀ i x, (i, x) ∈ G.lm → ∀ (params : Arguments) (body : Expr) (scope : Scope) (lpos p pos : Pos) (fb : Bool) (mb : Loc → Store → Res D), lamOk d.scope x params scope = true →
      (∀ (A' : Around) (outer' : List Env) (s' : Shared) (H' : Hp) (E' : XK) (f' c' : Addr), RoomG (3 * lv) (A'.deeper (lamEnv (cxOf (L2.CX prog w) prog w K mg base d.N d.x d.scope f cdv A outer s H E) scope s'.heap.objs.size f' c')) →
        PE (lamCx (cxOf (L2.CX prog w) prog w K mg base d.N d.x d.scope f cdv A outer s H E) A' outer' s' H' E' scope f' c') body (tE ⟨κ.base h, K⟩ (fun _ => BX (κ.base h) E') fb mb)) →
      PE (cxOf (L2.CX prog w) prog w K mg base d.N d.x d.scope f cdv A outer s H E) (.Call (.Name x p) [.Lambda params body scope lpos] [] pos) (eE (cxOf (L2.CX prog w) prog w K mg base d.N d.x d.scope f cdv A outer s H E) (κ.base h) (BXs (κ.base h) (WE fun cls d _ H' => E cls d H')) false fun l st => (evF P lv i [] (mb l) st).calm))
    (c1 : chkFd P G i d = true) (ih : FnAll P G κ prog w K mg base lv) (g2 : FunD K d.x d.x d.params d.body d.scope [] [] f fd) :
    FnG prog w K mg base (L2.CX prog w) (3 * (lv + 1)) f fd d.ps (spD κ K d.ps fun ds st => evF P (lv + 1) i ds (fun _ => .bad) st) := by
  obtain ⟨c2, c3, _⟩ := t
  unfold chkFd at c1
  split at c1
  · rename_i fn hfn
    obtain ⟨k1, k3⟩ := and2 c1
    obtain ⟨k1, k2⟩ := and2 k1
    obtain ⟨oc, od, dV, kV, doc, pm, an, cdv, ct, osl, rfl, lk, hcd, _, _⟩ := g2.ex
    refine fn_ofG lk hcd c2 (fun vs H Q E q => q.1) fun A outer s H vs Q E hr hsp => ?_
    obtain ⟨hl, h, ρ, dd, st, s0, rr, q⟩ := hsp
    have F := fit_fn (th := fun _ => .bad) (h := h) M0 (f := f) (cdv := cdv) (A := A) (outer := outer) (s := s) (H := H) (E := E) c2 ih hr (fun hlm2 => hlam hlm2 h cdv A outer s H E hr hcd ⟨_, _, _, _, lk, rfl⟩)
    refine ⟨_, sndSs fn.body k3 F (fun _ _ => rfl), ?_⟩
    have q' : EndG ⟨κ.base h, K⟩ (BX κ E) (RE ⟨κ.base h, K⟩ false) ρ H (optR (P.funs i) fun fn => if dd.length = fn.nps then (evSs P (evF P lv) (fun _ => .bad) fn.body none (dd.map some ++ List.replicate (fn.nsl - fn.nps) none) st).bind fun r st => r.ends st else .bad) Q := q
    rw [hfn] at q'
    simp only [optR] at q'
    have e1 := of_decide_eq_true k1
    have e2 := of_decide_eq_true k2
    have hdl : dd.length = fn.nps := by rw [rr.length, hl, e1]
    rw [if_pos hdl] at q'
    refine ⟨ρ, dd.map some ++ List.replicate (fn.nsl - fn.nps) none, st, ⟨s0, ?_, fun p hp => nomatch hp⟩, ends_end q'⟩
    rw [← hdl]
    exact start_rel e2 (by rw [hl]; exact c3) rr
  · cases c1
end

/-- what a lambda taker's text must be -/
structure LtOk (P : Par) (G : Gd) (i : Nat) (x : Str) (dg : Fd) (a : Str) : Prop where
  nm : dg.x = x
  ps : dg.ps = [a]
  ck : chkGd P G i dg a = true
  tx : TxOk dg
  at0 : dg.N[0]? = some a
  vis : Vis dg.scope a
  ok : nmOk a = true
/-- a law's text: plain data -/
structure LawTx (P : Par) (G : Gd) (ds dl : List Fd) (i0 : Nat) (d0 : Fd) : Prop where
  ncl : P.ncl = G.cl.length
  tx : ∀ d, d ∈ ds → TxOk d
  fn : ∀ (i : Nat) (x : Str) (n : Nat), G.fn[i]? = some (x, n) → ∃ d : Fd, ds[i]? = some d ∧ d.x = x ∧ d.ps.length = n
  lt : ∀ i x, (i, x) ∈ G.lm → ∃ dg a, dg ∈ dl ∧ LtOk P G i x dg a
  law : ds[i0]? = some d0
  lx : d0.x = "law"
  lp : d0.ps = [("script" : Str)]
  lck : chkFd P G i0 d0 = true
  rp : RpOk P

def fnB (G : Gd) (ds : List Fd) : Bool := (List.range G.fn.length).all fun i => match G.fn[i]?, ds[i]? with
  | some (x, n), some d => decide (d.x = x) && decide (d.ps.length = n)
  | _, _ => false
theorem fn_ofB {G : Gd} {ds : List Fd} (h : fnB G ds = true) : ∀ (i : Nat) (x : Str) (n : Nat), G.fn[i]? = some (x, n) → ∃ d : Fd, ds[i]? = some d ∧ d.x = x ∧ d.ps.length = n := by
  intro i x n hi
  have q := List.all_eq_true.mp h i (List.mem_range.mpr (lt_of_get hi))
  rw [hi] at q
  cases hd : ds[i]? with
  | none => rw [hd] at q; cases q
  | some d =>
    rw [hd] at q
    obtain ⟨q1, q2⟩ := Bool.and_eq_true_iff.mp q
    exact ⟨d, rfl, of_decide_eq_true q1, of_decide_eq_true q2⟩
theorem law_at {P : Par} {G : Gd} {ds dl : List Fd} {i0 : Nat} {d0 : Fd} (T : LawTx P G ds dl i0 d0) {l : PySem.W.OpenLaw} {w : World} {K : PySem.W.Frag} {mg : Str → Option Value} {h : Heap} {fa : Addr} {ts : List He.Tab} {lv : Nat}
    (X : K.In h) (Gn : h.Ns mainGlobals mg) (hmg : mg "law" = some (.ref fa)) (c : He.SaysX (faOf G ((ds ++ dl).map (·.x))) ((ds ++ dl).map dfOf) ts (tfOf ds) (exB P G (tfOf ds)) w h K)
    (hpf : P.fld ≠ [] → l.prog.main.file = G.file ∧ (l.prog.main.scope.names.lookup ("super" : Str)).isSome = false)
    (hsp : ∀ (base : Heap) (lv : Nat), (∀ m, m ≤ lv → FnAll P G (kxOf G K ds) l.prog w K mg base m) → Mf P G (kxOf G K ds) K mg base l.prog →
      ∀ (i : Nat) (d : Fd), ds[i]? = some d → chkFd P G i d = false → ∀ (f : Addr) (fd : FuncData), mg d.x = some (.ref f) → FunD K d.x d.x d.params d.body d.scope [] [] f fd → FnG l.prog w K mg base (L2.CX l.prog w) (3 * (lv + 1)) f fd d.ps (spD (kxOf G K ds) K d.ps fun ds st => evF P (lv + 1) i ds (fun _ => .bad) st))
    (hm : ∀ ns : List Int, ns.length ≤ 63 → (∀ z ∈ ns, Builtin.Int.intBits z ≤ 1048576) → ∃ st, evF P (lv + 1) i0 [.scr ns] (fun _ => .bad) [] = .ok (.bl true) st) :
    LawG l w K L2.CX0 (3 * (lv + 1)) 63 "script" mg fa h := by
  have inX : ∀ d, d ∈ ds ++ dl → d.x ∈ (ds ++ dl).map (·.x) := fun d hd => List.mem_map.mpr ⟨d, hd, rfl⟩
  have inF : ∀ d, d ∈ ds ++ dl → dfOf d ∈ (ds ++ dl).map dfOf := fun d hd => List.mem_map.mpr ⟨d, hd, rfl⟩
  have hA : ∀ (i : Nat) (d : Fd), ds[i]? = some d → At1 K mg d := fun i d hi =>
    at_of X Gn c (inX d (List.mem_append_left _ (List.mem_of_getElem? hi))) (inF d (List.mem_append_left _ (List.mem_of_getElem? hi))) (T.tx d (List.mem_of_getElem? hi))
  have hL : ∀ i x, (i, x) ∈ G.lm → ∃ dg a, Lt P G K mg i x dg a := fun i x hi => by
    obtain ⟨dg, a, h1, L⟩ := T.lt i x hi
    exact ⟨dg, a, L.nm, L.ps, L.ck, L.tx.sc, L.at0, L.vis, L.ok, at_of X Gn c (inX dg (List.mem_append_right _ h1)) (inF dg (List.mem_append_right _ h1)) L.tx⟩
  have m0 : d0 ∈ ds := List.mem_of_getElem? T.law
  obtain ⟨f, fd, g1, g2, g3⟩ := hA i0 d0 T.law
  have ef : f = fa := by
    rw [T.lx, hmg] at g1
    cases g1; rfl
  subst ef
  have e2 : ∀ p ∈ (tfOf ds).map (He.cT K), ∃ q ∈ tfOf ds, He.cT K q = p := fun p hp => by
    obtain ⟨q, h1, h2⟩ := List.mem_map.mp hp
    exact ⟨q, h1, h2⟩
  refine ⟨fd, (tfOf ds).map (He.cT K), spLaw (kxOf G K ds) K, fun p hp => ?_, fun p hp => ?_, fun p hp => ?_, fun s u => ?_, fun H a ns hl hb hH hS => ?_, fun base KB GB hsy hB => ?_⟩
  · obtain ⟨q, h1, rfl⟩ := e2 p hp
    exact c.empty q h1
  · obtain ⟨q, h1, rfl⟩ := e2 p hp
    exact c.out q h1
  · obtain ⟨q, h1, rfl⟩ := e2 p hp
    exact PySem.W.codeHd_of_K X (c.hd q h1)
  · have q := g2.bindsA (ps := d0.ps) (T.tx d0 m0).bd s [u] (by rw [T.lp]; rfl)
    rw [T.lp] at q
    exact q
  · refine ⟨a, ns, rfl, hl, hb, fun p hp => ?_, hS, fun H' => rfl⟩
    obtain ⟨d, hd, rfl⟩ := List.mem_map.mp hp
    exact hH (He.cT K (d.x, none)) (List.mem_map.mpr ⟨(d.x, none), List.mem_map.mpr ⟨d, hd, rfl⟩, rfl⟩)
  · have M0 : Mf P G (kxOf G K ds) K mg base l.prog := mf_of X Gn c T.ncl T.rp ds hsy hpf
    have all : ∀ m, FnAll P G (kxOf G K ds) l.prog w K mg base m := fun m =>
      fn_all M0 (fun i d hi => ⟨(T.tx d (List.mem_of_getElem? hi)).sc, (T.tx d (List.mem_of_getElem? hi)).le⟩) hA T.fn
        (fun lv hfn j h d hd hlm f cdv A outer s H E hr hcd hmg hlk i x hi params body scope lpos p pos fb mb ok hb =>
          lam_of (ds := ds) M0 hL (tab_of X Gn c (fun d hd => inX d (List.mem_append_left _ hd)) hB) lv hfn j h d hd hlm f cdv A outer s H E hr hcd hmg hlk i x hi params body scope lpos p pos fb mb ok hb)
        (fun lv ih i d hi hck f fd hmg hF => hsp base lv ih M0 i d hi hck f fd hmg hF) m
    have F := fn_step (base := base) M0 (T.tx d0 m0) (fun hlm h cdv A outer s H E hr hcd hlk i x hi params body scope lpos p pos fb mb ok hb =>
          lam_of (ds := ds) M0 hL (tab_of X Gn c (fun d hd => inX d (List.mem_append_left _ hd)) hB) lv (fun m _ => all m) i0 h d0 T.law hlm f cdv A outer s H E hr hcd (by rw [T.lx]; exact hmg) hlk i x hi params body scope lpos p pos fb mb ok hb) T.lck (all lv) g2
    rw [T.lp] at F
    exact law_ofT F rfl hm
end Pm

set_option Elab.async false
set_option linter.all false
set_option maxRecDepth 100000
set_option maxHeartbeats 16000000
/-! EvX: where a token is out: replace with a count, displays, calls, extend. -/
namespace Pm
open PySem PySem.Spec PyProof.Rows L2 LamX
set_option autoImplicit false

section
open Builtin Builtin.Str
/-- the places of y in x, one at the most -/
abbrev occ1 (x y : Str) : List Nat := occurrences x y 0 x.length 1
def tx1 (x y z : Str) : Str := if ((occ1 x y).isEmpty || (y.length == 0 && z.length == 0)) = true then x else glued z (partsBetween x (occ1 x y) y.length)
theorem gives_replace1 (x y z : Str) (t u v n : Tok)
    (hf : ((occ1 x y).isEmpty || (y.length == 0 && z.length == 0)) = false → (u == 0 || v == 0) = false ∧ (u == v) = false ∧ (y == z) = false ∧ tooLong (x.length + (occ1 x y).length * z.length) = false) :
    PySem.Gives («str.replace» ⟨[.str x t, .str y u, .str z v, .int 1 n], []⟩) (if ((occ1 x y).isEmpty || (y.length == 0 && z.length == 0)) = true then .val (.str x t) else .str (glued z (partsBetween x (occ1 x y) y.length))) := by
  show PySem.Gives (do
    let limit ← countLimit "str.replace" (some (.int 1 n)) (x.length + 1)
    let cuts := occurrences x y 0 x.length limit
    if (cuts.isEmpty || (y.length == 0 && z.length == 0)) = true then (do rule "str.replace.nothing"; ret (.str x t)) else
      (do let same ← isSame (.str y u) (.str z v)
          if same = true then (do rule "str.replace.old-is-new"; ret (.str x t)) else
          if tooLong (x.length + cuts.length * z.length) = true then unsupported "str.replace:memory" else
          retStr (glued z (partsBetween x cuts y.length)))) _
  rw [countLimit_int "str.replace" 1 n (x.length + 1) (by decide)]
  show PySem.Gives (if ((occ1 x y).isEmpty || (y.length == 0 && z.length == 0)) = true then (do rule "str.replace.nothing"; ret (.str x t)) else
      (do let same ← isSame (.str y u) (.str z v)
          if same = true then (do rule "str.replace.old-is-new"; ret (.str x t)) else
          if tooLong (x.length + (occ1 x y).length * z.length) = true then unsupported "str.replace:memory" else
          retStr (glued z (partsBetween x (occ1 x y) y.length)))) _
  cases hc : ((occ1 x y).isEmpty || (y.length == 0 && z.length == 0))
  · obtain ⟨h0, huv, hyz, hl⟩ := hf hc
    rw [isSame_str_other y z u v h0 huv hyz, hl]
    exact .of_eq rfl
  · exact .rule (.of_eq rfl)
theorem tx1_fits {x z : Str} (y : Str) (hb : x.length + z.length ≤ 16777216) : (glued z (partsBetween x (occ1 x y) y.length)).length ≤ sizeLine := by
  have h1 := StrLaws.occ_length_le x y 0 x.length 1
  have hy : (glued y (partsBetween x (occ1 x y) y.length)).length = x.length := by rw [StrLaws.glued_between_self]
  rw [size_glued, length_partsBetween, Nat.add_sub_cancel] at hy
  rw [size_glued, length_partsBetween, Nat.add_sub_cancel, sizeLine_eq]
  have h2 : (occ1 x y).length * z.length ≤ 1 * z.length := Nat.mul_le_mul_right _ h1
  omega
theorem call_replace1 {prog : Program} {w : World} {A : Around} {E : Value → Shared → Prop} {s : Shared} {x y z : Str} {t u v n : Tok} {Q : Value → Shared → Prop} (hu : u ≠ 0) (hv : v ≠ 0) (huv : u ≠ v) (hyz : (y == z) = false) (hb : x.length + z.length ≤ 16777216)
    (hq : ∀ t' k, Q (.str (tx1 x y z) t') { s with toks := k }) : wpAny (model prog w) A (call (.builtin "str.replace") [.str x t, .str y u, .str z v, .int 1 n]) Q E s := by
  have hl : tooLong (x.length + (occ1 x y).length * z.length) = false := by
    have h1 := StrLaws.occ_length_le x y 0 x.length 1
    have h2 : (occ1 x y).length * z.length ≤ 1 * z.length := Nat.mul_le_mul_right _ h1
    have e : (2 : Nat) ^ 24 = 16777216 := by decide
    unfold tooLong sizeLine
    exact decide_eq_false (by omega)
  refine PySem.call_gives F.slot_str_replace (typeIs_str _ _ _) F.entry_str_replace (F.args_str_replace_4 _ _ _ _)
    (gives_replace1 x y z t u v n fun _ => ⟨by simp [hu, hv], by simp [huv], hyz, hl⟩) ?_
  have hq' := hq
  unfold tx1 at hq'
  cases hc : ((occ1 x y).isEmpty || (y.length == 0 && z.length == 0))
  · rw [hc] at hq'
    simp only [Bool.false_eq_true, if_false] at hq' ⊢
    exact ⟨tx1_fits y hb, hq' _ _⟩
  · rw [hc] at hq'
    simp only [if_true] at hq' ⊢
    exact hq' t s.toks
theorem replC1_none (c : Nat) (z : List Nat) : ∀ l : List Nat, (∀ i : Nat, l[i]? ≠ some c) → replC1 c z l = l
  | [], _ => rfl
  | a :: r, h => by
    have h0 : ¬ a = c := fun e => h 0 (by simp [e])
    unfold replC1
    rw [if_neg h0, replC1_none c z r fun i => by simpa using h (i + 1)]
theorem replC1_at (c : Nat) (z : List Nat) : ∀ (l : List Nat) (i : Nat), l[i]? = some c → (∀ k : Nat, k < i → l[k]? ≠ some c) → replC1 c z l = l.take i ++ (z ++ l.drop (i + 1))
  | [], i, h, _ => by simp at h
  | a :: r, 0, h, _ => by
    have : a = c := by simpa using h
    unfold replC1
    rw [if_pos this]; simp
  | a :: r, i + 1, h, hn => by
    have h0 : ¬ a = c := fun e => hn 0 (Nat.succ_pos _) (by simp [e])
    unfold replC1
    rw [if_neg h0, replC1_at c z r i (by simpa using h) fun k hk => by simpa using hn (k + 1) (by omega)]
    simp
theorem tx1_eq (c : Nat) (z x : List Nat) : tx1 (strS x) (strS [c]) (strS z) = strS (replC1 c z x) := by
  have ec : strS [c] = ⟨#[c]⟩ := rfl
  have ex : (strS x).cps.toList = x := by simp [strS]
  have one : ((⟨#[c]⟩ : Str).length == 0) = false := rfl
  unfold tx1
  rw [ec, one, Bool.false_and, Bool.or_false]
  rcases StrLaws.occ_head_from (strS x) ⟨#[c]⟩ 0 1 (Nat.le_refl 1) with ⟨h0, hn⟩ | ⟨i, r, h0, _, ha, hn⟩
  · rw [show occ1 (strS x) ⟨#[c]⟩ = [] from h0, if_pos (show ([] : List Nat).isEmpty = true from rfl)]
    rw [replC1_none c z x fun i hi => hn i (Nat.zero_le _) ((StrLaws.subAt_one (strS x) c i).mpr (by rw [ex]; exact hi))]
  · have hl := StrLaws.occ_length_le (strS x) ⟨#[c]⟩ 0 (strS x).length 1
    rw [h0] at hl
    have er : r = [] := by
      cases r with
      | nil => rfl
      | cons _ _ => simp at hl
    subst er
    rw [show occ1 (strS x) ⟨#[c]⟩ = [i] from h0, if_neg (by simp)]
    have hi := (StrLaws.subAt_one (strS x) c i).mp ha
    rw [ex] at hi
    have hlt : i < x.length := (List.getElem?_eq_some_iff.mp hi).1
    rw [replC1_at c z x i hi fun k hk hc => hn k (Nat.zero_le _) hk ((StrLaws.subAt_one (strS x) c k).mpr (by rw [ex]; exact hc))]
    have hp : partsBetween (strS x) [i] (⟨#[c]⟩ : Str).length = [strSub (strS x) 0 i, strSub (strS x) (i + 1) (strS x).length] := rfl
    rw [hp]
    have h2 := StrLaws.glued_list (strS z) (strSub (strS x) 0 i) [strSub (strS x) (i + 1) (strS x).length]
    have e3 : (glued (strS z) [strSub (strS x) 0 i, strSub (strS x) (i + 1) (strS x).length]).cps.toList = x.take i ++ (z ++ x.drop (i + 1)) := by
      rw [h2]
      show (strSub (strS x) 0 i).cps.toList ++ ((strS z).cps.toList ++ ((strSub (strS x) (i + 1) (strS x).length).cps.toList ++ [])) = _
      rw [StrLaws.strSub_toList, StrLaws.strSub_toList, ex, List.append_nil, strS_length]
      have ez : (strS z).cps.toList = z := by simp [strS]
      rw [ez, List.drop_zero, Nat.sub_zero, List.take_of_length_le (l := x.drop (i + 1)) (by rw [List.length_drop]; omega)]
    generalize glued (strS z) [strSub (strS x) 0 i, strSub (strS x) (i + 1) (strS x).length] = g at e3
    obtain ⟨⟨g⟩⟩ := g
    have e4 : g = x.take i ++ (z ++ x.drop (i + 1)) := e3
    rw [e4]; rfl
end

theorem PET.imp {X : Cx} {e : Expr} {t t' : TE} (h : PET X e t) (w : ∀ σ H Q, t' σ H Q → t σ H Q) : PET X e t' := fun pins s σ H Q z I q => h pins s σ H Q z I (w σ H Q q)
theorem PAT.imp {X : Cx} {e : List Expr} {t t' : TA} (h : PAT X e t) (w : ∀ σ H Q, t' σ H Q → t σ H Q) : PAT X e t' := fun pos pins s σ H Q z I q => h pos pins s σ H Q z I (w σ H Q q)
theorem PST.imp {X : Cx} {e : Stmt} {t t' : TS} (h : PST X e t) (w : ∀ D σ H, t' D σ H → t D σ H) : PST X e t' := fun pins s σ H D z I q => h pins s σ H D z I (w D σ H q)
theorem PSsT.imp {X : Cx} {e : List Stmt} {t t' : TS} (h : PSsT X e t) (w : ∀ D σ H, t' D σ H → t D σ H) : PSsT X e t' := fun pins s σ H D z I q => h pins s σ H D z I (w D σ H q)
section
variable {X : Cx} {o : Expr} {to : TE} {y z : Str} {j k : Nat} {c0 c1 c2 apos pos p : Pos}
def tRepl1 (to : TE) (y z : Str) : TE := fun σ H Q => to σ H fun v H1 => ∃ x, v = .str x ∧ x.length + z.length ≤ 16777216 ∧ Q (.str (tx1 x y z)) H1
/-- e.replace(y, z, 1) -/
theorem pet_repl1 {n : Nat} (ho : PET X o to) (hyz : (y == z) = false) (hbase : attributeBase o "replace" X.env (eval o X.env) = eval o X.env) (hline : (apos.endLine == pos.line) = true) :
    PET X (.Call (.Attribute o "replace" apos) [.Constant (.str y) j c0, .Constant (.str z) k c1, .Constant (.int 1) n c2] [] pos) (tRepl1 to y z) := by
  intro pins s σ H Q h0 I h
  have hs : starEach [.Constant (.str y) j c0, .Constant (.str z) k c1, .Constant (.int 1) n c2] X.env = [(false, eval (.Constant (.str y) j c0) X.env), (false, eval (.Constant (.str z) k c1) X.env), (false, eval (.Constant (.int 1) n c2) X.env)] := rfl
  refine wpAny_Call_method_lateS hbase rfl hline ?_
  rw [hs]
  show wpAny _ _ _ (fun ov s1 => MethodOnS X.prog X.w X.A X.xe "replace" ov pos [(false, eval (.Constant (.str y) j c0) X.env), (false, eval (.Constant (.str z) k c1) X.env), (false, eval (.Constant (.int 1) n c2) X.env)] (EP X pins σ Q) s1) _ _
  refine wpAny_mono (PySem.wpAny_toks (ho pins s σ H _ h0 I h)) (fun v s1 q => ?_) fun _ _ z => z.2
  obtain ⟨hk, v', H1, I1, r1, x, e1, hb, q⟩ := q
  subst e1
  obtain ⟨tx, e2⟩ := r1
  subst e2
  refine ⟨"str", _, PySem.F.plainAttrs_str, PySem.F.slot_str_replace, PySem.F.type_str_replace, typeIs_str _ _ _, (fun _ e => nomatch e), Calls.callWith_builtin rfl (Calls.evalArgs_plain (Calls.spliced_cons ?_))⟩
  refine Calls.Constant_str (Calls.spliced_cons (Calls.Constant_str (Calls.spliced_cons (wpAny_Constant_int (Calls.spliced_nil ?_)))))
  exact call_replace1 (by show s1.toks ≠ 0; omega) (by show s1.toks + 1 ≠ 0; omega) (by show s1.toks ≠ s1.toks + 1; omega) hyz hb fun t' k => ⟨.str _, H1, I1.tok k, ⟨t', rfl⟩, q⟩
end
section
variable {X : Cx} {κ : Kx} {B : L2.St → XW} {a b o e : Expr} {es : List Expr} {fa fb fr fo : Bool} {ma mb mo : Loc → Store → Res D} {ms : Loc → Store → Res (List D)} {pos p apos cpos : Pos} {P : Par}
theorem xa_nil : PAT X [] (eA X κ B fun _ st => .ok [] st) := fun ps pins s σ H Q _ I q => sa_nil.run ps pins s σ H Q I q
theorem xa_cons (he : PET X e (eE X κ B fa ma)) (hr : PAT X es (eA X κ B ms)) (hs : starEach (e :: es) X.env = (false, eval e X.env) :: starEach es X.env) :
    PAT X (e :: es) (eA X κ B fun l st => (ma l st).bind fun d st => (ms l st).bind fun ds st => .ok (d :: ds) st) :=
  PAT.imp (pat_cons he hr hs) fun σ H Q ⟨ρ, l, st, at0, q⟩ => ⟨ρ, l, st, at0, EndG.bind REs.back q fun d st1 ρ1 v H1 x1 s1 r1 q1 =>
    ⟨ρ1, l, st1, at0.go x1 s1, EndG.bind REs.back q1 fun ds st2 ρ2 vs H2 x2 s2 r2 q2 => q2 ρ2 (v :: vs) H2 (Ext.refl _ _) s2 (.cons (r1.1.mono s1 x2) r2)⟩⟩
theorem xe_lst (h : PAT X es (eA X κ B ms)) : PET X (.List es pos) (eE X κ B fr fun l st => (ms l st).bind fun ds st => sized ds (.lst ds) st) :=
  PET.imp (pet_lst h) fun σ H Q ⟨ρ, l, st, a, q⟩ => ⟨ρ, l, st, a, EndG.bind RE.back q fun ds st1 ρ1 vs H1 x1 s1 r1 q1 => by
    unfold sized at q1
    split at q1
    · rename_i hz
      have r1 : RelDs (Cx.kit X κ) ρ1 H1 ds vs := r1
      refine ⟨by rw [← r1.length, SL_eq]; exact hz, fun p hp => ?_⟩
      exact q1 ρ1 (.ref p) _ (ext_new hp) (sim_new s1 hp) ⟨new_lst s1 hp r1, fun _ _ => Fresh.lst s1 hp r1⟩
    · exact q1.elim⟩
theorem xe_repl1 {c : Nat} {t : List Nat} {j k n : Nat} {c0 c1 c2 : Pos} (hyz : (strS [c] == strS t) = false) (hbase : attributeBase o "replace" X.env (eval o X.env) = eval o X.env) (hline : (apos.endLine == pos.line) = true) (ho : PET X o (eE X κ B fo mo)) :
    PET X (.Call (.Attribute o "replace" apos) [.Constant (.str (strS [c])) j c0, .Constant (.str (strS t)) k c1, .Constant (.int 1) n c2] [] pos) (eE X κ B fr fun l st => (mo l st).bind fun x st => ifB (mtOk .replace1 st x) (Res.ofPair (mtD P .replace1 x [.str [c], .str t, .int 1] st)) .bad) :=
  PET.imp (pet_repl1 ho hyz hbase hline) fun σ H Q ⟨ρ, l, st, at0, q⟩ => ⟨ρ, l, st, at0, EndG.bind RE.back q fun d st1 ρ1 v H1 x1 s1 r1 q1 => by
    cases d with
    | str x =>
      have q2 : EndG (Cx.kit X κ) (B σ) (RE (Cx.kit X κ) fr) ρ1 H1 (Res.ofPair (if x.length + t.length < SL then some (.str (replC1 c t x), st1) else none)) Q := q1
      by_cases hz : x.length + t.length < SL
      · rw [if_pos hz] at q2
        obtain ⟨r1, _⟩ := r1
        cases r1
        refine ⟨strS x, rfl, by rw [strS_length, strS_length]; exact Nat.le_of_lt hz, ?_⟩
        rw [tx1_eq]
        exact q2 ρ1 _ H1 (Ext.refl _ _) s1 ⟨.str _, fun _ t => nomatch t⟩
      · rw [if_neg hz] at q2
        exact q2.elim
    | _ => exact q1.elim⟩
end
/-! ### calls -/
section
variable {X : Cx} {CX : CXT} {κ : Kx} {E : L2.St → XK} {k : Nat} {f : Addr} {fd : FuncData} {ps : List Str} {sp : Sp} {x : Str} {p pos : Pos} {e : Expr} {es : List Expr} {t : TA} {m : List D → Store → Res D} {ms : Loc → Store → Res (List D)}
theorem pet_call (F : FnG X.prog X.w X.K X.mg X.base CX k f fd ps sp) (room : RoomG k X.A) (gl : Gl X x) (hm : X.mg x = some (.ref f)) (kp : PySem.W.keepIn X.K (.ref f) = true) (bd : Binds X.K fd ps []) (out : ∀ σ, PassesAt CX X σ (E σ))
    (args : PAT X (e :: es) t) (db : (x == ("__debug__" : Str)) = false) (st : starEach (e :: es) X.env = (false, eval e X.env) :: starEach es X.env) (pl : (backTo pos (starEach es X.env)).any (·.1) = false) :
    PET X (.Call (.Name x p) (e :: es) [] pos) (tCallS sp E t) :=
  fun pn s σ H Q z I h => wpAny_Call_Name_kw (ld_glob I gl hm (PySem.W.callWith_K (h₀ := X.base) I.ok.mod.kin kp (thn (args pos pn s σ H _ z I h) fun us sa ⟨vs, Ha, Ia, rv, q⟩ => ⟨Ia.kIn, callee F room bd (out σ) Ia rv q⟩) st pl) db)
theorem xe_call (F : FnG X.prog X.w X.K X.mg X.base CX k f fd ps (spD κ X.K ps m)) (hr : RoomG k X.A) (hg : Gl X x) (hm : X.mg x = some (.ref f)) (hk : PySem.W.keepIn X.K (.ref f) = true) (hb : Binds X.K fd ps []) (hx : ∀ σ, PassesAt CX X σ (E σ))
    (ha : PAT X (e :: es) (eA X κ (BXs κ E) ms)) (hlen : ∀ l st ds st', ms l st = .ok ds st' → ds.length = ps.length) (hdb : (x == ("__debug__" : Str)) = false) (ns : (e :: es).all notStar = true) :
    PET X (.Call (.Name x p) (e :: es) [] pos) (eE X κ (BXs κ E) false fun l st => (ms l st).bind fun ds st => m ds st) := by
  have ns' : notStar e = true ∧ es.all notStar = true := by simpa using ns
  refine PET.imp (pet_call F hr hg hm hk hb hx ha hdb (star_cons ns'.1 _ _) (back_plain _ _ ns'.2)) fun σ H Q ⟨ρ, l, st, at0, q⟩ => ⟨ρ, l, st, at0, ?_⟩
  have hq : EndG (Cx.kit X κ) (BXs κ E σ) (RE (Cx.kit X κ) false) ρ H ((ms l st).bind fun ds st => m ds st) Q := q
  cases hms : ms l st with
  | bad => rw [hms] at hq; exact hq
  | exc c fs st1 => rw [hms] at hq; exact hq
  | ok ds st1 =>
    rw [hms] at hq
    intro ρ1 vs H1 x1 s1 r1
    have q1 := EndG.mono RE.back (show EndG (Cx.kit X κ) (BXs κ E σ) (RE (Cx.kit X κ) false) ρ H (m ds st1) Q from hq) x1
    have r2 : RelDs ⟨κ.base κ.h, X.K⟩ ρ1 H1 ds vs := RelDs.kit (κ := κ) (κ' := κ.base κ.h) rfl r1
    exact ⟨by rw [← r2.length]; exact hlen l st ds st1 hms, κ.h, ρ1, ds, st1, s1.kit (κ := κ) (κ' := κ.base κ.h) rfl rfl (fun p hp => nomatch hp), r2, EndG.base (κ := κ) s1 q1⟩
end
/-! ### methods -/
section
variable {X : Cx} {κ : Kx} {B : L2.St → XW} {o e : Expr} {es : List Expr} {fr fo : Bool} {mo : Loc → Store → Res D} {ms : Loc → Store → Res (List D)} {pos p apos cpos : Pos} {P : Par} {T id : String} {name : Str} {r : V → List V → Hp → VK → Prop} {to : TE} {t : TA}
theorem pet_bm (pa : PlainAttrs T) (slot : Slot T name id) (hty : typeOf (.builtin id) = pure (.type "method_descriptor")) (hm : MtR X id r) (ho : PE X o to) (ha : PAT X (e :: es) t)
    (hbase : attributeBase o name X.env (eval o X.env) = eval o X.env)
    (hfew : ((backTo cpos (starEach (e :: es) X.env)).all (fun x => !x.1) && (backToKw cpos (keywordEach [] X.env)).all (fun x => x.1.isSome)
      && decide ((e :: es).length + ([] : List Keyword).length + (if ([] : List Keyword).isEmpty then 0 else 1) < 30)) = true)
    (hline : (apos.endLine == cpos.line) = true) (hs : starEach (e :: es) X.env = (false, eval e X.env) :: starEach es X.env) (hplain : (backTo cpos (starEach es X.env)).any (·.1) = false) :
    PET X (.Call (.Attribute o name apos) (e :: es) [] cpos) (tBM X.K T r to t) := fun pn s σ H Q z I h =>
  wpAny_Call_method_late hbase hfew hline rfl (wpAny_mono (PySem.wpAny_toks (ho.run pn s σ H _ I h)) (fun v s1 q => by
    obtain ⟨hk, x, H1, I1, r1, ty, q1⟩ := q
    obtain ⟨h1, h2⟩ := tyV_is I1 r1 ty
    refine ⟨T, id, pa, slot, hty, h1, h2, ?_⟩
    have hA := ha cpos pn s1 σ H1 _ (Nat.le_trans z hk) I1 q1
    rw [hs] at hA ⊢
    refine Calls.callWith_builtin (by show (false || (backTo cpos (starEach es X.env)).any (·.1)) = false; rw [hplain] <;> rfl) (Calls.evalArgs_plain ?_)
    exact thn hA fun us s2 ⟨vs, H2, I2, r2, q2⟩ => hm pn s2 σ H2 x vs v us Q I2 r1 r2 q2) fun _ _ z => z.2)
theorem xe_mt (hu : X.A.units + 64 < cLine) (m : Mt) (hm : mtHas m = true) (hfr : m = .get ∨ m = .pop → fr = false) (hb : baseOk o = true) (hl : (apos.endLine == cpos.line) = true) (ns : (e :: es).all notStar = true) (hn : (e :: es).length < 30)
    (ho : PE X o (eE X κ B fo mo)) (ha : PAT X (e :: es) (eA X κ B ms)) :
    PET X (.Call (.Attribute o (mtN m) apos) (e :: es) [] cpos) (eE X κ B fr fun l st => (mo l st).bind fun x st => ifB (mtOk m st x) ((ms l st).bind fun ds st => .ofPair (mtD P m x ds st)) .bad) := by
  have ns' : notStar e = true ∧ es.all notStar = true := by simpa using ns
  have hfew : ((backTo cpos (starEach (e :: es) X.env)).all (fun x => !x.1) && (backToKw cpos (keywordEach [] X.env)).all (fun x => x.1.isSome)
      && decide ((e :: es).length + ([] : List Keyword).length + (if ([] : List Keyword).isEmpty then 0 else 1) < 30)) = true := by
    rw [back_all cpos X.env ns]
    simp only [Bool.true_and, Bool.and_eq_true, decide_eq_true_eq]
    exact ⟨rfl, by simpa using hn⟩
  refine PET.imp (pet_bm (mk_attrs _) (mt_slot m hm) (mt_type m hm) (mt_all hu m hm) ho ha (base_eq hb _ _ _) hfew hl (star_cons ns'.1 _ _) (back_plain _ _ ns'.2)) fun σ H Q ⟨ρ, l, st, at0, q⟩ => ⟨ρ, l, st, at0, EndG.bind RE.back q fun x st1 ρ1 v H1 x1 s1 r1 q1 => ?_⟩
  cases hok : mtOk m st1 x with
  | false => rw [hok] at q1; exact q1.elim
  | true =>
    rw [hok] at q1
    refine ⟨mtOk_rel s1 r1.1 hok, ρ1, l, st1, at0.go x1 s1, EndG.bind RE.back q1 fun ds st2 ρ2 vs H2 x2 s2 r2 q2 => ?_⟩
    obtain ⟨d, st3, e1, k⟩ := EndG.pair q2
    exact mt_rel s2 (r1.1.mono s1 x2) r2 hm hfr e1 k
theorem xp_ex {fe : Bool} {me : Loc → Store → Res D} (h : notComp e = true) (he : PET X e (eE X κ B fe me)) : PST X (.Expr e pos) (eS X κ B fun l st => (me l st).bind fun _ st => .ok (.nx l) st) :=
  PST.imp (t := tDrop (eE X κ B fe me)) (fun pn s σ H D z I h' => wpAny_Expr_any (thn (he pn s σ H _ z I h') fun v s1 ⟨x, H1, I1, r1, q1⟩ => ⟨σ, H1, I1, q1⟩) I.quiet (notComp_sw h _ _ _))
    fun D σ H ⟨ρ, l, st, at0, q⟩ => ⟨ρ, l, st, at0, EndS.bind q fun d st1 ρ1 v H1 x1 s1 r1 q1 => q1 ρ1 σ H1 (Ext.refl _ _) (at0.go x1 s1)⟩
end
end Pm

set_option Elab.async false
set_option linter.all false
set_option maxRecDepth 100000
set_option maxHeartbeats 16000000
/-! Ev37: where a token is out: replace. -/
namespace Pm
open PySem PySem.Spec PyProof.Rows L2 LamX
set_option autoImplicit false

section
variable {X : Cx} {κ : Kx} {B : L2.St → XW} {a b o : Expr} {fa fb fr fo : Bool} {ma mb mo : Loc → Store → Res D} {pos : Pos}
theorem two_ofT {r : R2} {f : Store → D → D → Option D}
    (hr : ∀ ρ H st d1 d2 v1 v2 d Q, Sim (Cx.kit X κ) ρ st H → RelD (Cx.kit X κ) ρ H d1 v1 → RelD (Cx.kit X κ) ρ H d2 v2 → f st d1 d2 = some d → Out (Cx.kit X κ) fr ρ H st d Q → r v1 v2 H Q) :
    ∀ σ H Q, tE (Cx.kit X κ) B fr (fun l st => (ma l st).bind fun x st => (mb l st).bind fun y st => .ofOpt (f st x y) st) σ H Q → tOp r (tE (Cx.kit X κ) B fa ma) (tE (Cx.kit X κ) B fb mb) σ H Q :=
  fun σ H Q ⟨ρ, l, st, at0, q⟩ => ⟨ρ, l, st, at0, EndG.bind RE.back q fun d1 st1 ρ1 v1 H1 x1 s1 r1 q1 =>
    ⟨ρ1, l, st1, at0.go x1 s1, EndG.bind RE.back q1 fun d2 st2 ρ2 v2 H2 x2 s2 r2 q2 => by
      obtain ⟨d, e, k⟩ := EndG.opt q2
      exact hr ρ2 H2 st2 d1 d2 v1 v2 d Q s2 (r1.1.mono s1 x2) r2.1 e k⟩⟩
theorem xe_bin (o : Op) (ha : PET X a (eE X κ B fa ma)) (hb : PET X b (eE X κ B fb mb)) :
    PET X (.BinOp a (opA o) b pos) (eE X κ B fr fun l st => (ma l st).bind fun x st => (mb l st).bind fun y st => .ofOpt (binD st o x y) st) :=
  PET.imp (CwR.pet_op (op_bin o) ha hb) (two_ofT fun ρ H st d1 d2 v1 v2 d Q s r1 r2 e k => bin_rel s r1 r2 e k)
theorem xe_repl {c : Nat} {t : List Nat} {j k : Nat} {c0 c1 apos : Pos} {P : Par} (hyz : (strS [c] == strS t) = false) (hbase : attributeBase o "replace" X.env (eval o X.env) = eval o X.env) (hline : (apos.endLine == pos.line) = true) (ho : PET X o (eE X κ B fo mo)) :
    PET X (.Call (.Attribute o "replace" apos) [.Constant (.str (strS [c])) j c0, .Constant (.str (strS t)) k c1] [] pos) (eE X κ B fr fun l st => (mo l st).bind fun x st => ifB (mtOk .replace st x) (Res.ofPair (mtD P .replace x [.str [c], .str t] st)) .bad) :=
  PET.imp (CwR.pet_replT ho hyz rfl hbase hline) fun σ H Q ⟨ρ, l, st, at0, q⟩ => ⟨ρ, l, st, at0, EndG.bind RE.back q fun d st1 ρ1 v H1 x1 s1 r1 q1 => by
    cases d with
    | str x =>
      have q2 : EndG (Cx.kit X κ) (B σ) (RE (Cx.kit X κ) fr) ρ1 H1 (Res.ofPair (if x.length + (x.length + 1) * t.length ≤ SL then some (.str (replC c t x), st1) else none)) Q := q1
      by_cases hz : x.length + (x.length + 1) * t.length ≤ SL
      · rw [if_pos hz] at q2
        obtain ⟨r1, _⟩ := r1
        cases r1
        refine ⟨strS x, rfl, by rw [strS_length, strS_length]; exact hz, ?_⟩
        rw [replace_eqS]
        exact q2 ρ1 _ H1 (Ext.refl _ _) s1 ⟨.str _, fun _ t => nomatch t⟩
      · rw [if_neg hz] at q2
        exact q2.elim
    | _ => exact q1.elim⟩
theorem xp_ret {e : Expr} {fe : Bool} {me : Loc → Store → Res D} (he : PET X e (eE X κ B fe me)) : PST X (.Return (some e) pos) (eS X κ B fun l st => (me l st).bind fun d st => .ok (.rt d) st) :=
  PST.imp (CwR.pst_ret he) fun D σ H ⟨ρ, l, st, at0, q⟩ => ⟨ρ, l, st, at0, EndS.bind q fun d st1 ρ1 v H1 x1 s1 r1 q1 => q1 ρ1 v H1 (Ext.refl _ _) s1 r1.1⟩
theorem xp_iff {c : Expr} {p q : List Stmt} {mc : Loc → Store → Res Bool} {mp mq : Loc → Store → Res Flow} (hc : PT X c (eT X κ B mc)) (ha : PSsT X p (eS X κ B mp)) (hb : PSsT X q (eS X κ B mq)) : PST X (.If c p q pos) (eS X κ B fun l st => (mc l st).bind fun k st => ifB k (mp l st) (mq l st)) :=
  PST.imp (CwR.pst_if hc ha hb) fun D σ H ⟨ρ, l, st, at0, q⟩ => ⟨ρ, l, st, at0, EndS.bind q fun k st1 ρ1 k' H1 x1 s1 r1 q1 => by
    cases r1
    cases k with
    | true => exact ⟨ρ1, l, st1, at0.go x1 s1, q1⟩
    | false => exact ⟨ρ1, l, st1, at0.go x1 s1, q1⟩⟩
theorem xs_cons {s : Stmt} {ss : List Stmt} {mp mq : Loc → Store → Res Flow} (hB : ∀ σ σ', B σ = B σ') (h1 : PST X s (eS X κ B mp)) (h2 : PSsT X ss (eS X κ B mq)) : PSsT X (s :: ss) (eS X κ B fun l st => (mp l st).bind fun f st => f.go (fun l => mq l st) st) :=
  PSsT.imp (psst_cons h1 h2) fun D σ H ⟨ρ, l, st, at0, q⟩ => ⟨ρ, l, st, at0, go_end (fun σ' => hB σ' σ) q⟩
end
def asRp : Expr → Option (Expr × Str × Str)
  | .Call (.Attribute o nm ap) [.Constant (.str y) _ _, .Constant (.str z) _ _] [] cp => if nm = "replace" ∧ (ap.endLine == cp.line) = true then some (o, y, z) else none
  | _ => none
theorem asRp_ok {x o : Expr} {y z : Str} (h : asRp x = some (o, y, z)) : ∃ ap j c0 k c1 cp, x = .Call (.Attribute o "replace" ap) [.Constant (.str y) j c0, .Constant (.str z) k c1] [] cp ∧ (ap.endLine == cp.line) = true := by
  unfold asRp at h
  split at h
  · split at h
    · rename_i hh
      obtain ⟨rfl, h2⟩ := hh
      cases h
      exact ⟨_, _, _, _, _, _, rfl, h2⟩
    · cases h
  · cases h
def asRp1 : Expr → Option (Expr × Str × Str)
  | .Call (.Attribute o nm ap) [.Constant (.str y) _ _, .Constant (.str z) _ _, .Constant (.int n) _ _] [] cp => if nm = "replace" ∧ (ap.endLine == cp.line) = true ∧ n = 1 then some (o, y, z) else none
  | _ => none
theorem asRp1_ok {x o : Expr} {y z : Str} (h : asRp1 x = some (o, y, z)) : ∃ ap j c0 k c1 n c2 cp, x = .Call (.Attribute o "replace" ap) [.Constant (.str y) j c0, .Constant (.str z) k c1, .Constant (.int 1) n c2] [] cp ∧ (ap.endLine == cp.line) = true := by
  unfold asRp1 at h
  split at h
  · split at h
    · rename_i hh
      obtain ⟨rfl, h2, rfl⟩ := hh
      cases h
      exact ⟨_, _, _, _, _, _, _, _, rfl, h2⟩
    · cases h
  · cases h
section
variable (G : Gd) (N : List Str)
mutual
def chkX (md : Md) (e : E) (sc : Scope) (x : Expr) : Bool := chkE G N md e sc x || (match e with
  | .bin op a b => match asBin x with
    | some (y, o, z) => decide (o = opA op) && chkX md a sc y && chkX md b sc z
    | none => false
  | .mt m o es => match m, es with
    | .replace, .cons (.str [c]) (.cons (.str t) .nil) => match asRp x with
      | some (ob, y, z) => decide (y = strS [c]) && decide (z = strS t) && !(strS [c] == strS t) && baseOk ob && chkX md o sc ob
      | none => false
    | .replace1, .cons (.str [c]) (.cons (.str t) (.cons (.int n) .nil)) => match asRp1 x with
      | some (ob, y, z) => decide (n = 1) && decide (y = strS [c]) && decide (z = strS t) && !(strS [c] == strS t) && baseOk ob && chkX md o sc ob
      | none => false
    | _, _ => false
  | .lst es => match asLst x with
    | some xs => chkXEs md es sc xs
    | none => false
  | .call f es => match asCall x with
    | some (n, y :: ys) => md.cm && glOk sc n && decide (G.fn[f]? = some (n, es.len)) && nmOk n && (y :: ys).all notStar && chkXEs md es sc (y :: ys)
    | _ => false
  | _ => false)
termination_by structural e
def chkXEs (md : Md) (e : Es) (sc : Scope) (x : List Expr) : Bool := match e with
  | .nil => x.isEmpty
  | .cons e es => match x with
    | y :: ys => notStar y && chkX md e sc y && chkXEs md es sc ys
    | [] => false
termination_by structural e
end
def chkXm (md : Md) (e : E) (sc : Scope) (v : Expr) : Bool := match e with
  | .mt m o es => match asMt v with
    | some (ob, nm, ys) => notComp v && decide (nm = mtN m) && mtHas m && baseOk ob && chkE G N md o sc ob && ys.all notStar && decide (ys.length < 30) && chkXEs G N md es sc ys
    | none => false
  | _ => false
mutual
def chkXS (md : Md) (s : S) (sc : Scope) (x : Stmt) : Bool := chkS G N md s sc x || (match s with
  | .ret e => match x with
    | .Return (some v) _ => chkX G N md e sc v
    | _ => false
  | .iff c a b => match x with
    | .If t p q _ => chkT G N md c sc t && chkXSs md a sc p && chkXSs md b sc q
    | _ => false
  | .ex e => match x with
    | .Expr v _ => chkXm G N md e sc v
    | _ => false
  | _ => false)
termination_by structural s
def chkXSs (md : Md) (s : Ss) (sc : Scope) (x : List Stmt) : Bool := match s with
  | .nil => x.isEmpty
  | .cons s ss => match x with
    | y :: ys => chkXS md s sc y && chkXSs md ss sc ys
    | [] => false
termination_by structural s
end
end
section
variable {P : Par} {G : Gd} {F : FnSem} {th : M} {N : List Str}
theorem pet_eq {X : Cx} {κ : Kx} {B : L2.St → XW} {e : Expr} {fr : Bool} {m m' : Loc → Store → Res D} (h : PET X e (eE X κ B fr m)) (k : ∀ l st, m' l st = m l st) : PET X e (eE X κ B fr m') := by
  have : m' = m := by funext l st; exact k l st
  rw [this]; exact h
theorem pat_eq {X : Cx} {κ : Kx} {B : L2.St → XW} {e : List Expr} {m m' : Loc → Store → Res (List D)} (h : PAT X e (eA X κ B m)) (k : ∀ l st, m' l st = m l st) : PAT X e (eA X κ B m') := by
  have : m' = m := by funext l st; exact k l st
  rw [this]; exact h
theorem pst_eq {X : Cx} {κ : Kx} {B : L2.St → XW} {e : Stmt} {m m' : Loc → Store → Res Flow} (h : PST X e (eS X κ B m)) (k : ∀ l st, m' l st = m l st) : PST X e (eS X κ B m') := by
  have : m' = m := by funext l st; exact k l st
  rw [this]; exact h
theorem psst_eq {X : Cx} {κ : Kx} {B : L2.St → XW} {e : List Stmt} {m m' : Loc → Store → Res Flow} (h : PSsT X e (eS X κ B m)) (k : ∀ l st, m' l st = m l st) : PSsT X e (eS X κ B m') := by
  have : m' = m := by funext l st; exact k l st
  rw [this]; exact h
mutual
theorem sndX : ∀ (e : E) {md : Md} {sc : Scope} {x : Expr} {xc : Option Nat} {κ : Kx} {E : L2.St → XK} {lv : Nat} {X : Cx}, chkX G N md e sc x = true → Fit P G F th xc N md κ E sc lv X → PET X x (eE X κ (BXs κ E) false (evE P F th xc e))
  | .bin op a b, md, sc, x, xc, κ, E, lv, X, h, f => by
    unfold chkX at h
    rcases Bool.or_eq_true_iff.mp h with h | h
    · exact CwR.PET.of (PE.imp (sndE _ h f) fun σ H Q ⟨ρ, l, st, a, q⟩ => ⟨ρ, l, st, a, q.weak⟩)
    · simp only at h
      split at h
      · rename_i y o z hx
        obtain ⟨h1, h3⟩ := and2 h
        obtain ⟨h1, h2⟩ := and2 h1
        obtain ⟨p, rfl⟩ := asBin_ok hx
        have e := of_decide_eq_true h1
        subst e
        exact pet_eq (xe_bin op (sndX a h2 f) (sndX b h3 f)) fun l st => by rw [evE]
      · cases h
  | .mt m o es, md, sc, x, xc, κ, E, lv, X, h, f => by
    unfold chkX at h
    rcases Bool.or_eq_true_iff.mp h with h | h
    · exact CwR.PET.of (PE.imp (sndE _ h f) fun σ H Q ⟨ρ, l, st, a, q⟩ => ⟨ρ, l, st, a, q.weak⟩)
    · simp only at h
      split at h
      · rename_i c t
        split at h
        · rename_i ob y z hx
          obtain ⟨h1, h5⟩ := and2 h
          obtain ⟨h1, h4⟩ := and2 h1
          obtain ⟨h1, h3⟩ := and2 h1
          obtain ⟨h1, h2⟩ := and2 h1
          have e1 := of_decide_eq_true h1
          have e2 := of_decide_eq_true h2
          subst e1 e2
          obtain ⟨ap, j, c0, k, c1, cp, rfl, hl⟩ := asRp_ok hx
          exact pet_eq (xe_repl (P := P) (by simpa using h3) (base_eq h4 _ _ _) hl (sndX o h5 f)) fun l st => by
            rw [evE]; congr 1; funext x st; simp only [evEs, evE, Res.bind]
        · cases h
      · rename_i c t n
        split at h
        · rename_i ob y z hx
          obtain ⟨h1, h5⟩ := and2 h
          obtain ⟨h1, h4⟩ := and2 h1
          obtain ⟨h1, h3⟩ := and2 h1
          obtain ⟨h1, h2⟩ := and2 h1
          obtain ⟨h0, h1⟩ := and2 h1
          have e0 := of_decide_eq_true h0
          have e1 := of_decide_eq_true h1
          have e2 := of_decide_eq_true h2
          subst e0 e1 e2
          obtain ⟨ap, j, c0, k, c1, n, c2, cp, rfl, hl⟩ := asRp1_ok hx
          exact pet_eq (xe_repl1 (P := P) (by simpa using h3) (base_eq h4 _ _ _) hl (sndX o h5 f)) fun l st => by
            rw [evE]; congr 1; funext x st; simp only [evEs, evE, Res.bind]
        · cases h
      · cases h
  | .non, md, sc, x, xc, κ, E, lv, X, h, f => by
    unfold chkX at h
    rcases Bool.or_eq_true_iff.mp h with h | h
    · exact CwR.PET.of (PE.imp (sndE _ h f) fun σ H Q ⟨ρ, l, st, a, q⟩ => ⟨ρ, l, st, a, q.weak⟩)
    · cases h
  | .bl _, md, sc, x, xc, κ, E, lv, X, h, f => by
    unfold chkX at h
    rcases Bool.or_eq_true_iff.mp h with h | h
    · exact CwR.PET.of (PE.imp (sndE _ h f) fun σ H Q ⟨ρ, l, st, a, q⟩ => ⟨ρ, l, st, a, q.weak⟩)
    · cases h
  | .int _, md, sc, x, xc, κ, E, lv, X, h, f => by
    unfold chkX at h
    rcases Bool.or_eq_true_iff.mp h with h | h
    · exact CwR.PET.of (PE.imp (sndE _ h f) fun σ H Q ⟨ρ, l, st, a, q⟩ => ⟨ρ, l, st, a, q.weak⟩)
    · cases h
  | .str _, md, sc, x, xc, κ, E, lv, X, h, f => by
    unfold chkX at h
    rcases Bool.or_eq_true_iff.mp h with h | h
    · exact CwR.PET.of (PE.imp (sndE _ h f) fun σ H Q ⟨ρ, l, st, a, q⟩ => ⟨ρ, l, st, a, q.weak⟩)
    · cases h
  | .v _, md, sc, x, xc, κ, E, lv, X, h, f => by
    unfold chkX at h
    rcases Bool.or_eq_true_iff.mp h with h | h
    · exact CwR.PET.of (PE.imp (sndE _ h f) fun σ H Q ⟨ρ, l, st, a, q⟩ => ⟨ρ, l, st, a, q.weak⟩)
    · cases h
  | .g _, md, sc, x, xc, κ, E, lv, X, h, f => by
    unfold chkX at h
    rcases Bool.or_eq_true_iff.mp h with h | h
    · exact CwR.PET.of (PE.imp (sndE _ h f) fun σ H Q ⟨ρ, l, st, a, q⟩ => ⟨ρ, l, st, a, q.weak⟩)
    · cases h
  | .tup _, md, sc, x, xc, κ, E, lv, X, h, f => by
    unfold chkX at h
    rcases Bool.or_eq_true_iff.mp h with h | h
    · exact CwR.PET.of (PE.imp (sndE _ h f) fun σ H Q ⟨ρ, l, st, a, q⟩ => ⟨ρ, l, st, a, q.weak⟩)
    · cases h
  | .lst es, md, sc, x, xc, κ, E, lv, X, h, f => by
    unfold chkX at h
    rcases Bool.or_eq_true_iff.mp h with h | hh
    · exact CwR.PET.of (PE.imp (sndE _ h f) fun σ H Q ⟨ρ, l, st, a, q⟩ => ⟨ρ, l, st, a, q.weak⟩)
    · simp only at hh
      split at hh
      · rename_i xs hx
        obtain ⟨p, rfl⟩ := asLst_ok hx
        exact pet_eq (xe_lst (sndXEs es hh f)) fun l st => by rw [evE]
      · cases hh
  | .neg _, md, sc, x, xc, κ, E, lv, X, h, f => by
    unfold chkX at h
    rcases Bool.or_eq_true_iff.mp h with h | h
    · exact CwR.PET.of (PE.imp (sndE _ h f) fun σ H Q ⟨ρ, l, st, a, q⟩ => ⟨ρ, l, st, a, q.weak⟩)
    · cases h
  | .cmp _ _ _, md, sc, x, xc, κ, E, lv, X, h, f => by
    unfold chkX at h
    rcases Bool.or_eq_true_iff.mp h with h | h
    · exact CwR.PET.of (PE.imp (sndE _ h f) fun σ H Q ⟨ρ, l, st, a, q⟩ => ⟨ρ, l, st, a, q.weak⟩)
    · cases h
  | .chn _ _ _ _ _, md, sc, x, xc, κ, E, lv, X, h, f => by
    unfold chkX at h
    rcases Bool.or_eq_true_iff.mp h with h | h
    · exact CwR.PET.of (PE.imp (sndE _ h f) fun σ H Q ⟨ρ, l, st, a, q⟩ => ⟨ρ, l, st, a, q.weak⟩)
    · cases h
  | .isn _, md, sc, x, xc, κ, E, lv, X, h, f => by
    unfold chkX at h
    rcases Bool.or_eq_true_iff.mp h with h | h
    · exact CwR.PET.of (PE.imp (sndE _ h f) fun σ H Q ⟨ρ, l, st, a, q⟩ => ⟨ρ, l, st, a, q.weak⟩)
    · cases h
  | .nisn _, md, sc, x, xc, κ, E, lv, X, h, f => by
    unfold chkX at h
    rcases Bool.or_eq_true_iff.mp h with h | h
    · exact CwR.PET.of (PE.imp (sndE _ h f) fun σ H Q ⟨ρ, l, st, a, q⟩ => ⟨ρ, l, st, a, q.weak⟩)
    · cases h
  | .and _ _, md, sc, x, xc, κ, E, lv, X, h, f => by
    unfold chkX at h
    rcases Bool.or_eq_true_iff.mp h with h | h
    · exact CwR.PET.of (PE.imp (sndE _ h f) fun σ H Q ⟨ρ, l, st, a, q⟩ => ⟨ρ, l, st, a, q.weak⟩)
    · cases h
  | .or _ _, md, sc, x, xc, κ, E, lv, X, h, f => by
    unfold chkX at h
    rcases Bool.or_eq_true_iff.mp h with h | h
    · exact CwR.PET.of (PE.imp (sndE _ h f) fun σ H Q ⟨ρ, l, st, a, q⟩ => ⟨ρ, l, st, a, q.weak⟩)
    · cases h
  | .not _, md, sc, x, xc, κ, E, lv, X, h, f => by
    unfold chkX at h
    rcases Bool.or_eq_true_iff.mp h with h | h
    · exact CwR.PET.of (PE.imp (sndE _ h f) fun σ H Q ⟨ρ, l, st, a, q⟩ => ⟨ρ, l, st, a, q.weak⟩)
    · cases h
  | .ite _ _ _, md, sc, x, xc, κ, E, lv, X, h, f => by
    unfold chkX at h
    rcases Bool.or_eq_true_iff.mp h with h | h
    · exact CwR.PET.of (PE.imp (sndE _ h f) fun σ H Q ⟨ρ, l, st, a, q⟩ => ⟨ρ, l, st, a, q.weak⟩)
    · cases h
  | .ix _ _, md, sc, x, xc, κ, E, lv, X, h, f => by
    unfold chkX at h
    rcases Bool.or_eq_true_iff.mp h with h | h
    · exact CwR.PET.of (PE.imp (sndE _ h f) fun σ H Q ⟨ρ, l, st, a, q⟩ => ⟨ρ, l, st, a, q.weak⟩)
    · cases h
  | .slc _ _ _, md, sc, x, xc, κ, E, lv, X, h, f => by
    unfold chkX at h
    rcases Bool.or_eq_true_iff.mp h with h | h
    · exact CwR.PET.of (PE.imp (sndE _ h f) fun σ H Q ⟨ρ, l, st, a, q⟩ => ⟨ρ, l, st, a, q.weak⟩)
    · cases h
  | .rev _, md, sc, x, xc, κ, E, lv, X, h, f => by
    unfold chkX at h
    rcases Bool.or_eq_true_iff.mp h with h | h
    · exact CwR.PET.of (PE.imp (sndE _ h f) fun σ H Q ⟨ρ, l, st, a, q⟩ => ⟨ρ, l, st, a, q.weak⟩)
    · cases h
  | .isi _ _, md, sc, x, xc, κ, E, lv, X, h, f => by
    unfold chkX at h
    rcases Bool.or_eq_true_iff.mp h with h | h
    · exact CwR.PET.of (PE.imp (sndE _ h f) fun σ H Q ⟨ρ, l, st, a, q⟩ => ⟨ρ, l, st, a, q.weak⟩)
    · cases h
  | .call g es, md, sc, x, xc, κ, E, lv, X, h, f => by
    unfold chkX at h
    rcases Bool.or_eq_true_iff.mp h with h | hh
    · exact CwR.PET.of (PE.imp (sndE _ h f) fun σ H Q ⟨ρ, l, st, a, q⟩ => ⟨ρ, l, st, a, q.weak⟩)
    · simp only at hh
      split at hh
      · rename_i hx
        obtain ⟨p, q, rfl⟩ := asCall_ok hx
        obtain ⟨h1, h6⟩ := and2 hh
        obtain ⟨h1, h5⟩ := and2 h1
        obtain ⟨h1, h4⟩ := and2 h1
        obtain ⟨h1, h3⟩ := and2 h1
        obtain ⟨h1, h2⟩ := and2 h1
        obtain ⟨a, fd, ps, e1, e2, e3, e4, e5⟩ := f.fn h1 g _ _ (of_decide_eq_true h3)
        exact pet_eq (xe_call e5 (f.room h1) (gl_ok f.hsc h2) e1 e2 e3 f.px (sndXEs es h6 f) (fun l st ds st' z => by rw [e4]; exact evEs_len es l st ds st' z) (nmOk_d h4).1 h5) fun l st => by rw [evE]
      · cases hh
  | .thk _ _, md, sc, x, xc, κ, E, lv, X, h, f => by
    unfold chkX at h
    rcases Bool.or_eq_true_iff.mp h with h | h
    · exact CwR.PET.of (PE.imp (sndE _ h f) fun σ H Q ⟨ρ, l, st, a, q⟩ => ⟨ρ, l, st, a, q.weak⟩)
    · cases h
  | .frc, md, sc, x, xc, κ, E, lv, X, h, f => by
    unfold chkX at h
    rcases Bool.or_eq_true_iff.mp h with h | h
    · exact CwR.PET.of (PE.imp (sndE _ h f) fun σ H Q ⟨ρ, l, st, a, q⟩ => ⟨ρ, l, st, a, q.weak⟩)
    · cases h
  | .isx _, md, sc, x, xc, κ, E, lv, X, h, f => by
    unfold chkX at h
    rcases Bool.or_eq_true_iff.mp h with h | h
    · exact CwR.PET.of (PE.imp (sndE _ h f) fun σ H Q ⟨ρ, l, st, a, q⟩ => ⟨ρ, l, st, a, q.weak⟩)
    · cases h
  | .bi _ _, md, sc, x, xc, κ, E, lv, X, h, f => by
    unfold chkX at h
    rcases Bool.or_eq_true_iff.mp h with h | h
    · exact CwR.PET.of (PE.imp (sndE _ h f) fun σ H Q ⟨ρ, l, st, a, q⟩ => ⟨ρ, l, st, a, q.weak⟩)
    · cases h
  | .lc _ _ _ _, md, sc, x, xc, κ, E, lv, X, h, f => by
    unfold chkX at h
    rcases Bool.or_eq_true_iff.mp h with h | h
    · exact CwR.PET.of (PE.imp (sndE _ h f) fun σ H Q ⟨ρ, l, st, a, q⟩ => ⟨ρ, l, st, a, q.weak⟩)
    · cases h
  | .fmt _, md, sc, x, xc, κ, E, lv, X, h, f => by
    unfold chkX at h
    rcases Bool.or_eq_true_iff.mp h with h | h
    · exact CwR.PET.of (PE.imp (sndE _ h f) fun σ H Q ⟨ρ, l, st, a, q⟩ => ⟨ρ, l, st, a, q.weak⟩)
    · cases h
  | .dic _ _, md, sc, x, xc, κ, E, lv, X, h, f => by
    unfold chkX at h
    rcases Bool.or_eq_true_iff.mp h with h | h
    · exact CwR.PET.of (PE.imp (sndE _ h f) fun σ H Q ⟨ρ, l, st, a, q⟩ => ⟨ρ, l, st, a, q.weak⟩)
    · cases h
  | .box _, md, sc, x, xc, κ, E, lv, X, h, f => by
    unfold chkX at h
    rcases Bool.or_eq_true_iff.mp h with h | h
    · exact CwR.PET.of (PE.imp (sndE _ h f) fun σ H Q ⟨ρ, l, st, a, q⟩ => ⟨ρ, l, st, a, q.weak⟩)
    · cases h
  | .un _ _, md, sc, x, xc, κ, E, lv, X, h, f => by
    unfold chkX at h
    rcases Bool.or_eq_true_iff.mp h with h | h
    · exact CwR.PET.of (PE.imp (sndE _ h f) fun σ H Q ⟨ρ, l, st, a, q⟩ => ⟨ρ, l, st, a, q.weak⟩)
    · cases h
  | .mk _ _, md, sc, x, xc, κ, E, lv, X, h, f => by
    unfold chkX at h
    rcases Bool.or_eq_true_iff.mp h with h | h
    · exact CwR.PET.of (PE.imp (sndE _ h f) fun σ H Q ⟨ρ, l, st, a, q⟩ => ⟨ρ, l, st, a, q.weak⟩)
    · cases h
  | .mkv _, md, sc, x, xc, κ, E, lv, X, h, f => by
    unfold chkX at h
    rcases Bool.or_eq_true_iff.mp h with h | h
    · exact CwR.PET.of (PE.imp (sndE _ h f) fun σ H Q ⟨ρ, l, st, a, q⟩ => ⟨ρ, l, st, a, q.weak⟩)
    · cases h
  | .fld _ _, md, sc, x, xc, κ, E, lv, X, h, f => by
    unfold chkX at h
    rcases Bool.or_eq_true_iff.mp h with h | h
    · exact CwR.PET.of (PE.imp (sndE _ h f) fun σ H Q ⟨ρ, l, st, a, q⟩ => ⟨ρ, l, st, a, q.weak⟩)
    · cases h
  | .lzip _ _, md, sc, x, xc, κ, E, lv, X, h, f => by
    unfold chkX at h
    rcases Bool.or_eq_true_iff.mp h with h | h
    · exact CwR.PET.of (PE.imp (sndE _ h f) fun σ H Q ⟨ρ, l, st, a, q⟩ => ⟨ρ, l, st, a, q.weak⟩)
    · cases h
  | .frz _, md, sc, x, xc, κ, E, lv, X, h, f => by
    unfold chkX at h
    rcases Bool.or_eq_true_iff.mp h with h | h
    · exact CwR.PET.of (PE.imp (sndE _ h f) fun σ H Q ⟨ρ, l, st, a, q⟩ => ⟨ρ, l, st, a, q.weak⟩)
    · cases h
theorem sndXEs : ∀ (e : Es) {md : Md} {sc : Scope} {x : List Expr} {xc : Option Nat} {κ : Kx} {E : L2.St → XK} {lv : Nat} {X : Cx}, chkXEs G N md e sc x = true → Fit P G F th xc N md κ E sc lv X → PAT X x (eA X κ (BXs κ E) (evEs P F th xc e))
  | .nil, md, sc, x, xc, κ, E, lv, X, h, f => by
    cases x with
    | nil => exact pat_eq xa_nil fun l st => by rw [evEs]
    | cons _ _ => unfold chkXEs at h; cases h
  | .cons e es, md, sc, x, xc, κ, E, lv, X, h, f => by
    cases x with
    | nil => unfold chkXEs at h; cases h
    | cons y ys =>
      unfold chkXEs at h
      obtain ⟨h1, h3⟩ := and2 h
      obtain ⟨h1, h2⟩ := and2 h1
      exact pat_eq (xa_cons (sndX e h2 f) (sndXEs es h3 f) (star_cons h1 _ _)) fun l st => by rw [evEs]
end
theorem sndXm (e : E) {md : Md} {sc : Scope} {x : Expr} {xc : Option Nat} {κ : Kx} {E : L2.St → XK} {lv : Nat} {X : Cx} (h : chkXm G N md e sc x = true) (f : Fit P G F th xc N md κ E sc lv X) : notComp x = true ∧ PET X x (eE X κ (BXs κ E) false (evE P F th xc e)) := by
  unfold chkXm at h
  split at h
  · rename_i m o es
    split at h
    · rename_i ob nm ys hx
      obtain ⟨h1, h8⟩ := and2 h
      obtain ⟨h1, h7⟩ := and2 h1
      obtain ⟨h1, h6⟩ := and2 h1
      obtain ⟨h1, h5⟩ := and2 h1
      obtain ⟨h1, h4⟩ := and2 h1
      obtain ⟨h1, h3⟩ := and2 h1
      obtain ⟨h1, h2⟩ := and2 h1
      refine ⟨h1, ?_⟩
      have e := of_decide_eq_true h2
      subst e
      obtain ⟨ap, cp, rfl, hl⟩ := asMt_ok hx
      cases ys with
      | nil =>
        cases es with
        | nil => exact CwR.PET.of (pe_eq (se_mt0 f.un m h3 (fun _ => rfl) h4 hl (sndE o h5 f)) fun l st => by rw [evE]; congr 1; funext x st; rw [evEs])
        | cons _ _ => unfold chkXEs at h8; cases h8
      | cons y ys => exact pet_eq (xe_mt f.un m h3 (fun _ => rfl) h4 hl h6 (of_decide_eq_true h7) (sndE o h5 f) (sndXEs es h8 f)) fun l st => by rw [evE]
    · cases h
  · cases h
mutual
theorem sndXS : ∀ (s : S) {md : Md} {sc : Scope} {x : Stmt} {xc : Option Nat} {κ : Kx} {W : WX} {lv : Nat} {X : Cx}, chkXS G N md s sc x = true → FitS P G F th xc N md κ W sc lv X → (∀ σ σ', BXs κ (WE W) σ = BXs κ (WE W) σ') → PST X x (eS X κ (BXs κ (WE W)) (evS P F th s xc))
  | .ret e, md, sc, x, xc, κ, W, lv, X, h, f, hB => by
    unfold chkXS at h
    rcases Bool.or_eq_true_iff.mp h with h | h
    · exact PST.of (sndS _ h f (fun _ => hB))
    · simp only at h
      split at h
      · exact pst_eq (xp_ret (sndX e h f.toFit)) fun l st => by rw [evS]
      · cases h
  | .iff c a b, md, sc, x, xc, κ, W, lv, X, h, f, hB => by
    unfold chkXS at h
    rcases Bool.or_eq_true_iff.mp h with h | h
    · exact PST.of (sndS _ h f (fun _ => hB))
    · simp only at h
      split at h
      · obtain ⟨h1, h3⟩ := and2 h
        obtain ⟨h1, h2⟩ := and2 h1
        exact pst_eq (xp_iff (sndT c h1 f.toFit) (sndXSs a h2 f hB) (sndXSs b h3 f hB)) fun l st => by rw [evS]
      · cases h
  | .pass, md, sc, x, xc, κ, W, lv, X, h, f, hB => by
    unfold chkXS at h
    exact PST.of (sndS _ (by simpa using h) f (fun _ => hB))
  | .asg _ _, md, sc, x, xc, κ, W, lv, X, h, f, hB => by
    unfold chkXS at h
    exact PST.of (sndS _ (by simpa using h) f (fun _ => hB))
  | .par _ _, md, sc, x, xc, κ, W, lv, X, h, f, hB => by
    unfold chkXS at h
    exact PST.of (sndS _ (by simpa using h) f (fun _ => hB))
  | .aug _ _ _, md, sc, x, xc, κ, W, lv, X, h, f, hB => by
    unfold chkXS at h
    exact PST.of (sndS _ (by simpa using h) f (fun _ => hB))
  | .sub _ _ _, md, sc, x, xc, κ, W, lv, X, h, f, hB => by
    unfold chkXS at h
    exact PST.of (sndS _ (by simpa using h) f (fun _ => hB))
  | .ex e, md, sc, x, xc, κ, W, lv, X, h, f, hB => by
    unfold chkXS at h
    rcases Bool.or_eq_true_iff.mp h with h | h
    · exact PST.of (sndS _ h f (fun _ => hB))
    · simp only at h
      split at h
      · obtain ⟨h1, h2⟩ := sndXm e h f.toFit
        exact pst_eq (xp_ex h1 h2) fun l st => by rw [evS]
      · cases h
  | .retn, md, sc, x, xc, κ, W, lv, X, h, f, hB => by
    unfold chkXS at h
    exact PST.of (sndS _ (by simpa using h) f (fun _ => hB))
  | .for _ _ _, md, sc, x, xc, κ, W, lv, X, h, f, hB => by
    unfold chkXS at h
    exact PST.of (sndS _ (by simpa using h) f (fun _ => hB))
  | .whl _ _, md, sc, x, xc, κ, W, lv, X, h, f, hB => by
    unfold chkXS at h
    exact PST.of (sndS _ (by simpa using h) f (fun _ => hB))
  | .rse _ _, md, sc, x, xc, κ, W, lv, X, h, f, hB => by
    unfold chkXS at h
    exact PST.of (sndS _ (by simpa using h) f (fun _ => hB))
  | .try _ _ _ _, md, sc, x, xc, κ, W, lv, X, h, f, hB => by
    unfold chkXS at h
    exact PST.of (sndS _ (by simpa using h) f (fun _ => hB))
theorem sndXSs : ∀ (s : Ss) {md : Md} {sc : Scope} {x : List Stmt} {xc : Option Nat} {κ : Kx} {W : WX} {lv : Nat} {X : Cx}, chkXSs G N md s sc x = true → FitS P G F th xc N md κ W sc lv X → (∀ σ σ', BXs κ (WE W) σ = BXs κ (WE W) σ') → PSsT X x (eS X κ (BXs κ (WE W)) (evSs P F th s xc))
  | .nil, md, sc, x, xc, κ, W, lv, X, h, f, hB => by
    unfold chkXSs at h
    cases x with
    | nil => exact psst_eq (PSsT.of ss_nil) fun l st => by rw [evSs]
    | cons _ _ => cases h
  | .cons s ss, md, sc, x, xc, κ, W, lv, X, h, f, hB => by
    unfold chkXSs at h
    cases x with
    | nil => cases h
    | cons y ys =>
      obtain ⟨h1, h2⟩ := and2 h
      exact psst_eq (xs_cons hB (sndXS s h1 f hB) (sndXSs ss h2 f hB)) fun l st => by rw [evSs]
end
end
def chkFx (P : Par) (G : Gd) (i : Nat) (d : Fd) : Bool := !d.lm && (d.scope.names.all fun y => decide (y.2 ≠ .cell)) && decide (1 ≤ d.ps.length) && (match P.funs i with
  | some fn => decide (fn.nps = d.ps.length) && decide (fn.nsl = d.N.length) && chkXSs G d.N (md0 d.lm) fn.body d.scope d.body
  | none => false)
section
variable {P : Par} {G : Gd} {κ : Kx} {prog : Program} {w : World} {K : PySem.W.Frag} {mg : Str → Option Value} {base : Heap}
/-- a def with replace, a level higher -/
theorem fn_stepX (M0 : Mf P G κ K mg base prog) {lv i : Nat} {d : Fd} {f : Addr} {fd : FuncData} (t : TxOk d) (c1 : chkFx P G i d = true) (ih : FnAll P G κ prog w K mg base lv) (g2 : FunD K d.x d.x d.params d.body d.scope [] [] f fd) :
    FnG prog w K mg base (L2.CX prog w) (3 * (lv + 1)) f fd d.ps (spD κ K d.ps fun ds st => evF P (lv + 1) i ds (fun _ => .bad) st) := by
  obtain ⟨c2, c3, _⟩ := t
  unfold chkFx at c1
  obtain ⟨c1, c6⟩ := and2 c1
  obtain ⟨c1, c5⟩ := and2 c1
  obtain ⟨c1, c4⟩ := and2 c1
  have hlm : d.lm = false := by simpa using c1
  split at c6
  · rename_i fn hfn
    obtain ⟨k1, k3⟩ := and2 c6
    obtain ⟨k1, k2⟩ := and2 k1
    obtain ⟨oc, od, dV, kV, doc, pm, an, cdv, ct, osl, rfl, lk, hcd, _, _⟩ := g2.ex
    refine fn_ofTG (k := 3 * lv + 2) lk hcd c2 (fun y hy => of_decide_eq_true (List.all_eq_true.mp c4 y hy)) (of_decide_eq_true c5) (fun vs H Q E q => q.1) fun A outer s H vs Q E hr hsp => ?_
    obtain ⟨hl, h, ρ, dd, st, s0, rr, q⟩ := hsp
    have F := fit_fn (th := fun _ => .bad) (h := h) M0 (f := f) (cdv := cdv) (A := A) (outer := outer) (s := s) (H := H) (E := E) c2 ih hr (fun hlm2 => by rw [hlm] at hlm2; cases hlm2)
    refine ⟨_, sndXSs fn.body k3 F (fun _ _ => rfl), ?_⟩
    have q' : EndG ⟨κ.base h, K⟩ (BX κ E) (RE ⟨κ.base h, K⟩ false) ρ H (optR (P.funs i) fun fn => if dd.length = fn.nps then (evSs P (evF P lv) (fun _ => .bad) fn.body none (dd.map some ++ List.replicate (fn.nsl - fn.nps) none) st).bind fun r st => r.ends st else .bad) Q := q
    rw [hfn] at q'
    simp only [optR] at q'
    have e1 := of_decide_eq_true k1
    have e2 := of_decide_eq_true k2
    have hdl : dd.length = fn.nps := by rw [rr.length, hl, e1]
    rw [if_pos hdl] at q'
    refine ⟨ρ, dd.map some ++ List.replicate (fn.nsl - fn.nps) none, st, ⟨s0, ?_, fun p hp => nomatch hp⟩, ends_end q'⟩
    rw [← hdl]
    exact start_rel e2 (by rw [hl]; exact c3) rr
  · cases c6
end
theorem law_atX {P : Par} {G : Gd} {ds dl : List Fd} {i0 : Nat} {d0 : Fd} (T : LawTx P G ds dl i0 d0) (hx : ∀ (i : Nat) (d : Fd), ds[i]? = some d → chkFd P G i d = false → chkFx P G i d = true) {l : PySem.W.OpenLaw} {w : World} {K : PySem.W.Frag} {mg : Str → Option Value} {h : Heap} {fa : Addr} {ts : List He.Tab} {lv : Nat}
    (X : K.In h) (Gn : h.Ns mainGlobals mg) (hmg : mg "law" = some (.ref fa)) (c : He.SaysX (faOf G ((ds ++ dl).map (·.x))) ((ds ++ dl).map dfOf) ts (tfOf ds) (exB P G (tfOf ds)) w h K)
    (hpf : P.fld ≠ [] → l.prog.main.file = G.file ∧ (l.prog.main.scope.names.lookup ("super" : Str)).isSome = false)
    (hm : ∀ ns : List Int, ns.length ≤ 63 → (∀ z ∈ ns, Builtin.Int.intBits z ≤ 1048576) → ∃ st, evF P (lv + 1) i0 [.scr ns] (fun _ => .bad) [] = .ok (.bl true) st) :
    LawG l w K L2.CX0 (3 * (lv + 1)) 63 "script" mg fa h :=
  law_at T X Gn hmg c hpf (fun base lv all M0 i d hi hc f fd _ hF => fn_stepX M0 (T.tx d (List.mem_of_getElem? hi)) (hx i d hi hc) (all lv (Nat.le_refl _)) hF) hm
/-- what repr shows of plain data -/
def rpS (d : D) : List Nat := (toQ d).shown.cps.toList
theorem rpS_ok {P : Par} (h : P.rp = rpS) : RpOk P := fun d _ => by
  rw [h]
  unfold rpS
  generalize (toQ d).shown = g
  obtain ⟨⟨g⟩⟩ := g
  rfl
end Pm

set_option Elab.async false
set_option linter.all false
set_option maxRecDepth 100000
set_option maxHeartbeats 4000000
/-! EvK: the hook of the head, the table of statics looked at too. -/
namespace Pm
open PySem PySem.Spec PyProof.Rows L2 LamX
set_option autoImplicit false
def asZ (g : Addr → Option Obj) (n : Nat) : List Addr := cStatics :: He.asD g n
def obsZ (n : Nat) (fa : List He.Fa) (fn : List He.DefD) (ts : List He.Tab) (tf : List He.Defn) (ex : PySem.W.Frag → Bool) (g : Addr → Option Obj) : He.AlX :=
  (He.obsT fa fn ts (He.frT g (asZ g n)), ex (He.frT g (asZ g n)) && He.tabsB g tf (He.frT g (asZ g n)))
section
variable {n : Nat} {fa : List He.Fa} {fn : List He.DefD} {ts : List He.Tab} {tf : List He.Defn} {ex : PySem.W.Frag → Bool}
theorem saysZ {w : World} {hp : Heap} (q : obsZ n fa fn ts tf ex hp.get? = He.valX fn ts w) : He.SaysX fa fn ts tf ex w hp (He.frT hp.get? (asZ hp.get? n)) := by
  have nt : ∀ {a : Addr} {o : Obj}, hp.get? a = some o → He.emptyTab o = true → (He.frT hp.get? (asZ hp.get? n)).lookup a = none := fun h1 h2 => He.frT_none h1 h2
  unfold obsZ at q
  generalize He.frT hp.get? (asZ hp.get? n) = K0 at q nt
  have q1 : He.obsT fa fn ts K0 = He.valT fn ts w := congrArg Prod.fst q
  have q2 : (ex K0 && He.tabsB hp.get? tf K0) = true := congrArg Prod.snd q
  obtain ⟨q3, q4⟩ := Bool.and_eq_true_iff.mp q2
  have each : ∀ p, p ∈ tf → PySem.W.codeHdIn K0 (He.cT K0 p).1 (He.cT K0 p).2 = true ∧ ∃ o, hp.get? (He.cT K0 p).2 = some o ∧ He.emptyTab o = true := fun p hm => by
    obtain ⟨g1, g2⟩ := Bool.and_eq_true_iff.mp (List.all_eq_true.mp q4 p hm)
    cases g3 : hp.get? (He.cT K0 p).2 with
    | none => rw [g3] at g2; cases g2
    | some o => rw [g3] at g2; exact ⟨g1, o, rfl, g2⟩
  refine ⟨q1, q3, fun p hm => (each p hm).1, fun p hm => ?_, fun p hm => ?_⟩
  · obtain ⟨_, o, g1, g2⟩ := each p hm
    exact nt g1 g2
  · obtain ⟨_, o, g1, g2⟩ := each p hm
    rw [g1, He.emptyTab_eq g2]
variable (n fa fn ts tf ex)
def hookZ : PySem.W.Hook where
  α := He.AlX
  obs := fun s => obsZ n fa fn ts tf ex s.heap.get?
  val := fun v => He.valX fn ts v
  says := fun v hp => ∃ K : PySem.W.Frag, K.In hp ∧ He.SaysX fa fn ts tf ex v hp K
  of := fun _ _ q => ⟨_, He.frT_in, saysZ q⟩
  keeps := fun _ _ _ ⟨K, i, c⟩ k => ⟨K, PySem.W.Frag.In.keeps i k, ⟨c.t, c.more, c.hd, c.out, fun p hm => k _ _ (c.empty p hm)⟩⟩
variable {n fa fn ts tf ex}
theorem obsZ_eq {g : Addr → Option Obj} {s : Shared} (h : ∀ a, g a = s.heap.get? a) : obsZ n fa fn ts tf ex g = (hookZ n fa fn ts tf ex).obs s := by
  have : g = s.heap.get? := funext h
  subst this
  rfl
end
end Pm

set_option Elab.async false
set_option linter.all false
/-! printed by pr.py: the defs of a law in the small language -/
namespace Pk00
open Pm
set_option autoImplicit false
/-- _law_hand: script cells cell -/
def b0 : Ss := (.cons (.asg (.nm 1) (.lc (.bi .abs (.cons (.bi .int (.cons (.v 2) .nil)) .nil)) (.nm 2) (.seq (.slc (.v 0) .no (.yes (.int 63)))) .no)) (.cons (.ret (.box (.lst (.cons (.v 1) (.cons (.int 0) (.cons (.int 0) (.cons (.bin .add (.int 211) (.bin .mul (.int 7) (.bi .len (.cons (.v 1) .nil)))) (.cons (.int 0) .nil)))))))) .nil))
def f0 : Fn := ⟨1, 3, b0⟩
/-- _law_draw: hand many number cell digit -/
def b1 : Ss := (.cons (.iff (.and (.cmp .eq (.ix (.v 0) (.int 2)) (.int 0)) (.cmp .lt (.ix (.v 0) (.int 1)) (.bi .len (.cons (.ix (.v 0) (.int 0)) .nil)))) (.cons (.asg (.nm 3) (.ix (.ix (.v 0) (.int 0)) (.ix (.v 0) (.int 1)))) (.cons (.sub (.v 0) (.int 1) (.bin .add (.ix (.v 0) (.int 1)) (.int 1))) (.cons (.sub (.v 0) (.int 3) (.bin .mod (.bi .int (.cons (.bin .add (.bin .add (.bin .mul (.ix (.v 0) (.int 3)) (.int 69621)) (.v 3)) (.int 83)) .nil)) (.int 2147483629))) (.cons (.iff (.cmp .ge (.v 3) (.bin .pow (.int 10) (.int 18))) (.cons (.sub (.v 0) (.int 2) (.v 3)) .nil) .nil) .nil)))) .nil) (.cons (.iff (.cmp .gt (.ix (.v 0) (.int 2)) (.int 0)) (.cons (.asg (.nm 4) (.bin .mod (.bi .int (.cons (.ix (.v 0) (.int 2)) .nil)) (.v 1))) (.cons (.sub (.v 0) (.int 2) (.bin .fdiv (.ix (.v 0) (.int 2)) (.v 1))) (.cons (.ret (.v 4)) .nil))) .nil) (.cons (.sub (.v 0) (.int 4) (.bin .add (.ix (.v 0) (.int 4)) (.int 1))) (.cons (.asg (.nm 2) (.bin .mod (.bi .int (.cons (.bin .mul (.bi .int (.cons (.bin .add (.ix (.v 0) (.int 3)) (.bin .mul (.int 7919) (.ix (.v 0) (.int 4)))) .nil)) (.int 48271)) .nil)) (.int 2147483647))) (.cons (.asg (.nm 2) (.bin .mod (.bi .int (.cons (.bin .mul (.v 2) (.bin .add (.bin .fdiv (.v 2) (.int 1009)) (.int 69621))) .nil)) (.int 2147483647))) (.cons (.asg (.nm 2) (.bin .mod (.bi .int (.cons (.bin .mul (.v 2) (.bin .add (.bin .fdiv (.v 2) (.int 2003)) (.int 40692))) .nil)) (.int 2147483399))) (.cons (.ret (.bin .mod (.bi .int (.cons (.bin .fdiv (.v 2) (.int 16)) .nil)) (.v 1))) .nil)))))))
def f1 : Fn := ⟨2, 5, b1⟩
/-- _law_some: hand things -/
def b2 : Ss := (.cons (.ret (.ix (.v 1) (.call 1 (.cons (.v 0) (.cons (.bi .len (.cons (.v 1) .nil)) .nil))))) .nil)
def f2 : Fn := ⟨2, 2, b2⟩
/-- _law_kinds: one found -/
def b3 : Ss := (.cons (.asg (.nm 1) (.lst (.cons (.isi (.v 0) [.own 35]) (.cons (.isi (.v 0) [.own 40]) (.cons (.isi (.v 0) [.own 42]) (.cons (.isi (.v 0) [.own 43]) .nil)))))) (.cons (.asg (.nm 1) (.bin .add (.v 1) (.lst (.cons (.isi (.v 0) [.own 38]) .nil)))) (.cons (.asg (.nm 1) (.bin .add (.v 1) (.lst (.cons (.isi (.v 0) [.own 37]) (.cons (.isi (.v 0) [.own 33]) (.cons (.isi (.v 0) [.own 41]) (.cons (.isi (.v 0) [.own 23]) .nil))))))) (.cons (.asg (.nm 1) (.bin .add (.v 1) (.lst (.cons (.isi (.v 0) [.own 29]) (.cons (.isi (.v 0) [.own 9]) (.cons (.isi (.v 0) [.own 17]) .nil)))))) (.cons (.asg (.nm 1) (.bin .add (.v 1) (.lst (.cons (.isi (.v 0) [.own 6]) (.cons (.isi (.v 0) [.own 4]) (.cons (.isi (.v 0) [.own 22]) .nil)))))) (.cons (.asg (.nm 1) (.bin .add (.v 1) (.lst (.cons (.isi (.v 0) [.own 19]) (.cons (.isi (.v 0) [.own 34]) (.cons (.isi (.v 0) [.own 5]) .nil)))))) (.cons (.asg (.nm 1) (.bin .add (.v 1) (.lst (.cons (.isi (.v 0) [.own 13]) (.cons (.isi (.v 0) [.own 3]) (.cons (.isi (.v 0) [.own 2]) .nil)))))) (.cons (.asg (.nm 1) (.bin .add (.v 1) (.lst (.cons (.isi (.v 0) [.own 18]) (.cons (.isi (.v 0) [.own 16]) (.cons (.isi (.v 0) [.own 15]) .nil)))))) (.cons (.asg (.nm 1) (.bin .add (.v 1) (.lst (.cons (.isi (.v 0) [.own 21]) (.cons (.isi (.v 0) [.own 27]) (.cons (.isi (.v 0) [.own 11]) .nil)))))) (.cons (.asg (.nm 1) (.bin .add (.v 1) (.lst (.cons (.isi (.v 0) [.own 8]) (.cons (.isi (.v 0) [.own 12]) (.cons (.isi (.v 0) [.own 1]) .nil)))))) (.cons (.asg (.nm 1) (.bin .add (.v 1) (.lst (.cons (.isi (.v 0) [.own 26]) (.cons (.isi (.v 0) [.own 31]) (.cons (.isi (.v 0) [.own 25]) .nil)))))) (.cons (.asg (.nm 1) (.bin .add (.v 1) (.lst (.cons (.isi (.v 0) [.own 10]) (.cons (.isi (.v 0) [.own 30]) (.cons (.isi (.v 0) [.own 20]) .nil)))))) (.cons (.asg (.nm 1) (.bin .add (.v 1) (.lst (.cons (.isi (.v 0) [.own 24]) (.cons (.isi (.v 0) [.own 36]) (.cons (.isi (.v 0) [.own 28]) .nil)))))) (.cons (.asg (.nm 1) (.bin .add (.v 1) (.lst (.cons (.isi (.v 0) [.own 7]) (.cons (.isi (.v 0) [.own 39]) (.cons (.isi (.v 0) [.own 32]) .nil)))))) (.cons (.asg (.nm 1) (.bin .add (.v 1) (.lst (.cons (.isi (.v 0) [.own 14]) .nil)))) (.cons (.ret (.v 1)) .nil))))))))))))))))
def f3 : Fn := ⟨1, 2, b3⟩
/-- _law_plain: hand made -/
def b4 : Ss := (.cons (.asg (.nm 1) (.lst (.cons (.mk 35 .nil) (.cons (.mk 33 .nil) (.cons (.mk 23 .nil) (.cons (.mk 29 .nil) (.cons (.mk 9 .nil) (.cons (.mk 17 .nil) (.cons (.mk 6 .nil) (.cons (.mk 4 .nil) (.cons (.mk 22 .nil) (.cons (.mk 19 .nil) .nil)))))))))))) (.cons (.asg (.nm 1) (.bin .add (.v 1) (.lst (.cons (.mk 34 .nil) .nil)))) (.cons (.asg (.nm 1) (.bin .add (.v 1) (.lst (.cons (.mk 5 .nil) (.cons (.mk 13 .nil) (.cons (.mk 3 .nil) (.cons (.mk 2 .nil) (.cons (.mk 18 .nil) (.cons (.mk 16 .nil) (.cons (.mk 15 .nil) (.cons (.mk 21 .nil) (.cons (.mk 27 .nil) .nil)))))))))))) (.cons (.asg (.nm 1) (.bin .add (.v 1) (.lst (.cons (.mk 11 .nil) (.cons (.mk 8 .nil) (.cons (.mk 12 .nil) (.cons (.mk 1 .nil) (.cons (.mk 26 .nil) (.cons (.mk 31 .nil) (.cons (.mk 25 .nil) (.cons (.mk 10 .nil) .nil))))))))))) (.cons (.asg (.nm 1) (.bin .add (.v 1) (.lst (.cons (.mk 30 .nil) (.cons (.mk 20 .nil) (.cons (.mk 24 .nil) (.cons (.mk 28 .nil) (.cons (.mk 7 .nil) (.cons (.mk 32 .nil) (.cons (.mk 14 .nil) .nil)))))))))) (.cons (.ret (.v 1)) .nil))))))
def f4 : Fn := ⟨1, 2, b4⟩
/-- _law_filled: thing found kept many -/
def b5 : Ss := (.cons (.asg (.nm 1) (.lst (.cons (.mk 40 (.cons (.v 0) .nil)) (.cons (.mk 42 (.cons (.v 0) .nil)) (.cons (.mk 43 (.cons (.v 0) .nil)) (.cons (.mk 38 (.cons (.v 0) .nil)) (.cons (.mk 37 (.cons (.v 0) .nil)) (.cons (.mk 41 (.cons (.v 0) .nil)) (.cons (.mk 36 (.cons (.v 0) .nil)) .nil))))))))) (.cons (.asg (.nm 2) (.lst (.cons (.fld (.ix (.v 1) (.int 0)) [112, 97, 114, 116]) (.cons (.fld (.ix (.v 1) (.int 1)) [97, 114, 101, 97]) (.cons (.fld (.ix (.v 1) (.int 2)) [105, 110, 100, 101, 120]) (.cons (.fld (.ix (.v 1) (.int 3)) [112, 108, 97, 99, 101]) (.cons (.fld (.ix (.v 1) (.int 4)) [98, 97, 114]) (.cons (.fld (.ix (.v 1) (.int 5)) [97, 114, 101, 97]) (.cons (.fld (.ix (.v 1) (.int 6)) [108, 97, 99, 107, 105, 110, 103]) .nil))))))))) (.cons (.asg (.nm 3) (.mk 39 (.cons (.v 0) .nil))) (.cons (.ret (.lzip (.bin .add (.v 1) (.lst (.cons (.v 3) .nil))) (.bin .add (.v 2) (.lst (.cons (.fld (.v 3) [109, 111, 115, 116]) .nil))))) .nil))))
def f5 : Fn := ⟨1, 4, b5⟩
/-- _law_thing: hand some -/
def b6 : Ss := (.cons (.asg (.nm 1) (.lst (.cons .non (.cons (.int 0) (.cons (.neg (.int 1)) (.cons (.bin .pow (.int 10) (.int 30)) (.cons (.bl true) (.cons (.str []) (.cons (.str [97, 114, 101, 97]) (.cons (.tup .nil) (.cons (.tup (.cons (.int 1) (.cons (.tup (.cons (.int 2) (.cons (.int 3) .nil))) .nil))) (.cons (.lst (.cons (.int 4) (.cons (.lst (.cons (.int 5) .nil)) .nil))) (.cons (.dic [.s [97]] (.cons (.int 1) .nil)) (.cons (.tup (.cons (.str [117, 110, 115, 97, 102, 101]) (.cons (.str [111, 110, 101]) .nil))) .nil)))))))))))))) (.cons (.ret (.call 2 (.cons (.v 0) (.cons (.bin .add (.v 1) (.lst (.cons (.tup (.cons (.tup (.cons (.int 7) (.cons (.int 1) (.cons (.int 2) .nil)))) .nil)) .nil))) .nil)))) .nil))
def f6 : Fn := ⟨1, 2, b6⟩
/-- law: script hand plain thing filled error kinds kept -/
def b7_1 : Ss := (.cons (.asg (.nm 6) (.call 3 (.cons (.v 5) .nil))) (.cons (.iff (.or (.cmp .ne (.mt .count (.v 6) (.cons (.bl true) .nil)) (.int 1)) (.or (.not (.isi (.v 5) [.own 0])) (.not (.isi (.v 5) [.verr])))) (.cons (.ret (.bl false)) .nil) .nil) .nil))
def b7 : Ss := (.cons (.asg (.nm 1) (.call 0 (.cons (.v 0) .nil))) (.cons (.asg (.nm 2) (.call 4 (.cons (.v 1) .nil))) (.cons (.iff (.cmp .ne (.bi .len (.cons (.v 2) .nil)) (.int 35)) (.cons (.ret (.bl false)) .nil) .nil) (.cons (.asg (.nm 3) (.call 6 (.cons (.v 1) .nil))) (.cons (.asg (.nm 4) (.call 5 (.cons (.v 3) .nil))) (.cons (.iff (.not (.bi .all (.cons (.lc (.cmp .eq (.bi .repr (.cons (.v 7) .nil)) (.bi .repr (.cons (.v 3) .nil))) (.tp [5, 7]) (.seq (.v 4)) .no) .nil))) (.cons (.ret (.bl false)) .nil) .nil) (.cons (.for (.nm 5) (.seq (.bin .add (.v 2) (.lc (.v 5) (.tp [5, 7]) (.seq (.v 4)) .no))) b7_1) (.cons (.ret (.not (.bi .any (.cons (.lst (.cons (.cmp .isin (.bl true) (.call 3 (.cons (.mkv (.cons (.str [111, 110, 101]) .nil)) .nil))) (.cons (.isi (.mkv (.cons (.str [111, 110, 101]) .nil)) [.own 0]) .nil))) .nil)))) .nil))))))))
def f7 : Fn := ⟨1, 8, b7⟩
end Pk00

set_option linter.all false
/-! printed by genP.py: the functions, constants, classes -/
namespace Pk00
open Pm
set_option autoImplicit false
def funs : Nat → Option Fn
  | 0 => some f0
  | 1 => some f1
  | 2 => some f2
  | 3 => some f3
  | 4 => some f4
  | 5 => some f5
  | 6 => some f6
  | 7 => some f7
  | _ => none
def consts : Nat → D
  | _ => .non
def anc : Nat → List Nat
  | 0 => [0]
  | 1 => [1, 0]
  | 2 => [2, 0]
  | 3 => [3, 0]
  | 4 => [4, 0]
  | 5 => [5, 0]
  | 6 => [6, 0]
  | 7 => [7, 0]
  | 8 => [8, 0]
  | 9 => [9, 0]
  | 10 => [10, 0]
  | 11 => [11, 0]
  | 12 => [12, 0]
  | 13 => [13, 0]
  | 14 => [14, 0]
  | 15 => [15, 0]
  | 16 => [16, 0]
  | 17 => [17, 0]
  | 18 => [18, 0]
  | 19 => [19, 0]
  | 20 => [20, 0]
  | 21 => [21, 0]
  | 22 => [22, 0]
  | 23 => [23, 0]
  | 24 => [24, 0]
  | 25 => [25, 0]
  | 26 => [26, 0]
  | 27 => [27, 0]
  | 28 => [28, 0]
  | 29 => [29, 0]
  | 30 => [30, 0]
  | 31 => [31, 0]
  | 32 => [32, 0]
  | 33 => [33, 0]
  | 34 => [34, 0]
  | 35 => [35, 0]
  | 36 => [36, 0]
  | 37 => [37, 0]
  | 38 => [38, 0]
  | 39 => [39, 0]
  | 40 => [40, 0]
  | 41 => [41, 0]
  | 42 => [42, 0]
  | 43 => [43, 0]
  | _ => []
def P0 (rp : D → List Nat) : Par := { funs := funs, consts := consts, anc := anc, ncl := 44, fuel := 100000, rp := rp, fld := [none, none, none, none, none, none, none, none, none, none, none, none, none, none, none, none, none, none, none, none, none, none, none, none, none, none, none, none, none, none, none, none, none, none, none, none, some [108, 97, 99, 107, 105, 110, 103], some [98, 97, 114], some [112, 108, 97, 99, 101], some [109, 111, 115, 116], some [112, 97, 114, 116], some [97, 114, 101, 97], some [97, 114, 101, 97], some [105, 110, 100, 101, 120]] }
theorem P_fl0 (rp : D → List Nat) : (P0 rp).fl 0 = none := rfl
theorem P_fl1 (rp : D → List Nat) : (P0 rp).fl 1 = none := rfl
theorem P_fl2 (rp : D → List Nat) : (P0 rp).fl 2 = none := rfl
theorem P_fl3 (rp : D → List Nat) : (P0 rp).fl 3 = none := rfl
theorem P_fl4 (rp : D → List Nat) : (P0 rp).fl 4 = none := rfl
theorem P_fl5 (rp : D → List Nat) : (P0 rp).fl 5 = none := rfl
theorem P_fl6 (rp : D → List Nat) : (P0 rp).fl 6 = none := rfl
theorem P_fl7 (rp : D → List Nat) : (P0 rp).fl 7 = none := rfl
theorem P_fl8 (rp : D → List Nat) : (P0 rp).fl 8 = none := rfl
theorem P_fl9 (rp : D → List Nat) : (P0 rp).fl 9 = none := rfl
theorem P_fl10 (rp : D → List Nat) : (P0 rp).fl 10 = none := rfl
theorem P_fl11 (rp : D → List Nat) : (P0 rp).fl 11 = none := rfl
theorem P_fl12 (rp : D → List Nat) : (P0 rp).fl 12 = none := rfl
theorem P_fl13 (rp : D → List Nat) : (P0 rp).fl 13 = none := rfl
theorem P_fl14 (rp : D → List Nat) : (P0 rp).fl 14 = none := rfl
theorem P_fl15 (rp : D → List Nat) : (P0 rp).fl 15 = none := rfl
theorem P_fl16 (rp : D → List Nat) : (P0 rp).fl 16 = none := rfl
theorem P_fl17 (rp : D → List Nat) : (P0 rp).fl 17 = none := rfl
theorem P_fl18 (rp : D → List Nat) : (P0 rp).fl 18 = none := rfl
theorem P_fl19 (rp : D → List Nat) : (P0 rp).fl 19 = none := rfl
theorem P_fl20 (rp : D → List Nat) : (P0 rp).fl 20 = none := rfl
theorem P_fl21 (rp : D → List Nat) : (P0 rp).fl 21 = none := rfl
theorem P_fl22 (rp : D → List Nat) : (P0 rp).fl 22 = none := rfl
theorem P_fl23 (rp : D → List Nat) : (P0 rp).fl 23 = none := rfl
theorem P_fl24 (rp : D → List Nat) : (P0 rp).fl 24 = none := rfl
theorem P_fl25 (rp : D → List Nat) : (P0 rp).fl 25 = none := rfl
theorem P_fl26 (rp : D → List Nat) : (P0 rp).fl 26 = none := rfl
theorem P_fl27 (rp : D → List Nat) : (P0 rp).fl 27 = none := rfl
theorem P_fl28 (rp : D → List Nat) : (P0 rp).fl 28 = none := rfl
theorem P_fl29 (rp : D → List Nat) : (P0 rp).fl 29 = none := rfl
theorem P_fl30 (rp : D → List Nat) : (P0 rp).fl 30 = none := rfl
theorem P_fl31 (rp : D → List Nat) : (P0 rp).fl 31 = none := rfl
theorem P_fl32 (rp : D → List Nat) : (P0 rp).fl 32 = none := rfl
theorem P_fl33 (rp : D → List Nat) : (P0 rp).fl 33 = none := rfl
theorem P_fl34 (rp : D → List Nat) : (P0 rp).fl 34 = none := rfl
theorem P_fl35 (rp : D → List Nat) : (P0 rp).fl 35 = none := rfl
theorem P_fl36 (rp : D → List Nat) : (P0 rp).fl 36 = some [108, 97, 99, 107, 105, 110, 103] := rfl
theorem P_fl37 (rp : D → List Nat) : (P0 rp).fl 37 = some [98, 97, 114] := rfl
theorem P_fl38 (rp : D → List Nat) : (P0 rp).fl 38 = some [112, 108, 97, 99, 101] := rfl
theorem P_fl39 (rp : D → List Nat) : (P0 rp).fl 39 = some [109, 111, 115, 116] := rfl
theorem P_fl40 (rp : D → List Nat) : (P0 rp).fl 40 = some [112, 97, 114, 116] := rfl
theorem P_fl41 (rp : D → List Nat) : (P0 rp).fl 41 = some [97, 114, 101, 97] := rfl
theorem P_fl42 (rp : D → List Nat) : (P0 rp).fl 42 = some [97, 114, 101, 97] := rfl
theorem P_fl43 (rp : D → List Nat) : (P0 rp).fl 43 = some [105, 110, 100, 101, 120] := rfl
variable {rp : D → List Nat}
@[simp] theorem P_r : (P0 rp).rp = rp := rfl
@[simp] theorem P_fuel : (P0 rp).fuel = 100000 := rfl
@[simp] theorem P_f0 : (P0 rp).funs 0 = some f0 := rfl
@[simp] theorem P_f1 : (P0 rp).funs 1 = some f1 := rfl
@[simp] theorem P_f2 : (P0 rp).funs 2 = some f2 := rfl
@[simp] theorem P_f3 : (P0 rp).funs 3 = some f3 := rfl
@[simp] theorem P_f4 : (P0 rp).funs 4 = some f4 := rfl
@[simp] theorem P_f5 : (P0 rp).funs 5 = some f5 := rfl
@[simp] theorem P_f6 : (P0 rp).funs 6 = some f6 := rfl
@[simp] theorem P_f7 : (P0 rp).funs 7 = some f7 := rfl
@[simp] theorem P_a0 : (P0 rp).anc 0 = [0] := rfl
@[simp] theorem P_a1 : (P0 rp).anc 1 = [1, 0] := rfl
@[simp] theorem P_a2 : (P0 rp).anc 2 = [2, 0] := rfl
@[simp] theorem P_a3 : (P0 rp).anc 3 = [3, 0] := rfl
@[simp] theorem P_a4 : (P0 rp).anc 4 = [4, 0] := rfl
@[simp] theorem P_a5 : (P0 rp).anc 5 = [5, 0] := rfl
@[simp] theorem P_a6 : (P0 rp).anc 6 = [6, 0] := rfl
@[simp] theorem P_a7 : (P0 rp).anc 7 = [7, 0] := rfl
@[simp] theorem P_a8 : (P0 rp).anc 8 = [8, 0] := rfl
@[simp] theorem P_a9 : (P0 rp).anc 9 = [9, 0] := rfl
@[simp] theorem P_a10 : (P0 rp).anc 10 = [10, 0] := rfl
@[simp] theorem P_a11 : (P0 rp).anc 11 = [11, 0] := rfl
@[simp] theorem P_a12 : (P0 rp).anc 12 = [12, 0] := rfl
@[simp] theorem P_a13 : (P0 rp).anc 13 = [13, 0] := rfl
@[simp] theorem P_a14 : (P0 rp).anc 14 = [14, 0] := rfl
@[simp] theorem P_a15 : (P0 rp).anc 15 = [15, 0] := rfl
@[simp] theorem P_a16 : (P0 rp).anc 16 = [16, 0] := rfl
@[simp] theorem P_a17 : (P0 rp).anc 17 = [17, 0] := rfl
@[simp] theorem P_a18 : (P0 rp).anc 18 = [18, 0] := rfl
@[simp] theorem P_a19 : (P0 rp).anc 19 = [19, 0] := rfl
@[simp] theorem P_a20 : (P0 rp).anc 20 = [20, 0] := rfl
@[simp] theorem P_a21 : (P0 rp).anc 21 = [21, 0] := rfl
@[simp] theorem P_a22 : (P0 rp).anc 22 = [22, 0] := rfl
@[simp] theorem P_a23 : (P0 rp).anc 23 = [23, 0] := rfl
@[simp] theorem P_a24 : (P0 rp).anc 24 = [24, 0] := rfl
@[simp] theorem P_a25 : (P0 rp).anc 25 = [25, 0] := rfl
@[simp] theorem P_a26 : (P0 rp).anc 26 = [26, 0] := rfl
@[simp] theorem P_a27 : (P0 rp).anc 27 = [27, 0] := rfl
@[simp] theorem P_a28 : (P0 rp).anc 28 = [28, 0] := rfl
@[simp] theorem P_a29 : (P0 rp).anc 29 = [29, 0] := rfl
@[simp] theorem P_a30 : (P0 rp).anc 30 = [30, 0] := rfl
@[simp] theorem P_a31 : (P0 rp).anc 31 = [31, 0] := rfl
@[simp] theorem P_a32 : (P0 rp).anc 32 = [32, 0] := rfl
@[simp] theorem P_a33 : (P0 rp).anc 33 = [33, 0] := rfl
@[simp] theorem P_a34 : (P0 rp).anc 34 = [34, 0] := rfl
@[simp] theorem P_a35 : (P0 rp).anc 35 = [35, 0] := rfl
@[simp] theorem P_a36 : (P0 rp).anc 36 = [36, 0] := rfl
@[simp] theorem P_a37 : (P0 rp).anc 37 = [37, 0] := rfl
@[simp] theorem P_a38 : (P0 rp).anc 38 = [38, 0] := rfl
@[simp] theorem P_a39 : (P0 rp).anc 39 = [39, 0] := rfl
@[simp] theorem P_a40 : (P0 rp).anc 40 = [40, 0] := rfl
@[simp] theorem P_a41 : (P0 rp).anc 41 = [41, 0] := rfl
@[simp] theorem P_a42 : (P0 rp).anc 42 = [42, 0] := rfl
@[simp] theorem P_a43 : (P0 rp).anc 43 = [43, 0] := rfl
@[simp] theorem P_n : (P0 rp).ncl = 44 := rfl
end Pk00

set_option linter.all false
set_option maxRecDepth 100000
set_option maxHeartbeats 4000000
/-! PlA (printed by genA.py): the evaluator's steps as simp lemmas. -/
namespace Pl
open Pm
set_option autoImplicit false
section
variable {α β : Type}
@[simp] theorem bind_ok (a : α) (st : Store) (f : α → Store → Res β) : (Res.ok a st).bind f = f a st := rfl
@[simp] theorem bind_exc (c : Nat) (fs : List D) (st : Store) (f : α → Store → Res β) : (Res.exc c fs st : Res α).bind f = .exc c fs st := rfl
@[simp] theorem calm_ok (a : α) (st : Store) : (Res.ok a st).calm = .ok a st := rfl
@[simp] theorem optR_some (a : α) (f : α → Res β) : optR (some a) f = f a := rfl
@[simp] theorem optR_none (f : α → Res β) : optR none f = .bad := rfl
@[simp] theorem ofOpt_some (a : α) (st : Store) : Res.ofOpt (some a) st = .ok a st := rfl
@[simp] theorem ofPair_some (a : α) (st : Store) : Res.ofPair (some (a, st)) = .ok a st := rfl
@[simp] theorem optB_true (t f : Res α) : optB (some true) t f = t := rfl
@[simp] theorem optB_false (t f : Res α) : optB (some false) t f = f := rfl
theorem optB_some (b : Bool) (t f : Res α) : optB (some b) t f = if b then t else f := by cases b <;> rfl
@[simp] theorem ifB_true (t f : Res α) : ifB true t f = t := rfl
@[simp] theorem ifB_false (t f : Res α) : ifB false t f = f := rfl
@[simp] theorem go_nx (l : Loc) (k : Loc → Res Flow) (st : Store) : (Flow.nx l).go k st = k l := rfl
@[simp] theorem go_rt (d : D) (k : Loc → Res Flow) (st : Store) : (Flow.rt d).go k st = .ok (.rt d) st := rfl
@[simp] theorem turn_nx (l : Loc) (k : Loc → Res Flow) (st : Store) : (Flow.nx l).turn k st = k l := rfl
@[simp] theorem turn_ct (l : Loc) (k : Loc → Res Flow) (st : Store) : (Flow.ct l).turn k st = k l := rfl
@[simp] theorem turn_rt (d : D) (k : Loc → Res Flow) (st : Store) : (Flow.rt d).turn k st = .ok (.rt d) st := rfl
@[simp] theorem turn_bk (l : Loc) (k : Loc → Res Flow) (st : Store) : (Flow.bk l).turn k st = .ok (.nx l) st := rfl
@[simp] theorem ends_nx (l : Loc) (st : Store) : (Flow.nx l).ends st = .ok .non st := rfl
@[simp] theorem ends_rt (d : D) (st : Store) : (Flow.rt d).ends st = .ok d st := rfl
@[simp] theorem out_nx (l : Loc) (i : Nat) (st : Store) : (Flow.nx l).out i st = .ok (.nx (l.set i none)) st := rfl
@[simp] theorem out_rt (d : D) (i : Nat) (st : Store) : (Flow.rt d).out i st = .ok (.rt d) st := rfl
@[simp] theorem asInt_int (i : Int) (f : Int → Res α) : asInt (.int i) f = f i := rfl
@[simp] theorem tried_ok (f : Flow) (st : Store) (p : Nat → Option Bool) (h : Nat → Store → Res Flow) : (Res.ok f st).tried p h = .ok f st := rfl
@[simp] theorem tried_exc (k : Nat) (fs : List D) (st : Store) (p : Nat → Option Bool) (h : Nat → Store → Res Flow) : (Res.exc k fs st : Res Flow).tried p h = optB (p k) (h k st) (.exc k fs st) := rfl
@[simp] theorem truth_bl (st : Store) (b : Bool) : truth st (.bl b) = some b := rfl
@[simp] theorem truth_non (st : Store) : truth st .non = some false := rfl
@[simp] theorem truth_int (st : Store) (i : Int) : truth st (.int i) = some (i != 0) := rfl
@[simp] theorem partD_int (i : Int) : partD (.int i) = some (some i) := rfl
end
section
variable (P : Par) (F : FnSem) (th : M) (xc : Option Nat) (l : Loc) (st : Store)
@[simp] theorem evE_non : evE P F th xc (.non) l st = .ok .non st := by rw [evE]
@[simp] theorem evE_bl (b : Bool) : evE P F th xc (.bl b) l st = .ok (.bl b) st := by rw [evE]
@[simp] theorem evE_int (i : Int) : evE P F th xc (.int i) l st = .ok (.int i) st := by rw [evE]
@[simp] theorem evE_str (x : List Nat) : evE P F th xc (.str x) l st = .ok (.str x) st := by rw [evE]
@[simp] theorem evE_v (i : Nat) : evE P F th xc (.v i) l st = optR (l[i]?) fun o => optR o fun d => .ok d st := by rw [evE]
@[simp] theorem evE_g (i : Nat) : evE P F th xc (.g i) l st = .ok (P.consts i) st := by rw [evE]
@[simp] theorem evE_tup (es : Es) : evE P F th xc (.tup es) l st = (evEs P F th xc es l st).bind fun ds st => sized ds (.tup ds) st := by rw [evE]
@[simp] theorem evE_lst (es : Es) : evE P F th xc (.lst es) l st = (evEs P F th xc es l st).bind fun ds st => sized ds (.lst ds) st := by rw [evE]
@[simp] theorem evE_bin (op : Op) (a : E) (b : E) : evE P F th xc (.bin op a b) l st = (evE P F th xc a l st).bind fun x st => (evE P F th xc b l st).bind fun y st => .ofOpt (binD st op x y) st := by rw [evE]
@[simp] theorem evE_neg (a : E) : evE P F th xc (.neg a) l st = (evE P F th xc a l st).bind fun x st => asInt x fun i => .ok (.int (-i)) st := by rw [evE]
@[simp] theorem evE_cmp (op : Cm) (a : E) (b : E) : evE P F th xc (.cmp op a b) l st = (evE P F th xc a l st).bind fun x st => (evE P F th xc b l st).bind fun y st => .ofOpt ((cmpD st op x y).map .bl) st := by rw [evE]
@[simp] theorem evE_chn (o1 : Cm) (o2 : Cm) (a : E) (b : E) (c : E) : evE P F th xc (.chn o1 o2 a b c) l st = (evE P F th xc a l st).bind fun x st => (evE P F th xc b l st).bind fun y st => optB (cmpD st o1 x y) ((evE P F th xc c l st).bind fun z st => .ofOpt ((cmpD st o2 y z).map .bl) st) (.ok (.bl false) st) := by rw [evE]
@[simp] theorem evE_isn (a : E) : evE P F th xc (.isn a) l st = (evE P F th xc a l st).bind fun x st => optR (live st x) fun x => .ok (.bl (isNon x)) st := by rw [evE]
@[simp] theorem evE_nisn (a : E) : evE P F th xc (.nisn a) l st = (evE P F th xc a l st).bind fun x st => optR (live st x) fun x => .ok (.bl (!isNon x)) st := by rw [evE]
@[simp] theorem evE_and (a : E) (b : E) : evE P F th xc (.and a b) l st = (evE P F th xc a l st).bind fun x st => optB (truth st x) (evE P F th xc b l st) (.ok x st) := by rw [evE]
@[simp] theorem evE_or (a : E) (b : E) : evE P F th xc (.or a b) l st = (evE P F th xc a l st).bind fun x st => optB (truth st x) (.ok x st) (evE P F th xc b l st) := by rw [evE]
@[simp] theorem evE_not (a : E) : evE P F th xc (.not a) l st = (evE P F th xc a l st).bind fun x st => .ofOpt ((truth st x).map fun b => .bl (!b)) st := by rw [evE]
@[simp] theorem evE_ite (c : E) (a : E) (b : E) : evE P F th xc (.ite c a b) l st = (evT P F th xc c l st).bind fun k st => ifB k (evE P F th xc a l st) (evE P F th xc b l st) := by rw [evE]
@[simp] theorem evE_ix (a : E) (b : E) : evE P F th xc (.ix a b) l st = (evE P F th xc a l st).bind fun x st => (evE P F th xc b l st).bind fun y st => .ofOpt (ixD st x y) st := by rw [evE]
@[simp] theorem evE_slc (a : E) (lo : Oe) (hi : Oe) : evE P F th xc (.slc a lo hi) l st = (evE P F th xc a l st).bind fun x st => (evO P F th xc lo l st).bind fun u st => (evO P F th xc hi l st).bind fun w st => .ofOpt (slcD st x u w) st := by rw [evE]
@[simp] theorem evE_rev (a : E) : evE P F th xc (.rev a) l st = (evE P F th xc a l st).bind fun x st => .ofOpt (revD x) st := by rw [evE]
@[simp] theorem evE_isi (a : E) (ts : List Tg) : evE P F th xc (.isi a ts) l st = (evE P F th xc a l st).bind fun x st => optR (liveI P.ncl ts st x) fun x => .ok (.bl (ts.any (isD st P.anc x))) st := by rw [evE]
@[simp] theorem evE_call (f : Nat) (es : Es) : evE P F th xc (.call f es) l st = (evEs P F th xc es l st).bind fun ds st => F f ds (fun _ => .bad) st := by rw [evE]
@[simp] theorem evE_thk (f : Nat) (body : E) : evE P F th xc (.thk f body) l st = (F f [] (evE P F th xc body l) st).calm := by rw [evE]
@[simp] theorem evE_frc : evE P F th xc (.frc) l st = th st := by rw [evE]
@[simp] theorem evE_isx (t : Tg) : evE P F th xc (.isx t) l st = optR xc fun c => .ok (.bl (isE P.anc c t)) st := by rw [evE]
@[simp] theorem evE_bi (b : Bi) (es : Es) : evE P F th xc (.bi b es) l st = (evEs P F th xc es l st).bind fun ds st => .ofOpt (biD P st b ds) st := by rw [evE]
@[simp] theorem evE_mt (m : Mt) (o : E) (es : Es) : evE P F th xc (.mt m o es) l st = (evE P F th xc o l st).bind fun x st => ifB (mtOk m st x) ((evEs P F th xc es l st).bind fun ds st => .ofPair (mtD P m x ds st)) .bad := by rw [evE]
@[simp] theorem evE_lc (elt : E) (t : T) (it : It) (c : Oe) : evE P F th xc (.lc elt t it c) l st = (evI P F th xc it l st).bind fun xs st => ((compL t (fun l st => evC P F th xc c l st) (fun l st => evE P F th xc elt l st) l xs st).calm).bind fun ds st => sized ds (.lst ds) st := by rw [evE]
@[simp] theorem evE_fmt (es : Es) : evE P F th xc (.fmt es) l st = (evFm P F th xc es [] l st).bind fun x st => .ok (.str x) st := by rw [evE]
@[simp] theorem evE_dic (ks : List DKey) (es : Es) : evE P F th xc (.dic ks es) l st = (evEs P F th xc es l st).bind fun ds st => if ks.length = ds.length ∧ ds.length ≤ 15 then .ok (.dct (mergeD ks ds)) st else .bad := by rw [evE]
@[simp] theorem evE_box (a : E) : evE P F th xc (.box a) l st = (evE P F th xc a l st).bind fun x st => boxD x st := by rw [evE]
@[simp] theorem evE_frz (i : Nat) : evE P F th xc (.frz i) l st = frzD (l[i]?) st := by rw [evE]
@[simp] theorem evE_un (u : U1) (a : E) : evE P F th xc (.un u a) l st = (evE P F th xc a l st).bind fun x st => .ofOpt (unD u x) st := by rw [evE]
@[simp] theorem evE_mk (c1 : Nat) (es : Es) : evE P F th xc (.mk c1 es) l st = (evEs P F th xc es l st).bind fun ds st => .ofOpt (mkD P c1 ds) st := by rw [evE]
@[simp] theorem evE_mkv (es : Es) : evE P F th xc (.mkv es) l st = (evEs P F th xc es l st).bind fun ds st => .ofOpt (verD ds) st := by rw [evE]
@[simp] theorem evE_fld (a : E) (f1 : List Nat) : evE P F th xc (.fld a f1) l st = (evE P F th xc a l st).bind fun x st => .ofOpt (fldD P x f1) st := by rw [evE]
@[simp] theorem evE_lzip (a : E) (c : E) : evE P F th xc (.lzip a c) l st = (evE P F th xc a l st).bind fun x st => (evE P F th xc c l st).bind fun y st => .ofOpt (lzipD x y) st := by rw [evE]
@[simp] theorem evT_and (a b : E) : evT P F th xc (.and a b) l st = (evT P F th xc a l st).bind fun k st => ifB k (evT P F th xc b l st) (.ok false st) := by rw [evT]
@[simp] theorem evT_or (a b : E) : evT P F th xc (.or a b) l st = (evT P F th xc a l st).bind fun k st => ifB k (.ok true st) (evT P F th xc b l st) := by rw [evT]
@[simp] theorem evT_not (a : E) : evT P F th xc (.not a) l st = (evT P F th xc a l st).bind fun k st => .ok (!k) st := by rw [evT]
@[simp] theorem evT_non : evT P F th xc (.non) l st = (evE P F th xc (.non) l st).bind fun x st => .ofOpt (truth st x) st := by rw [evT] <;> nofun
@[simp] theorem evT_bl (b : Bool) : evT P F th xc (.bl b) l st = (evE P F th xc (.bl b) l st).bind fun x st => .ofOpt (truth st x) st := by rw [evT] <;> nofun
@[simp] theorem evT_int (i : Int) : evT P F th xc (.int i) l st = (evE P F th xc (.int i) l st).bind fun x st => .ofOpt (truth st x) st := by rw [evT] <;> nofun
@[simp] theorem evT_str (x : List Nat) : evT P F th xc (.str x) l st = (evE P F th xc (.str x) l st).bind fun x st => .ofOpt (truth st x) st := by rw [evT] <;> nofun
@[simp] theorem evT_v (i : Nat) : evT P F th xc (.v i) l st = (evE P F th xc (.v i) l st).bind fun x st => .ofOpt (truth st x) st := by rw [evT] <;> nofun
@[simp] theorem evT_g (i : Nat) : evT P F th xc (.g i) l st = (evE P F th xc (.g i) l st).bind fun x st => .ofOpt (truth st x) st := by rw [evT] <;> nofun
@[simp] theorem evT_tup (es : Es) : evT P F th xc (.tup es) l st = (evE P F th xc (.tup es) l st).bind fun x st => .ofOpt (truth st x) st := by rw [evT] <;> nofun
@[simp] theorem evT_lst (es : Es) : evT P F th xc (.lst es) l st = (evE P F th xc (.lst es) l st).bind fun x st => .ofOpt (truth st x) st := by rw [evT] <;> nofun
@[simp] theorem evT_bin (op : Op) (a : E) (b : E) : evT P F th xc (.bin op a b) l st = (evE P F th xc (.bin op a b) l st).bind fun x st => .ofOpt (truth st x) st := by rw [evT] <;> nofun
@[simp] theorem evT_neg (a : E) : evT P F th xc (.neg a) l st = (evE P F th xc (.neg a) l st).bind fun x st => .ofOpt (truth st x) st := by rw [evT] <;> nofun
@[simp] theorem evT_cmp (op : Cm) (a : E) (b : E) : evT P F th xc (.cmp op a b) l st = (evE P F th xc (.cmp op a b) l st).bind fun x st => .ofOpt (truth st x) st := by rw [evT] <;> nofun
@[simp] theorem evT_chn (o1 : Cm) (o2 : Cm) (a : E) (b : E) (c : E) : evT P F th xc (.chn o1 o2 a b c) l st = (evE P F th xc (.chn o1 o2 a b c) l st).bind fun x st => .ofOpt (truth st x) st := by rw [evT] <;> nofun
@[simp] theorem evT_isn (a : E) : evT P F th xc (.isn a) l st = (evE P F th xc (.isn a) l st).bind fun x st => .ofOpt (truth st x) st := by rw [evT] <;> nofun
@[simp] theorem evT_nisn (a : E) : evT P F th xc (.nisn a) l st = (evE P F th xc (.nisn a) l st).bind fun x st => .ofOpt (truth st x) st := by rw [evT] <;> nofun
@[simp] theorem evT_ite (c : E) (a : E) (b : E) : evT P F th xc (.ite c a b) l st = (evE P F th xc (.ite c a b) l st).bind fun x st => .ofOpt (truth st x) st := by rw [evT] <;> nofun
@[simp] theorem evT_ix (a : E) (b : E) : evT P F th xc (.ix a b) l st = (evE P F th xc (.ix a b) l st).bind fun x st => .ofOpt (truth st x) st := by rw [evT] <;> nofun
@[simp] theorem evT_slc (a : E) (lo : Oe) (hi : Oe) : evT P F th xc (.slc a lo hi) l st = (evE P F th xc (.slc a lo hi) l st).bind fun x st => .ofOpt (truth st x) st := by rw [evT] <;> nofun
@[simp] theorem evT_rev (a : E) : evT P F th xc (.rev a) l st = (evE P F th xc (.rev a) l st).bind fun x st => .ofOpt (truth st x) st := by rw [evT] <;> nofun
@[simp] theorem evT_isi (a : E) (ts : List Tg) : evT P F th xc (.isi a ts) l st = (evE P F th xc (.isi a ts) l st).bind fun x st => .ofOpt (truth st x) st := by rw [evT] <;> nofun
@[simp] theorem evT_call (f : Nat) (es : Es) : evT P F th xc (.call f es) l st = (evE P F th xc (.call f es) l st).bind fun x st => .ofOpt (truth st x) st := by rw [evT] <;> nofun
@[simp] theorem evT_thk (f : Nat) (body : E) : evT P F th xc (.thk f body) l st = (evE P F th xc (.thk f body) l st).bind fun x st => .ofOpt (truth st x) st := by rw [evT] <;> nofun
@[simp] theorem evT_frc : evT P F th xc (.frc) l st = (evE P F th xc (.frc) l st).bind fun x st => .ofOpt (truth st x) st := by rw [evT] <;> nofun
@[simp] theorem evT_isx (t : Tg) : evT P F th xc (.isx t) l st = (evE P F th xc (.isx t) l st).bind fun x st => .ofOpt (truth st x) st := by rw [evT] <;> nofun
@[simp] theorem evT_bi (b : Bi) (es : Es) : evT P F th xc (.bi b es) l st = (evE P F th xc (.bi b es) l st).bind fun x st => .ofOpt (truth st x) st := by rw [evT] <;> nofun
@[simp] theorem evT_mt (m : Mt) (o : E) (es : Es) : evT P F th xc (.mt m o es) l st = (evE P F th xc (.mt m o es) l st).bind fun x st => .ofOpt (truth st x) st := by rw [evT] <;> nofun
@[simp] theorem evT_lc (elt : E) (t : T) (it : It) (c : Oe) : evT P F th xc (.lc elt t it c) l st = (evE P F th xc (.lc elt t it c) l st).bind fun x st => .ofOpt (truth st x) st := by rw [evT] <;> nofun
@[simp] theorem evT_fmt (es : Es) : evT P F th xc (.fmt es) l st = (evE P F th xc (.fmt es) l st).bind fun x st => .ofOpt (truth st x) st := by rw [evT] <;> nofun
@[simp] theorem evT_dic (ks : List DKey) (es : Es) : evT P F th xc (.dic ks es) l st = (evE P F th xc (.dic ks es) l st).bind fun x st => .ofOpt (truth st x) st := by rw [evT] <;> nofun
@[simp] theorem evT_box (a : E) : evT P F th xc (.box a) l st = (evE P F th xc (.box a) l st).bind fun x st => .ofOpt (truth st x) st := by rw [evT] <;> nofun
@[simp] theorem evT_frz (i : Nat) : evT P F th xc (.frz i) l st = (evE P F th xc (.frz i) l st).bind fun x st => .ofOpt (truth st x) st := by rw [evT] <;> nofun
@[simp] theorem evT_un (u : U1) (a : E) : evT P F th xc (.un u a) l st = (evE P F th xc (.un u a) l st).bind fun x st => .ofOpt (truth st x) st := by rw [evT] <;> nofun
@[simp] theorem evT_mk (c1 : Nat) (es : Es) : evT P F th xc (.mk c1 es) l st = (evE P F th xc (.mk c1 es) l st).bind fun x st => .ofOpt (truth st x) st := by rw [evT] <;> nofun
@[simp] theorem evT_mkv (es : Es) : evT P F th xc (.mkv es) l st = (evE P F th xc (.mkv es) l st).bind fun x st => .ofOpt (truth st x) st := by rw [evT] <;> nofun
@[simp] theorem evT_fld (a : E) (f1 : List Nat) : evT P F th xc (.fld a f1) l st = (evE P F th xc (.fld a f1) l st).bind fun x st => .ofOpt (truth st x) st := by rw [evT] <;> nofun
@[simp] theorem evT_lzip (a : E) (c : E) : evT P F th xc (.lzip a c) l st = (evE P F th xc (.lzip a c) l st).bind fun x st => .ofOpt (truth st x) st := by rw [evT] <;> nofun
@[simp] theorem evO_no : evO P F th xc .no l st = .ok none st := by rw [evO]
@[simp] theorem evO_yes (e : E) : evO P F th xc (.yes e) l st = (evE P F th xc e l st).bind fun x st => asInt x fun i => .ok (some i) st := by rw [evO]
@[simp] theorem evC_no : evC P F th xc .no l st = .ok true st := by rw [evC]
@[simp] theorem evC_yes (e : E) : evC P F th xc (.yes e) l st = evT P F th xc e l st := by rw [evC]
@[simp] theorem evEs_nil : evEs P F th xc .nil l st = .ok [] st := by rw [evEs]
@[simp] theorem evEs_cons (e : E) (es : Es) : evEs P F th xc (.cons e es) l st = (evE P F th xc e l st).bind fun d st => (evEs P F th xc es l st).bind fun ds st => .ok (d :: ds) st := by rw [evEs]
@[simp] theorem evI_seq (a : E) : evI P F th xc (.seq a) l st = (evE P F th xc a l st).bind fun x st => .ofOpt (seqOf st x) st := by rw [evI]
@[simp] theorem evI_rng (a : E) : evI P F th xc (.rng a) l st = (evE P F th xc a l st).bind fun x st => asInt x fun j => .ofOpt (rngD 0 j) st := by rw [evI]
@[simp] theorem evI_rng2 (a b : E) : evI P F th xc (.rng2 a b) l st = (evE P F th xc a l st).bind fun x st => (evE P F th xc b l st).bind fun y st => asInt x fun i => asInt y fun j => .ofOpt (rngD i j) st := by rw [evI]
@[simp] theorem evI_zip (a b : E) : evI P F th xc (.zip a b) l st = (evE P F th xc a l st).bind fun x st => (evE P F th xc b l st).bind fun y st => .ofOpt (zipD x y) st := by rw [evI]
@[simp] theorem evI_enm (a : E) : evI P F th xc (.enm a) l st = (evE P F th xc a l st).bind fun x st => .ofOpt (enmD x) st := by rw [evI]
@[simp] theorem evI_itm (a : E) : evI P F th xc (.itm a) l st = (evE P F th xc a l st).bind fun x st => .ofOpt ((dictOf st x).map fun kvs => kvs.map fun p => .tup [keyD p.1, p.2]) st := by rw [evI]
end
section
variable (P : Par) (F : FnSem) (th : M) (xc : Option Nat) (l : Loc) (st : Store)
@[simp] theorem evS_pass : evS P F th .pass xc l st = .ok (.nx l) st := by rw [evS]
@[simp] theorem evS_asg (t : T) (e : E) : evS P F th (.asg t e) xc l st = (evE P F th xc e l st).bind fun d st => .ofOpt ((setT t d l).map .nx) st := by rw [evS]
@[simp] theorem evS_par (is : List Nat) (es : Es) : evS P F th (.par is es) xc l st = (evEs P F th xc es l st).bind fun ds st => .ofOpt ((setT (.tp is) (.tup ds) l).map .nx) st := by rw [evS]
@[simp] theorem evS_aug (i : Nat) (op : Op) (e : E) : evS P F th (.aug i op e) xc l st = optR (l[i]?) fun o => optR o fun x => (evE P F th xc e l st).bind fun y st => .ofOpt ((augD op x y).map fun d => .nx (l.set i (some d))) st := by rw [evS]
@[simp] theorem evS_sub (o i e : E) : evS P F th (.sub o i e) xc l st = (evE P F th xc e l st).bind fun d st => (evE P F th xc o l st).bind fun x st => (evE P F th xc i l st).bind fun k st => subD x k d l st := by rw [evS]
@[simp] theorem evS_ex (e : E) : evS P F th (.ex e) xc l st = (evE P F th xc e l st).bind fun _ st => .ok (.nx l) st := by rw [evS]
@[simp] theorem evS_ret (e : E) : evS P F th (.ret e) xc l st = (evE P F th xc e l st).bind fun d st => .ok (.rt d) st := by rw [evS]
@[simp] theorem evS_retn : evS P F th .retn xc l st = .ok (.rt .non) st := by rw [evS]
@[simp] theorem evS_iff (c : E) (a b : Ss) : evS P F th (.iff c a b) xc l st = (evT P F th xc c l st).bind fun k st => ifB k (evSs P F th a xc l st) (evSs P F th b xc l st) := by rw [evS]
@[simp] theorem evS_for (t : T) (it : It) (b : Ss) : evS P F th (.for t it b) xc l st = (evI P F th xc it l st).bind fun xs st => forL t (fun l st => evSs P F th b xc l st) xs l st := by rw [evS]
@[simp] theorem evS_whl (c : E) (b : Ss) : evS P F th (.whl c b) xc l st = whlL (fun l st => evT P F th xc c l st) (fun l st => evSs P F th b xc l st) P.fuel l st := by rw [evS]
@[simp] theorem evS_rse (c : Nat) (es : Es) : evS P F th (.rse c es) xc l st = (evEs P F th xc es l st).bind fun ds st => .exc c ds st := by rw [evS]
@[simp] theorem evS_try (b : Ss) (c i : Nat) (h : Ss) : evS P F th (.try b c i h) xc l st = (evSs P F th b xc l st).tried (P.catches c) fun k st => ((evSs P F th h (some k) (l.set i none) st).calm).bind fun f st => f.out i st := by rw [evS]
@[simp] theorem evSs_nil : evSs P F th .nil xc l st = .ok (.nx l) st := by rw [evSs]
@[simp] theorem evSs_cons (s : S) (ss : Ss) : evSs P F th (.cons s ss) xc l st = (evS P F th s xc l st).bind fun f st => f.go (fun l => evSs P F th ss xc l st) st := by rw [evSs]
end
end Pl

set_option linter.all false
set_option maxRecDepth 100000
set_option maxHeartbeats 4000000
/-! PlB: plain lemmas on what is walked, compared, put together. -/
namespace Pl
open Pm
set_option autoImplicit false
theorem ltS1 (c d : Nat) : ltS [c] [d] = decide (c < d) := by
  unfold ltS
  simp [List.cons_lt_cons_iff]
theorem compL_map {t : T} {tst : Loc → Store → Res Bool} {elt : Loc → Store → Res D} {l : Loc} {st : Store} (g : D → D) : ∀ (xs : List D) (h : ∀ x ∈ xs, ∃ l', setT t x l = some l' ∧ tst l' st = .ok true st ∧ elt l' st = .ok (g x) st),
    compL t tst elt l xs st = .ok (xs.map g) st
  | [], _ => rfl
  | x :: xs, h => by
    obtain ⟨l', h1, h2, h3⟩ := h x (List.mem_cons_self ..)
    have ih := compL_map g xs fun y hy => h y (List.mem_cons_of_mem _ hy)
    simp [compL, h1, h2, h3, ih]
theorem compL_mapf {t : T} {tst : Loc → Store → Res Bool} {elt : Loc → Store → Res D} {l : Loc} {st : Store} {α : Type} (f g : α → D) : ∀ (xs : List α) (h : ∀ x ∈ xs, ∃ l', setT t (f x) l = some l' ∧ tst l' st = .ok true st ∧ elt l' st = .ok (g x) st),
    compL t tst elt l (xs.map f) st = .ok (xs.map g) st
  | [], _ => rfl
  | x :: xs, h => by
    obtain ⟨l', h1, h2, h3⟩ := h x (List.mem_cons_self ..)
    have ih := compL_mapf f g xs fun y hy => h y (List.mem_cons_of_mem _ hy)
    simp [compL, h1, h2, h3, ih]
theorem seq_str (st : Store) (x : List Nat) : seqOf st (.str x) = some (x.map fun c => .str [c]) := rfl
theorem seq_tup (st : Store) (x : List D) : seqOf st (.tup x) = some x := rfl
theorem sized_ok {ds : List D} {d : D} {st : Store} (h : ds.length ≤ SL) : sized ds d st = .ok d st := by
  unfold sized; rw [if_pos h]
theorem le_ss (st : Store) (a c : Nat) : cmpD st .le (.str [a]) (.str [c]) = some (decide (a ≤ c)) := by
  simp only [cmpD, ordB, ltS1]
  congr 1; simp [Nat.not_lt, ← decide_not]
theorem eq_ss (st : Store) (a c : List Nat) : cmpD st .eq (.str a) (.str c) = some (a == c) := by
  simp [cmpD, eqD, top, D.level, D.plain, D.depth, eqv]
theorem le_ii (st : Store) (a b : Int) : cmpD st .le (.int a) (.int b) = some (decide (a ≤ b)) := rfl
theorem lt_ii (st : Store) (a b : Int) : cmpD st .lt (.int a) (.int b) = some (decide (a < b)) := rfl
theorem ge_ii (st : Store) (a b : Int) : cmpD st .ge (.int a) (.int b) = some (decide (b ≤ a)) := rfl
theorem gt_ii (st : Store) (a b : Int) : cmpD st .gt (.int a) (.int b) = some (decide (b < a)) := rfl
theorem eq_ii (st : Store) (a b : Int) : cmpD st .eq (.int a) (.int b) = some (a == b) := by
  simp [cmpD, eqD, top, D.level, D.plain, D.depth, eqv]
theorem eq_bb (st : Store) (a b : Bool) : cmpD st .eq (.bl a) (.bl b) = some (a == b) := by
  simp [cmpD, eqD, top, D.level, D.plain, D.depth, eqv]
theorem ne_ii (st : Store) (a b : Int) : cmpD st .ne (.int a) (.int b) = some (!(a == b)) := by
  simp [cmpD, eqD, top, D.level, D.plain, D.depth, eqv]
theorem ne_bb (st : Store) (a b : Bool) : cmpD st .ne (.bl a) (.bl b) = some (!(a == b)) := by
  simp [cmpD, eqD, top, D.level, D.plain, D.depth, eqv]
/-- with a test -/
theorem compL_filter {t : T} {tst : Loc → Store → Res Bool} {elt : Loc → Store → Res D} {l : Loc} {st : Store} (p : D → Bool) (g : D → D) : ∀ (xs : List D) (h : ∀ x ∈ xs, ∃ l', setT t x l = some l' ∧ tst l' st = .ok (p x) st ∧ elt l' st = .ok (g x) st),
    compL t tst elt l xs st = .ok ((xs.filter p).map g) st
  | [], _ => rfl
  | x :: xs, h => by
    obtain ⟨l', h1, h2, h3⟩ := h x (List.mem_cons_self ..)
    have ih := compL_filter p g xs fun y hy => h y (List.mem_cons_of_mem _ hy)
    cases hp : p x <;> simp [compL, h1, h2, h3, ih, hp]
/-- elements that change the store -/
theorem compL_inv {t : T} {tst : Loc → Store → Res Bool} {elt : Loc → Store → Res D} {l : Loc} {I : Store → Prop} {p : D → Prop} : ∀ (xs : List D) (st : Store) (hI : I st)
    (h : ∀ x ∈ xs, ∀ st, I st → ∃ l', setT t x l = some l' ∧ tst l' st = .ok true st ∧ ∃ d st', elt l' st = .ok d st' ∧ p d ∧ I st'),
    ∃ ds st', compL t tst elt l xs st = .ok ds st' ∧ ds.length = xs.length ∧ (∀ d ∈ ds, p d) ∧ I st'
  | [], st, hI, _ => ⟨[], st, rfl, rfl, fun d hd => (nomatch hd), hI⟩
  | x :: xs, st, hI, h => by
    obtain ⟨l', h1, h2, d, st1, h3, h4, h5⟩ := h x (List.mem_cons_self ..) st hI
    obtain ⟨ds, st2, k1, k2, k3, k4⟩ := compL_inv xs st1 h5 fun y hy => h y (List.mem_cons_of_mem _ hy)
    refine ⟨d :: ds, st2, by simp [compL, h1, h2, h3, k1], by simp [k2], fun e he => ?_, k4⟩
    rcases List.mem_cons.mp he with e1 | e1
    · rw [e1]; exact h4
    · exact k3 e e1
theorem forL_inv {t : T} {body : Loc → Store → Res Flow} {I : Loc → Store → Prop} : ∀ (xs : List D) (l : Loc) (st : Store) (hI : I l st)
    (h : ∀ x ∈ xs, ∀ l st, I l st → ∃ l', setT t x l = some l' ∧ ∃ l2 st', body l' st = .ok (.nx l2) st' ∧ I l2 st'),
    ∃ l2 st', forL t body xs l st = .ok (.nx l2) st' ∧ I l2 st'
  | [], l, st, hI, _ => ⟨l, st, rfl, hI⟩
  | x :: xs, l, st, hI, h => by
    obtain ⟨l', h1, l2, st1, h2, h3⟩ := h x (List.mem_cons_self ..) l st hI
    obtain ⟨l3, st2, k1, k2⟩ := forL_inv xs l2 st1 h3 fun y hy => h y (List.mem_cons_of_mem _ hy)
    exact ⟨l3, st2, by simp [forL, h1, h2, k1], k2⟩
theorem boolsOf_map {α : Type} (f : α → Bool) (xs : List α) : boolsOf (xs.map fun x => .bl (f x)) = some (xs.map f) := by
  induction xs with
  | nil => rfl
  | cons x xs ih => simp [boolsOf, ih]
theorem strsOf_map {α : Type} (f : α → List Nat) (xs : List α) : strsOf (xs.map fun x => .str (f x)) = some (xs.map f) := by
  induction xs with
  | nil => rfl
  | cons x xs ih => simp [strsOf, ih]
theorem intsOf_map {α : Type} (f : α → Int) (xs : List α) : intsOf (xs.map fun x => .int (f x)) = some (xs.map f) := by
  induction xs with
  | nil => rfl
  | cons x xs ih => simp [intsOf, ih]
/-- all(..) of a comprehension -/
theorem all_map (P : Par) (st : Store) {α : Type} (f : α → Bool) (xs : List α) : biD P st .all [.lst (xs.map fun x => .bl (f x))] = some (.bl (xs.all f)) := by
  simp [biD, listOf, boolsOf_map, List.all_map]
theorem any_map (P : Par) (st : Store) {α : Type} (f : α → Bool) (xs : List α) : biD P st .any [.lst (xs.map fun x => .bl (f x))] = some (.bl (xs.any f)) := by
  simp [biD, listOf, boolsOf_map, List.any_map]
theorem joinT_nil (xs : List (List Nat)) : joinT [] xs = xs.flatten := by
  induction xs with
  | nil => rfl
  | cons x xs ih =>
    cases xs with
    | nil => simp [joinT]
    | cons y r => simp [joinT, ih]
theorem place_nn {n : Nat} {i : Int} (h0 : 0 ≤ i) (h1 : i < n) : place n i = some i.toNat := by
  unfold place; rw [if_pos h0, if_pos h1]
theorem len_str {P : Par} {st : Store} {x : List Nat} (h : x.length ≤ SL) : biD P st .len [.str x] = some (.int x.length) := by simp only [biD, if_pos h]
theorem len_tup {P : Par} {st : Store} {x : List D} : biD P st .len [.tup x] = some (.int x.length) := rfl
theorem len_lst {P : Par} {st : Store} {x : List D} : biD P st .len [.lst x] = some (.int x.length) := rfl
theorem bi_int {P : Par} {st : Store} {i : Int} : biD P st .int [.int i] = some (.int i) := rfl
theorem bi_abs {P : Par} {st : Store} {i : Int} : biD P st .abs [.int i] = some (.int (if i < 0 then -i else i)) := rfl
theorem bi_ord {P : Par} {st : Store} {c : Nat} : biD P st .ord [.str [c]] = some (.int c) := rfl
theorem bi_list_tup {P : Par} {st : Store} {x : List D} : biD P st .list [.tup x] = some (.lst x) := rfl
theorem bi_tup_lst {P : Par} {st : Store} {x : List D} : biD P st .tuple [.lst x] = some (.tup x) := rfl
theorem bi_str {P : Par} {st : Store} {i : Int} (h : i.natAbs.log2 < 1920) : biD P st .str [.int i] = some (.str (intText i)) := by simp only [biD, if_pos h]
end Pl

set_option linter.all false
set_option maxRecDepth 100000
set_option maxHeartbeats 4000000
/-! Po1: the hand, draws (k00). -/
namespace Pk00
open Pm Pl
set_option autoImplicit false
variable {rp : D → List Nat}
theorem mulL {a b : Int} (h2 : -(2 ^ 64) < a) (h3 : a < 2 ^ 64) : mulOk a b = true := by
  unfold mulOk; simp only [Bool.or_eq_true, Bool.and_eq_true, decide_eq_true_eq]; omega
theorem mulR {a b : Int} (h2 : -(2 ^ 64) < b) (h3 : b < 2 ^ 64) : mulOk a b = true := by
  unfold mulOk; simp only [Bool.or_eq_true, Bool.and_eq_true, decide_eq_true_eq]; omega
theorem mul_d (st : Store) {i j : Int} (h : mulOk i j = true) : binD st .mul (.int i) (.int j) = some (.int (i * j)) := by
  simp [binD, mulD, h]
theorem add_d (st : Store) (i j : Int) : binD st .add (.int i) (.int j) = some (.int (i + j)) := rfl
theorem sub_d (st : Store) (i j : Int) : binD st .sub (.int i) (.int j) = some (.int (i - j)) := rfl
theorem mod_d (st : Store) {i j : Int} (h : 0 < j) : binD st .mod (.int i) (.int j) = some (.int (i % j)) := by
  simp [binD, ints2, h]
theorem fdiv_d (st : Store) {i j : Int} (h : 0 < j) (h2 : j < 1073741824) : binD st .fdiv (.int i) (.int j) = some (.int (i / j)) := by
  simp [binD, ints2, h, h2]
theorem pow_d (st : Store) {i j : Int} (h : 0 ≤ j ∧ j ≤ 1000 ∧ i.natAbs < 2 ^ 64) : binD st .pow (.int i) (.int j) = some (.int (i ^ j.toNat)) := by
  simp only [binD, ints2, if_pos h, Option.map]
/-- the store: the hand alone -/
def hs (ex : Store) (cells : List Int) (i r s c : Int) : Store := .lst [.lst (cells.map .int), .int i, .int r, .int s, .int c] :: ex
section
variable (ex : Store) (cells : List Int) (i r s c v : Int) (l : Loc)
theorem h0 : ixD (hs ex cells i r s c) (.ref 0) (.int 0) = some (.lst (cells.map .int)) := by simp [hs, ixD, listOf, place]
theorem h1 : ixD (hs ex cells i r s c) (.ref 0) (.int 1) = some (.int i) := by simp [hs, ixD, listOf, place]
theorem h2 : ixD (hs ex cells i r s c) (.ref 0) (.int 2) = some (.int r) := by simp [hs, ixD, listOf, place]
theorem h3 : ixD (hs ex cells i r s c) (.ref 0) (.int 3) = some (.int s) := by simp [hs, ixD, listOf, place]
theorem h4 : ixD (hs ex cells i r s c) (.ref 0) (.int 4) = some (.int c) := by simp [hs, ixD, listOf, place]
theorem s1 : subD (.ref 0) (.int 1) (.int v) l (hs ex cells i r s c) = .ok (.nx l) (hs ex cells v r s c) := by simp [hs, subD, place, optR]
theorem s2 : subD (.ref 0) (.int 2) (.int v) l (hs ex cells i r s c) = .ok (.nx l) (hs ex cells i v s c) := by simp [hs, subD, place, optR]
theorem s3 : subD (.ref 0) (.int 3) (.int v) l (hs ex cells i r s c) = .ok (.nx l) (hs ex cells i r v c) := by simp [hs, subD, place, optR]
theorem s4 : subD (.ref 0) (.int 4) (.int v) l (hs ex cells i r s c) = .ok (.nx l) (hs ex cells i r s v) := by simp [hs, subD, place, optR]
end
def Inv (st : Store) : Prop := ∃ ex cells i r s c, st = hs ex cells i r s c ∧ 0 ≤ i ∧ 0 ≤ r ∧ ∀ z ∈ cells, 0 ≤ z
theorem ix_lst (st : Store) {xs : List D} {i : Int} {d : D} (h0 : 0 ≤ i) (h1 : xs[i.toNat]? = some d) : ixD st (.lst xs) (.int i) = some d := by
  have hlt : i < xs.length := by
    have := (List.getElem?_eq_some_iff.mp h1).1
    omega
  simp [ixD, listOf, place_nn h0 hlt, h1]
def rest1x : Ss := match b1 with
  | .cons _ ss => ss
  | ss => ss
def first1x : S := match b1 with
  | .cons s _ => s
  | _ => .pass
def cond1x : E := match first1x with
  | .iff c _ _ => c
  | _ => .non
def then1x : Ss := match first1x with
  | .iff _ a _ => a
  | _ => .nil
theorem e1x : b1 = .cons (.iff cond1x then1x .nil) rest1x := rfl
theorem rest_ok (F : FnSem) (th : M) (xc : Option Nat) {ex : Store} {cells : List Int} {i r s c m : Int} {o2 o3 o4 : Option D} (hi : 0 ≤ i) (hr : 0 ≤ r) (hc : ∀ z ∈ cells, 0 ≤ z) (hm : 0 < m) (hm2 : m < 1073741824) :
    ∃ d st', evSs (P0 rp) F th rest1x xc [some (.ref 0), some (.int m), o2, o3, o4] (hs ex cells i r s c) = .ok (.rt (.int d)) st' ∧ 0 ≤ d ∧ d < m ∧ Inv st' := by
  by_cases h : 0 < r
  · refine ⟨r % m, hs ex cells i (r / m) s c, ?_, Int.emod_nonneg _ (by omega), Int.emod_lt_of_pos _ hm, ex, cells, i, _, s, c, rfl, hi, Int.ediv_nonneg hr (by omega), hc⟩
    simp [rest1x, b1, h2, gt_ii, h, bi_int, mod_d _ hm, setT, fdiv_d _ hm hm2, s2]
  · simp [rest1x, b1, h2, gt_ii, h, bi_int, h4, add_d, s4, h3]
    have k1 : ∀ a : Int, binD (hs ex cells i r s (c + 1)) .mul (.int 7919) (.int a) = some (.int (7919 * a)) := fun a => mul_d _ (mulL (by decide) (by decide))
    have k2 : ∀ a : Int, binD (hs ex cells i r s (c + 1)) .mul (.int a) (.int 48271) = some (.int (a * 48271)) := fun a => mul_d _ (mulR (by decide) (by decide))
    simp [k1, k2, add_d, bi_int, mod_d, setT]
    generalize hn1 : (s + 7919 * (c + 1)) * 48271 % 2147483647 = n1
    have b1 : 0 ≤ n1 ∧ n1 < 2147483647 := by
      rw [← hn1]; exact ⟨Int.emod_nonneg _ (by decide), Int.emod_lt_of_pos _ (by decide)⟩
    have k3 : ∀ a : Int, binD (hs ex cells i r s (c + 1)) .mul (.int n1) (.int a) = some (.int (n1 * a)) := fun a => mul_d _ (mulL (by omega) (by omega))
    have d1 : ∀ a : Int, ∀ st, binD st .fdiv (.int a) (.int 1009) = some (.int (a / 1009)) := fun a st => fdiv_d st (by decide) (by decide)
    have d2 : ∀ a : Int, ∀ st, binD st .fdiv (.int a) (.int 2003) = some (.int (a / 2003)) := fun a st => fdiv_d st (by decide) (by decide)
    have d3 : ∀ a : Int, ∀ st, binD st .fdiv (.int a) (.int 16) = some (.int (a / 16)) := fun a st => fdiv_d st (by decide) (by decide)
    simp [k3, add_d, d1, bi_int, mod_d]
    generalize hn2 : n1 * (n1 / 1009 + 69621) % 2147483647 = n2
    have b2 : 0 ≤ n2 ∧ n2 < 2147483647 := by
      rw [← hn2]; exact ⟨Int.emod_nonneg _ (by decide), Int.emod_lt_of_pos _ (by decide)⟩
    have k4 : ∀ a : Int, binD (hs ex cells i r s (c + 1)) .mul (.int n2) (.int a) = some (.int (n2 * a)) := fun a => mul_d _ (mulL (by omega) (by omega))
    simp [k4, add_d, d2, d3, bi_int, mod_d, hm]
    exact ⟨_, _, ⟨rfl, rfl⟩, Int.emod_nonneg _ (by omega), Int.emod_lt_of_pos _ hm, ex, cells, i, r, s, _, rfl, hi, hr, hc⟩
theorem F1x (n : Nat) {m : Int} (hm : 0 < m) (hm2 : m < 1073741824) (th : M) {st : Store} (hI : Inv st) :
    ∃ d st', evF (P0 rp) (n+1) 1 [.ref 0, .int m] th st = .ok (.int d) st' ∧ 0 ≤ d ∧ d < m ∧ Inv st' := by
  obtain ⟨ex, cells, i, r, s, c, rfl, hi, hr, hc⟩ := hI
  rw [evF]
  simp only [P_f1, optR_some, f1]
  rw [e1x]
  have fin : ∀ {res : Res Flow}, (∃ d st', res = .ok (.rt (.int d)) st' ∧ 0 ≤ d ∧ d < m ∧ Inv st') → ∃ d st', (res.bind fun r st => r.ends st) = .ok (.int d) st' ∧ 0 ≤ d ∧ d < m ∧ Inv st' := by
    rintro _ ⟨d, st', rfl, h1, h2, h3⟩
    exact ⟨d, st', rfl, h1, h2, h3⟩
  simp only [List.length_cons, List.length_nil, List.map_cons, List.map_nil, List.cons_append, List.nil_append]
  rw [if_pos trivial]
  refine fin ?_
  rw [evSs_cons, evS_iff]
  by_cases h : r = 0 ∧ i < cells.length
  · obtain ⟨rfl, hlt⟩ := h
    have hcell : (cells.map D.int)[i.toNat]? = some (.int (cells[i.toNat]'(by omega))) := by simp
    have hm0 := hc _ (List.getElem_mem (l := cells) (n := i.toNat) (by omega))
    generalize cells[i.toNat]'(by omega) = z at hcell hm0
    have k0 := ix_lst (hs ex cells i 0 s c) hi hcell
    have k1 : ∀ a : Int, binD (hs ex cells (i + 1) 0 s c) .mul (.int a) (.int 69621) = some (.int (a * 69621)) := fun a => mul_d _ (mulR (by decide) (by decide))
    have k2 : ∀ st, binD st .pow (.int 10) (.int 18) = some (.int (10 ^ 18)) := fun st => pow_d st ⟨by decide, by decide, by decide⟩
    by_cases hz : 1000000000000000000 ≤ z
    · simp [cond1x, then1x, first1x, b1, h2, eq_ii, h1, h0, len_lst, lt_ii, hlt, k0, setT, add_d, s1, h3, k1, bi_int, mod_d, s3, k2, ge_ii, hz, s2]
      exact rest_ok _ _ _ (r := z) (by omega) hm0 hc hm hm2
    · simp [cond1x, then1x, first1x, b1, h2, eq_ii, h1, h0, len_lst, lt_ii, hlt, k0, setT, add_d, s1, h3, k1, bi_int, mod_d, s3, k2, ge_ii, hz, s2]
      exact rest_ok _ _ _ (by omega) (by omega) hc hm hm2
  · have e : evT (P0 rp) (evF (P0 rp) n) th none cond1x [some (.ref 0), some (.int m), none, none, none] (hs ex cells i r s c) = .ok false (hs ex cells i r s c) := by
      by_cases h5 : r = 0
      · subst h5
        have : ¬ i < cells.length := fun q => h ⟨rfl, q⟩
        simp [cond1x, first1x, b1, h2, eq_ii, h1, h0, len_lst, lt_ii, this]
      · have h6 : (r == 0) = false := by simpa using h5
        simp [cond1x, first1x, b1, h2, eq_ii, h6]
    simp [List.replicate, e]
    exact rest_ok _ _ _ hi hr hc hm hm2
theorem sized_lit {ds : List D} {d : D} {st : Store} (h : ds.length ≤ 1000) : sized ds d st = .ok d st := sized_ok (by have : SL = 16777216 := rfl; omega)
theorem F0x (n : Nat) (ns : List Int) (hn : ns.length ≤ 63) (th : M) : ∃ st, evF (P0 rp) (n+1) 0 [.scr ns] th [] = .ok (.ref 0) st ∧ Inv st := by
  have hSL : SL = 16777216 := rfl
  have hc : cut ns none (some 63) = ns := by
    simp [cut, cutIx]
    rw [List.take_of_length_le]; omega
  refine ⟨hs [] (ns.map fun i => if i < 0 then -i else i) 0 0 (211 + 7 * (ns.length : Int)) 0, ?_, _, _, _, _, _, _, rfl, by decide, by decide, ?_⟩
  · rw [evF]
    simp [f0, b0, slcD, hc, seqOf]
    rw [compL_mapf D.int (fun i => .int (if i < 0 then -i else i))]
    · rw [calm_ok, bind_ok, sized_ok (by rw [List.length_map]; omega)]
      have k1 := mul_d [] (mulL (a := 7) (b := (ns.length : Int)) (by decide) (by decide))
      simp [setT, len_lst, k1, add_d, sized_lit, boxD, hs]
    · intro i _
      exact ⟨_, rfl, rfl, by simp [bi_int, bi_abs]⟩
  · intro z hz
    obtain ⟨i, _, rfl⟩ := List.mem_map.mp hz
    split <;> omega
theorem F2x (n : Nat) {xs : List D} (hx : xs ≠ []) (hl : xs.length < 1073741824) (th : M) {st : Store} (hI : Inv st) :
    ∃ d st', evF (P0 rp) (n+2) 2 [.ref 0, .lst xs] th st = .ok d st' ∧ d ∈ xs ∧ Inv st' := by
  have h0 : 0 < xs.length := List.length_pos_iff.mpr hx
  obtain ⟨d, st', e, d0, d1, hI'⟩ := F1x (rp := rp) n (m := (xs.length : Int)) (by omega) (by omega) (fun _ => .bad) hI
  have hlt : d.toNat < xs.length := by omega
  refine ⟨xs[d.toNat], st', ?_, List.getElem_mem hlt, hI'⟩
  rw [evF]
  simp [f2, b2, len_lst, e, ix_lst st' d0 (List.getElem?_eq_getElem hlt)]
/-- an end with a property, the hand as it must be -/
def Ends1 (p : D → Prop) (r : Res D) : Prop := ∃ d st', r = .ok d st' ∧ p d ∧ Inv st'
theorem some_of (n : Nat) {xs : List D} (p : D → Prop) (h : ∀ d ∈ xs, p d) (hx : xs ≠ []) (hl : xs.length < 1073741824) (th : M) {st : Store} (hI : Inv st) : Ends1 p (evF (P0 rp) (n+2) 2 [.ref 0, .lst xs] th st) := by
  obtain ⟨d, st', e, hd, hI'⟩ := F2x (rp := rp) n hx hl th hI
  exact ⟨d, st', e, h d hd, hI'⟩
end Pk00

set_option linter.all false
set_option maxRecDepth 100000
set_option maxHeartbeats 4000000
/-! Po2: lists put together, kinds, plain errors (k00). -/
namespace Pk00
open Pm Pl
set_option autoImplicit false
variable {rp : D → List Nat}
theorem run_def {n i : Nat} {fn : Fn} {ds : List D} {th : M} {st st' : Store} {d : D} (hf : (P0 rp).funs i = some fn) (hl : ds.length = fn.nps)
    (h : evSs (P0 rp) (evF (P0 rp) n) th fn.body none (ds.map some ++ List.replicate (fn.nsl - fn.nps) none) st = .ok (.rt d) st') : evF (P0 rp) (n+1) i ds th st = .ok d st' := by
  rw [evF, hf, optR_some, if_pos hl, h]; rfl
theorem ss_nx {F : FnSem} {th : M} {s : S} {ss : Ss} {l l' : Loc} {st st' : Store} {r : Res Flow} (h : evS (P0 rp) F th s none l st = .ok (.nx l') st') (k : evSs (P0 rp) F th ss none l' st' = r) : evSs (P0 rp) F th (.cons s ss) none l st = r := by
  rw [evSs_cons, h, bind_ok, Pl.go_nx, k]
theorem ss_rt {F : FnSem} {th : M} {s : S} {ss : Ss} {l : Loc} {st st' : Store} {d : D} (h : evS (P0 rp) F th s none l st = .ok (.rt d) st') : evSs (P0 rp) F th (.cons s ss) none l st = .ok (.rt d) st' := by
  rw [evSs_cons, h]; rfl
theorem add_ll (st : Store) {xs ys : List D} (h : xs.length + ys.length ≤ 1000) : binD st .add (.lst xs) (.lst ys) = some (.lst (xs ++ ys)) := by
  have h2 : xs.length + ys.length ≤ SL := by have : SL = 16777216 := rfl; omega
  simp [binD, addD, listOf, h2]
/-- a display of like expressions -/
def gEs (g : Nat → E) : List Nat → Es
  | [] => .nil
  | k :: ks => .cons (g k) (gEs g ks)
def tailG (g : Nat → E) : List (List Nat) → Ss
  | [] => .cons (.ret (.v 1)) .nil
  | ks :: r => .cons (.asg (.nm 1) (.bin .add (.v 1) (.lst (gEs g ks)))) (tailG g r)
theorem gEs_ok {F : FnSem} {th : M} {g : Nat → E} {v : Nat → D} {l : Loc} {st : Store} : ∀ {ks : List Nat}, (∀ k ∈ ks, evE (P0 rp) F th none (g k) l st = .ok (v k) st) → evEs (P0 rp) F th none (gEs g ks) l st = .ok (ks.map v) st
  | [], _ => by rw [gEs, evEs_nil]; rfl
  | k :: ks, h => by
    rw [gEs, evEs_cons, h k (List.mem_cons_self ..), bind_ok, gEs_ok fun j hj => h j (List.mem_cons_of_mem _ hj), bind_ok]
    rfl
theorem tailG_ok {F : FnSem} {th : M} {g : Nat → E} {v : Nat → D} {x : D} {st : Store} : ∀ {r : List (List Nat)} {bs : List D}, (∀ (ks : List Nat) (bs : List D), ks ∈ r → ∀ k ∈ ks, evE (P0 rp) F th none (g k) [some x, some (.lst bs)] st = .ok (v k) st) → bs.length + r.flatten.length ≤ 1000 →
    evSs (P0 rp) F th (tailG g r) none [some x, some (.lst bs)] st = .ok (.rt (.lst (bs ++ r.flatten.map v))) st
  | [], bs, _, _ => by
    rw [tailG]
    refine ss_rt ?_
    simp
  | ks :: r, bs, h, hl => by
    rw [List.flatten_cons, List.length_append] at hl
    rw [tailG]
    have e := gEs_ok (rp := rp) (F := F) (th := th) (st := st) (h ks bs (List.mem_cons_self ..))
    have z : sized (ks.map v) (.lst (ks.map v)) st = .ok (.lst (ks.map v)) st := sized_lit (by rw [List.length_map]; omega)
    have a : binD st .add (.lst bs) (.lst (ks.map v)) = some (.lst (bs ++ ks.map v)) := add_ll st (by rw [List.length_map]; omega)
    refine ss_nx (l' := [some x, some (.lst (bs ++ ks.map v))]) (st' := st) (by simp [e, z, a, setT]) ?_
    have := tailG_ok (F := F) (th := th) (g := g) (v := v) (x := x) (st := st) (r := r) (bs := bs ++ ks.map v) (fun ks' bs' hm => h ks' bs' (List.mem_cons_of_mem _ hm)) (by rw [List.length_append, List.length_map]; omega)
    rw [this, List.flatten_cons, List.map_append, List.append_assoc]
theorem headG_ok {F : FnSem} {th : M} {g : Nat → E} {v : Nat → D} {x : D} {st : Store} {ks : List Nat} {r : List (List Nat)} (h : ∀ (o : Option D) (k : Nat), k ∈ ks ++ r.flatten → evE (P0 rp) F th none (g k) [some x, o] st = .ok (v k) st) (hl : ks.length + r.flatten.length ≤ 1000) :
    evSs (P0 rp) F th (.cons (.asg (.nm 1) (.lst (gEs g ks))) (tailG g r)) none [some x, none] st = .ok (.rt (.lst ((ks ++ r.flatten).map v))) st := by
  have e := gEs_ok (rp := rp) (F := F) (th := th) (st := st) (g := g) (v := v) (l := [some x, none]) (ks := ks) fun k hk => h _ k (List.mem_append_left _ hk)
  have z : sized (ks.map v) (.lst (ks.map v)) st = .ok (.lst (ks.map v)) st := sized_lit (by rw [List.length_map]; omega)
  refine ss_nx (l' := [some x, some (.lst (ks.map v))]) (st' := st) (by simp [e, z, setT]) ?_
  rw [tailG_ok (v := v) (fun ks' bs hm k hk => h _ k (List.mem_append_right _ (List.mem_flatten.mpr ⟨ks', hm, hk⟩))) (by rw [List.length_map]; exact hl), List.map_append]
def K3 : List Nat := [35, 40, 42, 43]
def R3 : List (List Nat) := [[38], [37, 33, 41, 23], [29, 9, 17], [6, 4, 22], [19, 34, 5], [13, 3, 2], [18, 16, 15], [21, 27, 11], [8, 12, 1], [26, 31, 25], [10, 30, 20], [24, 36, 28], [7, 39, 32], [14]]
def K4 : List Nat := [35, 33, 23, 29, 9, 17, 6, 4, 22, 19]
def R4 : List (List Nat) := [[34], [5, 13, 3, 2, 18, 16, 15, 21, 27], [11, 8, 12, 1, 26, 31, 25, 10], [30, 20, 24, 28, 7, 32, 14]]
theorem e3 : b3 = .cons (.asg (.nm 1) (.lst (gEs (fun k => .isi (.v 0) [.own k]) K3))) (tailG (fun k => .isi (.v 0) [.own k]) R3) := rfl
theorem e4 : b4 = .cons (.asg (.nm 1) (.lst (gEs (fun c => .mk c .nil) K4))) (tailG (fun c => .mk c .nil) R4) := rfl
def asks : List Nat := K3 ++ R3.flatten
def plainC : List Nat := K4 ++ R4.flatten
theorem fl_none : ∀ c ∈ plainC, (P0 rp).fl c = none := by
  have : ∀ c ∈ plainC, c < 36 := by decide
  intro c hc
  have h := this c hc
  match c, h with
  | 0, _ => exact P_fl0 rp
  | 1, _ => exact P_fl1 rp
  | 2, _ => exact P_fl2 rp
  | 3, _ => exact P_fl3 rp
  | 4, _ => exact P_fl4 rp
  | 5, _ => exact P_fl5 rp
  | 6, _ => exact P_fl6 rp
  | 7, _ => exact P_fl7 rp
  | 8, _ => exact P_fl8 rp
  | 9, _ => exact P_fl9 rp
  | 10, _ => exact P_fl10 rp
  | 11, _ => exact P_fl11 rp
  | 12, _ => exact P_fl12 rp
  | 13, _ => exact P_fl13 rp
  | 14, _ => exact P_fl14 rp
  | 15, _ => exact P_fl15 rp
  | 16, _ => exact P_fl16 rp
  | 17, _ => exact P_fl17 rp
  | 18, _ => exact P_fl18 rp
  | 19, _ => exact P_fl19 rp
  | 20, _ => exact P_fl20 rp
  | 21, _ => exact P_fl21 rp
  | 22, _ => exact P_fl22 rp
  | 23, _ => exact P_fl23 rp
  | 24, _ => exact P_fl24 rp
  | 25, _ => exact P_fl25 rp
  | 26, _ => exact P_fl26 rp
  | 27, _ => exact P_fl27 rp
  | 28, _ => exact P_fl28 rp
  | 29, _ => exact P_fl29 rp
  | 30, _ => exact P_fl30 rp
  | 31, _ => exact P_fl31 rp
  | 32, _ => exact P_fl32 rp
  | 33, _ => exact P_fl33 rp
  | 34, _ => exact P_fl34 rp
  | 35, _ => exact P_fl35 rp
  | n + 36, h => exact absurd h (by omega)
theorem F4x (n : Nat) (x : D) (th : M) (st : Store) : evF (P0 rp) (n+1) 4 [x] th st = .ok (.lst (plainC.map fun c => .err c [])) st := by
  refine run_def (fn := f4) rfl rfl ?_
  show evSs (P0 rp) (evF (P0 rp) n) th b4 none [some x, none] st = _
  rw [e4]
  refine headG_ok (v := fun c => .err c []) (fun o c hc => ?_) (by decide)
  have hf := fl_none (rp := rp) c hc
  simp [mkD, hf]
/-- an error's kinds -/
theorem F3e (n : Nat) {c : Nat} (hc : c < 44) (fs : List (List Nat × D)) (th : M) (st : Store) : evF (P0 rp) (n+1) 3 [.err c fs] th st = .ok (.lst (asks.map fun k => .bl (((P0 rp).anc c).contains k))) st := by
  refine run_def (fn := f3) rfl rfl ?_
  show evSs (P0 rp) (evF (P0 rp) n) th b3 none [some (.err c fs), none] st = _
  rw [e3]
  refine headG_ok (v := fun k => .bl (((P0 rp).anc c).contains k)) (fun o k hk => ?_) (by decide)
  have li : liveI 44 [.own k] st (.err c fs) = some (.err c fs) := by simp [liveI, hc]
  simp [li, isD]
theorem F3v (n : Nat) (th : M) (st : Store) : evF (P0 rp) (n+1) 3 [.ver] th st = .ok (.lst (asks.map fun _ => .bl false)) st := by
  refine run_def (fn := f3) rfl rfl ?_
  show evSs (P0 rp) (evF (P0 rp) n) th b3 none [some .ver, none] st = _
  rw [e3]
  refine headG_ok (v := fun _ => .bl false) (fun o k hk => ?_) (by decide)
  have li : liveI 44 [.own k] st .ver = some .ver := rfl
  simp [li, isD]
end Pk00

set_option linter.all false
set_option maxRecDepth 100000
set_option maxHeartbeats 4000000
/-! Po3: errors with fields, the drawn thing (k00). -/
namespace Pk00
open Pm Pl
set_option autoImplicit false
variable {rp : D → List Nat}
def t5_0 : S := (.asg (.nm 1) (.lst (.cons (.mk 40 (.cons (.v 0) .nil)) (.cons (.mk 42 (.cons (.v 0) .nil)) (.cons (.mk 43 (.cons (.v 0) .nil)) (.cons (.mk 38 (.cons (.v 0) .nil)) (.cons (.mk 37 (.cons (.v 0) .nil)) (.cons (.mk 41 (.cons (.v 0) .nil)) (.cons (.mk 36 (.cons (.v 0) .nil)) .nil)))))))))
def t5_1 : S := (.asg (.nm 2) (.lst (.cons (.fld (.ix (.v 1) (.int 0)) [112, 97, 114, 116]) (.cons (.fld (.ix (.v 1) (.int 1)) [97, 114, 101, 97]) (.cons (.fld (.ix (.v 1) (.int 2)) [105, 110, 100, 101, 120]) (.cons (.fld (.ix (.v 1) (.int 3)) [112, 108, 97, 99, 101]) (.cons (.fld (.ix (.v 1) (.int 4)) [98, 97, 114]) (.cons (.fld (.ix (.v 1) (.int 5)) [97, 114, 101, 97]) (.cons (.fld (.ix (.v 1) (.int 6)) [108, 97, 99, 107, 105, 110, 103]) .nil)))))))))
def t5_2 : S := (.asg (.nm 3) (.mk 39 (.cons (.v 0) .nil)))
def t5_3 : S := (.ret (.lzip (.bin .add (.v 1) (.lst (.cons (.v 3) .nil))) (.bin .add (.v 2) (.lst (.cons (.fld (.v 3) [109, 111, 115, 116]) .nil)))))
theorem e5 : b5 = (.cons t5_0 (.cons t5_1 (.cons t5_2 (.cons t5_3 .nil)))) := rfl
def t6_0 : S := (.asg (.nm 1) (.lst (.cons .non (.cons (.int 0) (.cons (.neg (.int 1)) (.cons (.bin .pow (.int 10) (.int 30)) (.cons (.bl true) (.cons (.str []) (.cons (.str [97, 114, 101, 97]) (.cons (.tup .nil) (.cons (.tup (.cons (.int 1) (.cons (.tup (.cons (.int 2) (.cons (.int 3) .nil))) .nil))) (.cons (.lst (.cons (.int 4) (.cons (.lst (.cons (.int 5) .nil)) .nil))) (.cons (.dic [.s [97]] (.cons (.int 1) .nil)) (.cons (.tup (.cons (.str [117, 110, 115, 97, 102, 101]) (.cons (.str [111, 110, 101]) .nil))) .nil))))))))))))))
def t6_1 : S := (.ret (.call 2 (.cons (.v 0) (.cons (.bin .add (.v 1) (.lst (.cons (.tup (.cons (.tup (.cons (.int 7) (.cons (.int 1) (.cons (.int 2) .nil)))) .nil)) .nil))) .nil))))
theorem e6 : b6 = (.cons t6_0 (.cons t6_1 .nil)) := rfl

def FC : List (Nat × List Nat) := [(40, [112, 97, 114, 116]), (42, [97, 114, 101, 97]), (43, [105, 110, 100, 101, 120]), (38, [112, 108, 97, 99, 101]), (37, [98, 97, 114]), (41, [97, 114, 101, 97]), (36, [108, 97, 99, 107, 105, 110, 103]), (39, [109, 111, 115, 116])]
def filled (d : D) : List D := FC.map fun p => .itp [.err p.1 [(p.2, d)], d]
def e7 (d : D) : List D := [.err 40 [([112, 97, 114, 116], d)], .err 42 [([97, 114, 101, 97], d)], .err 43 [([105, 110, 100, 101, 120], d)], .err 38 [([112, 108, 97, 99, 101], d)], .err 37 [([98, 97, 114], d)], .err 41 [([97, 114, 101, 97], d)], .err 36 [([108, 97, 99, 107, 105, 110, 103], d)]]
theorem mk1 {c : Nat} {f : List Nat} (h : (P0 rp).fl c = some f) (d : D) : mkD (P0 rp) c [d] = some (.err c [(f, d)]) := by
  unfold mkD; rw [h]
theorem fld1 {c : Nat} {f : List Nat} (h : (P0 rp).fl c = some f) (d : D) : fldD (P0 rp) (.err c [(f, d)]) f = some d := by
  simp [fldD, h]
theorem F5x (n : Nat) (d : D) (th : M) (st : Store) : evF (P0 rp) (n+1) 5 [d] th st = .ok (.lst (filled d)) st := by
  refine run_def (fn := f5) rfl rfl ?_
  show evSs (P0 rp) (evF (P0 rp) n) th b5 none [some d, none, none, none] st = _
  rw [e5]
  have m40 := mk1 (P_fl40 rp) d
  have f40 := fld1 (P_fl40 rp) d
  have m42 := mk1 (P_fl42 rp) d
  have f42 := fld1 (P_fl42 rp) d
  have m43 := mk1 (P_fl43 rp) d
  have f43 := fld1 (P_fl43 rp) d
  have m38 := mk1 (P_fl38 rp) d
  have f38 := fld1 (P_fl38 rp) d
  have m37 := mk1 (P_fl37 rp) d
  have f37 := fld1 (P_fl37 rp) d
  have m41 := mk1 (P_fl41 rp) d
  have f41 := fld1 (P_fl41 rp) d
  have m36 := mk1 (P_fl36 rp) d
  have f36 := fld1 (P_fl36 rp) d
  have m39 := mk1 (P_fl39 rp) d
  have f39 := fld1 (P_fl39 rp) d
  have i0 : ∀ (xs : List D) (k : Nat) (y : D), xs[k]? = some y → ixD st (.lst xs) (.int (k : Int)) = some y := fun xs k y h => ix_lst st (Int.natCast_nonneg k) (by simpa using h)
  have x0 := i0 (e7 d) 0 _ rfl
  have x1 := i0 (e7 d) 1 _ rfl
  have x2 := i0 (e7 d) 2 _ rfl
  have x3 := i0 (e7 d) 3 _ rfl
  have x4 := i0 (e7 d) 4 _ rfl
  have x5 := i0 (e7 d) 5 _ rfl
  have x6 := i0 (e7 d) 6 _ rfl
  have q0 : evS (P0 rp) (evF (P0 rp) n) th t5_0 none [some d, none, none, none] st = .ok (.nx [some d, some (.lst (e7 d)), none, none]) st := by
    simp [t5_0, m40, m42, m43, m38, m37, m41, m36, m39, sized_lit, setT, e7]
  have q1 : evS (P0 rp) (evF (P0 rp) n) th t5_1 none [some d, some (.lst (e7 d)), none, none] st = .ok (.nx [some d, some (.lst (e7 d)), some (.lst [d, d, d, d, d, d, d]), none]) st := by
    simp at x0 x1 x2 x3 x4 x5 x6
    simp [t5_1, x0, x1, x2, x3, x4, x5, x6, f40, f42, f43, f38, f37, f41, f36, f39, sized_lit, setT]
  have q2 : evS (P0 rp) (evF (P0 rp) n) th t5_2 none [some d, some (.lst (e7 d)), some (.lst [d, d, d, d, d, d, d]), none] st = .ok (.nx [some d, some (.lst (e7 d)), some (.lst [d, d, d, d, d, d, d]), some (.err 39 [([109, 111, 115, 116], d)])]) st := by
    simp [t5_2, m39, setT]
  have a1 : binD st .add (.lst (e7 d)) (.lst [.err 39 [([109, 111, 115, 116], d)]]) = some (.lst (e7 d ++ [.err 39 [([109, 111, 115, 116], d)]])) := add_ll st (by simp [e7])
  have a2 : binD st .add (.lst [d, d, d, d, d, d, d]) (.lst [d]) = some (.lst [d, d, d, d, d, d, d, d]) := add_ll st (by simp)
  refine ss_nx q0 (ss_nx q1 (ss_nx q2 (ss_rt ?_)))
  have zz : lzipD (.lst (e7 d ++ [.err 39 [([109, 111, 115, 116], d)]])) (.lst [d, d, d, d, d, d, d, d]) = some (.lst (filled d)) := by simp [lzipD, e7, filled, FC]
  simp [t5_3, sized_lit, a1, a2, f39, zz]
/-- a thing that repr shows -/
def Shown (rp : D → List Nat) (d : D) : Prop := ∀ st, biD (P0 rp) st .repr [d] = some (.str (rp d))
theorem shown_of {d : D} (h1 : ∀ st, deref st 9 d = d) (h2 : d.shows = true) (h3 : d.depth ≤ 64) (h4 : d.tame = true) (h5 : d.weight ≤ 10000000) : Shown rp d := fun st => by
  have e := h1 st
  simp [biD, e, h2, h3, h4, h5]
theorem F6x (n : Nat) (th : M) {st : Store} (hI : Inv st) : Ends1 (Shown rp) (evF (P0 rp) (n+3) 6 [.ref 0] th st) := by
  have p30 : ∀ st, binD st .pow (.int 10) (.int 30) = some (.int (10 ^ 30)) := fun st => pow_d st ⟨by decide, by decide, by decide⟩
  obtain ⟨d, st2, e2, q2, hI2⟩ := some_of (rp := rp) n (xs := [.non, .int 0, .int (-1), .int 1000000000000000000000000000000, .bl true, .str [], .str [97, 114, 101, 97], .tup [], .tup [.int 1, .tup [.int 2, .int 3]], .lst [.int 4, .lst [.int 5]], .dct [(.s [97], .int 1)], .tup [.str [117, 110, 115, 97, 102, 101], .str [111, 110, 101]], .tup [.tup [.int 7, .int 1, .int 2]]]) (Shown rp) (by
    intro d hd
    simp only [List.mem_cons, List.not_mem_nil, or_false] at hd
    rcases hd with h | h | h | h | h | h | h | h | h | h | h | h | h <;> rw [h] <;> exact shown_of (fun _ => by simp [deref, derefs]) (by decide) (by decide) (by decide) (by decide)) (by simp) (by simp) (fun _ => .bad) hI
  refine ⟨d, st2, ?_, q2, hI2⟩
  refine run_def (fn := f6) rfl rfl ?_
  show evSs (P0 rp) (evF (P0 rp) (n+2)) th b6 none [some (.ref 0), none] st = _
  rw [e6]
  have a1 : ∀ xs : List D, xs.length = 12 → binD st .add (.lst xs) (.lst [.tup [.tup [.int 7, .int 1, .int 2]]]) = some (.lst (xs ++ [.tup [.tup [.int 7, .int 1, .int 2]]])) := fun xs h => add_ll st (by rw [h]; decide)
  refine ss_nx (l' := [some (.ref 0), some (.lst [.non, .int 0, .int (-1), .int 1000000000000000000000000000000, .bl true, .str [], .str [97, 114, 101, 97], .tup [], .tup [.int 1, .tup [.int 2, .int 3]], .lst [.int 4, .lst [.int 5]], .dct [(.s [97], .int 1)], .tup [.str [117, 110, 115, 97, 102, 101], .str [111, 110, 101]]])]) (st' := st) (by simp [t6_0, p30, sized_lit, mergeD, putK, setT]) (ss_rt ?_)
  have a2 := a1 [.non, .int 0, .int (-1), .int 1000000000000000000000000000000, .bl true, .str [], .str [97, 114, 101, 97], .tup [], .tup [.int 1, .tup [.int 2, .int 3]], .lst [.int 4, .lst [.int 5]], .dct [(.s [97], .int 1)], .tup [.str [117, 110, 115, 97, 102, 101], .str [111, 110, 101]]] rfl
  simp only [List.cons_append, List.nil_append] at a2
  simp [t6_1, sized_lit, a2, e2]
end Pk00

set_option linter.all false
set_option maxRecDepth 100000
set_option maxHeartbeats 4000000
/-! Po4: the law (k00). -/
namespace Pk00
open Pm Pl
set_option autoImplicit false
variable {rp : D → List Nat}
/-- a loop whose turns leave the store as it is -/
theorem forL_same {t : T} {body : Loc → Store → Res Flow} {p : D → Prop} {I : Loc → Prop} (st : Store) : ∀ (xs : List D) (l : Loc), I l → (∀ x ∈ xs, p x) →
    (∀ x l, p x → I l → ∃ l', setT t x l = some l' ∧ ∃ l2, body l' st = .ok (.nx l2) st ∧ I l2) → ∃ l2, forL t body xs l st = .ok (.nx l2) st ∧ I l2
  | [], l, hI, _, _ => ⟨l, rfl, hI⟩
  | x :: xs, l, hI, hp, h => by
    obtain ⟨l', h1, l2, h2, h3⟩ := h x l (hp x (List.mem_cons_self ..)) hI
    obtain ⟨l3, h4, h5⟩ := forL_same st xs l2 h3 (fun y hy => hp y (List.mem_cons_of_mem _ hy)) h
    refine ⟨l3, ?_, h5⟩
    rw [forL, h1, optR_some, h2, bind_ok, turn_nx, h4]
def t7_0 : S := (.asg (.nm 1) (.call 0 (.cons (.v 0) .nil)))
def t7_1 : S := (.asg (.nm 2) (.call 4 (.cons (.v 1) .nil)))
def t7_2 : S := (.iff (.cmp .ne (.bi .len (.cons (.v 2) .nil)) (.int 35)) (.cons (.ret (.bl false)) .nil) .nil)
def t7_3 : S := (.asg (.nm 3) (.call 6 (.cons (.v 1) .nil)))
def t7_4 : S := (.asg (.nm 4) (.call 5 (.cons (.v 3) .nil)))
def t7_5 : S := (.iff (.not (.bi .all (.cons (.lc (.cmp .eq (.bi .repr (.cons (.v 7) .nil)) (.bi .repr (.cons (.v 3) .nil))) (.tp [5, 7]) (.seq (.v 4)) .no) .nil))) (.cons (.ret (.bl false)) .nil) .nil)
def t7_6 : S := (.for (.nm 5) (.seq (.bin .add (.v 2) (.lc (.v 5) (.tp [5, 7]) (.seq (.v 4)) .no))) b7_1)
def t7_7 : S := (.ret (.not (.bi .any (.cons (.lst (.cons (.cmp .isin (.bl true) (.call 3 (.cons (.mkv (.cons (.str [111, 110, 101]) .nil)) .nil))) (.cons (.isi (.mkv (.cons (.str [111, 110, 101]) .nil)) [.own 0]) .nil))) .nil))))
theorem e7x : b7 = (.cons t7_0 (.cons t7_1 (.cons t7_2 (.cons t7_3 (.cons t7_4 (.cons t7_5 (.cons t7_6 (.cons t7_7 .nil)))))))) := rfl

theorem anc_c : ∀ (c : Nat), 1 ≤ c → c < 44 → (P0 rp).anc c = [c, 0]
  | 1, _, _ => rfl
  | 2, _, _ => rfl
  | 3, _, _ => rfl
  | 4, _, _ => rfl
  | 5, _, _ => rfl
  | 6, _, _ => rfl
  | 7, _, _ => rfl
  | 8, _, _ => rfl
  | 9, _, _ => rfl
  | 10, _, _ => rfl
  | 11, _, _ => rfl
  | 12, _, _ => rfl
  | 13, _, _ => rfl
  | 14, _, _ => rfl
  | 15, _, _ => rfl
  | 16, _, _ => rfl
  | 17, _, _ => rfl
  | 18, _, _ => rfl
  | 19, _, _ => rfl
  | 20, _, _ => rfl
  | 21, _, _ => rfl
  | 22, _, _ => rfl
  | 23, _, _ => rfl
  | 24, _, _ => rfl
  | 25, _, _ => rfl
  | 26, _, _ => rfl
  | 27, _, _ => rfl
  | 28, _, _ => rfl
  | 29, _, _ => rfl
  | 30, _, _ => rfl
  | 31, _, _ => rfl
  | 32, _, _ => rfl
  | 33, _, _ => rfl
  | 34, _, _ => rfl
  | 35, _, _ => rfl
  | 36, _, _ => rfl
  | 37, _, _ => rfl
  | 38, _, _ => rfl
  | 39, _, _ => rfl
  | 40, _, _ => rfl
  | 41, _, _ => rfl
  | 42, _, _ => rfl
  | 43, _, _ => rfl
  | 0, h, _ => absurd h (by decide)
  | n + 44, _, h => absurd h (by omega)
def errC : List Nat := plainC ++ FC.map (·.1)
theorem errC_b : ∀ c ∈ errC, 1 ≤ c ∧ c < 44 ∧ (asks.map fun k => ([c, 0] : List Nat).contains k).count true = 1 := by decide +kernel
/-- an error of the law -/
def Er (d : D) : Prop := ∃ c fs, d = .err c fs ∧ c ∈ errC
theorem turn7 (n : Nat) {d : D} (hd : Er d) (th : M) (st : Store) (o0 o1 o2 o3 o4 o6 o7 : Option D) :
    ∃ k, evSs (P0 rp) (evF (P0 rp) (n+1)) th b7_1 none [o0, o1, o2, o3, o4, some d, o6, o7] st = .ok (.nx [o0, o1, o2, o3, o4, some d, some k, o7]) st := by
  obtain ⟨c, fs, rfl, hc⟩ := hd
  obtain ⟨h1, h2, h3⟩ := errC_b c hc
  have ha := anc_c (rp := rp) c h1 h2
  have e3 := F3e (rp := rp) n h2 fs (fun _ => .bad) st
  rw [ha] at e3
  have hb : ∀ xs : List Nat, boolsOf (xs.map fun k => .bl (([c, 0] : List Nat).contains k)) = some (xs.map fun k => ([c, 0] : List Nat).contains k) := fun xs => boolsOf_map _ xs
  have mt : mtD (P0 rp) .count (.lst (asks.map fun k => .bl (([c, 0] : List Nat).contains k))) [.bl true] st = some (.int 1, st) := by
    have := hb asks
    simp only [mtD, listOf, Option.bind, this, Option.map, h3]
    rfl
  have li0 : liveI 44 [.own 0] st (.err c fs) = some (.err c fs) := by simp [liveI, h2]
  have liv : liveI 44 [.verr] st (.err c fs) = some (.err c fs) := by simp [liveI, h2]
  have i0 : isD st (P0 rp).anc (.err c fs) (.own 0) = true := by
    show ((P0 rp).anc c).contains 0 = true
    rw [ha]; simp
  have iv : isD st (P0 rp).anc (.err c fs) .verr = true := rfl
  have mo : mtOk .count st (.lst (asks.map fun k => .bl (([c, 0] : List Nat).contains k))) = true := rfl
  refine ⟨.lst (asks.map fun k => .bl (([c, 0] : List Nat).contains k)), ?_⟩
  generalize asks.map (fun k => D.bl (([c, 0] : List Nat).contains k)) = L at e3 mt mo
  simp [b7_1, e3, setT, mo, mt, ne_ii, li0, liv, i0, iv]
theorem F7x (n : Nat) (ns : List Int) (hn : ns.length ≤ 63) (th : M) : ∃ st, evF (P0 rp) (n+4) 7 [.scr ns] th [] = .ok (.bl true) st := by
  obtain ⟨st1, e0, hI1⟩ := F0x (rp := rp) (n+2) ns hn (fun _ => .bad)
  have e4 := F4x (rp := rp) (n+2) (.ref 0) (fun _ => .bad) st1
  obtain ⟨d, st2, e6, sh, hI2⟩ := F6x (rp := rp) n (fun _ => .bad) hI1
  have e5 := F5x (rp := rp) (n+2) d (fun _ => .bad) st2
  have e3 := F3v (rp := rp) (n+2) (fun _ => .bad) st2
  have rd := sh st2
  have q0 : evS (P0 rp) (evF (P0 rp) (n+3)) th t7_0 none [some (.scr ns), none, none, none, none, none, none, none] [] = .ok (.nx [some (.scr ns), some (.ref 0), none, none, none, none, none, none]) st1 := by
    simp [t7_0, e0, setT]
  have q1 : evS (P0 rp) (evF (P0 rp) (n+3)) th t7_1 none [some (.scr ns), some (.ref 0), none, none, none, none, none, none] st1 = .ok (.nx [some (.scr ns), some (.ref 0), some (.lst (plainC.map fun c => .err c [])), none, none, none, none, none]) st1 := by
    simp [t7_1, e4, setT]
  have l35 : plainC.length = 35 := rfl
  have q2 : evS (P0 rp) (evF (P0 rp) (n+3)) th t7_2 none [some (.scr ns), some (.ref 0), some (.lst (plainC.map fun c => .err c [])), none, none, none, none, none] st1 = .ok (.nx [some (.scr ns), some (.ref 0), some (.lst (plainC.map fun c => .err c [])), none, none, none, none, none]) st1 := by
    simp [t7_2, len_lst, l35, ne_ii]
  have q3 : evS (P0 rp) (evF (P0 rp) (n+3)) th t7_3 none [some (.scr ns), some (.ref 0), some (.lst (plainC.map fun c => .err c [])), none, none, none, none, none] st1 = .ok (.nx [some (.scr ns), some (.ref 0), some (.lst (plainC.map fun c => .err c [])), some d, none, none, none, none]) st2 := by
    simp [t7_3, e6, setT]
  have q4 : evS (P0 rp) (evF (P0 rp) (n+3)) th t7_4 none [some (.scr ns), some (.ref 0), some (.lst (plainC.map fun c => .err c [])), some d, none, none, none, none] st2 = .ok (.nx [some (.scr ns), some (.ref 0), some (.lst (plainC.map fun c => .err c [])), some d, some (.lst (filled d)), none, none, none]) st2 := by
    simp [t7_4, e5, setT]
  have c5 := compL_mapf (t := .tp [5, 7]) (tst := fun l st => evC (P0 rp) (evF (P0 rp) (n+3)) th none .no l st) (elt := fun l st => evE (P0 rp) (evF (P0 rp) (n+3)) th none (.cmp .eq (.bi .repr (.cons (.v 7) .nil)) (.bi .repr (.cons (.v 3) .nil))) l st) (l := [some (.scr ns), some (.ref 0), some (.lst (plainC.map fun c => .err c [])), some d, some (.lst (filled d)), none, none, none]) (st := st2)
    (fun p : Nat × List Nat => D.itp [.err p.1 [(p.2, d)], d]) (fun _ => .bl true) FC (fun p _ => ⟨_, rfl, evC_no .., by simp [rd, eq_ss]⟩)
  have z5 : sized (FC.map fun _ => D.bl true) (.lst (FC.map fun _ => D.bl true)) st2 = .ok (.lst (FC.map fun _ => D.bl true)) st2 := sized_lit (by decide)
  have a5 : biD (P0 rp) st2 .all [.lst (FC.map fun _ => D.bl true)] = some (.bl true) := all_map _ _ (fun _ => true) FC
  have s5 : seqOf st2 (.lst (filled d)) = some (filled d) := rfl
  have q5 : evS (P0 rp) (evF (P0 rp) (n+3)) th t7_5 none [some (.scr ns), some (.ref 0), some (.lst (plainC.map fun c => .err c [])), some d, some (.lst (filled d)), none, none, none] st2 = .ok (.nx [some (.scr ns), some (.ref 0), some (.lst (plainC.map fun c => .err c [])), some d, some (.lst (filled d)), none, none, none]) st2 := by
    have c5' : compL (.tp [5, 7]) (fun l st => evC (P0 rp) (evF (P0 rp) (n+3)) th none .no l st) (fun l st => evE (P0 rp) (evF (P0 rp) (n+3)) th none (.cmp .eq (.bi .repr (.cons (.v 7) .nil)) (.bi .repr (.cons (.v 3) .nil))) l st) [some (.scr ns), some (.ref 0), some (.lst (plainC.map fun c => .err c [])), some d, some (.lst (filled d)), none, none, none] (filled d) st2 = .ok (FC.map fun _ => D.bl true) st2 := c5
    have lc : evE (P0 rp) (evF (P0 rp) (n+3)) th none (.lc (.cmp .eq (.bi .repr (.cons (.v 7) .nil)) (.bi .repr (.cons (.v 3) .nil))) (.tp [5, 7]) (.seq (.v 4)) .no) [some (.scr ns), some (.ref 0), some (.lst (plainC.map fun c => .err c [])), some d, some (.lst (filled d)), none, none, none] st2 = .ok (.lst (FC.map fun _ => D.bl true)) st2 := by
      rw [evE_lc, evI_seq]
      have v4 : evE (P0 rp) (evF (P0 rp) (n+3)) th none (.v 4) [some (.scr ns), some (.ref 0), some (.lst (plainC.map fun c => .err c [])), some d, some (.lst (filled d)), none, none, none] st2 = .ok (.lst (filled d)) st2 := by simp
      rw [v4, bind_ok, s5, ofOpt_some, bind_ok, c5', calm_ok, bind_ok, z5]
    simp only [t7_5, evS_iff, evT_not, evT_bi, evE_bi, evEs_cons, evEs_nil, lc, bind_ok, a5, ofOpt_some, truth_bl, Bool.not_true, ifB_false, evSs_nil]
  have c6 := compL_mapf (t := .tp [5, 7]) (tst := fun l st => evC (P0 rp) (evF (P0 rp) (n+3)) th none .no l st) (elt := fun l st => evE (P0 rp) (evF (P0 rp) (n+3)) th none (.v 5) l st) (l := [some (.scr ns), some (.ref 0), some (.lst (plainC.map fun c => .err c [])), some d, some (.lst (filled d)), none, none, none]) (st := st2)
    (fun p : Nat × List Nat => D.itp [.err p.1 [(p.2, d)], d]) (fun p => .err p.1 [(p.2, d)]) FC (fun p _ => ⟨_, rfl, evC_no .., by simp⟩)
  have z6 : sized (FC.map fun p => D.err p.1 [(p.2, d)]) (.lst (FC.map fun p => D.err p.1 [(p.2, d)])) st2 = .ok (.lst (FC.map fun p => D.err p.1 [(p.2, d)])) st2 := sized_lit (by simp [FC])
  have a6 : binD st2 .add (.lst (plainC.map fun c => .err c [])) (.lst (FC.map fun p => D.err p.1 [(p.2, d)])) = some (.lst ((plainC.map fun c => .err c []) ++ FC.map fun p => D.err p.1 [(p.2, d)])) := add_ll st2 (by rw [List.length_map, List.length_map]; decide)
  have w6 : evI (P0 rp) (evF (P0 rp) (n+3)) th none (.seq (.bin .add (.v 2) (.lc (.v 5) (.tp [5, 7]) (.seq (.v 4)) .no))) [some (.scr ns), some (.ref 0), some (.lst (plainC.map fun c => .err c [])), some d, some (.lst (filled d)), none, none, none] st2 = .ok ((plainC.map fun c => .err c []) ++ FC.map fun p => D.err p.1 [(p.2, d)]) st2 := by
    have c6' : compL (.tp [5, 7]) (fun l st => evC (P0 rp) (evF (P0 rp) (n+3)) th none .no l st) (fun l st => evE (P0 rp) (evF (P0 rp) (n+3)) th none (.v 5) l st) [some (.scr ns), some (.ref 0), some (.lst (plainC.map fun c => .err c [])), some d, some (.lst (filled d)), none, none, none] (filled d) st2 = .ok (FC.map fun p => D.err p.1 [(p.2, d)]) st2 := c6
    have lc : evE (P0 rp) (evF (P0 rp) (n+3)) th none (.lc (.v 5) (.tp [5, 7]) (.seq (.v 4)) .no) [some (.scr ns), some (.ref 0), some (.lst (plainC.map fun c => .err c [])), some d, some (.lst (filled d)), none, none, none] st2 = .ok (.lst (FC.map fun p => D.err p.1 [(p.2, d)])) st2 := by
      rw [evE_lc, evI_seq]
      have v4 : evE (P0 rp) (evF (P0 rp) (n+3)) th none (.v 4) [some (.scr ns), some (.ref 0), some (.lst (plainC.map fun c => .err c [])), some d, some (.lst (filled d)), none, none, none] st2 = .ok (.lst (filled d)) st2 := by simp
      rw [v4, bind_ok, s5, ofOpt_some, bind_ok, c6', calm_ok, bind_ok, z6]
    have v2 : evE (P0 rp) (evF (P0 rp) (n+3)) th none (.v 2) [some (.scr ns), some (.ref 0), some (.lst (plainC.map fun c => .err c [])), some d, some (.lst (filled d)), none, none, none] st2 = .ok (.lst (plainC.map fun c => .err c [])) st2 := by simp
    rw [evI_seq, evE_bin, v2, bind_ok, lc, bind_ok, a6, ofOpt_some, bind_ok]
    rfl
  obtain ⟨l2, e7, o5, o6, rfl⟩ := forL_same (t := .nm 5) (body := fun l st => evSs (P0 rp) (evF (P0 rp) (n+3)) th b7_1 none l st) (p := Er) (I := fun l => ∃ o5 o6, l = [some (.scr ns), some (.ref 0), some (.lst (plainC.map fun c => .err c [])), some d, some (.lst (filled d)), o5, o6, none]) st2 ((plainC.map fun c => .err c []) ++ FC.map fun p => D.err p.1 [(p.2, d)]) [some (.scr ns), some (.ref 0), some (.lst (plainC.map fun c => .err c [])), some d, some (.lst (filled d)), none, none, none] ⟨_, _, rfl⟩ (by
    intro x hx
    rcases List.mem_append.mp hx with h | h
    · obtain ⟨c, hc, rfl⟩ := List.mem_map.mp h
      exact ⟨c, _, rfl, List.mem_append_left _ hc⟩
    · obtain ⟨p, hp, rfl⟩ := List.mem_map.mp h
      exact ⟨p.1, _, rfl, List.mem_append_right _ (List.mem_map.mpr ⟨p, hp, rfl⟩)⟩) (by
    rintro x l hx ⟨o5, o6, rfl⟩
    obtain ⟨k, hk⟩ := turn7 (rp := rp) (n+2) hx th st2 (some (.scr ns)) (some (.ref 0)) (some (.lst (plainC.map fun c => .err c []))) (some d) (some (.lst (filled d))) o6 none
    exact ⟨_, rfl, _, hk, _, _, rfl⟩)
  have q6 : evS (P0 rp) (evF (P0 rp) (n+3)) th t7_6 none [some (.scr ns), some (.ref 0), some (.lst (plainC.map fun c => .err c [])), some d, some (.lst (filled d)), none, none, none] st2 = .ok (.nx [some (.scr ns), some (.ref 0), some (.lst (plainC.map fun c => .err c [])), some d, some (.lst (filled d)), o5, o6, none]) st2 := by
    rw [t7_6, evS_for, w6, bind_ok, e7]
  have n7 : cmpD st2 .isin (.bl true) (.lst (asks.map fun _ => .bl false)) = some false := rfl
  have liv : liveI 44 [.own 0] st2 .ver = some .ver := rfl
  have isv : isD st2 (P0 rp).anc .ver (.own 0) = false := rfl
  have an7 : biD (P0 rp) st2 .any [.lst [.bl false, .bl false]] = some (.bl false) := rfl
  have vr : verD [.str [111, 110, 101]] = some .ver := rfl
  refine ⟨st2, run_def (fn := f7) rfl rfl ?_⟩
  show evSs (P0 rp) (evF (P0 rp) (n+3)) th b7 none [some (.scr ns), none, none, none, none, none, none, none] [] = _
  rw [e7x]
  refine ss_nx q0 (ss_nx q1 (ss_nx q2 (ss_nx q3 (ss_nx q4 (ss_nx q5 (ss_nx q6 (ss_rt ?_)))))))
  generalize asks.map (fun _ => D.bl false) = L at e3 n7
  simp [t7_7, vr, e3, n7, liv, isv, sized_lit, an7]
end Pk00

set_option Elab.async false
set_option linter.all false
set_option maxRecDepth 1000000
set_option maxHeartbeats 0
namespace Pk00
open PySem PySem.Spec PyProof.Rows L2 LamX Pm
abbrev P : Par := P0 Pm.rpS
def top (i : Nat) : Stmt := PySem.Challenge.pw_everyview_k00_errors_and_their_fields.main.body.getD i (.Pass ⟨0, 0, 0, 0⟩)
def G : Gd := { fn := [(("_law_hand" : Str), (1 : Nat)), (("_law_draw" : Str), (2 : Nat)), (("_law_some" : Str), (2 : Nat)), (("_law_kinds" : Str), (1 : Nat)), (("_law_plain" : Str), (1 : Nat)), (("_law_filled" : Str), (1 : Nat)), (("_law_thing" : Str), (1 : Nat)), (("law" : Str), (1 : Nat))], cn := [], cl := [("ViewError" : PySem.Str), ("NoSchema" : PySem.Str), ("NoName" : PySem.Str), ("NoMark" : PySem.Str), ("NoEdit" : PySem.Str), ("NoLife" : PySem.Str), ("NoDeed" : PySem.Str), ("OtherSchema" : PySem.Str), ("NoRows" : PySem.Str), ("NoBook" : PySem.Str), ("NoTables" : PySem.Str), ("NoRow" : PySem.Str), ("NoRule" : PySem.Str), ("NoLot" : PySem.Str), ("Unsafe" : PySem.Str), ("NoPlan" : PySem.Str), ("NoPattern" : PySem.Str), ("NoClosed" : PySem.Str), ("NoNumber" : PySem.Str), ("NoFacts" : PySem.Str), ("NoView" : PySem.Str), ("NoPrime" : PySem.Str), ("NoFact" : PySem.Str), ("Here" : PySem.Str), ("NotHere" : PySem.Str), ("NoStretch" : PySem.Str), ("NoShowing" : PySem.Str), ("NoRoot" : PySem.Str), ("OtherPrime" : PySem.Str), ("NoArea" : PySem.Str), ("NoText" : PySem.Str), ("NoStore" : PySem.Str), ("TooSmall" : PySem.Str), ("Down" : PySem.Str), ("NoLetter" : PySem.Str), ("BadDeed" : PySem.Str), ("NotYet" : PySem.Str), ("Barred" : PySem.Str), ("BadText" : PySem.Str), ("TooMany" : PySem.Str), ("BadDisk" : PySem.Str), ("Full" : PySem.Str), ("BadKept" : PySem.Str), ("BadStore" : PySem.Str)], lm := [], rs := [], ms := [1, 2, 3, 4, 5, 6, 7, 8, 9, 10, 11, 12, 13, 14, 15, 16, 17, 18, 19, 20, 21, 22, 23, 24, 25, 26, 27, 28, 29, 30, 31, 32, 33, 34, 35, 36, 37, 38, 39, 40, 41, 42, 43], fl := [36, 37, 38, 39, 40, 41, 42, 43], file := "/claim/cut.py" }
def d0 : Fd := { x := "_law_hand", ps := [("script" : PySem.Str)], N := [("script" : PySem.Str), ("cells" : PySem.Str), ("cell" : PySem.Str)], params := L2.defArgs (top 46), body := L2.defBody (top 46), scope := L2.defScope (top 46), lm := false }
def d1 : Fd := { x := "_law_draw", ps := [("hand" : PySem.Str), ("many" : PySem.Str)], N := [("hand" : PySem.Str), ("many" : PySem.Str), ("number" : PySem.Str), ("cell" : PySem.Str), ("digit" : PySem.Str)], params := L2.defArgs (top 47), body := L2.defBody (top 47), scope := L2.defScope (top 47), lm := false }
def d2 : Fd := { x := "_law_some", ps := [("hand" : PySem.Str), ("things" : PySem.Str)], N := [("hand" : PySem.Str), ("things" : PySem.Str)], params := L2.defArgs (top 48), body := L2.defBody (top 48), scope := L2.defScope (top 48), lm := false }
def d3 : Fd := { x := "_law_kinds", ps := [("one" : PySem.Str)], N := [("one" : PySem.Str), ("found" : PySem.Str)], params := L2.defArgs (top 49), body := L2.defBody (top 49), scope := L2.defScope (top 49), lm := false }
def d4 : Fd := { x := "_law_plain", ps := [("hand" : PySem.Str)], N := [("hand" : PySem.Str), ("made" : PySem.Str)], params := L2.defArgs (top 50), body := L2.defBody (top 50), scope := L2.defScope (top 50), lm := false }
def d5 : Fd := { x := "_law_filled", ps := [("thing" : PySem.Str)], N := [("thing" : PySem.Str), ("found" : PySem.Str), ("kept" : PySem.Str), ("many" : PySem.Str)], params := L2.defArgs (top 51), body := L2.defBody (top 51), scope := L2.defScope (top 51), lm := false }
def d6 : Fd := { x := "_law_thing", ps := [("hand" : PySem.Str)], N := [("hand" : PySem.Str), ("some" : PySem.Str)], params := L2.defArgs (top 52), body := L2.defBody (top 52), scope := L2.defScope (top 52), lm := false }
def d7 : Fd := { x := "law", ps := [("script" : PySem.Str)], N := [("script" : PySem.Str), ("hand" : PySem.Str), ("plain" : PySem.Str), ("thing" : PySem.Str), ("filled" : PySem.Str), ("error" : PySem.Str), ("kinds" : PySem.Str), ("kept" : PySem.Str)], params := L2.defArgs (top 53), body := L2.defBody (top 53), scope := L2.defScope (top 53), lm := false }
/-- _law_hand -/
theorem ck0 : chkFd P G 0 d0 = true := by decide +kernel
theorem tx0 : TxOk d0 := ⟨⟨rfl, rfl, rfl, by decide +kernel, rfl, by decide +kernel, by decide +kernel⟩, by decide, fun _ _ _ _ _ _ us hl => match us, hl with | [_], _ => rfl⟩
/-- _law_draw -/
theorem ck1 : chkFd P G 1 d1 = true := by decide +kernel
theorem tx1 : TxOk d1 := ⟨⟨rfl, rfl, rfl, by decide +kernel, rfl, by decide +kernel, by decide +kernel⟩, by decide, fun _ _ _ _ _ _ us hl => match us, hl with | [_, _], _ => rfl⟩
/-- _law_some -/
theorem ck2 : chkFd P G 2 d2 = true := by decide +kernel
theorem tx2 : TxOk d2 := ⟨⟨rfl, rfl, rfl, by decide +kernel, rfl, by decide +kernel, by decide +kernel⟩, by decide, fun _ _ _ _ _ _ us hl => match us, hl with | [_, _], _ => rfl⟩
/-- _law_kinds -/
theorem ck3 : chkFd P G 3 d3 = true := by decide +kernel
theorem tx3 : TxOk d3 := ⟨⟨rfl, rfl, rfl, by decide +kernel, rfl, by decide +kernel, by decide +kernel⟩, by decide, fun _ _ _ _ _ _ us hl => match us, hl with | [_], _ => rfl⟩
/-- _law_plain -/
theorem ck4 : chkFd P G 4 d4 = true := by decide +kernel
theorem tx4 : TxOk d4 := ⟨⟨rfl, rfl, rfl, by decide +kernel, rfl, by decide +kernel, by decide +kernel⟩, by decide, fun _ _ _ _ _ _ us hl => match us, hl with | [_], _ => rfl⟩
/-- _law_filled -/
theorem ck5 : chkFd P G 5 d5 = true := by decide +kernel
theorem tx5 : TxOk d5 := ⟨⟨rfl, rfl, rfl, by decide +kernel, rfl, by decide +kernel, by decide +kernel⟩, by decide, fun _ _ _ _ _ _ us hl => match us, hl with | [_], _ => rfl⟩
/-- _law_thing -/
theorem ck6 : chkFd P G 6 d6 = true := by decide +kernel
theorem tx6 : TxOk d6 := ⟨⟨rfl, rfl, rfl, by decide +kernel, rfl, by decide +kernel, by decide +kernel⟩, by decide, fun _ _ _ _ _ _ us hl => match us, hl with | [_], _ => rfl⟩
/-- law -/
theorem ck7 : chkFd P G 7 d7 = true := by decide +kernel
theorem tx7 : TxOk d7 := ⟨⟨rfl, rfl, rfl, by decide +kernel, rfl, by decide +kernel, by decide +kernel⟩, by decide, fun _ _ _ _ _ _ us hl => match us, hl with | [_], _ => rfl⟩
def ds : List Fd := [d0, d1, d2, d3, d4, d5, d6, d7]
def dl : List Fd := []
theorem txs : ∀ d, d ∈ ds → TxOk d := fun d hd => by
  rcases List.mem_cons.mp hd with rfl | hd
  · exact tx0
  rcases List.mem_cons.mp hd with rfl | hd
  · exact tx1
  rcases List.mem_cons.mp hd with rfl | hd
  · exact tx2
  rcases List.mem_cons.mp hd with rfl | hd
  · exact tx3
  rcases List.mem_cons.mp hd with rfl | hd
  · exact tx4
  rcases List.mem_cons.mp hd with rfl | hd
  · exact tx5
  rcases List.mem_cons.mp hd with rfl | hd
  · exact tx6
  rcases List.mem_cons.mp hd with rfl | hd
  · exact tx7
  cases hd
theorem cks : ∀ (i : Nat) (d : Fd), ds[i]? = some d → chkFd P G i d = false → chkFx P G i d = true := fun i d hi hc => by
  match i, hi with
  | 0, hi => cases hi; rw [ck0] at hc; cases hc
  | 1, hi => cases hi; rw [ck1] at hc; cases hc
  | 2, hi => cases hi; rw [ck2] at hc; cases hc
  | 3, hi => cases hi; rw [ck3] at hc; cases hc
  | 4, hi => cases hi; rw [ck4] at hc; cases hc
  | 5, hi => cases hi; rw [ck5] at hc; cases hc
  | 6, hi => cases hi; rw [ck6] at hc; cases hc
  | 7, hi => cases hi; rw [ck7] at hc; cases hc
  | n + 8, hi => cases hi
theorem fns : ∀ (i : Nat) (x : Str) (n : Nat), G.fn[i]? = some (x, n) → ∃ d : Fd, ds[i]? = some d ∧ d.x = x ∧ d.ps.length = n :=
  fn_ofB (by decide +kernel)
theorem lawTx : LawTx P G ds dl 7 d7 where
  ncl := rfl
  tx := txs
  fn := fns
  lt := fun i x hi => by
    cases hi
  law := rfl
  lx := rfl
  lp := rfl
  lck := ck7
  rp := rpS_ok rfl
theorem hpf : P.fld ≠ [] → PySem.Challenge.pw_everyview_k00_errors_and_their_fields.main.file = G.file ∧ (PySem.Challenge.pw_everyview_k00_errors_and_their_fields.main.scope.names.lookup ("super" : Str)).isSome = false := fun h => ⟨by rfl, by decide +kernel⟩
end Pk00

set_option Elab.async false
set_option linter.all false
set_option maxRecDepth 1000000
set_option maxHeartbeats 0
namespace Pk00
open PySem PySem.Spec PyProof.Rows L2 LamX Pm
def ls0 : List PySem.Str := [("ViewError" : PySem.Str), ("NoSchema" : PySem.Str), ("NoName" : PySem.Str), ("NoMark" : PySem.Str), ("NoEdit" : PySem.Str), ("NoLife" : PySem.Str), ("NoDeed" : PySem.Str), ("OtherSchema" : PySem.Str), ("NoRows" : PySem.Str), ("NoBook" : PySem.Str), ("NoTables" : PySem.Str), ("NoRow" : PySem.Str), ("NoRule" : PySem.Str), ("NoLot" : PySem.Str), ("Unsafe" : PySem.Str), ("NoPlan" : PySem.Str), ("NoPattern" : PySem.Str), ("NoClosed" : PySem.Str), ("NoNumber" : PySem.Str), ("NoFacts" : PySem.Str), ("NoView" : PySem.Str), ("NoPrime" : PySem.Str), ("NoFact" : PySem.Str), ("Here" : PySem.Str), ("NotHere" : PySem.Str), ("NoStretch" : PySem.Str), ("NoShowing" : PySem.Str), ("NoRoot" : PySem.Str), ("OtherPrime" : PySem.Str), ("NoArea" : PySem.Str)]
def ls1 : List PySem.Str := [("NoText" : PySem.Str), ("NoStore" : PySem.Str), ("TooSmall" : PySem.Str), ("Down" : PySem.Str), ("NoLetter" : PySem.Str), ("BadDeed" : PySem.Str), ("NotYet" : PySem.Str), ("Barred" : PySem.Str), ("BadText" : PySem.Str), ("TooMany" : PySem.Str), ("BadDisk" : PySem.Str), ("Full" : PySem.Str), ("BadKept" : PySem.Str), ("BadStore" : PySem.Str), ("_law_hand" : PySem.Str), ("_law_draw" : PySem.Str), ("_law_some" : PySem.Str), ("_law_kinds" : PySem.Str), ("_law_plain" : PySem.Str), ("_law_filled" : PySem.Str), ("_law_thing" : PySem.Str)]
abbrev loose : List PySem.Str := ls0 ++ ls1
abbrev R : PySem.W.OpenRow := PySem.W.OpenLaw.row PySem.Challenge.rw_everyview_k00_errors_and_their_fields
def xs : List Str := (ds ++ dl).map (·.x)
abbrev hk : PySem.W.Hook := hookZ 5 (faOf G xs) ((ds ++ dl).map dfOf) [] (tfOf ds) (exB P G (tfOf ds))
def ob (s : PySem.W.SharedT) : He.AlX := obsZ 5 (faOf G xs) ((ds ++ dl).map dfOf) [] (tfOf ds) (exB P G (tfOf ds)) (HandSHeadRun.getT s)
theorem ob_eq (s : PySem.W.SharedT) : ob s = hk.obs s.abs := obsZ_eq (HandSHeadRun.getT_eq s)
theorem run (w : World) : HandSHeadRun.RunEq R (PySem.W.view R.prog [53]) hk ob 20000 loose w := by
  intro os
  kernel_rfl
end Pk00

set_option Elab.async false
set_option linter.all false
set_option maxRecDepth 1000000
set_option maxHeartbeats 0
open PySem PySem.W PySem.Calls PyProof.Rows
theorem end_Pk00 (lv : Nat) (hr : L2.Room (3 * (lv + 1)) PySem.callerA) (hm : ∀ ns : List Int, ns.length ≤ 63 → (∀ z ∈ ns, Builtin.Int.intBits z ≤ 1048576) → ∃ st, Pm.evF Pk00.P (lv + 1) 7 [.scr ns] (fun _ => .bad) [] = .ok (.bl true) st)
    : PySem.Challenge.rw_everyview_k00_errors_and_their_fields.Holds := by
  w_on; o_law
  refine HandSHeadRun.head_any (r := OpenLaw.row PySem.Challenge.rw_everyview_k00_errors_and_their_fields) (q := view (OpenLaw.row PySem.Challenge.rw_everyview_k00_errors_and_their_fields).prog [53]) (H := Pk00.hk) (ob := Pk00.ob) (M := 20000) (loose := Pk00.loose) (d := HandSHeadRun.topDef (OpenLaw.row PySem.Challenge.rw_everyview_k00_errors_and_their_fields).prog 53) (kwd := []) Pk00.ob_eq
    (by kernel_rfl) (fun s => by kernel_rfl) Pk00.run (by kernel_rfl) (by kernel_rfl) (by kernel_rfl) (by rfl) (by first | assumption | decide +kernel) (by decide +kernel) ⟨rfl, rfl, rfl, rfl, rfl, by decide +kernel⟩ ?hw ?hc
  case hw => w_witness2
  case hc =>
    refine Pm.walk_G (l := PySem.Challenge.rw_everyview_k00_errors_and_their_fields) (n := 63) (k := 3 * (lv + 1)) (x := "script") (CX := fun _ => L2.CX0) rfl (by decide) (by kernel_rfl) (by decide +kernel) hr ?F (fun _ _ _ _ _ z => z)
    intro w mg fa h Y G hmg0
    obtain ⟨K, KX, c⟩ := Y
    have hmg : mg ("law" : PySem.Str) = some (.ref fa) := by
      have e : (HandSHeadRun.topDef (OpenLaw.row PySem.Challenge.rw_everyview_k00_errors_and_their_fields).prog 53).name = ("law" : PySem.Str) := by kernel_rfl
      rw [← e]
      exact hmg0
    exact ⟨K, KX, Pm.law_atX Pk00.lawTx Pk00.cks KX G hmg c Pk00.hpf hm⟩

open PySem PySem.W PyProof.Rows
set_option Elab.async false
set_option maxRecDepth 100000 in
set_option maxHeartbeats 8000000 in
theorem PySem.Challenge.cw_everyview_k00_errors_and_their_fields_holds : PySem.Challenge.rw_everyview_k00_errors_and_their_fields.Holds := by
  exact end_Pk00 3 ⟨rfl, by decide, by decide⟩ fun ns hn _ => Pk00.F7x 0 ns hn _
